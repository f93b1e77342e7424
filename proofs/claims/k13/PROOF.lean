import PyProof.Rows.All
import Wide.All
import OpenK.AllK
import Wide.FinOn
import HandS.ForMost
import HandS.ForExc
import HandS.Wide
import HandS.IsInst
import HandS.Defaults
import HandS.Walk
import HandS.Small
import HandS.SortInts
import HandS.SortRule
import KE.GoesMore
import HandS.Conv
import KE.DataMinMax
import HandS.SortKw
import HandS.TupSets
import HandS.SetFor
import HandS.Strs
import HandS.ExcInit
import HandS.TryMany
import HandS.ExcValue
import HandS.CallSlots
import KE.KExcIs
import PySem.Challenge.RW_hourlanes_k13_whole_a_way_or_a_stretch
set_option Elab.async false
set_option linter.all false
set_option maxRecDepth 100000
set_option maxHeartbeats 4000000
namespace Hl
open PySem L2
/-! ### data: what a value is worth, by its content -/
inductive D where
  | non | bl (b : Bool) | int (i : Int) | str (x : Str) | lst (ds : List D) | tup (ds : List D) | obj (C : Addr) (ns : List Str) (ds : List D) | raw (v : V) | scr (K : PySem.W.Frag) (ns : List Int) | exn (C : Addr) (ns : List Str) (ds : List D)
/-- an exception's object, held -/
def XO (cls : Value) (d : Option Addr) (a : Addr) : HO := .ext fun h => ∃ (oe : Obj) (vs : Array Value), h.get? a = some oe ∧ Zc cls d oe ∧ oe.data = .fields vs
mutual
inductive Rep (F : List Addr) (H : Hp) : V → D → Prop
  | non : Rep F H .non .non
  | bl (b : Bool) : Rep F H (.bl b) (.bl b)
  | int (i : Int) : Rep F H (.int i) (.int i)
  | str (x : Str) : Rep F H (.str x) (.str x)
  | lst {a : Addr} {vs : List V} {ds : List D} : a ∉ F → H a = some (.lst vs) → Reps F H vs ds → Rep F H (.ref a) (.lst ds)
  | tup {a : Addr} {vs : List V} {ds : List D} : a ∉ F → H a = some (.tup vs) → Reps F H vs ds → Rep F H (.ref a) (.tup ds)
  | obj {a C dx : Addr} {ns : List Str} {vs : List V} {ds : List D} : a ∉ F → H a = some (.ins C dx (ns.zip vs)) → ns.length = vs.length → Reps F H vs ds → Rep F H (.ref a) (.obj C ns ds)
  | raw (v : V) : Rep F H v (.raw v)
  | scrH {a : Addr} {K : PySem.W.Frag} {ns : List Int} : a ∉ F → Rd H a (.lst (ns.map V.int)) → Rep F H (.ref a) (.scr K ns)
  | scrK {a : Addr} {K : PySem.W.Frag} {ns : List Int} : (∀ H', SqL K H' a (ns.map V.int)) → Rep F H (.ref a) (.scr K ns)
  | exn0 {a C : Addr} : a ∉ F → H a = some (XO (.ref C) none a) → Rep F H (.ref a) (.exn C [] [])
  | exn {a C d : Addr} {ns : List Str} {vs : List V} {ds : List D} : a ∉ F → H a = some (XO (.ref C) (some d) a) → d ∉ F → H d = some (.xd (ns.zip vs)) → ns.length = vs.length → Reps F H vs ds → Rep F H (.ref a) (.exn C ns ds)
inductive Reps (F : List Addr) (H : Hp) : List V → List D → Prop
  | nil : Reps F H [] []
  | cons {v : V} {d : D} {vs : List V} {ds : List D} : Rep F H v d → Reps F H vs ds → Reps F H (v :: vs) (d :: ds)
end
/-- from F, H to F', H': what is read beside F stays -/
def Fwd (F : List Addr) (H : Hp) (F' : List Addr) (H' : Hp) : Prop := ∀ a o, a ∉ F → H a = some o → a ∉ F' ∧ H' a = some o
theorem Fwd.refl {F : List Addr} {H : Hp} : Fwd F H F H := fun _ _ h e => ⟨h, e⟩
theorem Fwd.trans {F F1 F2 : List Addr} {H H1 H2 : Hp} (x : Fwd F H F1 H1) (y : Fwd F1 H1 F2 H2) : Fwd F H F2 H2 := fun a o h e => let ⟨h1, e1⟩ := x a o h e; y a o h1 e1
theorem Fwd.new {F : List Addr} {H : Hp} {p : Addr} {o : HO} (h : H p = none) : Fwd F H F (upd H p o) := fun a u ha e => ⟨ha, by rw [upd_ne (ne_of_none e h)]; exact e⟩
theorem Fwd.newF {F : List Addr} {H : Hp} {p : Addr} {o : HO} (h : H p = none) : Fwd F H (F ++ [p]) (upd H p o) := fun a u ha e => ⟨by
  simp only [List.mem_append, List.mem_singleton, not_or]
  exact ⟨ha, ne_of_none e h⟩, by rw [upd_ne (ne_of_none e h)]; exact e⟩
theorem Fwd.less {F F' : List Addr} {H : Hp} (h : ∀ a ∈ F', a ∈ F) : Fwd F H F' H := fun a o ha e => ⟨fun z => ha (h a z), e⟩
theorem Fwd.same {F : List Addr} {H H' : Hp} (h : ∀ a, a ∉ F → H' a = H a) : Fwd F H F H' := fun a o ha e => ⟨ha, by rw [h a ha]; exact e⟩
mutual
theorem Rep.fwd {F F' : List Addr} {H H' : Hp} (k : Fwd F H F' H') : ∀ {v : V} {d : D}, Rep F H v d → Rep F' H' v d
  | _, _, .non => .non
  | _, _, .bl b => .bl b
  | _, _, .int i => .int i
  | _, _, .str x => .str x
  | _, _, .lst h e r => .lst (k _ _ h e).1 (k _ _ h e).2 (Reps.fwd k r)
  | _, _, .tup h e r => .tup (k _ _ h e).1 (k _ _ h e).2 (Reps.fwd k r)
  | _, _, .obj h e l r => .obj (k _ _ h e).1 (k _ _ h e).2 l (Reps.fwd k r)
  | _, _, .raw v => .raw v
  | _, _, .scrH h (.inl e) => .scrH (k _ _ h e).1 (.inl (k _ _ h e).2)
  | _, _, .scrH h (.inr ⟨o, e⟩) => .scrH (k _ _ h e).1 (.inr ⟨o, (k _ _ h e).2⟩)
  | _, _, .scrK h => .scrK h
  | _, _, .exn0 h e => .exn0 (k _ _ h e).1 (k _ _ h e).2
  | _, _, .exn h e h2 e2 l r => .exn (k _ _ h e).1 (k _ _ h e).2 (k _ _ h2 e2).1 (k _ _ h2 e2).2 l (Reps.fwd k r)
theorem Reps.fwd {F F' : List Addr} {H H' : Hp} (k : Fwd F H F' H') : ∀ {vs : List V} {ds : List D}, Reps F H vs ds → Reps F' H' vs ds
  | _, _, .nil => .nil
  | _, _, .cons a b => .cons (Rep.fwd k a) (Reps.fwd k b)
end
theorem Reps.length {F : List Addr} {H : Hp} : ∀ {vs : List V} {ds : List D}, Reps F H vs ds → vs.length = ds.length
  | _, _, .nil => rfl
  | _, _, .cons _ b => by simp [Reps.length b]
theorem Reps.get {F : List Addr} {H : Hp} : ∀ {vs : List V} {ds : List D} {i : Nat} {v : V}, Reps F H vs ds → vs[i]? = some v → ∃ d, ds[i]? = some d ∧ Rep F H v d
  | _, _, _, _, .nil, e => by simp at e
  | _, _, 0, _, .cons r _, e => by simp at e; subst e; exact ⟨_, rfl, r⟩
  | _, _, i + 1, v, .cons _ t, e => by
    obtain ⟨u, h1, h2⟩ := Reps.get (i := i) (v := v) t (by simpa using e)
    exact ⟨u, by simpa using h1, h2⟩
theorem Reps.get' {F : List Addr} {H : Hp} : ∀ {vs : List V} {ds : List D} {i : Nat} {d : D}, Reps F H vs ds → ds[i]? = some d → ∃ v, vs[i]? = some v ∧ Rep F H v d
  | _, _, _, _, .nil, e => by simp at e
  | _, _, 0, _, .cons r _, e => by simp at e; subst e; exact ⟨_, rfl, r⟩
  | _, _, i + 1, v, .cons _ t, e => by
    obtain ⟨u, h1, h2⟩ := Reps.get' (i := i) (d := v) t (by simpa using e)
    exact ⟨u, by simpa using h1, h2⟩
theorem Reps.append {F : List Addr} {H : Hp} : ∀ {vs ws : List V} {ds es : List D}, Reps F H vs ds → Reps F H ws es → Reps F H (vs ++ ws) (ds ++ es)
  | _, _, _, _, .nil, s => s
  | _, _, _, _, .cons r t, s => .cons r (Reps.append t s)
theorem Reps.set {F : List Addr} {H : Hp} {v : V} {d : D} (r : Rep F H v d) : ∀ {vs : List V} {ds : List D} (i : Nat), Reps F H vs ds → Reps F H (vs.set i v) (ds.set i d)
  | _, _, _, .nil => .nil
  | _, _, 0, .cons _ t => .cons r t
  | _, _, i + 1, .cons q t => .cons q (Reps.set r i t)
theorem Reps.take {F : List Addr} {H : Hp} : ∀ {vs : List V} {ds : List D} (n : Nat), Reps F H vs ds → Reps F H (vs.take n) (ds.take n)
  | _, _, 0, _ => .nil
  | _, _, _ + 1, .nil => .nil
  | _, _, n + 1, .cons r t => .cons r (Reps.take n t)
theorem Reps.drop {F : List Addr} {H : Hp} : ∀ {vs : List V} {ds : List D} (n : Nat), Reps F H vs ds → Reps F H (vs.drop n) (ds.drop n)
  | _, _, 0, r => r
  | _, _, _ + 1, .nil => .nil
  | _, _, n + 1, .cons _ t => Reps.drop n t
theorem Reps.erase {F : List Addr} {H : Hp} : ∀ {vs : List V} {ds : List D} (n : Nat), Reps F H vs ds → Reps F H (vs.eraseIdx n) (ds.eraseIdx n)
  | _, _, _, .nil => .nil
  | _, _, 0, .cons _ t => t
  | _, _, n + 1, .cons r t => .cons r (Reps.erase n t)
theorem Reps.ints {F : List Addr} {H : Hp} : ∀ {vs : List V} {ns : List Int}, Reps F H vs (ns.map D.int) → vs = ns.map V.int
  | _, [], .nil => rfl
  | _, n :: ns, .cons r t => by cases r; rw [Reps.ints t]; rfl
theorem Reps.ofInts {F : List Addr} {H : Hp} : ∀ (ns : List Int), Reps F H (ns.map V.int) (ns.map D.int)
  | [] => .nil
  | n :: ns => .cons (.int n) (Reps.ofInts ns)
theorem Reps.strs {F : List Addr} {H : Hp} : ∀ {vs : List V} {ns : List Str}, Reps F H vs (ns.map D.str) → vs = ns.map V.str
  | _, [], .nil => rfl
  | _, n :: ns, .cons r t => by cases r; rw [Reps.strs t]; rfl
theorem Reps.bls {F : List Addr} {H : Hp} : ∀ {vs : List V} {ns : List Bool}, Reps F H vs (ns.map D.bl) → vs = ns.map V.bl
  | _, [], .nil => rfl
  | _, n :: ns, .cons r t => by cases r; rw [Reps.bls t]; rfl
/-! ### what may change: cells -/
inductive Cell where
  | lst (ds : List D) | obj (C : Addr) (ns : List Str) (ds : List D) | dct (kvs : List (Key × D)) | st (g : Addr) (b : Nat)
def own (a : Addr) : Cell → List Addr
  | .st g _ => [a, g]
  | _ => [a]
abbrev Mem := List (Addr × Cell)
def Mem.F (M : Mem) : List Addr := M.flatMap fun p => own p.1 p.2
/-- the draws' state -/
def StAt (F : List Addr) (H : Hp) (s g : Addr) (b : Nat) : Prop :=
  ∃ (c : Addr) (r t e : Int) (gs cs : List Int), c ∉ F ∧
    H s = some (.dK [(.inr "great", .ref g), (.inr "rest", .int r), (.inr "turn", .int t), (.inr "seed", .int e), (.inr "cells", .ref c)]) ∧
    H g = some (.lst (gs.map V.int)) ∧ H c = some (.lst (cs.map V.int)) ∧ (∀ x ∈ gs, 0 < x) ∧ 0 ≤ r ∧ 0 ≤ t ∧ t + (b : Int) ≤ 1000000000000 ∧ 0 ≤ e ∧ e < 2147483647 ∧ (∀ x ∈ cs, 0 ≤ x ∧ x < 2147483629) ∧ 0 < cs.length ∧ cs.length ≤ 100
def CellOk (F : List Addr) (H : Hp) (a : Addr) : Cell → Prop
  | .lst ds => ∃ vs, H a = some (.lst vs) ∧ Reps F H vs ds
  | .obj C ns ds => ∃ dx vs, H a = some (.ins C dx (ns.zip vs)) ∧ ns.length = vs.length ∧ Reps F H vs ds
  | .dct kvs => ∃ ws : List (Key × V), H a = some (.dK ws) ∧ ws.map (·.1) = kvs.map (·.1) ∧ Reps F H (ws.map (·.2)) (kvs.map (·.2))
  | .st g b => StAt F H a g b
theorem CellOk.some {F : List Addr} {H : Hp} {a : Addr} {c : Cell} (h : CellOk F H a c) : ∀ x ∈ own a c, ∃ o, H x = some o := by
  cases c with
  | lst ds => obtain ⟨vs, e, _⟩ := h; intro x hx; simp [own] at hx; subst hx; exact ⟨_, e⟩
  | obj C ns ds => obtain ⟨dx, vs, e, _⟩ := h; intro x hx; simp [own] at hx; subst hx; exact ⟨_, e⟩
  | dct kvs => obtain ⟨ws, e, _⟩ := h; intro x hx; simp [own] at hx; subst hx; exact ⟨_, e⟩
  | st g b =>
    obtain ⟨c, r, t, e, gs, cs, _, h1, h2, _⟩ := h
    intro x hx; simp [own] at hx
    rcases hx with rfl | rfl
    · exact ⟨_, h1⟩
    · exact ⟨_, h2⟩
theorem CellOk.fwd {F F' : List Addr} {H H' : Hp} {a : Addr} {c : Cell} (h : CellOk F H a c) (k : Fwd F H F' H') (e : ∀ x ∈ own a c, H' x = H x) : CellOk F' H' a c := by
  cases c with
  | lst ds => obtain ⟨vs, e1, r⟩ := h; exact ⟨vs, by rw [e a (by simp [own])]; exact e1, r.fwd k⟩
  | obj C ns ds => obtain ⟨dx, vs, e1, l, r⟩ := h; exact ⟨dx, vs, by rw [e a (by simp [own])]; exact e1, l, r.fwd k⟩
  | dct kvs => obtain ⟨ws, e1, l, r⟩ := h; exact ⟨ws, by rw [e a (by simp [own])]; exact e1, l, r.fwd k⟩
  | st g b =>
    obtain ⟨c, r, t, z, gs, cs, h0, h1, h2, h3, h4⟩ := h
    exact ⟨c, r, t, z, gs, cs, (k _ _ h0 h3).1, by rw [e a (by simp [own])]; exact h1, by rw [e g (by simp [own])]; exact h2, (k _ _ h0 h3).2, h4⟩
def SlotOk (F : List Addr) (H : Hp) (ov : Option V) (od : Option D) : Prop := ∀ d, od = some d → ∃ v, ov = some v ∧ Rep F H v d
structure Rs (κ : List (V × D)) (δ : List (Option D)) (M : Mem) (σ : St) (H : Hp) : Prop where
  kp : ∀ p ∈ κ, Rep M.F H p.1 p.2
  sl : Paired (SlotOk M.F H) σ δ
  cl : ∀ p ∈ M, CellOk M.F H p.1 p.2
  nd : M.F.Nodup
section
variable {κ κ' : List (V × D)} {δ : List (Option D)} {M M' : Mem} {σ : St} {H H' : Hp} {p : Addr} {o : HO} {v : V} {d : D}
theorem SlotOk.fwd {F F' : List Addr} {ov : Option V} {od : Option D} (k : Fwd F H F' H') (h : SlotOk F H ov od) : SlotOk F' H' ov od := fun d e => let ⟨v, e1, r⟩ := h d e; ⟨v, e1, r.fwd k⟩
theorem Rs.inF (R : Rs κ δ M σ H) {a : Addr} (h : a ∈ M.F) : ∃ o, H a = some o := by
  obtain ⟨q, hq, hx⟩ := List.mem_flatMap.mp h
  exact (R.cl q hq).some a hx
theorem Rs.fresh (R : Rs κ δ M σ H) (h : H p = none) : p ∉ M.F := fun z => by
  obtain ⟨o, e⟩ := R.inF z
  rw [h] at e; cases e
theorem Rs.go (R : Rs κ δ M σ H) (k : Fwd M.F H M.F H') (e : ∀ x ∈ M.F, H' x = H x) : Rs κ δ M σ H' :=
  ⟨fun q hq => (R.kp q hq).fwd k, Paired.mono (fun _ _ h => h.fwd k) R.sl, fun q hq => (R.cl q hq).fwd k fun x hx => e x (List.mem_flatMap.mpr ⟨q, hq, hx⟩), R.nd⟩
theorem Rs.new (R : Rs κ δ M σ H) (h : H p = none) : Rs κ δ M σ (upd H p o) := R.go (Fwd.new h) fun x hx => upd_ne fun z => R.fresh h (z ▸ hx)
theorem Rs.same (R : Rs κ δ M σ H) (h : Same H H') : Rs κ δ M σ H' := R.go (fun a o ha e => ⟨ha, h a o e⟩) fun x hx => by
  obtain ⟨o, e⟩ := R.inF hx
  rw [e]; exact h _ _ e
theorem Rs.push (R : Rs κ δ M σ H) (r : Rep M.F H v d) : Rs ((v, d) :: κ) δ M σ H := ⟨fun q hq => by
  rcases List.mem_cons.mp hq with rfl | hq
  · exact r
  · exact R.kp q hq, R.sl, R.cl, R.nd⟩
theorem Rs.sub (R : Rs κ δ M σ H) (h : ∀ q ∈ κ', q ∈ κ) : Rs κ' δ M σ H := ⟨fun q hq => R.kp q (h q hq), R.sl, R.cl, R.nd⟩
theorem Rs.pop {q : V × D} (R : Rs (q :: κ) δ M σ H) : Rs κ δ M σ H := R.sub fun _ h => List.mem_cons_of_mem _ h
theorem Rs.top {v : V} {d : D} (R : Rs ((v, d) :: κ) δ M σ H) : Rep M.F H v d := R.kp _ List.mem_cons_self
theorem paired_get {α β : Type} {G : α → β → Prop} : ∀ {l₁ : List α} {l₂ : List β} {i : Nat} {b : β}, Paired G l₁ l₂ → l₂[i]? = some b → ∃ a, l₁[i]? = some a ∧ G a b
  | _, _, _, _, .nil, e => by simp at e
  | _, _, 0, _, .cons r _, e => by simp at e; subst e; exact ⟨_, rfl, r⟩
  | _, _, i + 1, b, .cons _ t, e => by
    obtain ⟨u, h1, h2⟩ := paired_get (i := i) (b := b) t (by simpa using e)
    exact ⟨u, by simpa using h1, h2⟩
theorem paired_set {α β : Type} {G : α → β → Prop} {a : α} {b : β} (r : G a b) : ∀ {l₁ : List α} {l₂ : List β} (i : Nat), Paired G l₁ l₂ → Paired G (l₁.set i a) (l₂.set i b)
  | _, _, _, .nil => .nil
  | _, _, 0, .cons _ t => .cons r t
  | _, _, i + 1, .cons q t => .cons q (paired_set r i t)
theorem Rs.get {i : Nat} (R : Rs κ δ M σ H) (e : δ[i]? = some (some d)) : ∃ v, σ[i]? = some (some v) ∧ Rep M.F H v d := by
  obtain ⟨a, e1, h⟩ := paired_get R.sl e
  obtain ⟨v, rfl, r⟩ := h d rfl
  exact ⟨v, e1, r⟩
theorem Rs.put (R : Rs κ δ M σ H) (i : Nat) (r : Rep M.F H v d) : Rs κ (δ.set i (some d)) M (σ.set i (some v)) H :=
  ⟨R.kp, paired_set (fun d' e => by cases e; exact ⟨v, rfl, r⟩) i R.sl, R.cl, R.nd⟩
theorem Rs.wipe1 (R : Rs κ δ M σ H) (i : Nat) (ov : Option V) : Rs κ (δ.set i none) M (σ.set i ov) H :=
  ⟨R.kp, paired_set (fun d' e => by cases e) i R.sl, R.cl, R.nd⟩
theorem Rs.slots {δ' : List (Option D)} {σ' : St} (R : Rs κ δ M σ H) (h : Paired (SlotOk M.F H) σ' δ') : Rs κ δ' M σ' H := ⟨R.kp, h, R.cl, R.nd⟩
/-- fewer cells -/
theorem F_sub : ∀ {M M' : Mem}, M'.Sublist M → M'.F.Sublist M.F
  | _, _, .slnil => .slnil
  | _, _, .cons a h => by
    show List.Sublist _ (own a.1 a.2 ++ _)
    exact (F_sub h).trans (List.sublist_append_right _ _)
  | _, _, .cons_cons a h => by
    show List.Sublist (own a.1 a.2 ++ _) (own a.1 a.2 ++ _)
    exact (F_sub h).append_left _
theorem Rs.less (R : Rs κ δ M σ H) (h : M'.Sublist M) : Rs κ δ M' σ H := by
  have k : Fwd M.F H M'.F H := Fwd.less fun a ha => (F_sub h).subset ha
  exact ⟨fun q hq => (R.kp q hq).fwd k, Paired.mono (fun _ _ h => h.fwd k) R.sl, fun q hq => (R.cl q (h.subset hq)).fwd k fun _ _ => rfl, R.nd.sublist (F_sub h)⟩
/-- one cell more -/
theorem Fwd.newC {F : List Addr} {H : Hp} {p : Addr} {o : HO} (h : H p = none) : Fwd F H (p :: F) (upd H p o) := fun a u ha e => ⟨by
  simp only [List.mem_cons, not_or]
  exact ⟨ne_of_none e h, ha⟩, by rw [upd_ne (ne_of_none e h)]; exact e⟩
theorem Rs.add (R : Rs κ δ M σ H) {c : Cell} (h : H p = none) (hc : own p c = [p]) (ok : CellOk (p :: M.F) (upd H p o) p c) : Rs κ δ ((p, c) :: M) σ (upd H p o) := by
  have e : Mem.F ((p, c) :: M) = p :: M.F := by show own p c ++ M.F = _; rw [hc]; rfl
  have k : Fwd M.F H (Mem.F ((p, c) :: M)) (upd H p o) := by rw [e]; exact Fwd.newC h
  refine ⟨fun q hq => (R.kp q hq).fwd k, Paired.mono (fun _ _ h => h.fwd k) R.sl, fun q hq => ?_, ?_⟩
  · rcases List.mem_cons.mp hq with rfl | hq
    · rw [e]; exact ok
    · refine (R.cl q hq).fwd k fun x hx => upd_ne fun z => R.fresh h (z ▸ List.mem_flatMap.mpr ⟨q, hq, hx⟩)
  · rw [e]
    exact List.nodup_cons.mpr ⟨R.fresh h, R.nd⟩
theorem F_perm {M M' : Mem} (h : M.Perm M') : (Mem.F M).Perm (Mem.F M') := by
  induction h with
  | nil => exact .nil
  | cons x _ ih => exact ih.append_left _
  | swap x y l =>
    show (own y.1 y.2 ++ (own x.1 x.2 ++ Mem.F l)).Perm (own x.1 x.2 ++ (own y.1 y.2 ++ Mem.F l))
    rw [← List.append_assoc, ← List.append_assoc]
    exact List.perm_append_comm.append_right _
  | trans _ _ h1 h2 => exact h1.trans h2
theorem Rs.perm (R : Rs κ δ M σ H) (h : M.Perm M') : Rs κ δ M' σ H := by
  have k : Fwd M.F H M'.F H := Fwd.less fun a ha => (F_perm h).mem_iff.mpr ha
  exact ⟨fun q hq => (R.kp q hq).fwd k, Paired.mono (fun _ _ h => h.fwd k) R.sl, fun q hq => (R.cl q (h.mem_iff.mpr hq)).fwd k fun _ _ => rfl, (F_perm h).nodup_iff.mp R.nd⟩
/-- a cell at place k -/
def insM : Nat → Addr × Cell → Mem → Mem
  | 0, c, M => c :: M
  | k + 1, c, x :: M => x :: insM k c M
  | _ + 1, c, [] => [c]
theorem insM_perm {c : Addr × Cell} : ∀ {k : Nat} {M : Mem}, (c :: M).Perm (insM k c M)
  | 0, _ => .refl _
  | k + 1, x :: M => (List.Perm.swap x c M).trans (insM_perm.cons x)
  | _ + 1, [] => .refl _
theorem insM_sub {c : Addr × Cell} : ∀ {k : Nat} {M : Mem}, M.Sublist (insM k c M)
  | 0, _ => .cons _ (.refl _)
  | k + 1, x :: M => insM_sub.cons_cons x
  | _ + 1, [] => .cons _ .slnil
theorem F_set : ∀ {M : Mem} {i : Nat} {a : Addr} {c c' : Cell}, M[i]? = some (a, c) → own a c' = own a c → Mem.F (M.set i (a, c')) = M.F
  | [], _, _, _, _, e, _ => by simp at e
  | q :: M, 0, a, c, c', e, h => by
    have : q = (a, c) := by simpa using e
    subst this
    show own a c' ++ _ = own a c ++ _
    rw [h]
  | q :: M, i + 1, a, c, c', e, h => by
    show own q.1 q.2 ++ Mem.F (M.set i (a, c')) = own q.1 q.2 ++ Mem.F M
    rw [F_set (by simpa using e) h]
theorem F_apart : ∀ {M : Mem} {i j : Nat} {a b : Addr} {c d : Cell}, M.F.Nodup → M[i]? = some (a, c) → M[j]? = some (b, d) → i ≠ j → ∀ x ∈ own a c, x ∉ own b d
  | [], _, _, _, _, _, _, _, e, _, _ => by simp at e
  | q :: M, 0, 0, _, _, _, _, _, _, _, h => absurd rfl h
  | q :: M, 0, j + 1, a, b, c, d, n, e, e', _ => fun x hx hy => by
    have : q = (a, c) := by simpa using e
    subst this
    have n : (own a c ++ Mem.F M).Nodup := n
    exact (List.nodup_append.mp n).2.2 x hx x (List.mem_flatMap.mpr ⟨(b, d), List.mem_of_getElem? (by simpa using e'), hy⟩) rfl
  | q :: M, i + 1, 0, a, b, c, d, n, e, e', _ => fun x hx hy => by
    have : q = (b, d) := by simpa using e'
    subst this
    have n : (own b d ++ Mem.F M).Nodup := n
    exact (List.nodup_append.mp n).2.2 x hy x (List.mem_flatMap.mpr ⟨(a, c), List.mem_of_getElem? (by simpa using e), hx⟩) rfl
  | q :: M, i + 1, j + 1, a, b, c, d, n, e, e', h => by
    have n : (own q.1 q.2 ++ Mem.F M).Nodup := n
    exact F_apart (List.nodup_append.mp n).2.1 (by simpa using e) (by simpa using e') (by omega)
/-- another content of a cell -/
theorem Rs.cell (R : Rs κ δ M σ H) {i : Nat} {a : Addr} {c c' : Cell} (e : M[i]? = some (a, c)) (hc : own a c' = own a c) (k : ∀ x, x ∉ own a c → H' x = H x) (ok : CellOk M.F H' a c') : Rs κ δ (M.set i (a, c')) σ H' := by
  have eF : Mem.F (M.set i (a, c')) = M.F := F_set e hc
  have inF : ∀ x ∈ own a c, x ∈ M.F := fun x hx => List.mem_flatMap.mpr ⟨_, List.mem_of_getElem? e, hx⟩
  have k' : Fwd M.F H M.F H' := Fwd.same fun x hx => k x fun z => hx (inF x z)
  refine ⟨fun q hq => by rw [eF]; exact (R.kp q hq).fwd k', by rw [eF]; exact Paired.mono (fun _ _ h => h.fwd k') R.sl, fun q hq => ?_, by rw [eF]; exact R.nd⟩
  rw [eF]
  obtain ⟨j, hj⟩ := List.getElem?_of_mem hq
  by_cases hij : i = j
  · subst hij
    rw [List.getElem?_set_self (List.getElem?_eq_some_iff.mp e).1] at hj
    cases hj
    exact ok
  · rw [List.getElem?_set_ne hij] at hj
    obtain ⟨b, d⟩ := q
    exact (R.cl _ (List.mem_of_getElem? hj)).fwd k' fun x hx => k x (F_apart R.nd hj e (fun z => hij z.symm) x hx)
theorem Rs.at (R : Rs κ δ M σ H) {i : Nat} {a : Addr} {c : Cell} (e : M[i]? = some (a, c)) : CellOk M.F H a c := R.cl _ (List.mem_of_getElem? e)
theorem Rs.mem (R : Rs κ δ M σ H) {i : Nat} {a : Addr} {c : Cell} (e : M[i]? = some (a, c)) : ∀ x ∈ own a c, x ∈ M.F := fun x hx => List.mem_flatMap.mpr ⟨_, List.mem_of_getElem? e, hx⟩
end
end Hl
namespace Hl
open PySem L2
/-! ### the readings as such -/
@[irreducible] def tE (X : Cx) (e : Expr) : TE := fun σ H Q => ∀ pins s, Inv X pins σ H s → wpAny (model X.prog X.w) X.A (eval e X.env) (EP X pins σ Q) X.xe s
@[irreducible] def tT (X : Cx) (e : Expr) : TT := fun σ H Q => ∀ pins s, Inv X pins σ H s → wpAny (model X.prog X.w) X.A (isTrue e X.env (eval e X.env)) (TP X pins σ Q) X.xe s
@[irreducible] def tA (X : Cx) (es : List Expr) : TA := fun σ H Q => ∀ (pos : Pos) pins s, Inv X pins σ H s → wpAny (model X.prog X.w) X.A (spliced (backTo pos (starEach es X.env))) (AP X pins σ Q) X.xe s
@[irreducible] def tS (X : Cx) (st : Stmt) : TS := fun D σ H => ∀ pins s, Inv X pins σ H s → wpAny (model X.prog X.w) X.A (exec st X.env) (SP X pins D) X.xe s
@[irreducible] def tSs (X : Cx) (st : List Stmt) : TS := fun D σ H => ∀ pins s, Inv X pins σ H s → wpAny (model X.prog X.w) X.A (execs st X.env) (SP X pins D) X.xe s
@[irreducible] def tG (X : Cx) (tg : Expr) : TG := fun v σ H Q => ∀ pins s u, Inv X pins σ H s → RelV v u → wpAny (model X.prog X.w) X.A (assign tg X.env u) (fun _ s' => ∃ σ' H', Inv X pins σ' H' s' ∧ Q σ' H') X.xe s
@[irreducible] def tGs (X : Cx) (ts : List Expr) : TGs := fun vs σ H Q => ∀ pins s us, Inv X pins σ H s → Vals vs us → wpAny (model X.prog X.w) X.A (assignInOrder ((assignEach ts X.env).map (·.2)) us) (fun _ s' => ∃ σ' H', Inv X pins σ' H' s' ∧ Q σ' H') X.xe s
section
variable {X : Cx} {e : Expr} {es : List Expr} {st : Stmt} {sts : List Stmt}
theorem cE : PE X e (tE X e) := ⟨fun pins s _ _ _ I h => by unfold tE at h; exact h pins s I⟩
theorem cT : PT X e (tT X e) := ⟨fun pins s _ _ _ I h => by unfold tT at h; exact h pins s I⟩
theorem cA : PA X es (tA X es) := ⟨fun pos pins s _ _ _ I h => by unfold tA at h; exact h pos pins s I⟩
theorem cS : PS X st (tS X st) := ⟨fun pins s _ _ _ I h => by unfold tS at h; exact h pins s I⟩
theorem cSs : PSs X sts (tSs X sts) := ⟨fun pins s _ _ _ I h => by unfold tSs at h; exact h pins s I⟩
theorem cG : PG X e (tG X e) := ⟨fun pins s _ _ _ u _ I r h => by unfold tG at h; exact h pins s u I r⟩
theorem cGs : PGs X es (tGs X es) := ⟨fun pins s _ _ _ us _ I r h => by unfold tGs at h; exact h pins s us I r⟩
end
/-! ### by data -/
/-- what a body keeps for its caller, and what it may raise -/
structure Bx where
  ps : List (V × D)
  ex : Addr → List Str → List D → List (Option D) → Mem → Prop
def B0 (ps : List (V × D)) : Bx := ⟨ps, fun _ _ _ _ _ => False⟩
abbrev Env' := List (Option D)
def WE (B : Bx) (te : TE) (δ : Env') (M : Mem) (Φ : D → Mem → Prop) : Prop := ∀ κ σ H Q, (∀ q ∈ B.ps, q ∈ κ) → Rs κ δ M σ H → (∀ v d M' H', Φ d M' → Rs κ δ M' σ H' → Rep M'.F H' v d → Q v H') → te σ H Q
/-- a new list, nobody else's -/
def WF (B : Bx) (te : TE) (δ : Env') (M : Mem) (Φ : List D → Mem → Prop) : Prop := ∀ κ σ H Q, (∀ q ∈ B.ps, q ∈ κ) → Rs κ δ M σ H → (∀ p ds M' H', Φ ds M' → Rs κ δ ((p, .lst ds) :: M') σ H' → Q (.ref p) H') → te σ H Q
def WT (B : Bx) (tt : TT) (δ : Env') (M : Mem) (Φ : Bool → Mem → Prop) : Prop := ∀ κ σ H Q, (∀ q ∈ B.ps, q ∈ κ) → Rs κ δ M σ H → (∀ b M' H', Φ b M' → Rs κ δ M' σ H' → Q b H') → tt σ H Q
def WA (B : Bx) (ta : TA) (δ : Env') (M : Mem) (Φ : List D → Mem → Prop) : Prop := ∀ κ σ H Q, (∀ q ∈ B.ps, q ∈ κ) → Rs κ δ M σ H → (∀ vs ds M' H', Φ ds M' → Rs κ δ M' σ H' → Reps M'.F H' vs ds → Q vs H') → ta σ H Q
structure DEnds where
  nx : Env' → Mem → Prop
  rt : D → Mem → Prop
  bk : Env' → Mem → Prop := fun _ _ => False
  ct : Env' → Mem → Prop := fun _ _ => False
structure EndsOk (κ : List (V × D)) (Φ : DEnds) (E : Ends) : Prop where
  nx : ∀ δ M σ H, Φ.nx δ M → Rs κ δ M σ H → E.nx σ H
  rt : ∀ v d M δ σ H, Φ.rt d M → Rs κ δ M σ H → Rep M.F H v d → E.rt v H
  bk : ∀ δ M σ H, Φ.bk δ M → Rs κ δ M σ H → E.bk σ H
  ct : ∀ δ M σ H, Φ.ct δ M → Rs κ δ M σ H → E.ct σ H
def WS (B : Bx) (ts : TS) (δ : Env') (M : Mem) (Φ : DEnds) : Prop := ∀ κ σ H E, (∀ q ∈ B.ps, q ∈ κ) → Rs κ δ M σ H → EndsOk κ Φ E → ts E σ H
def WG (B : Bx) (tg : TG) (d : D) (δ : Env') (M : Mem) (Φ : Env' → Mem → Prop) : Prop := ∀ κ σ H v Q, (∀ q ∈ B.ps, q ∈ κ) → Rs κ δ M σ H → Rep M.F H v d → (∀ δ' M' σ' H', Φ δ' M' → Rs κ δ' M' σ' H' → Q σ' H') → tg v σ H Q
def WGs (B : Bx) (tg : TGs) (ds : List D) (δ : Env') (M : Mem) (Φ : Env' → Mem → Prop) : Prop := ∀ κ σ H vs Q, (∀ q ∈ B.ps, q ∈ κ) → Rs κ δ M σ H → Reps M.F H vs ds → (∀ δ' M' σ' H', Φ δ' M' → Rs κ δ' M' σ' H' → Q σ' H') → tg vs σ H Q
abbrev DE (B : Bx) (X : Cx) (e : Expr) := WE B (tE X e)
abbrev DF (B : Bx) (X : Cx) (e : Expr) := WF B (tE X e)
abbrev DT (B : Bx) (X : Cx) (e : Expr) := WT B (tT X e)
abbrev DA (B : Bx) (X : Cx) (es : List Expr) := WA B (tA X es)
abbrev DS (B : Bx) (X : Cx) (st : Stmt) := WS B (tS X st)
abbrev DSs (B : Bx) (X : Cx) (st : List Stmt) := WS B (tSs X st)
abbrev DG (B : Bx) (X : Cx) (tg : Expr) := WG B (tG X tg)
abbrev DGs (B : Bx) (X : Cx) (tg : List Expr) := WGs B (tGs X tg)
section
variable {B : Bx} {X : Cx} {e a b c : Expr} {es rest : List Expr} {st : Stmt} {sts : List Stmt} {δ δ' : Env'} {M : Mem} {Φ : D → Mem → Prop} {Ψ : DEnds} {te ta tb : TE} {tt : TT} {pos : Pos} {d : D}
theorem DE.of (h : PE X e te) (w : WE B te δ M Φ) : DE B X e δ M Φ := fun κ σ H Q hb R k => by unfold tE; exact fun pins s I => h.run pins s σ H Q I (w κ σ H Q hb R k)
theorem DF.of {Φ : List D → Mem → Prop} (h : PE X e te) (w : WF B te δ M Φ) : DF B X e δ M Φ := fun κ σ H Q hb R k => by unfold tE; exact fun pins s I => h.run pins s σ H Q I (w κ σ H Q hb R k)
theorem DT.of {Φ : Bool → Mem → Prop} (h : PT X e tt) (w : WT B tt δ M Φ) : DT B X e δ M Φ := fun κ σ H Q hb R k => by unfold tT; exact fun pins s I => h.run pins s σ H Q I (w κ σ H Q hb R k)
theorem DA.of {Φ : List D → Mem → Prop} {t : TA} (h : PA X es t) (w : WA B t δ M Φ) : DA B X es δ M Φ := fun κ σ H Q hb R k => by unfold tA; exact fun pos pins s I => h.run pos pins s σ H Q I (w κ σ H Q hb R k)
theorem DS.of {t : TS} (h : PS X st t) (w : WS B t δ M Ψ) : DS B X st δ M Ψ := fun κ σ H E hb R k => by unfold tS; exact fun pins s I => h.run pins s σ H E I (w κ σ H E hb R k)
theorem DSs.of {t : TS} (h : PSs X sts t) (w : WS B t δ M Ψ) : DSs B X sts δ M Ψ := fun κ σ H E hb R k => by unfold tSs; exact fun pins s I => h.run pins s σ H E I (w κ σ H E hb R k)
theorem DG.of {t : TG} {Φ : Env' → Mem → Prop} (h : PG X e t) (w : WG B t d δ M Φ) : DG B X e d δ M Φ := fun κ σ H v Q hb R r k => by unfold tG; exact fun pins s u I ru => h.run pins s σ H v u Q I ru (w κ σ H v Q hb R r k)
theorem DGs.of {t : TGs} {ds : List D} {Φ : Env' → Mem → Prop} (h : PGs X es t) (w : WGs B t ds δ M Φ) : DGs B X es ds δ M Φ := fun κ σ H v Q hb R r k => by unfold tGs; exact fun pins s u I ru => h.run pins s σ H v u Q I ru (w κ σ H v Q hb R r k)
/-- a list nobody else's, as a plain one -/
theorem cons_sub {M : Mem} {q : Addr × Cell} : M.Sublist (q :: M) := .cons _ (.refl _)
theorem WE.ofF (w : WF B te δ M fun ds M' => Φ (.lst ds) M') : WE B te δ M Φ := fun κ σ H Q hb R k => w κ σ H Q hb R fun p ds M' H' q R' => by
  refine k (.ref p) (.lst ds) M' H' q (R'.less cons_sub) ?_
  obtain ⟨vs, e, r⟩ := R'.cl (p, .lst ds) (by simp)
  have nd : (p :: Mem.F M').Nodup := R'.nd
  refine .lst (List.nodup_cons.mp nd).1 e (r.fwd ?_)
  exact Fwd.less fun x hx => (F_sub cons_sub).subset hx
theorem WE.mono {Φ' : D → Mem → Prop} (w : WE B te δ M Φ) (h : ∀ d M', Φ d M' → Φ' d M') : WE B te δ M Φ' := fun κ σ H Q hb R k => w κ σ H Q hb R fun v d M' H' q R' r => k v d M' H' (h d M' q) R' r
theorem WT.mono {Φ Φ' : Bool → Mem → Prop} (w : WT B tt δ M Φ) (h : ∀ d M', Φ d M' → Φ' d M') : WT B tt δ M Φ' := fun κ σ H Q hb R k => w κ σ H Q hb R fun b M' H' q R' => k b M' H' (h b M' q) R'
theorem EndsOk.mono {κ : List (V × D)} {Φ Φ' : DEnds} {E : Ends} (k : EndsOk κ Φ' E) (h1 : ∀ δ M, Φ.nx δ M → Φ'.nx δ M) (h2 : ∀ d M, Φ.rt d M → Φ'.rt d M) (h3 : ∀ δ M, Φ.bk δ M → Φ'.bk δ M) (h4 : ∀ δ M, Φ.ct δ M → Φ'.ct δ M) : EndsOk κ Φ E :=
  ⟨fun δ M σ H q R => k.nx δ M σ H (h1 δ M q) R, fun v d M δ σ H q R r => k.rt v d M δ σ H (h2 d M q) R r, fun δ M σ H q R => k.bk δ M σ H (h3 δ M q) R, fun δ M σ H q R => k.ct δ M σ H (h4 δ M q) R⟩
theorem EndsOk.sub {κ κ' : List (V × D)} {Φ : DEnds} {E : Ends} (k : EndsOk κ Φ E) (h : ∀ q ∈ κ, q ∈ κ') : EndsOk κ' Φ E :=
  ⟨fun δ M σ H q R => k.nx δ M σ H q (R.sub h), fun v d M δ σ H q R r => k.rt v d M δ σ H q (R.sub h) r, fun δ M σ H q R => k.bk δ M σ H q (R.sub h), fun δ M σ H q R => k.ct δ M σ H q (R.sub h)⟩
theorem WS.mono {ts : TS} {Ψ' : DEnds} (w : WS B ts δ M Ψ) (h1 : ∀ δ M, Ψ.nx δ M → Ψ'.nx δ M) (h2 : ∀ d M, Ψ.rt d M → Ψ'.rt d M) (h3 : ∀ δ M, Ψ.bk δ M → Ψ'.bk δ M) (h4 : ∀ δ M, Ψ.ct δ M → Ψ'.ct δ M) : WS B ts δ M Ψ' := fun κ σ H E hb R k =>
  w κ σ H E hb R (k.mono h1 h2 h3 h4)
/-! ### names -/
structure NmP (N : List Str) (sc : Scope) (i : Nat) (x : Str) : Prop where
  at_ : N[i]? = some x
  vis : Vis sc x
  dbg : (x == ("__debug__" : Str)) = false
  cdc : (x == ("__classdict__" : Str)) = false
abbrev Nm (X : Cx) := NmP X.N X.env.scope
structure LoP (N : List Str) (sc : Scope) (fu : Str → Bool) (i : Nat) (x : Str) : Prop extends NmP N sc i x where
  loc : Loc sc x
  fn : fu x = true ∨ sc.names.lookup x = some .local
abbrev Lo (X : Cx) := LoP X.N X.env.scope X.fn
/-- a built-in's name -/
structure GnP (env : Env) (mg : Str → Option Value) (x : Str) : Prop where
  gl : env.kindOf x = some .globalImplicit
  no : mg x = none
abbrev Gn (X : Cx) := GnP X.env X.mg
structure CzP (N : List Str) (calm_ : Bool) (A : Around) (k : Nat) : Prop where
  nd : N.Nodup
  calm : calm_ = true
  room : Room k A
abbrev Cz (X : Cx) := CzP X.N X.calm X.A
theorem WE.val {v : V} (hv : ∀ F H, Rep F H v d) (k : Φ d M) : WE B (tC v) δ M Φ := fun κ σ H Q hb R h => h v d M H k R (hv _ _)
theorem de_name {i : Nat} {x : Str} (n : Nm X i x) (hd : δ[i]? = some (some d)) (k : Φ d M) : DE B X (.Name x pos) δ M Φ :=
  .of (pe_var n.at_ n.vis n.dbg n.cdc) fun κ σ H Q hb R h => let ⟨v, e, r⟩ := R.get hd; ⟨v, e, h v d M H k R r⟩
theorem de_int {i : Int} {j} (k : Φ (.int i) M) : DE B X (.Constant (.int i) j pos) δ M Φ := .of pe_int (.val (fun _ _ => .int i) k)
theorem de_str {x : Str} {j} (k : Φ (.str x) M) : DE B X (.Constant (.str x) j pos) δ M Φ := .of pe_str (.val (fun _ _ => .str x) k)
theorem de_bl {b : Bool} {j} (k : Φ (.bl b) M) : DE B X (.Constant (.bool b) j pos) δ M Φ := .of pe_bl (.val (fun _ _ => .bl b) k)
theorem de_non {j} (k : Φ .non M) : DE B X (.Constant .none j pos) δ M Φ := .of pe_non (.val (fun _ _ => .non) k)
/-- a constant of the module -/
structure GcP (env : Env) (mg : Str → Option Value) (x : Str) (v : V) : Prop where
  gl : env.kindOf x = some .globalImplicit
  is : ∃ u, mg x = some u ∧ RelV v u
  dbg : (x == ("__debug__" : Str)) = false
abbrev Gc (X : Cx) := GcP X.env X.mg
theorem de_glob {x : Str} {v : V} (g : Gc X x v) (hv : ∀ F H, Rep F H v d) (k : Φ d M) : DE B X (.Name x pos) δ M Φ := by
  obtain ⟨gl, ⟨u, e, r⟩, dbg⟩ := g
  exact .of (pe_glob gl e r dbg) (.val hv k)
/-! ### operators -/
/-- what an operator on values gives of data -/
def OpD (r : R2) (x y : D) (M : Mem) (Φ : D → Mem → Prop) : Prop := ∀ κ (δ : Env') σ H v w Q, Rs κ δ M σ H → Rep M.F H v x → Rep M.F H w y → (∀ z d M' H', Φ d M' → Rs κ δ M' σ H' → Rep M'.F H' z d → Q z H') → r v w H Q
theorem WE.op {r : R2} (ha : WE B ta δ M fun x M1 => WE B tb δ M1 fun y M2 => OpD r x y M2 Φ) : WE B (tOp r ta tb) δ M Φ := fun κ σ H Q hb R k =>
  ha κ σ H _ hb R fun v x M1 H1 q1 R1 r1 => q1 ((v, x) :: κ) σ H1 _ (fun q hq => List.mem_cons_of_mem _ (hb q hq)) (R1.push r1) fun w y M2 H2 q2 R2 r2 =>
    q2 κ δ σ H2 v w Q R2.pop R2.top r2 k
theorem de_bin {op : Operator} {r : R2} (ho : OpR X (binaryOp op) r) (h : DE B X a δ M fun x M1 => DE B X b δ M1 fun y M2 => OpD r x y M2 Φ) : DE B X (.BinOp a op b pos) δ M Φ := .of (pe_op ho cE cE) (.op h)
theorem od_I {C : Int → Int → Prop} {g : Int → Int → V} {gd : Int → Int → D} {i j : Int} (hc : C i j) (hg : ∀ F H, Rep F H (g i j) (gd i j)) (k : Φ (gd i j) M) : OpD (rI C g) (.int i) (.int j) M Φ := fun κ δ σ H v w Q R rv rw' h => by
  cases rv; cases rw'
  exact ⟨i, j, rfl, rfl, hc, h _ _ M H k R (hg _ _)⟩
theorem od_I0 {g : Int → Int → V} {gd : Int → Int → D} {i j : Int} (hg : ∀ F H, Rep F H (g i j) (gd i j)) (k : Φ (gd i j) M) : OpD (rI0 g) (.int i) (.int j) M Φ := fun κ δ σ H v w Q R rv rw' h => by
  cases rv; cases rw'
  exact ⟨i, j, rfl, rfl, h _ _ M H k R (hg _ _)⟩
theorem OpD.inl {r r' : R2} {x y : D} (h : OpD r x y M Φ) : OpD (fun a b H Q => r a b H Q ∨ r' a b H Q) x y M Φ := fun κ δ σ H v w Q R rv rw' k => .inl (h κ δ σ H v w Q R rv rw' k)
theorem OpD.inr {r r' : R2} {x y : D} (h : OpD r' x y M Φ) : OpD (fun a b H Q => r a b H Q ∨ r' a b H Q) x y M Φ := fun κ δ σ H v w Q R rv rw' k => .inr (h κ δ σ H v w Q R rv rw' k)
def rAddS : R2 := fun x y H Q => ∃ i j, x = .str i ∧ y = .str j ∧ i.length + j.length ≤ sizeLine ∧ Q (.str (i ++ j)) H
def rAddU : R2 := fun x y H Q => (rI0 fun i j => .int (i + j)) x y H Q ∨ (fun x y H Q => rAddS x y H Q ∨ rCat x y H Q) x y H Q
theorem op_addU : OpR X (binaryOp .Add) rAddU := op_add.or ((op_add_str (X := X)).or op_cat)
theorem od_addI {i j : Int} (k : Φ (.int (i + j)) M) : OpD rAddU (.int i) (.int j) M Φ := (od_I0 (gd := fun i j => .int (i + j)) (fun _ _ => .int _) k).inl
theorem od_addS {i j : Str} (hl : i.length + j.length ≤ sizeLine) (k : Φ (.str (i ++ j)) M) : OpD rAddU (.str i) (.str j) M Φ := .inr (.inl fun κ δ σ H v w Q R rv rw' h => by
  cases rv; cases rw'
  exact ⟨i, j, rfl, rfl, hl, h _ _ M H k R (.str _)⟩)
/-- a new list at p -/
theorem Rs.lst {κ : List (V × D)} {σ : St} {H : Hp} {p : Addr} {vs : List V} {ds : List D} (R : Rs κ δ M σ H) (r : Reps M.F H vs ds) (hp : H p = none) : Rs κ δ ((p, .lst ds) :: M) σ (upd H p (.lst vs)) :=
  R.add hp rfl ⟨vs, upd_same, r.fwd (Fwd.newC hp)⟩
theorem Rs.lstV {κ : List (V × D)} {σ : St} {H : Hp} {p : Addr} {vs : List V} {ds : List D} (R : Rs κ δ M σ H) (r : Reps M.F H vs ds) (hp : H p = none) : Rs κ δ M σ (upd H p (.lst vs)) ∧ Rep M.F (upd H p (.lst vs)) (.ref p) (.lst ds) :=
  ⟨R.new hp, .lst (R.fresh hp) upd_same (r.fwd (Fwd.new hp))⟩
theorem Rs.tupV {κ : List (V × D)} {σ : St} {H : Hp} {p : Addr} {vs : List V} {ds : List D} (R : Rs κ δ M σ H) (r : Reps M.F H vs ds) (hp : H p = none) : Rs κ δ M σ (upd H p (.tup vs)) ∧ Rep M.F (upd H p (.tup vs)) (.ref p) (.tup ds) :=
  ⟨R.new hp, .tup (R.fresh hp) upd_same (r.fwd (Fwd.new hp))⟩
theorem od_addL {xs ys : List D} (hl : xs.length + ys.length ≤ sizeLine) (k : Φ (.lst (xs ++ ys)) M) : OpD rAddU (.lst xs) (.lst ys) M Φ := .inr (.inr fun κ δ σ H v w Q R rv rw' h => by
  cases rv with
  | lst h1 e1 r1 =>
    cases rw' with
    | lst h2 e2 r2 =>
      refine ⟨_, _, _, _, rfl, rfl, e1, e2, by rw [r1.length, r2.length]; exact hl, fun p hp => ?_⟩
      obtain ⟨R', r'⟩ := R.lstV (r1.append r2) hp
      exact h _ _ M _ k R' r')
theorem de_add (h : DE B X a δ M fun x M1 => DE B X b δ M1 fun y M2 => OpD rAddU x y M2 Φ) : DE B X (.BinOp a .Add b pos) δ M Φ := de_bin op_addU h
def rSubU : R2 := rI0 fun i j => .int (i - j)
theorem de_sub (h : DE B X a δ M fun x M1 => DE B X b δ M1 fun y M2 => OpD rSubU x y M2 Φ) : DE B X (.BinOp a .Sub b pos) δ M Φ := de_bin op_sub h
theorem od_sub {i j : Int} (k : Φ (.int (i - j)) M) : OpD rSubU (.int i) (.int j) M Φ := od_I0 (gd := fun i j => .int (i - j)) (fun _ _ => .int _) k
def rMulU : R2 := fun x y H Q => (rI CMul fun i j => .int (i * j)) x y H Q ∨ (rI CMulW fun i j => .int (i * j)) x y H Q
theorem de_mul (h : DE B X a δ M fun x M1 => DE B X b δ M1 fun y M2 => OpD rMulU x y M2 Φ) : DE B X (.BinOp a .Mult b pos) δ M Φ := de_bin (op_mul.or op_mulW) h
theorem od_mul {i j : Int} (hc : CMul i j) (k : Φ (.int (i * j)) M) : OpD rMulU (.int i) (.int j) M Φ := (od_I (gd := fun i j => .int (i * j)) hc (fun _ _ => .int _) k).inl
theorem od_mulW {i j : Int} (hc : CMulW i j) (k : Φ (.int (i * j)) M) : OpD rMulU (.int i) (.int j) M Φ := (od_I (gd := fun i j => .int (i * j)) hc (fun _ _ => .int _) k).inr
def rDivU : R2 := rI CDivW fun i j => .int (i / j)
theorem de_div (h : DE B X a δ M fun x M1 => DE B X b δ M1 fun y M2 => OpD rDivU x y M2 Φ) : DE B X (.BinOp a .FloorDiv b pos) δ M Φ := de_bin op_fdivW h
theorem od_div {i j : Int} (hc : CDivW i j) (k : Φ (.int (i / j)) M) : OpD rDivU (.int i) (.int j) M Φ := od_I (gd := fun i j => .int (i / j)) hc (fun _ _ => .int _) k
def rModU : R2 := rI (fun _ j => 0 < j) fun i j => .int (i % j)
theorem de_mod (h : DE B X a δ M fun x M1 => DE B X b δ M1 fun y M2 => OpD rModU x y M2 Φ) : DE B X (.BinOp a .Mod b pos) δ M Φ := de_bin op_mod h
theorem od_mod {i j : Int} (hc : 0 < j) (k : Φ (.int (i % j)) M) : OpD rModU (.int i) (.int j) M Φ := od_I (gd := fun i j => .int (i % j)) hc (fun _ _ => .int _) k
def rPowU : R2 := rI CPow fun i j => .int (i ^ j.toNat)
theorem de_pow (h : DE B X a δ M fun x M1 => DE B X b δ M1 fun y M2 => OpD rPowU x y M2 Φ) : DE B X (.BinOp a .Pow b pos) δ M Φ := de_bin op_pow h
theorem od_pow {i j : Int} (hc : CPow i j) (k : Φ (.int (i ^ j.toNat)) M) : OpD rPowU (.int i) (.int j) M Φ := od_I (gd := fun i j => .int (i ^ j.toNat)) hc (fun _ _ => .int _) k
theorem de_neg (h : DE B X a δ M fun x M1 => ∃ i, x = .int i ∧ Φ (.int (-i)) M1) : DE B X (.UnaryOp .USub a pos) δ M Φ := .of (pe_un un_neg cE) fun κ σ H Q hb R k => h κ σ H _ hb R fun v x M1 H1 ⟨i, e, q⟩ R1 r1 => by
  subst e; cases r1
  exact ⟨i, rfl, k _ _ _ _ q R1 (.int _)⟩
end
end Hl
namespace Hl
open PySem L2
@[irreducible] def tW (X : Cx) (e : Expr) : TT := fun σ H Q => ∀ whole pins s, Inv X pins σ H s → wpAny (model X.prog X.w) X.A (isTrue e X.env whole) (TP X pins σ Q) X.xe s
theorem cW {X : Cx} {e : Expr} : PW X e (tW X e) := ⟨fun whole pins s _ _ _ I h => by unfold tW at h; exact h whole pins s I⟩
abbrev DW (B : Bx) (X : Cx) (e : Expr) := WT B (tW X e)
section
variable {B : Bx} {X : Cx} {e a b c : Expr} {es rest : List Expr} {st : Stmt} {sts : List Stmt} {δ δ' : Env'} {M : Mem} {Φ : D → Mem → Prop} {Ψ : DEnds} {te ta tb : TE} {tt : TT} {pos : Pos} {d x y : D} {ΦB : Bool → Mem → Prop}
theorem DW.of (h : PW X e tt) (w : WT B tt δ M ΦB) : DW B X e δ M ΦB := fun κ σ H Q hb R k => by unfold tW; exact fun whole pins s I => h.run whole pins s σ H Q I (w κ σ H Q hb R k)
theorem DT.w (h : DW B X e δ M ΦB) : DT B X e δ M ΦB := .of cW.pt h
/-- both ways of a truth -/
def Br (b : Bool) (P Q : Prop) : Prop := (b = true → P) ∧ (b = false → Q)
theorem Br.mk {b : Bool} {P Q : Prop} (h1 : b = true → P) (h2 : b = false → Q) : Br b P Q := ⟨h1, h2⟩
theorem Br.yes {P Q : Prop} (h : P) : Br true P Q := ⟨fun _ => h, fun e => (nomatch e)⟩
theorem Br.no {P Q : Prop} (h : Q) : Br false P Q := ⟨fun e => (nomatch e), fun _ => h⟩
theorem Br.ite {b : Bool} {P Q : Prop} (h : Br b P Q) : if b = true then P else Q := by
  cases b with
  | true => exact iteT (h.1 rfl)
  | false => exact iteF (h.2 rfl)
theorem Br.dec {p : Prop} [Decidable p] {P Q : Prop} (h1 : p → P) (h2 : ¬ p → Q) : Br (decide p) P Q := ⟨fun e => h1 (of_decide_eq_true e), fun e => h2 (of_decide_eq_false e)⟩
theorem Br.ndec {p : Prop} [Decidable p] {P Q : Prop} (h1 : ¬ p → P) (h2 : p → Q) : Br (!decide p) P Q := ⟨fun e => h1 (of_decide_eq_false (by simpa using e)), fun e => h2 (of_decide_eq_true (by simpa using e))⟩
theorem Br.decT {p : Prop} [Decidable p] {P Q : Prop} (h : p) (h1 : P) : Br (decide p) P Q := ⟨fun _ => h1, fun e => absurd h (of_decide_eq_false e)⟩
theorem Br.decF {p : Prop} [Decidable p] {P Q : Prop} (h : ¬ p) (h1 : Q) : Br (decide p) P Q := ⟨fun e => absurd (of_decide_eq_true e) h, fun _ => h1⟩
theorem Br.ndecT {p : Prop} [Decidable p] {P Q : Prop} (h : ¬ p) (h1 : P) : Br (!decide p) P Q := ⟨fun _ => h1, fun e => absurd (of_decide_eq_true (by simpa using e)) h⟩
theorem Br.ndecF {p : Prop} [Decidable p] {P Q : Prop} (h : p) (h1 : Q) : Br (!decide p) P Q := ⟨fun e => absurd h (of_decide_eq_false (by simpa using e)), fun _ => h1⟩
theorem Br.neg {b : Bool} {P Q : Prop} (h : Br b Q P) : Br (!b) P Q := by
  cases b with
  | true => exact ⟨fun e => (nomatch e), fun _ => h.1 rfl⟩
  | false => exact ⟨fun _ => h.2 rfl, fun e => (nomatch e)⟩
def toB (Φ : Bool → Mem → Prop) : D → Mem → Prop := fun d M => ∃ b, d = .bl b ∧ Φ b M
theorem toB.mk {b : Bool} (k : ΦB b M) : toB ΦB (.bl b) M := ⟨b, rfl, k⟩
theorem WT.test {t : TE} (h : WE B t δ M (toB ΦB)) : WT B (tTest t) δ M ΦB := fun κ σ H Q hb R k => h κ σ H _ hb R fun v d M' H' ⟨b, e, q⟩ R' r => by
  subst e; cases r
  exact ⟨b, rfl, k b M' H' q R'⟩
theorem de_cmp {op : CmpOp} {r : R2} (ho : OpR X (compareOp op) r) (hm : behindInMarks op b = false) (h : DE B X a δ M fun x M1 => DE B X b δ M1 fun y M2 => OpD r x y M2 Φ) : DE B X (.Compare a [op] [b] pos) δ M Φ := .of (pe_cmpR ho cE cE hm) (.op h)
theorem dt_cmp {op : CmpOp} {r : R2} (ho : OpR X (compareOp op) r) (hm : behindInMarks op b = false) (h : DE B X a δ M fun x M1 => DE B X b δ M1 fun y M2 => OpD r x y M2 (toB ΦB)) : DT B X (.Compare a [op] [b] pos) δ M ΦB := .of (pt_cmpR ho cE cE hm) (.test (.op h))
/-! comparisons of ints -/
def rLtU : R2 := rI0 fun i j => .bl (decide (i < j))
def rLeU : R2 := rI0 fun i j => .bl (decide (i ≤ j))
def rGtU : R2 := rI0 fun i j => .bl (decide (j < i))
def rGeU : R2 := rI0 fun i j => .bl (decide (j ≤ i))
theorem od_lt {i j : Int} (k : Φ (.bl (decide (i < j))) M) : OpD rLtU (.int i) (.int j) M Φ := od_I0 (gd := fun i j => .bl (decide (i < j))) (fun _ _ => .bl _) k
theorem od_le {i j : Int} (k : Φ (.bl (decide (i ≤ j))) M) : OpD rLeU (.int i) (.int j) M Φ := od_I0 (gd := fun i j => .bl (decide (i ≤ j))) (fun _ _ => .bl _) k
theorem od_gt {i j : Int} (k : Φ (.bl (decide (j < i))) M) : OpD rGtU (.int i) (.int j) M Φ := od_I0 (gd := fun i j => .bl (decide (j < i))) (fun _ _ => .bl _) k
theorem od_ge {i j : Int} (k : Φ (.bl (decide (j ≤ i))) M) : OpD rGeU (.int i) (.int j) M Φ := od_I0 (gd := fun i j => .bl (decide (j ≤ i))) (fun _ _ => .bl _) k
theorem de_lt (h : DE B X a δ M fun x M1 => DE B X b δ M1 fun y M2 => OpD rLtU x y M2 Φ) : DE B X (.Compare a [.Lt] [b] pos) δ M Φ := de_cmp op_lt (nomark _) h
theorem de_le (h : DE B X a δ M fun x M1 => DE B X b δ M1 fun y M2 => OpD rLeU x y M2 Φ) : DE B X (.Compare a [.LtE] [b] pos) δ M Φ := de_cmp op_le (nomark _) h
theorem de_gt (h : DE B X a δ M fun x M1 => DE B X b δ M1 fun y M2 => OpD rGtU x y M2 Φ) : DE B X (.Compare a [.Gt] [b] pos) δ M Φ := de_cmp op_gt (nomark _) h
theorem de_ge (h : DE B X a δ M fun x M1 => DE B X b δ M1 fun y M2 => OpD rGeU x y M2 Φ) : DE B X (.Compare a [.GtE] [b] pos) δ M Φ := de_cmp op_ge (nomark _) h
theorem dt_lt (h : DE B X a δ M fun x M1 => DE B X b δ M1 fun y M2 => OpD rLtU x y M2 (toB ΦB)) : DT B X (.Compare a [.Lt] [b] pos) δ M ΦB := dt_cmp op_lt (nomark _) h
theorem dt_le (h : DE B X a δ M fun x M1 => DE B X b δ M1 fun y M2 => OpD rLeU x y M2 (toB ΦB)) : DT B X (.Compare a [.LtE] [b] pos) δ M ΦB := dt_cmp op_le (nomark _) h
theorem dt_gt (h : DE B X a δ M fun x M1 => DE B X b δ M1 fun y M2 => OpD rGtU x y M2 (toB ΦB)) : DT B X (.Compare a [.Gt] [b] pos) δ M ΦB := dt_cmp op_gt (nomark _) h
theorem dt_ge (h : DE B X a δ M fun x M1 => DE B X b δ M1 fun y M2 => OpD rGeU x y M2 (toB ΦB)) : DT B X (.Compare a [.GtE] [b] pos) δ M ΦB := dt_cmp op_ge (nomark _) h
/-! == and != -/
def rEqU (K : PySem.W.Frag) : R2 := fun x y H Q => rEq x y H Q ∨ rEqD K x y H Q
def rNeU (K : PySem.W.Frag) : R2 := fun x y H Q => rNe x y H Q ∨ rNeD K x y H Q
theorem un64 {k : Nat} (z : Cz X k) : X.A.units + 64 < cLine := by have := z.room.un; omega
theorem un1 {k : Nat} (z : Cz X k) : X.A.units + 1 < cLine := by have := z.room.un; omega
theorem de_eq {k : Nat} (z : Cz X k) (h : DE B X a δ M fun x M1 => DE B X b δ M1 fun y M2 => OpD (rEqU X.K) x y M2 Φ) : DE B X (.Compare a [.Eq] [b] pos) δ M Φ := de_cmp (op_eq.or (op_eqD (un64 z))) (nomark _) h
theorem de_ne {k : Nat} (z : Cz X k) (h : DE B X a δ M fun x M1 => DE B X b δ M1 fun y M2 => OpD (rNeU X.K) x y M2 Φ) : DE B X (.Compare a [.NotEq] [b] pos) δ M Φ := de_cmp (op_ne.or (op_neD (un64 z))) (nomark _) h
theorem dt_eq {k : Nat} (z : Cz X k) (h : DE B X a δ M fun x M1 => DE B X b δ M1 fun y M2 => OpD (rEqU X.K) x y M2 (toB ΦB)) : DT B X (.Compare a [.Eq] [b] pos) δ M ΦB := dt_cmp (op_eq.or (op_eqD (un64 z))) (nomark _) h
theorem dt_ne {k : Nat} (z : Cz X k) (h : DE B X a δ M fun x M1 => DE B X b δ M1 fun y M2 => OpD (rNeU X.K) x y M2 (toB ΦB)) : DT B X (.Compare a [.NotEq] [b] pos) δ M ΦB := dt_cmp (op_ne.or (op_neD (un64 z))) (nomark _) h
theorem od_eqI {K : PySem.W.Frag} {i j : Int} (k : Φ (.bl (decide (i = j))) M) : OpD (rEqU K) (.int i) (.int j) M Φ := .inl fun κ δ σ H v w Q R rv rw' h => by
  cases rv; cases rw'
  refine ⟨rfl, ?_⟩
  rw [show decide (V.int i = V.int j) = decide (i = j) by simp]
  exact h _ _ M H k R (.bl _)
theorem od_neI {K : PySem.W.Frag} {i j : Int} (k : Φ (.bl (!decide (i = j))) M) : OpD (rNeU K) (.int i) (.int j) M Φ := .inl fun κ δ σ H v w Q R rv rw' h => by
  cases rv; cases rw'
  refine ⟨rfl, ?_⟩
  rw [show decide (V.int i = V.int j) = decide (i = j) by simp]
  exact h _ _ M H k R (.bl _)
theorem od_eqS {K : PySem.W.Frag} {i j : Str} (k : Φ (.bl (decide (i = j))) M) : OpD (rEqU K) (.str i) (.str j) M Φ := .inl fun κ δ σ H v w Q R rv rw' h => by
  cases rv; cases rw'
  refine ⟨rfl, ?_⟩
  rw [show decide (V.str i = V.str j) = decide (i = j) by simp]
  exact h _ _ M H k R (.bl _)
theorem od_neS {K : PySem.W.Frag} {i j : Str} (k : Φ (.bl (!decide (i = j))) M) : OpD (rNeU K) (.str i) (.str j) M Φ := .inl fun κ δ σ H v w Q R rv rw' h => by
  cases rv; cases rw'
  refine ⟨rfl, ?_⟩
  rw [show decide (V.str i = V.str j) = decide (i = j) by simp]
  exact h _ _ M H k R (.bl _)
theorem od_eqB {K : PySem.W.Frag} {i j : Bool} (k : Φ (.bl (decide (i = j))) M) : OpD (rEqU K) (.bl i) (.bl j) M Φ := .inl fun κ δ σ H v w Q R rv rw' h => by
  cases rv; cases rw'
  refine ⟨rfl, ?_⟩
  rw [show decide (V.bl i = V.bl j) = decide (i = j) by simp]
  exact h _ _ M H k R (.bl _)
/-! is None -/
def isN : D → Bool
  | .non => true
  | .raw v => decide (v = .non)
  | _ => false
def rIsNU : R2 := fun x y H Q => y = .non ∧ Q (.bl (decide (x = .non))) H
def rNotNU : R2 := fun x y H Q => y = .non ∧ Q (.bl (!decide (x = .non))) H
theorem rep_isN {F : List Addr} {H : Hp} {v : V} {x : D} (r : Rep F H v x) : decide (v = .non) = isN x := by cases r <;> simp [isN]
theorem od_isN {x : D} (k : Φ (.bl (isN x)) M) : OpD rIsNU x .non M Φ := fun κ δ σ H v w Q R rv rw' h => by
  cases rw'
  refine ⟨rfl, ?_⟩
  rw [rep_isN rv]
  exact h _ _ M H k R (.bl _)
theorem od_notN {x : D} (k : Φ (.bl (!isN x)) M) : OpD rNotNU x .non M Φ := fun κ δ σ H v w Q R rv rw' h => by
  cases rw'
  refine ⟨rfl, ?_⟩
  rw [rep_isN rv]
  exact h _ _ M H k R (.bl _)
theorem de_is (h : DE B X a δ M fun x M1 => DE B X b δ M1 fun y M2 => OpD rIsNU x y M2 Φ) : DE B X (.Compare a [.Is] [b] pos) δ M Φ := de_cmp op_isN (nomark _) h
theorem de_isnot (h : DE B X a δ M fun x M1 => DE B X b δ M1 fun y M2 => OpD rNotNU x y M2 Φ) : DE B X (.Compare a [.IsNot] [b] pos) δ M Φ := de_cmp op_notN (nomark _) h
theorem dt_is (h : DE B X a δ M fun x M1 => DE B X b δ M1 fun y M2 => OpD rIsNU x y M2 (toB ΦB)) : DT B X (.Compare a [.Is] [b] pos) δ M ΦB := dt_cmp op_isN (nomark _) h
theorem dt_isnot (h : DE B X a δ M fun x M1 => DE B X b δ M1 fun y M2 => OpD rNotNU x y M2 (toB ΦB)) : DT B X (.Compare a [.IsNot] [b] pos) δ M ΦB := dt_cmp op_notN (nomark _) h
/-! tests -/
theorem dt_not (h : DT B X a δ M fun b M1 => ΦB (!b) M1) : DT B X (.UnaryOp .Not a pos) δ M ΦB := .of (pt_not cT) fun κ σ H Q hb R k => h κ σ H _ hb R fun b M1 H1 q R1 => k _ _ _ q R1
theorem dw_and1 (h : DT B X a δ M ΦB) : DW B X (.BoolOp .And [a] pos) δ M ΦB := .of (pw_and1 cT) h
theorem dw_or1 (h : DT B X a δ M ΦB) : DW B X (.BoolOp .Or [a] pos) δ M ΦB := .of (pw_or1 cT) h
theorem dw_and (h : DT B X a δ M fun t M1 => Br t (DW B X (.BoolOp .And (b :: rest) pos) δ M1 ΦB) (ΦB false M1)) : DW B X (.BoolOp .And (a :: b :: rest) pos) δ M ΦB := .of (pw_and cT cW) fun κ σ H Q hb R k => h κ σ H _ hb R fun t M1 H1 q R1 =>
  Br.ite ⟨fun e => q.1 e κ σ H1 Q hb R1 k, fun e => k _ _ _ (q.2 e) R1⟩
theorem dw_or (h : DT B X a δ M fun t M1 => Br t (ΦB true M1) (DW B X (.BoolOp .Or (b :: rest) pos) δ M1 ΦB)) : DW B X (.BoolOp .Or (a :: b :: rest) pos) δ M ΦB := .of (pw_or cT cW) fun κ σ H Q hb R k => h κ σ H _ hb R fun t M1 H1 q R1 =>
  Br.ite ⟨fun e => k _ _ _ (q.1 e) R1, fun e => q.2 e κ σ H1 Q hb R1 k⟩
theorem dt_and (h : DW B X (.BoolOp .And es pos) δ M ΦB) : DT B X (.BoolOp .And es pos) δ M ΦB := .w h
theorem dt_or (h : DW B X (.BoolOp .Or es pos) δ M ΦB) : DT B X (.BoolOp .Or es pos) δ M ΦB := .w h
/-- a truth that stands as a value -/
theorem dt_val (h : DE B X e δ M (toB ΦB)) (he : ∀ whole, isTrue e X.env whole = (do let v ← whole; standAt e.pos; holding [v] (truthy v)) := by intro _; rfl) : DT B X e δ M ΦB := .of (pt_val cE he) fun κ σ H Q hb R k => h κ σ H _ hb R fun v d M' H' ⟨b, e, q⟩ R' r => by
  subst e; cases r
  exact ⟨b, rfl, k b M' H' q R'⟩
/-! and, or, not as values -/
theorem de_one {op} (h : DE B X a δ M Φ) : DE B X (.BoolOp op [a] pos) δ M Φ := .of (pe_one cE) h
theorem de_and (h : DE B X a δ M (toB fun t M1 => Br t (DE B X (.BoolOp .And (b :: rest) pos) δ M1 Φ) (Φ (.bl false) M1))) : DE B X (.BoolOp .And (a :: b :: rest) pos) δ M Φ := .of (pe_and cE cE) fun κ σ H Q hb R k => h κ σ H _ hb R fun v d M1 H1 ⟨t, e, q⟩ R1 r => by
  subst e; cases r
  exact ⟨t, rfl, Br.ite ⟨fun e => q.1 e κ σ H1 Q hb R1 k, fun e => k _ _ _ _ (q.2 e) R1 (.bl _)⟩⟩
theorem de_or (h : DE B X a δ M (toB fun t M1 => Br t (Φ (.bl true) M1) (DE B X (.BoolOp .Or (b :: rest) pos) δ M1 Φ))) : DE B X (.BoolOp .Or (a :: b :: rest) pos) δ M Φ := .of (pe_or cE cE) fun κ σ H Q hb R k => h κ σ H _ hb R fun v d M1 H1 ⟨t, e, q⟩ R1 r => by
  subst e; cases r
  exact ⟨t, rfl, Br.ite ⟨fun e => k _ _ _ _ (q.1 e) R1 (.bl _), fun e => q.2 e κ σ H1 Q hb R1 k⟩⟩
theorem de_not (h : DE B X a δ M (toB fun t M1 => Φ (.bl (!t)) M1)) : DE B X (.UnaryOp .Not a pos) δ M Φ := .of (pe_not cE) fun κ σ H Q hb R k => h κ σ H _ hb R fun v d M1 H1 ⟨t, e, q⟩ R1 r => by
  subst e; cases r
  exact ⟨t, rfl, k _ _ _ _ q R1 (.bl _)⟩
theorem de_if (h : DT B X c δ M fun t M1 => Br t (DE B X a δ M1 Φ) (DE B X b δ M1 Φ)) : DE B X (.IfExp c a b pos) δ M Φ := .of (pe_ifExp cT cE cE) fun κ σ H Q hb R k => h κ σ H _ hb R fun t M1 H1 q R1 =>
  Br.ite ⟨fun e => q.1 e κ σ H1 Q hb R1 k, fun e => q.2 e κ σ H1 Q hb R1 k⟩
/-! arguments, displays -/
variable {ΦL : List D → Mem → Prop}
theorem da_nil (k : ΦL [] M) : DA B X [] δ M ΦL := .of pa_nil fun κ σ H Q hb R h => h _ _ M H k R .nil
theorem da_cons (h : DE B X a δ M fun x M1 => DA B X es δ M1 fun xs M2 => ΦL (x :: xs) M2) (hs : starEach (a :: es) X.env = (false, eval a X.env) :: starEach es X.env := by rfl) : DA B X (a :: es) δ M ΦL := .of (pa_cons cE cA hs) fun κ σ H Q hb R k =>
  h κ σ H _ hb R fun v x M1 H1 q1 R1 r1 => q1 ((v, x) :: κ) σ H1 _ (fun q hq => List.mem_cons_of_mem _ (hb q hq)) (R1.push r1) fun vs xs M2 H2 q2 R2 r2 => k _ _ _ _ q2 R2.pop (.cons R2.top r2)
theorem de_tup {x1} (h : DA B X es δ M fun xs M1 => xs.length ≤ sizeLine ∧ Φ (.tup xs) M1) : DE B X (.Tuple es x1 pos) δ M Φ := .of (pe_tup cA) fun κ σ H Q hb R k => h κ σ H _ hb R fun vs xs M1 H1 ⟨hl, q⟩ R1 r1 =>
  ⟨by rw [r1.length]; exact hl, fun p hp => let ⟨R2, r2⟩ := R1.tupV r1 hp; k _ _ _ _ q R2 r2⟩
theorem df_lst (h : DA B X es δ M fun xs M1 => xs.length ≤ sizeLine ∧ ΦL xs M1) : DF B X (.List es pos) δ M ΦL := .of (pe_lst cA) fun κ σ H Q hb R k => h κ σ H _ hb R fun vs xs M1 H1 ⟨hl, q⟩ R1 r1 =>
  ⟨by rw [r1.length]; exact hl, fun p hp => k p xs M1 _ q (R1.lst r1 hp)⟩
theorem DE.f (h : DF B X e δ M fun ds M' => Φ (.lst ds) M') : DE B X e δ M Φ := WE.ofF h
theorem de_lst (h : DA B X es δ M fun xs M1 => xs.length ≤ sizeLine ∧ Φ (.lst xs) M1) : DE B X (.List es pos) δ M Φ := .f (df_lst h)
/-! subscripts -/
theorem ixN_nat {n i : Nat} (h : i < n) : atI (List.replicate n ()) (i : Int) = some () := atI_nat (by simp [h])
def rDG : R2 := fun x y H Q => ∃ a v, x = .ref a ∧ DGet H a y (some v) ∧ Q v H
open PyProof.Rows in
theorem ix_dict (hu : X.A.units + 1 < cLine) : IxR X rDG := by
  intro value slice pins s σ H x y v u Q I rx ry h hs
  obtain ⟨a, w, rfl, g, q⟩ := h
  obtain rfl : v = Value.ref a := rx
  exact tail_any (dict_typeIs I g) PySem.F.slot_dict_getitem.lookup (d_getItem hu I g ry fun w' s' I' rw' => ⟨w, H, I', rw', q⟩) hs
def rIxU (K : PySem.W.Frag) : R2 := fun x y H Q => rIx K x y H Q ∨ rDG x y H Q
theorem de_ix {n : Nat} (z : Cz X n) (h : DE B X a δ M fun x M1 => DE B X b δ M1 fun y M2 => OpD (rIxU X.K) x y M2 Φ) (hs : PlainIx b := by intro _ _; rfl) : DE B X (.Subscript a b pos) δ M Φ := .of (pe_ix (ix_seq.or (ix_dict (un1 z))) cE cE hs) (.op h)
theorem at_rep {F : List Addr} {H : Hp} {vs : List V} {ds : List D} {i : Int} {d : D} (r : Reps F H vs ds) (h : atI ds i = some d) : ∃ v, atI vs i = some v ∧ Rep F H v d := by
  unfold atI at h ⊢
  rw [← r.length] at h
  cases e : ixN vs.length i with
  | none => rw [e] at h; cases h
  | some j =>
    rw [e] at h
    obtain ⟨v, e1, r1⟩ := r.get' (i := j) h
    exact ⟨v, e1, r1⟩
theorem od_ixL {K : PySem.W.Frag} {ds : List D} {i : Int} {d : D} (h : atI ds i = some d) (k : Φ d M) : OpD (rIxU K) (.lst ds) (.int i) M Φ := .inl fun κ δ σ H v w Q R rv rw' f => by
  cases rw'
  cases rv with
  | lst h1 e1 r1 =>
    obtain ⟨u, e2, r2⟩ := at_rep r1 h
    exact .inl ⟨_, _, i, u, rfl, rfl, SqL.of e1, e2, f _ _ M H k R r2⟩
theorem od_ixT {K : PySem.W.Frag} {ds : List D} {i : Int} {d : D} (h : atI ds i = some d) (k : Φ d M) : OpD (rIxU K) (.tup ds) (.int i) M Φ := .inl fun κ δ σ H v w Q R rv rw' f => by
  cases rw'
  cases rv with
  | tup h1 e1 r1 =>
    obtain ⟨u, e2, r2⟩ := at_rep r1 h
    exact .inr (.inl ⟨_, _, i, u, rfl, rfl, SqT.of e1, e2, f _ _ M H k R r2⟩)
theorem od_ixS {K : PySem.W.Frag} {z : Str} {i : Int} {c : Nat} (hl : z.length ≤ sizeLine) (h : atI z.cps.toList i = some c) (k : Φ (.str ⟨#[c]⟩) M) : OpD (rIxU K) (.str z) (.int i) M Φ := .inl fun κ δ σ H v w Q R rv rw' f => by
  cases rw'
  cases rv
  exact .inr (.inr ⟨z, i, c, rfl, rfl, hl, h, f _ _ M H k R (.str _)⟩)
/-- a list that is a cell -/
theorem od_ixC {K : PySem.W.Frag} {ds : List D} {i : Int} {d : D} {p : Addr} {j : Nat} (hm : M[j]? = some (p, .lst ds)) (h : atI ds i = some d) (k : Φ d M) : OpD (rIxU K) (.raw (.ref p)) (.int i) M Φ := .inl fun κ δ σ H v w Q R rv rw' f => by
  cases rw'
  cases rv
  obtain ⟨vs, e1, r1⟩ := R.at hm
  obtain ⟨u, e2, r2⟩ := at_rep r1 h
  exact .inl ⟨_, _, i, u, rfl, rfl, SqL.of e1, e2, f _ _ M H k R r2⟩
/-! dicts that are cells -/
def kD : Key → D
  | .inl i => .int i
  | .inr x => .str x
theorem rep_k {F : List Addr} {H : Hp} {v : V} {k : Key} (r : Rep F H v (kD k)) : v = kV k := by
  cases k with
  | inl i => cases (show Rep F H v (.int i) from r); rfl
  | inr x => cases (show Rep F H v (.str x) from r); rfl
def lookD (kvs : List (Key × D)) (k : Key) : Option D := (kvs.find? fun kv => decide (kv.1 = k)).map (·.2)
theorem look_rep {F : List Addr} {H : Hp} {k : Key} : ∀ {ws : List (Key × V)} {kvs : List (Key × D)}, ws.map (·.1) = kvs.map (·.1) → Reps F H (ws.map (·.2)) (kvs.map (·.2)) → ∀ {d : D}, lookD kvs k = some d → ∃ v, valV ws k = some v ∧ Rep F H v d
  | [], [], _, _, d, e => by cases e
  | [], _ :: _, h, _, _, _ => by cases h
  | _ :: _, [], h, _, _, _ => by cases h
  | (k1, v) :: ws, (k2, d') :: kvs, h, r, d, e => by
    have h1 : k1 = k2 := (List.cons.inj h).1
    have h2 : ws.map (·.1) = kvs.map (·.1) := (List.cons.inj h).2
    subst h1
    cases r with
    | cons r1 r2 =>
      unfold lookD at e
      unfold valV
      by_cases hk : k1 = k
      · rw [List.find?_cons_of_pos (by simpa using hk)] at e ⊢
        cases e
        exact ⟨v, rfl, r1⟩
      · rw [List.find?_cons_of_neg (by simpa using hk)] at e ⊢
        exact look_rep h2 r2 e
theorem od_ixD {K : PySem.W.Frag} {kvs : List (Key × D)} {k : Key} {y d : D} {p : Addr} (j : Nat) (hm : M[j]? = some (p, .dct kvs)) (hk : y = kD k) (h : lookD kvs k = some d) (q : Φ d M) : OpD (rIxU K) (.raw (.ref p)) y M Φ := .inr fun κ δ σ H v w Q R rv rw' f => by
  subst hk
  have := rep_k rw'
  subst this
  cases rv
  obtain ⟨ws, e1, e2, r⟩ := R.at hm
  obtain ⟨u, e3, r3⟩ := look_rep e2 r h
  exact ⟨p, u, rfl, .inl ⟨ws, k, .inl e1, rfl, e3.symm⟩, f _ _ M H q R r3⟩
end
end Hl
namespace Hl
open PySem L2
/-! ### statements -/
section
variable {B : Bx} {X : Cx} {e a b c : Expr} {es rest : List Expr} {st : Stmt} {sts : List Stmt} {δ δ' : Env'} {M : Mem} {Φ : D → Mem → Prop} {Ψ : DEnds} {te ta tb : TE} {tt : TT} {pos pos' : Pos} {d x y : D} {ΦB : Bool → Mem → Prop} {ΦL : List D → Mem → Prop}
theorem ds_nil (k : Ψ.nx δ M) : DSs B X [] δ M Ψ := .of pss_nil fun κ σ H E hb R h => h.nx δ M σ H k R
theorem ds_cons (h : DS B X st δ M { Ψ with nx := fun δ' M' => DSs B X sts δ' M' Ψ }) : DSs B X (st :: sts) δ M Ψ := .of (pss_cons cS cSs) fun κ σ H E hb R k =>
  h κ σ H _ hb R ⟨fun δ' M' σ' H' q R' => q κ σ' H' E hb R' k, k.rt, k.bk, k.ct⟩
theorem ds_one (h : DS B X st δ M Ψ) : DSs B X [st] δ M Ψ := .of (pss_one cS) h
theorem ds_pass (k : Ψ.nx δ M) : DS B X (.Pass pos) δ M Ψ := .of ps_pass fun κ σ H E hb R h => h.nx δ M σ H k R
theorem ds_break (k : Ψ.bk δ M) : DS B X (.Break pos) δ M Ψ := .of ps_break fun κ σ H E hb R h => h.bk δ M σ H k R
theorem ds_continue (k : Ψ.ct δ M) : DS B X (.Continue pos) δ M Ψ := .of ps_continue fun κ σ H E hb R h => h.ct δ M σ H k R
theorem ds_ret (h : DE B X e δ M Ψ.rt) : DS B X (.Return (some e) pos) δ M Ψ := .of (ps_ret cE) fun κ σ H E hb R k => h κ σ H _ hb R fun v d M' H' q R' r => k.rt v d M' δ σ H' q R' r
theorem ds_retF (h : DF B X e δ M fun ds M' => Ψ.rt (.lst ds) M') : DS B X (.Return (some e) pos) δ M Ψ := ds_ret (.f h)
theorem ds_retN (k : Ψ.rt .non M) : DS B X (.Return none pos) δ M Ψ := .of ps_retN fun κ σ H E hb R h => h.rt .non .non M δ σ H k R .non
theorem ds_if {s1 s2 : List Stmt} (h : DT B X c δ M fun t M1 => Br t (DSs B X s1 δ M1 Ψ) (DSs B X s2 δ M1 Ψ)) : DS B X (.If c s1 s2 pos) δ M Ψ := .of (ps_if cT cSs cSs) fun κ σ H E hb R k => h κ σ H _ hb R fun t M1 H1 q R1 =>
  Br.ite ⟨fun e => q.1 e κ σ H1 E hb R1 k, fun e => q.2 e κ σ H1 E hb R1 k⟩
theorem ds_expr (h : DE B X e δ M fun _ M' => Ψ.nx δ M') (hs : swapsWith e none pos.line X.env = pure false := by rfl) : DS B X (.Expr e pos) δ M Ψ := .of (ps_expr cE hs) fun κ σ H E hb R k => h κ σ H _ hb R fun v d M' H' q R' r => k.nx _ _ _ _ q R'
/-- slot i holds d from now on -/
@[irreducible] def Sets (δ : Env') (i : Nat) (d : D) (P : Env' → Prop) : Prop := P (δ.set i (some d))
theorem Sets.get {i : Nat} {P : Env' → Prop} (h : Sets δ i d P) : P (δ.set i (some d)) := by unfold Sets at h; exact h
theorem Sets.of {i : Nat} {P : Env' → Prop} (h : P (δ.set i (some d))) : Sets δ i d P := by unfold Sets; exact h
/-- x = e -/
theorem ds_set {i : Nat} {x : Str} {n : Nat} (z : Cz X n) (l : Lo X i x) (h : DE B X e δ M fun d M' => Sets δ i d fun δ' => Ψ.nx δ' M') (hs : swapsWith e (some (.Name x pos')) pos.line X.env = pure false := by rfl) : DS B X (.Assign [.Name x pos'] e pos) δ M Ψ :=
  .of (ps_set z.nd l.at_ l.loc cE hs l.fn) fun κ σ H E hb R k => h κ σ H _ hb R fun v d M' H' q R' r => k.nx _ _ _ _ q.get (R'.put i r)
/-- x = a new list, that will change: a cell at place k -/
theorem ds_own {i : Nat} {x : Str} {n : Nat} (k : Nat) (z : Cz X n) (l : Lo X i x) (h : DF B X e δ M fun ds M' => ∀ p : Addr, Sets δ i (.raw (.ref p)) fun δ' => Ψ.nx δ' (insM k (p, .lst ds) M')) (hs : swapsWith e (some (.Name x pos')) pos.line X.env = pure false := by rfl) : DS B X (.Assign [.Name x pos'] e pos) δ M Ψ :=
  .of (ps_set z.nd l.at_ l.loc cE hs l.fn) fun κ σ H E hb R k => h κ σ H _ hb R fun p ds M' H' q R' => k.nx _ _ _ _ (q p).get ((R'.perm insM_perm).put i (.raw _))
/-- targets -/
theorem dg_name {i : Nat} {x : Str} {n : Nat} (z : Cz X n) (l : Lo X i x) {Φ : Env' → Mem → Prop} (k : Sets δ i d fun δ' => Φ δ' M) : DG B X (.Name x pos) d δ M Φ :=
  .of (pg_name z.nd l.at_ l.loc l.fn) fun κ σ H v Q hb R r h => h _ _ _ _ k.get (R.put i r)
theorem dgs_nil {Φ : Env' → Mem → Prop} (k : Φ δ M) : DGs B X [] [] δ M Φ := .of pgs_nil fun κ σ H vs Q hb R r h => by
  cases r
  exact ⟨rfl, h _ _ _ _ k R⟩
theorem dgs_cons {ds : List D} {Φ : Env' → Mem → Prop} (h : DG B X a d δ M fun δ' M' => DGs B X es ds δ' M' Φ) (hs : (assignEach (a :: es) X.env).map (·.2) = assign a X.env :: (assignEach es X.env).map (·.2) := by rfl) : DGs B X (a :: es) (d :: ds) δ M Φ :=
  .of (pgs_cons cG cGs hs) fun κ σ H vs Q hb R r k => by
    cases r with
    | cons r1 r2 =>
      rename_i v vs
      refine ⟨v, vs, rfl, ?_⟩
      -- the further values are held meanwhile
      have held : ∀ {κ : List (V × D)} {vs : List V} {ds : List D} {δ : Env'} {M : Mem} {σ : St} {H : Hp}, Reps M.F H vs ds → Rs κ δ M σ H → ∃ κ', (∀ q ∈ κ, q ∈ κ') ∧ Rs κ' δ M σ H ∧ ∀ {δ' : Env'} {M' : Mem} {σ' : St} {H' : Hp}, Rs κ' δ' M' σ' H' → Reps M'.F H' vs ds := by
        intro κ vs
        induction vs with
        | nil => intro ds δ M σ H r R; cases r; exact ⟨κ, fun _ h => h, R, fun _ => .nil⟩
        | cons v vs ih =>
          intro ds δ M σ H r R
          cases r with
          | cons r1 r2 =>
            obtain ⟨κ', h1, R', h2⟩ := ih r2 R
            rename_i d ds
            exact ⟨(v, d) :: κ', fun q hq => List.mem_cons_of_mem _ (h1 q hq), R'.push r1, fun R => .cons R.top (h2 R.pop)⟩
      obtain ⟨κ', hk, R', hr⟩ := held r2 R
      exact h κ' σ H v _ (fun q hq => hk q (hb q hq)) R' r1 fun δ' M' σ' H' q R2 => q κ σ' H' vs Q hb (R2.sub hk) (hr R2) k
theorem dg_tup {ds : List D} {kk : Nat} {m : Nat} {n : Nat} {Φ : Env' → Mem → Prop} (z : Cz X n) (hl : ds.length = m) (h : DGs B X es ds δ M Φ) (hn : (assignEach es X.env).length = m := by rfl) (hst : (assignEach es X.env).findIdx? (·.1) = none := by rfl) : DG B X (.Tuple es kk pos) (.tup ds) δ M Φ :=
  .of (pg_tup z.calm cGs hn hst) fun κ σ H v Q hb R r k => by
    cases r with
    | tup h1 e1 r1 => exact ⟨_, _, rfl, SqT.of e1, by rw [r1.length]; exact hl, h κ σ H _ Q hb R r1 k⟩
theorem ds_asg {tg : Expr} (h : DE B X e δ M fun d M' => DG B X tg d δ M' Ψ.nx) (hs : swapsWithSole [tg] e pos.line X.env = pure false := by rfl) (hw : swappedStores [tg] e X.env = pure none := by rfl) (h1 : (assignEach [tg] X.env).map (·.2) = [assign tg X.env] := by rfl) : DS B X (.Assign [tg] e pos) δ M Ψ :=
  .of (ps_asg cE cG hs hw h1) fun κ σ H E hb R k => h κ σ H _ hb R fun v d M' H' q R' r => q κ σ H' v _ hb R' r fun δ' M2 σ' H2 q2 R2 => k.nx _ _ _ _ q2 R2
/-- x op= e -/
theorem ds_aug {i : Nat} {x : Str} {n : Nat} {op : Operator} {r : TIp} (z : Cz X n) (l : Lo X i x) (ho : PIp X op r) (hd : δ[i]? = some (some d)) (h : DE B X e δ M fun y M' => OpD r d y M' fun v M2 => Sets δ i v fun δ' => Ψ.nx δ' M2) : DS B X (.AugAssign (.Name x pos') op e pos) δ M Ψ :=
  .of (ps_aug z.nd l.at_ l.loc cE ho l.fn) fun κ σ H E hb R k => by
    obtain ⟨v, e1, r1⟩ := R.get hd
    refine ⟨v, e1, h ((v, d) :: κ) σ H _ (fun q hq => List.mem_cons_of_mem _ (hb q hq)) (R.push r1) fun w y M' H' q R' r' => ?_⟩
    exact q κ δ σ H' v w _ R'.pop R'.top r' fun u du M2 H2 q2 R2 r2 => k.nx _ _ _ _ q2.get (R2.put i r2)
def rAddI : TIp := fun x y H Q => (rI0 fun i j => .int (i + j)) x y H Q ∨ rAddS x y H Q
theorem ip_add : PIp X .Add rAddI := (iop_add (X := X)).or (iop_add_str (X := X))
theorem oi_addI {i j : Int} (k : Φ (.int (i + j)) M) : OpD rAddI (.int i) (.int j) M Φ := (od_I0 (gd := fun i j => .int (i + j)) (fun _ _ => .int _) k).inl
theorem oi_addS {i j : Str} (hl : i.length + j.length ≤ sizeLine) (k : Φ (.str (i ++ j)) M) : OpD rAddI (.str i) (.str j) M Φ := .inr fun κ δ σ H v w Q R rv rw' h => by
  cases rv; cases rw'
  exact ⟨i, j, rfl, rfl, hl, h _ _ M H k R (.str _)⟩
theorem ip_sub : PIp X .Sub rSubU := iop_sub
theorem ds_augAdd {i : Nat} {x : Str} {n : Nat} (z : Cz X n) (l : Lo X i x) (hd : δ[i]? = some (some d)) (h : DE B X e δ M fun y M' => OpD rAddI d y M' fun v M2 => Sets δ i v fun δ' => Ψ.nx δ' M2) : DS B X (.AugAssign (.Name x pos') .Add e pos) δ M Ψ := ds_aug z l ip_add hd h
theorem ds_augSub {i : Nat} {x : Str} {n : Nat} (z : Cz X n) (l : Lo X i x) (hd : δ[i]? = some (some d)) (h : DE B X e δ M fun y M' => OpD rSubU d y M' fun v M2 => Sets δ i v fun δ' => Ψ.nx δ' M2) : DS B X (.AugAssign (.Name x pos') .Sub e pos) δ M Ψ := ds_aug z l ip_sub hd h
/-! ### what is walked -/
structure WalkD (κ : List (V × D)) (xs : List D) (J : It) : Prop where
  goes : ∀ i δ M σ H, i < xs.length → Rs κ δ M σ H → J.go i H
  stops : ∀ δ M σ H, Rs κ δ M σ H → J.stop xs.length H
  yields : ∀ i δ M σ H x H', i < xs.length → Rs κ δ M σ H → J.yld i H x H' → ∃ d, xs[i]? = some d ∧ Rs κ δ M σ H' ∧ Rep M.F H' x d
def WI (B : Bx) (wi : TI) (δ : Env') (M : Mem) (Φ : List D → Mem → Prop) : Prop := ∀ κ σ H R, (∀ q ∈ B.ps, q ∈ κ) → Rs κ δ M σ H → (∀ xs M' H' J κ', Φ xs M' → (∀ q ∈ κ, q ∈ κ') → Rs κ' δ M' σ H' → WalkD κ' xs J → R J H') → wi σ H R
def DI (B : Bx) (X : Cx) (tg iter : Expr) (δ : Env') (M : Mem) (Φ : List D → Mem → Prop) : Prop := ∃ wi, PI X tg iter wi ∧ WI B wi δ M Φ
theorem lt_some {α : Type} {l : List α} {i : Nat} (h : i < l.length) : ∃ x, l[i]? = some x := ⟨l[i], by simp [h]⟩
theorem wd_list {κ : List (V × D)} {a : Addr} {ds : List D} {K : PySem.W.Frag} : WalkD ((.ref a, .lst ds) :: κ) ds (Itl K a) where
  goes := fun i δ M σ H hi R => by
    cases R.top with
    | lst hn e r =>
      obtain ⟨d, hd⟩ := lt_some hi
      obtain ⟨v, hv, _⟩ := r.get' hd
      exact ⟨_, v, SqL.of e, hv⟩
  stops := fun δ M σ H R => by
    cases R.top with
    | lst hn e r => exact ⟨_, SqL.of e, by rw [r.length]; exact Nat.le_refl _⟩
  yields := fun i δ M σ H x H' hi R y => by
    obtain ⟨rfl, y⟩ := y
    cases R.top with
    | lst hn e r =>
      obtain ⟨d, hd, rd⟩ := r.get (y _ (SqL.of e))
      exact ⟨d, hd, R, rd⟩
theorem wd_tup {κ : List (V × D)} {a : Addr} {ds : List D} {K : PySem.W.Frag} : WalkD ((.ref a, .tup ds) :: κ) ds (Itt K a) where
  goes := fun i δ M σ H hi R => by
    cases R.top with
    | tup hn e r =>
      obtain ⟨d, hd⟩ := lt_some hi
      obtain ⟨v, hv, _⟩ := r.get' hd
      exact ⟨_, v, SqT.of e, hv⟩
  stops := fun δ M σ H R => by
    cases R.top with
    | tup hn e r => exact ⟨_, SqT.of e, by rw [r.length]; exact Nat.le_refl _⟩
  yields := fun i δ M σ H x H' hi R y => by
    obtain ⟨rfl, y⟩ := y
    cases R.top with
    | tup hn e r =>
      obtain ⟨d, hd, rd⟩ := r.get (y _ (SqT.of e))
      exact ⟨d, hd, R, rd⟩
theorem wd_range {κ : List (V × D)} {lo : Int} {n : Nat} : WalkD κ ((List.range n).map fun i => .int (lo + (i : Nat))) (Itr lo n) where
  goes := fun i δ M σ H hi R => by show i < n; simpa using hi
  stops := fun δ M σ H R => by show n ≤ _; simp
  yields := fun i δ M σ H x H' hi R y => by
    obtain ⟨rfl, rfl⟩ := y
    have hi : i < n := by simpa using hi
    exact ⟨.int (lo + (i : Nat)), by simp [hi], R, .int _⟩
theorem wd_str {κ : List (V × D)} {z : Str} : WalkD κ (z.cps.toList.map fun c => .str ⟨#[c]⟩) (Its z) where
  goes := fun i δ M σ H hi R => by show i < z.cps.size; simpa using hi
  stops := fun δ M σ H R => by show z.cps.size ≤ _; simp
  yields := fun i δ M σ H x H' hi R y => by
    obtain ⟨rfl, c, hc, rfl⟩ := y
    exact ⟨.str ⟨#[c]⟩, by simp [hc], R, .str _⟩
def enumD (ds : List D) : List D := (List.range ds.length).map fun i => .tup [.int (i : Nat), ds.getD i .non]
theorem wd_enum {κ : List (V × D)} {a : Addr} {ds : List D} {K : PySem.W.Frag} : WalkD ((.ref a, .lst ds) :: κ) (enumD ds) (Ite K a) where
  goes := fun i δ M σ H hi R => by
    cases R.top with
    | lst hn e r =>
      have hi : i < ds.length := by simpa [enumD] using hi
      exact (walk_enum (K := K) (a := a)).goes i H (by rw [r.length]; exact hi) (SqL.of e)
  stops := fun δ M σ H R => by
    cases R.top with
    | lst hn e r =>
      have := (walk_enum (K := K) (a := a)).stops H (SqL.of e)
      rw [r.length] at this
      simpa [enumD] using this
  yields := fun i δ M σ H x H' hi R y => by
    cases R.top with
    | lst hn e r =>
      have hi : i < ds.length := by simpa [enumD] using hi
      obtain ⟨T, v1, v2, rfl, hT, rfl, e1, e2⟩ := (walk_enum (K := K) (a := a)).yields i H x H' (by rw [r.length]; exact hi) (SqL.of e) y
      cases e1
      obtain ⟨d, hd, rd⟩ := r.get e2
      refine ⟨.tup [.int (i : Nat), d], by simp [enumD, hi, (List.getElem?_eq_some_iff.mp hd).2], ?_⟩
      obtain ⟨R1, r1⟩ := R.tupV (p := T) (vs := [.int (i : Nat), v2]) (ds := [.int (i : Nat), d]) (.cons (.int _) (.cons rd .nil)) hT
      exact ⟨R1, r1⟩
variable {tg iter : Expr}
theorem di_list (h : DE B X iter δ M fun d M' => ∃ ds, d = .lst ds ∧ ΦL ds M') : DI B X tg iter δ M ΦL := ⟨_, pi_list cE, fun κ σ H R hb Rr k => h κ σ H _ hb Rr fun v d M1 H1 ⟨ds, ed, q⟩ R1 r1 => by
  subst ed
  cases r1 with
  | lst hn e1 r1 => exact ⟨_, rfl, ⟨_, SqL.of e1⟩, k ds M1 H1 _ _ q (fun q hq => List.mem_cons_of_mem _ hq) (R1.push (.lst hn e1 r1)) wd_list⟩⟩
theorem di_tup (h : DE B X iter δ M fun d M' => ∃ ds, d = .tup ds ∧ ΦL ds M') : DI B X tg iter δ M ΦL := ⟨_, pi_tup cE, fun κ σ H R hb Rr k => h κ σ H _ hb Rr fun v d M1 H1 ⟨ds, ed, q⟩ R1 r1 => by
  subst ed
  cases r1 with
  | tup hn e1 r1 => exact ⟨_, rfl, ⟨_, SqT.of e1⟩, k ds M1 H1 _ _ q (fun q hq => List.mem_cons_of_mem _ hq) (R1.push (.tup hn e1 r1)) wd_tup⟩⟩
theorem di_str (h : DE B X iter δ M fun d M' => ∃ z, d = .str z ∧ ΦL (z.cps.toList.map fun c => .str ⟨#[c]⟩) M') : DI B X tg iter δ M ΦL := ⟨_, pi_str cE, fun κ σ H R hb Rr k => h κ σ H _ hb Rr fun v d M1 H1 ⟨z, ed, q⟩ R1 r1 => by
  subst ed
  cases r1
  exact ⟨z, rfl, k _ M1 H1 _ κ q (fun _ h => h) R1 wd_str⟩⟩
def rangeD (lo : Int) (n : Nat) : List D := (List.range n).map fun i => .int (lo + (i : Nat))
theorem di_range1 {p : Pos} (g : Gn X "range") (h : DE B X a δ M fun d M' => ∃ j, d = .int j ∧ -(2 ^ 62) ≤ j ∧ j < 2 ^ 62 ∧ ΦL (rangeD 0 j.toNat) M') (hs : starEach [a] X.env = [(false, eval a X.env)] := by rfl) : DI B X tg (.Call (.Name "range" p) [a] [] pos) δ M ΦL :=
  ⟨_, pi_range1 g.gl g.no (pa_cons cE pa_nil hs) hs, fun κ σ H R hb Rr k => h κ σ H _ hb Rr fun v d M1 H1 ⟨j, ed, h1, h2, q⟩ R1 r1 => by
    subst ed
    cases r1
    exact ⟨j, rfl, h1, h2, k _ M1 H1 _ κ q (fun _ h => h) R1 wd_range⟩⟩
theorem di_range2 {p : Pos} (g : Gn X "range") (h : DE B X a δ M fun x M1 => DE B X b δ M1 fun y M2 => ∃ i j, x = .int i ∧ y = .int j ∧ (-(2 ^ 62) ≤ i ∧ i < 2 ^ 62 ∧ -(2 ^ 62) ≤ j ∧ j < 2 ^ 62) ∧ ΦL (rangeD i (j - i).toNat) M2)
    (hs : starEach [a, b] X.env = [(false, eval a X.env), (false, eval b X.env)] := by rfl) (hs2 : starEach [b] X.env = [(false, eval b X.env)] := by rfl) : DI B X tg (.Call (.Name "range" p) [a, b] [] pos) δ M ΦL :=
  ⟨_, pi_range2 g.gl g.no (pa_cons cE (pa_cons cE pa_nil hs2) (by rw [hs, hs2])) hs hs2, fun κ σ H R hb Rr k => h κ σ H _ hb Rr fun v x M1 H1 q1 R1 r1 =>
    q1 ((v, x) :: κ) σ H1 _ (fun q hq => List.mem_cons_of_mem _ (hb q hq)) (R1.push r1) fun w y M2 H2 ⟨i, j, ex, ey, hh, q⟩ R2 r2 => by
      subst ex ey
      have t := R2.top
      cases t
      cases r2
      exact ⟨i, j, rfl, hh, k _ M2 H2 _ κ q (fun _ h => h) R2.pop wd_range⟩⟩
theorem di_enum {p tpos : Pos} {elts : List Expr} {kk : Nat} (g : Gn X "enumerate") (h : DE B X a δ M fun d M' => ∃ ds, d = .lst ds ∧ ΦL (enumD ds) M') (hs : starEach [a] X.env = [(false, eval a X.env)] := by rfl) : DI B X (.Tuple elts kk tpos) (.Call (.Name "enumerate" p) [a] [] pos) δ M ΦL :=
  ⟨_, pi_enum g.gl g.no (pa_cons cE pa_nil hs) hs, fun κ σ H R hb Rr k => h κ σ H _ hb Rr fun v d M1 H1 ⟨ds, ed, q⟩ R1 r1 => by
    subst ed
    cases r1 with
    | lst hn e1 r1 => exact ⟨_, _, rfl, SqL.of e1, k _ M1 H1 _ _ q (fun q hq => List.mem_cons_of_mem _ hq) (R1.push (.lst hn e1 r1)) wd_enum⟩⟩
/-! ### loops -/
theorem ds_for {body : List Stmt} {n : Nat} (z : Cz X n) (hp : PassesOwn (model X.prog X.w) X.A X.env X.xe)
    (h : DI B X tg iter δ M fun xs M' => ∃ Iv : Nat → Env' → Mem → Prop, Iv 0 δ M' ∧ (∀ i x δ M, xs[i]? = some x → Iv i δ M → DG B X tg x δ M fun δ' M' => DSs B X body δ' M' { Ψ with nx := Iv (i + 1), ct := Iv (i + 1), bk := Ψ.nx }) ∧ ∀ δ M, Iv xs.length δ M → Ψ.nx δ M)
    (hs : ∀ x, foldedSetIterable iter X.env x = pure x := by intro _; rfl) : DS B X (.For tg iter body [] pos) δ M Ψ := by
  obtain ⟨wi, pi, w⟩ := h
  refine .of (ps_for hp z.calm pi cG cSs hs) fun κ σ H E hb R k => ?_
  refine w κ σ H _ hb R fun xs M1 H1 J κ' ⟨Iv, h0, hst, hd⟩ hk R1 W => ?_
  refine ⟨fun i m σ H => m = xs.length - i ∧ i ≤ xs.length ∧ ∃ δ M, Iv i δ M ∧ Rs κ' δ M σ H, ⟨xs.length, by simp, Nat.zero_le _, δ, M1, h0, R1⟩, ?_⟩
  rintro i m σ H ⟨rfl, hi, δ, M, q, R⟩
  by_cases hlt : i < xs.length
  · refine .inr ⟨W.goes i δ M σ H hlt R, fun σ' H' => ∃ δ' M', Iv (i + 1) δ' M' ∧ Rs κ' δ' M' σ' H', fun σ' H' p' => ⟨xs.length - (i + 1), by omega, rfl, hlt, p'⟩, fun x H' y => ?_⟩
    obtain ⟨d, hd1, R2, r2⟩ := W.yields i δ M σ H x H' hlt R y
    refine hst i d δ M hd1 q κ' σ H' x _ (fun q hq => hk q (hb q hq)) R2 r2 fun δ2 M2 σ2 H2 q2 R3 => ?_
    exact q2 κ' σ2 H2 _ (fun q hq => hk q (hb q hq)) R3 ⟨fun δ3 M3 σ3 H3 q3 R4 => ⟨δ3, M3, q3, R4⟩, fun v d M δ σ H q R r => k.rt v d M δ σ H q (R.sub hk) r, fun δ M σ H q R => k.nx δ M σ H q (R.sub hk), fun δ3 M3 σ3 H3 q3 R4 => ⟨δ3, M3, q3, R4⟩⟩
  · have e : i = xs.length := by omega
    subst e
    exact .inl ⟨W.stops δ M σ H R, k.nx δ M σ H (hd δ M q) (R.sub hk)⟩
theorem ds_while {body : List Stmt} (hp : PassesOwn (model X.prog X.w) X.A X.env X.xe) (Iv : Nat → Env' → Mem → Prop) (h0 : ∃ m, Iv m δ M)
    (h : ∀ m δ M, Iv m δ M → DT B X c δ M fun t M1 => Br t (DSs B X body δ M1 { Ψ with nx := fun δ' M' => ∃ m', m' < m ∧ Iv m' δ' M', ct := fun δ' M' => ∃ m', m' < m ∧ Iv m' δ' M', bk := Ψ.nx }) (Ψ.nx δ M1)) : DS B X (.While c body [] pos) δ M Ψ := by
  refine .of (ps_while hp cT cSs) fun κ σ H E hb R k => ?_
  obtain ⟨m0, h0⟩ := h0
  refine ⟨fun m σ H => ∃ δ M, Iv m δ M ∧ Rs κ δ M σ H, ⟨m0, δ, M, h0, R⟩, ?_⟩
  rintro m σ H ⟨δ, M, q, R⟩
  refine h m δ M q κ σ H _ hb R fun t M1 H1 q1 R1 => Br.ite ⟨fun e => ?_, fun e => k.nx _ _ _ _ (q1.2 e) R1⟩
  refine ⟨fun σ' H' => ∃ m', m' < m ∧ ∃ δ' M', Iv m' δ' M' ∧ Rs κ δ' M' σ' H', fun σ' H' p => p, ?_⟩
  exact q1.1 e κ σ H1 _ hb R1 ⟨fun δ2 M2 σ2 H2 ⟨m', hm, q2⟩ R2 => ⟨m', hm, δ2, M2, q2, R2⟩, k.rt, k.nx, fun δ2 M2 σ2 H2 ⟨m', hm, q2⟩ R2 => ⟨m', hm, δ2, M2, q2, R2⟩⟩
end
end Hl
namespace Hl
open PySem L2
/-! ### defs -/
abbrev DSp := List D → Mem → (D → Mem → Prop) → Prop
def lift (p : DSp) : Sp := fun vs H Q _ => ∃ κ ds M Φ, Rs κ [] M [] H ∧ Reps M.F H vs ds ∧ p ds M Φ ∧ ∀ v d M' H', Φ d M' → Rs κ [] M' [] H' → Rep M'.F H' v d → Q v H'
def sk : St → Env' → List (V × D)
  | some v :: σ, some d :: δ => (v, d) :: sk σ δ
  | _ :: σ, _ :: δ => sk σ δ
  | _, _ => []
section
variable {κ : List (V × D)} {δ : Env'} {M M' : Mem} {σ : St} {H H' : Hp}
theorem sk_rep {F : List Addr} {H : Hp} : ∀ {σ : St} {δ : Env'}, Paired (SlotOk F H) σ δ → ∀ q ∈ sk σ δ, Rep F H q.1 q.2
  | _, _, .nil => by intro q hq; simp [sk] at hq
  | some v :: σ, some d :: δ, .cons h t => by
    intro q hq
    rcases List.mem_cons.mp (show q ∈ (v, d) :: sk σ δ from hq) with rfl | hq
    · obtain ⟨v', e, r⟩ := h d rfl
      cases e; exact r
    · exact sk_rep t q hq
  | none :: σ, o :: δ, .cons h t => by
    intro q hq
    have : q ∈ sk σ δ := by cases o <;> exact hq
    exact sk_rep t q this
  | some v :: σ, none :: δ, .cons h t => by
    intro q hq
    exact sk_rep t q hq
theorem sk_back {F : List Addr} {H F' H'} : ∀ {σ : St} {δ : Env'}, Paired (SlotOk F H) σ δ → (∀ q ∈ sk σ δ, Rep F' H' q.1 q.2) → Paired (SlotOk F' H') σ δ
  | _, _, .nil, _ => .nil
  | some v :: σ, some d :: δ, .cons h t, k => .cons (fun d' e => by cases e; exact ⟨v, rfl, k (v, d) List.mem_cons_self⟩) (sk_back t fun q hq => k q (List.mem_cons_of_mem _ hq))
  | none :: σ, some d :: δ, .cons h t, k => by
    obtain ⟨v, e, _⟩ := h d rfl
    cases e
  | o :: σ, none :: δ, .cons h t, k => .cons (fun d' e => by cases e) (sk_back t fun q hq => k q (by cases o <;> exact hq))
theorem Rs.pack (R : Rs κ δ M σ H) : Rs (κ ++ sk σ δ) [] M [] H := ⟨fun q hq => by
  rcases List.mem_append.mp hq with h | h
  · exact R.kp q h
  · exact sk_rep R.sl q h, .nil, R.cl, R.nd⟩
theorem Rs.unpack (R : Rs κ δ M σ H) (R' : Rs (κ ++ sk σ δ) [] M' [] H') : Rs κ δ M' σ H' := ⟨fun q hq => R'.kp q (List.mem_append.mpr (.inl hq)), sk_back R.sl fun q hq => R'.kp q (List.mem_append.mpr (.inr hq)), R'.cl, R'.nd⟩
end
/-- a def of the module, with its promise -/
structure Def (P : Program) (w : World) (K : PySem.W.Frag) (mg : Str → Option Value) (base : Heap) (k : Nat) (x : Str) (ps : List Str) (p : DSp) : Prop where
  ex : ∃ f fd, mg x = some (.ref f) ∧ PySem.W.keepIn K (.ref f) = true ∧ Binds K fd ps [] ∧ FnOk P w K mg base CX0 k f fd ps (lift p)
abbrev DefX (X : Cx) := Def X.prog X.w X.K X.mg X.base
section
variable {B : Bx} {X : Cx} {e a b c : Expr} {es rest : List Expr} {st : Stmt} {sts : List Stmt} {δ δ' : Env'} {M : Mem} {Φ : D → Mem → Prop} {Ψ : DEnds} {te ta tb : TE} {tt : TT} {pos pos' : Pos} {d x y : D} {ΦB : Bool → Mem → Prop} {ΦL : List D → Mem → Prop}
theorem de_call {k n : Nat} {x : Str} {ps : List Str} {p : DSp} {pp : Pos} (z : Cz X n) (f : DefX X k x ps p) (hk : k ≤ n) (hg : Gl X x) (h : DA B X (e :: es) δ M fun ds M' => p ds M' Φ)
    (hdb : (x == ("__debug__" : Str)) = false := by decide) (he : starEach (e :: es) X.env = (false, eval e X.env) :: starEach es X.env := by rfl) (hpl : (backTo pos (starEach es X.env)).any (·.1) = false := by rfl) : DE B X (.Call (.Name x pp) (e :: es) [] pos) δ M Φ := by
  obtain ⟨fa, fd, h1, h2, h3, h4⟩ := f.ex
  refine .of (pe_call h4 (z.room.mono hk) hg h1 h2 h3 .nil pass0 cA hdb he hpl) fun κ σ H Q hb R k => h κ σ H _ hb R fun vs ds M1 H1 q R1 r1 => ?_
  rw [List.append_nil]
  exact ⟨κ ++ sk σ δ, ds, M1, Φ, R1.pack, r1, q, fun v d M2 H2 q2 R2 r2 => k v d M2 H2 q2 (R1.unpack R2) r2⟩
/-- what a def's body is to show -/
structure InDef (P : Program) (w : World) (K : PySem.W.Frag) (mg : Str → Option Value) (base : Heap) (N : List Str) (sc : Scope) (k : Nat) (X : Cx) : Prop where
  prog : X.prog = P
  wd : X.w = w
  K : X.K = K
  mg : X.mg = mg
  base : X.base = base
  N : X.N = N
  sc : X.env.scope = sc
  fn : X.fn = fun _ => true
  z : Cz X k
  xe : ∀ v s, ¬ X.xe v s
theorem passes_of {X : Cx} (h : ∀ v s, ¬ X.xe v s) : PassesOwn (model X.prog X.w) X.A X.env X.xe := by
  have : X.xe = fun _ _ => False := by
    funext v s
    exact propext ⟨fun z => (h v s z).elim, fun z => z.elim⟩
  rw [this]
  exact PassesOwn.never
/-- the slots at the entry -/
def startD (n : Nat) (ds : List D) : Env' := ds.map some ++ List.replicate (n - ds.length) none
theorem start_rs {κ : List (V × D)} {M : Mem} {H : Hp} {N : List Str} {vs : List V} {ds : List D} (R : Rs κ [] M [] H) (r : Reps M.F H vs ds) : Rs κ (startD N.length ds) M (L2.start N vs) H := by
  refine ⟨R.kp, ?_, R.cl, R.nd⟩
  unfold L2.start startD
  rw [r.length]
  have h1 : ∀ {vs : List V} {ds : List D}, Reps M.F H vs ds → ∀ n, Paired (SlotOk M.F H) (vs.map some ++ List.replicate n none) (ds.map some ++ List.replicate n none) := by
    intro vs
    induction vs with
    | nil =>
      intro ds r n
      cases r
      show Paired _ (List.replicate n none) (List.replicate n none)
      induction n with
      | zero => exact .nil
      | succ n ih => exact .cons (fun d e => by cases e) ih
    | cons v vs ih =>
      intro ds r n
      cases r with
      | cons r1 r2 => exact .cons (fun d e => by cases e; exact ⟨v, rfl, r1⟩) (ih r2 n)
  exact h1 r _
theorem erase_sub {M : Mem} {j : Nat} : (M.eraseIdx j).Sublist M := List.eraseIdx_sublist M j
theorem F_erase : ∀ {M : Mem} {j : Nat} {p : Addr} {c : Cell}, M.F.Nodup → M[j]? = some (p, c) → p ∉ Mem.F (M.eraseIdx j)
  | [], _, _, _, _, e => by simp at e
  | q :: M, 0, p, c, n, e => by
    have : q = (p, c) := by simpa using e
    subst this
    have n : (own p c ++ Mem.F M).Nodup := n
    intro z
    exact (List.nodup_append.mp n).2.2 p (by cases c <;> simp [own]) p z rfl
  | q :: M, j + 1, p, c, n, e => by
    have n : (own q.1 q.2 ++ Mem.F M).Nodup := n
    show p ∉ own q.1 q.2 ++ Mem.F (M.eraseIdx j)
    intro z
    rcases List.mem_append.mp z with z | z
    · exact (List.nodup_append.mp n).2.2 p z p (List.mem_flatMap.mpr ⟨(p, c), List.mem_of_getElem? (by simpa using e), by cases c <;> simp [own]⟩) rfl
    · exact F_erase (List.nodup_append.mp n).2.1 (by simpa using e) z
theorem Rs.frz {κ : List (V × D)} {σ : St} {H : Hp} {j : Nat} {p : Addr} {ds : List D} (R : Rs κ δ M σ H) (e : M[j]? = some (p, .lst ds)) : Rs κ δ (M.eraseIdx j) σ H ∧ Rep (Mem.F (M.eraseIdx j)) H (.ref p) (.lst ds) := by
  obtain ⟨vs, h1, h2⟩ := R.at e
  exact ⟨R.less erase_sub, .lst (F_erase R.nd e) h1 (h2.fwd (Fwd.less fun x hx => (F_sub erase_sub).subset hx))⟩
theorem Rs.frzO {κ : List (V × D)} {σ : St} {H : Hp} {j : Nat} {p C : Addr} {ns : List Str} {ds : List D} (R : Rs κ δ M σ H) (e : M[j]? = some (p, .obj C ns ds)) : Rs κ δ (M.eraseIdx j) σ H ∧ Rep (Mem.F (M.eraseIdx j)) H (.ref p) (.obj C ns ds) := by
  obtain ⟨dx, vs, h1, hl, h2⟩ := R.at e
  exact ⟨R.less erase_sub, .obj (F_erase R.nd e) h1 hl (h2.fwd (Fwd.less fun x hx => (F_sub erase_sub).subset hx))⟩
/-- behind a return the state may be looked at otherwise -/
def Vw (d : D) (M : Mem) (d2 : D) (M2 : Mem) : Prop := ∀ κ δ σ H v, Rs κ δ M σ H → Rep M.F H v d → Rs κ δ M2 σ H ∧ Rep M2.F H v d2
theorem Vw.refl {d : D} {M : Mem} : Vw d M d M := fun _ _ _ _ _ R r => ⟨R, r⟩
theorem Vw.trans {d d1 d2 : D} {M M1 M2 : Mem} (h1 : Vw d M d1 M1) (h2 : Vw d1 M1 d2 M2) : Vw d M d2 M2 := fun κ δ σ H v R r => let ⟨R1, r1⟩ := h1 κ δ σ H v R r; h2 κ δ σ H v R1 r1
theorem Vw.sub {d : D} {M M2 : Mem} (h : M2.Sublist M) : Vw d M d M2 := fun _ _ _ _ _ R r => ⟨R.less h, r.fwd (Fwd.less fun x hx => (F_sub h).subset hx)⟩
theorem Vw.perm {d : D} {M M2 : Mem} (h : M.Perm M2) : Vw d M d M2 := fun _ _ _ _ _ R r => ⟨R.perm h, r.fwd (Fwd.less fun x hx => (F_perm h).mem_iff.mpr hx)⟩
theorem Vw.frz {p : Addr} {M : Mem} {ds : List D} (j : Nat) (e : M[j]? = some (p, .lst ds)) : Vw (.raw (.ref p)) M (.lst ds) (M.eraseIdx j) := fun _ _ _ _ _ R r => by
  cases r
  exact R.frz e
theorem Vw.frzO {p C : Addr} {ns : List Str} {M : Mem} {ds : List D} (j : Nat) (e : M[j]? = some (p, .obj C ns ds)) : Vw (.raw (.ref p)) M (.obj C ns ds) (M.eraseIdx j) := fun _ _ _ _ _ R r => by
  cases r
  exact R.frzO e
theorem fnok_of {P : Program} {w : World} {K : PySem.W.Frag} {mg : Str → Option Value} {base : Heap} {x qual : Str} {st : Stmt} {f : Addr} {fd : FuncData} {N ps : List Str} {k : Nat} {p : DSp} (F : Fun K x qual st f fd) (S : FnScope N ps (defScope st))
    (len : ∀ ds M Φ, p ds M Φ → ds.length = ps.length)
    (h : ∀ X B, InDef P w K mg base N (defScope st) k X → ∀ ds M Φ, p ds M Φ → DSs B X (defBody st) (startD N.length ds) M { nx := fun _ M' => ∃ d2 M2, Vw .non M' d2 M2 ∧ Φ d2 M2, rt := fun d M' => ∃ d2 M2, Vw d M' d2 M2 ∧ Φ d2 M2 }) : FnOk P w K mg base CX0 (k + 1) f fd ps (lift p) := by
  refine F.ok S (fun vs H Q E hl => ?_) fun cdv A outer s H vs Q E hr hl => ?_
  · obtain ⟨κ, ds, M, Φ, R, r, q, _⟩ := hl
    rw [r.length]; exact len ds M Φ q
  · obtain ⟨κ, ds, M, Φ, R, r, q, kk⟩ := hl
    refine ⟨_, cSs, ?_⟩
    refine h _ (B0 κ) ⟨rfl, rfl, rfl, rfl, rfl, rfl, rfl, rfl, ⟨S.nd, rfl, hr⟩, fun _ _ z => z⟩ ds M Φ q κ _ H _ (fun _ h => h) (start_rs R r) ⟨fun δ M' σ H' ⟨d2, M2, h1, h2⟩ R' => ?_, fun v d M' δ σ H' ⟨d2, M2, h1, h2⟩ R' r' => ?_, fun _ _ _ _ z => z.elim, fun _ _ _ _ z => z.elim⟩
    · obtain ⟨R2, r2⟩ := h1 _ _ _ _ _ R' .non
      exact kk .non d2 M2 H' h2 ⟨R2.kp, .nil, R2.cl, R2.nd⟩ r2
    · obtain ⟨R2, r2⟩ := h1 _ _ _ _ _ R' r'
      exact kk v d2 M2 H' h2 ⟨R2.kp, .nil, R2.cl, R2.nd⟩ r2
theorem def_of {P : Program} {w : World} {K : PySem.W.Frag} {mg : Str → Option Value} {base : Heap} {x qual : Str} {st : Stmt} {f : Addr} {fd : FuncData} {N ps : List Str} {k : Nat} {p : DSp} (F : Fun K x qual st f fd) (gm : mg x = some (.ref f)) (bi : Binds K fd ps []) (S : FnScope N ps (defScope st))
    (len : ∀ ds M Φ, p ds M Φ → ds.length = ps.length)
    (h : ∀ X B, InDef P w K mg base N (defScope st) k X → ∀ ds M Φ, p ds M Φ → DSs B X (defBody st) (startD N.length ds) M { nx := fun _ M' => ∃ d2 M2, Vw .non M' d2 M2 ∧ Φ d2 M2, rt := fun d M' => ∃ d2 M2, Vw d M' d2 M2 ∧ Φ d2 M2 }) : Def P w K mg base (k + 1) x ps p := ⟨f, fd, gm, F.kp, bi, fnok_of F S len h⟩
/-! names of a def's body -/
def visB (sc : Scope) (x : Str) : Bool := match sc.names.lookup x with
  | some .local => true
  | some .cell => true
  | some .free => true
  | _ => false
def locB (sc : Scope) (x : Str) : Bool := match sc.names.lookup x with
  | some .local => true
  | some .cell => true
  | _ => false
def nmB (N : List Str) (sc : Scope) (i : Nat) (x : Str) : Bool := decide (N[i]? = some x) && visB sc x && !(x == ("__debug__" : Str)) && !(x == ("__classdict__" : Str))
theorem vis_of {sc : Scope} {x : Str} (h : visB sc x = true) : Vis sc x := by
  unfold visB at h
  unfold Vis
  split at h
  · next e => exact .inl e
  · next e => exact .inr (.inl e)
  · next e => exact .inr (.inr e)
  · cases h
theorem loc_of {sc : Scope} {x : Str} (h : locB sc x = true) : L2.Loc sc x := by
  unfold locB at h
  unfold L2.Loc
  split at h
  · next e => exact .inl e
  · next e => exact .inr e
  · cases h
theorem nm_of {N : List Str} {sc : Scope} {i : Nat} {x : Str} (hN : X.N = N) (hs : X.env.scope = sc) (h : nmB N sc i x = true) : Nm X i x := by
  unfold nmB at h
  simp only [Bool.and_eq_true, decide_eq_true_eq, Bool.not_eq_true'] at h
  exact ⟨by rw [hN]; exact h.1.1.1, by rw [hs]; exact vis_of h.1.1.2, h.1.2, h.2⟩
theorem lo_of {N : List Str} {sc : Scope} {i : Nat} {x : Str} (hN : X.N = N) (hs : X.env.scope = sc) (hf : X.fn = fun _ => true) (h : (nmB N sc i x && locB sc x) = true) : Lo X i x := by
  rw [Bool.and_eq_true] at h
  exact ⟨nm_of hN hs h.1, by rw [hs]; exact loc_of h.2, .inl (by rw [hf])⟩
theorem gl_of {sc : Scope} {x : Str} (hs : X.env.scope = sc) (h : sc.names.lookup x = some .globalImplicit) : Gl X x := by
  unfold Gl Env.kindOf
  rw [hs]; exact h
theorem gn_of {sc : Scope} {x : Str} (hs : X.env.scope = sc) (h : sc.names.lookup x = some .globalImplicit) (hm : X.mg x = none) : Gn X x := ⟨gl_of hs h, hm⟩
/-! another view of the same state -/
theorem WS.view {ts : TS} {M' : Mem} (h : WS B ts δ' M' Ψ) (v : ∀ κ σ H, Rs κ δ M σ H → Rs κ δ' M' σ H) : WS B ts δ M Ψ := fun κ σ H E hb R k => h κ σ H E hb (v κ σ H R) k
/-- a slot's list changes no more -/
theorem freeze {κ : List (V × D)} {σ : St} {H : Hp} {i j : Nat} {p : Addr} {ds : List D} (hi : δ[i]? = some (some (.raw (.ref p)))) (hj : M[j]? = some (p, .lst ds)) (R : Rs κ δ M σ H) : Rs κ (δ.set i (some (.lst ds))) (M.eraseIdx j) σ H := by
  obtain ⟨R1, r1⟩ := R.frz hj
  obtain ⟨v, e, r⟩ := R1.get hi
  cases r
  have := R1.put i r1
  rw [show σ.set i (some (V.ref p)) = σ from by
    apply List.ext_getElem?
    intro n
    by_cases hn : i = n
    · subst hn
      rw [List.getElem?_set_self (List.getElem?_eq_some_iff.mp e).1, e]
    · rw [List.getElem?_set_ne hn]] at this
  exact this
theorem ws_frz {ts : TS} (i j : Nat) {p : Addr} {ds : List D} (hi : δ[i]? = some (some (.raw (.ref p)))) (hj : M[j]? = some (p, .lst ds)) (h : WS B ts (δ.set i (some (.lst ds))) (M.eraseIdx j) Ψ) : WS B ts δ M Ψ := h.view fun κ σ H R => freeze hi hj R
/-- return of a list that was made here -/
theorem ds_retC {i : Nat} {x : Str} (n : Nm X i x) (j : Nat) {p : Addr} {ds : List D} (hi : δ[i]? = some (some (.raw (.ref p)))) (hj : M[j]? = some (p, .lst ds)) (h : Ψ.rt (.lst ds) (M.eraseIdx j)) : DS B X (.Return (some (.Name x pos')) pos) δ M Ψ := by
  refine ws_frz i j hi hj (ds_ret (de_name n (d := .lst ds) ?_ h))
  rw [List.getElem?_set_self (List.getElem?_eq_some_iff.mp hi).1]
/-! ### built-ins -/
theorem cB {k n : Nat} {id : String} {r : List V → Hp → VK → Prop} {x : Str} {p : Pos} (hc : CallR X (.builtin id) r) (g : Gn X x) (hv : bootBuiltins x = some (.builtin id))
    (h : DA B X (e :: es) δ M fun ds M1 => ∀ κ σ H vs Q, Rs κ δ M1 σ H → Reps M1.F H vs ds → (∀ v d M' H', Φ d M' → Rs κ δ M' σ H' → Rep M'.F H' v d → Q v H') → r vs H Q) (hp : PE X (.Call (.Name x p) (e :: es) [] pos) (tCB r (tA X (e :: es)))) : DE B X (.Call (.Name x p) (e :: es) [] pos) δ M Φ :=
  .of hp fun κ σ H Q hb R k => h κ σ H _ hb R fun vs ds M1 H1 q R1 r1 => q κ σ H1 vs Q R1 r1 k
end
end Hl
namespace Hl
open PySem L2
section
variable {B : Bx} {X : Cx} {e a b c o : Expr} {es rest : List Expr} {st : Stmt} {sts : List Stmt} {δ δ' : Env'} {M : Mem} {Φ : D → Mem → Prop} {Ψ : DEnds} {te ta tb : TE} {tt : TT} {pos pos' apos : Pos} {d x y : D} {ΦB : Bool → Mem → Prop} {ΦL : List D → Mem → Prop}
/-! ### stores into cells -/
def putD (kvs : List (Key × D)) (k : Key) (d : D) : List (Key × D) :=
  if (kvs.any fun kv => decide (kv.1 = k)) = true then kvs.map (fun kv => if kv.1 = k then (kv.1, d) else kv) else kvs ++ [(k, d)]
theorem put_keys {k : Key} {v : V} {d : D} {ws : List (Key × V)} {kvs : List (Key × D)} (h : ws.map (·.1) = kvs.map (·.1)) : (putK ws k v).map (·.1) = (putD kvs k d).map (·.1) := by
  have h1 : (ws.any fun kv => decide (kv.1 = k)) = (kvs.any fun kv => decide (kv.1 = k)) := by
    have e1 : (ws.any fun kv => decide (kv.1 = k)) = (ws.map (·.1)).any fun q => decide (q = k) := by rw [List.any_map]; rfl
    have e2 : (kvs.any fun kv => decide (kv.1 = k)) = (kvs.map (·.1)).any fun q => decide (q = k) := by rw [List.any_map]; rfl
    rw [e1, e2, h]
  unfold putK putD
  rw [h1]
  split
  · have a1 : ∀ (ws : List (Key × V)), (ws.map (fun kv => if kv.1 = k then (kv.1, v) else kv)).map (·.1) = ws.map (·.1) := fun ws => by
      rw [List.map_map]; apply List.map_congr_left; intro q _; show (if q.1 = k then (q.1, v) else q).1 = q.1; split <;> rfl
    have a2 : ∀ (ws : List (Key × D)), (ws.map (fun kv => if kv.1 = k then (kv.1, d) else kv)).map (·.1) = ws.map (·.1) := fun ws => by
      rw [List.map_map]; apply List.map_congr_left; intro q _; show (if q.1 = k then (q.1, d) else q).1 = q.1; split <;> rfl
    rw [a1, a2, h]
  · rw [List.map_append, List.map_append, h]; rfl
theorem put_vals {F : List Addr} {H : Hp} {k : Key} {v : V} {d : D} (r : Rep F H v d) {ws : List (Key × V)} {kvs : List (Key × D)} (h : ws.map (·.1) = kvs.map (·.1)) (rs : Reps F H (ws.map (·.2)) (kvs.map (·.2))) : Reps F H ((putK ws k v).map (·.2)) ((putD kvs k d).map (·.2)) := by
  have h1 : (ws.any fun kv => decide (kv.1 = k)) = (kvs.any fun kv => decide (kv.1 = k)) := by
    have e1 : (ws.any fun kv => decide (kv.1 = k)) = (ws.map (·.1)).any fun q => decide (q = k) := by rw [List.any_map]; rfl
    have e2 : (kvs.any fun kv => decide (kv.1 = k)) = (kvs.map (·.1)).any fun q => decide (q = k) := by rw [List.any_map]; rfl
    rw [e1, e2, h]
  unfold putK putD
  rw [h1]
  split
  · clear h1
    have : ∀ {ws : List (Key × V)} {kvs : List (Key × D)}, ws.map (·.1) = kvs.map (·.1) → Reps F H (ws.map (·.2)) (kvs.map (·.2)) → Reps F H ((ws.map (fun kv => if kv.1 = k then (kv.1, v) else kv)).map (·.2)) ((kvs.map (fun kv => if kv.1 = k then (kv.1, d) else kv)).map (·.2)) := by
      intro ws
      induction ws with
      | nil => intro kvs h r; cases kvs with
        | nil => exact .nil
        | cons _ _ => cases h
      | cons q ws ih =>
        intro kvs h r1
        cases kvs with
        | nil => cases h
        | cons q' kvs =>
          have e1 : q.1 = q'.1 := (List.cons.inj h).1
          have e2 : ws.map (·.1) = kvs.map (·.1) := (List.cons.inj h).2
          cases r1 with
          | cons r1 r2 =>
            refine .cons ?_ (ih e2 r2)
            show Rep F H (if q.1 = k then (q.1, v) else q).2 (if q'.1 = k then (q'.1, d) else q').2
            rw [e1]
            split
            · exact r
            · exact r1
    exact this h rs
  · rw [List.map_append, List.map_append]
    exact rs.append (.cons r .nil)
theorem put_len {k : Key} {d : D} {kvs : List (Key × D)} : (putD kvs k d).length ≤ kvs.length + 1 := by
  unfold putD
  split <;> simp
def tsetU : TSet := fun o i v H Q => rSetL o i v H Q ∨ rSetD o i v H Q
theorem set_U {n : Nat} (z : Cz X n) : PSet X tsetU := by
  intro pins s σ H o i v ov iv u Q I ro ri rv h
  rcases h with h | h
  · exact set_list pins s σ H o i v ov iv u Q I ro ri rv h
  · exact set_dict (un1 z) pins s σ H o i v ov iv u Q I ro ri rv h
/-- o[i] = v, by data -/
def SetD (o i v : D) (M : Mem) (Φ : Mem → Prop) : Prop := ∀ κ (δ : Env') σ H vo vi vv Q, Rs κ δ M σ H → Rep M.F H vo o → Rep M.F H vi i → Rep M.F H vv v → (∀ M' H', Φ M' → Rs κ δ M' σ H' → Q H') → tsetU vo vi vv H Q
theorem dg_sub {n : Nat} (z : Cz X n) {Φ : Env' → Mem → Prop} (h : DE B X o δ M fun x M1 => DE B X b δ M1 fun y M2 => SetD x y d M2 fun M3 => Φ δ M3)
    (ha : ∀ v, assign (.Subscript o b pos) X.env v = (do
      let ov ← holding [v] (eval o X.env)
      let iv ← holding [v, ov] (eval b X.env)
      standAt pos
      holding [v, ov, iv] (setItem ov iv v)
      release [v, ov, iv] []) := by intro _; rfl) : DG B X (.Subscript o b pos) d δ M Φ := .of (pg_sub cE cE (set_U z) ha) fun κ σ H v Q hb R r k =>
  h ((v, d) :: κ) σ H _ (fun q hq => List.mem_cons_of_mem _ (hb q hq)) (R.push r) fun vo x M1 H1 q1 R1 r1 => q1 ((vo, x) :: (v, d) :: κ) σ H1 _ (fun q hq => List.mem_cons_of_mem _ (List.mem_cons_of_mem _ (hb q hq))) (R1.push r1) fun vi y M2 H2 q2 R2 r2 =>
    q2 κ δ σ H2 vo vi v _ R2.pop.pop R2.top r2 R2.pop.top fun M3 H3 q3 R3 => k _ _ _ _ q3 R3
theorem sd_list {j : Nat} {p : Addr} {ds : List D} {i : Int} {m : Nat} {Φ : Mem → Prop} (hm : M[j]? = some (p, .lst ds)) (hi : ixN ds.length i = some m) (k : Φ (M.set j (p, .lst (ds.set m d)))) : SetD (.raw (.ref p)) (.int i) d M Φ := fun κ δ σ H vo vi vv Q R r1 r2 r3 h => by
  cases r1; cases r2
  obtain ⟨vs, e1, rs⟩ := R.at hm
  refine .inl ⟨p, vs, i, m, rfl, rfl, e1, by rw [rs.length]; exact hi, h _ _ k ?_⟩
  have hp : ∀ x, x ∉ M.F → upd H p (.lst (vs.set m vv)) x = H x := fun x hx => upd_ne fun z => hx (z ▸ R.mem hm p (by simp [own]))
  exact R.cell hm rfl (fun x hx => upd_ne (by simpa [own] using hx)) ⟨_, upd_same, (rs.set r3 m).fwd (Fwd.same hp)⟩
theorem sd_dict {p : Addr} {kvs : List (Key × D)} {k : Key} {Φ : Mem → Prop} (j : Nat) (hm : M[j]? = some (p, .dct kvs)) (hk : y = kD k) (hl : kvs.length < sizeLine) (q : Φ (M.set j (p, .dct (putD kvs k d)))) : SetD (.raw (.ref p)) y d M Φ := fun κ δ σ H vo vi vv Q R r1 r2 r3 h => by
  subst hk
  have := rep_k r2
  subst this
  cases r1
  obtain ⟨ws, e1, e2, rs⟩ := R.at hm
  have el : ws.length = kvs.length := by simpa using congrArg List.length e2
  refine .inr ⟨p, _, rfl, .inl ⟨ws, k, e1, rfl, by rw [el]; exact hl, rfl⟩, h _ _ q ?_⟩
  have hp : ∀ x, x ∉ M.F → upd H p (.dK (putK ws k vv)) x = H x := fun x hx => upd_ne fun z => hx (z ▸ R.mem hm p (by simp [own]))
  exact R.cell hm rfl (fun x hx => upd_ne (by simpa [own] using hx)) ⟨_, upd_same, put_keys e2, (put_vals r3 e2 rs).fwd (Fwd.same hp)⟩
/-! ### methods of lists that are cells -/
def MtD (K : PySem.W.Frag) (T : String) (r : V → List V → Hp → VK → Prop) (x : D) (ds : List D) (M : Mem) (Φ : D → Mem → Prop) : Prop := ∀ κ (δ : Env') σ H v vs Q, Rs κ δ M σ H → Rep M.F H v x → Reps M.F H vs ds → (∀ u d M' H', Φ d M' → Rs κ δ M' σ H' → Rep M'.F H' u d → Q u H') → r v vs H Q
/-- a list, by data -/
inductive IsL (M : Mem) : D → List D → Prop
  | val (ds : List D) : IsL M (.lst ds) ds
  | cell {p : Addr} {ds : List D} (j : Nat) (h : M[j]? = some (p, .lst ds)) : IsL M (.raw (.ref p)) ds
theorem IsL.sq {κ : List (V × D)} {σ : St} {H : Hp} {v : V} {x : D} {ds : List D} (h : IsL M x ds) (R : Rs κ δ M σ H) (r : Rep M.F H v x) : ∃ p vs, v = .ref p ∧ H p = some (.lst vs) ∧ Reps M.F H vs ds := by
  cases h with
  | val ds => cases r with | lst h1 e1 r1 => exact ⟨_, _, rfl, e1, r1⟩
  | cell j h =>
    cases r
    obtain ⟨vs, e1, r1⟩ := R.at h
    exact ⟨_, vs, rfl, e1, r1⟩
theorem de_bml {name : Str} {id : String} {r : V → List V → Hp → VK → Prop} {cpos : Pos} (slot : Slot "list" name id) (hty : typeOf (.builtin id) = pure (.type "method_descriptor")) (hm : MtR X id r)
    (h : DE B X o δ M fun x M1 => (∃ ds, IsL M1 x ds) ∧ DA B X (e :: es) δ M1 fun ys M2 => MtD X.K "list" r x ys M2 Φ)
    (hbase : attributeBase o name X.env (eval o X.env) = eval o X.env := by rfl)
    (hfew : ((backTo cpos (starEach (e :: es) X.env)).all (fun x => !x.1) && (backToKw cpos (keywordEach [] X.env)).all (fun x => x.1.isSome)
      && decide ((e :: es).length + ([] : List Keyword).length + (if ([] : List Keyword).isEmpty then 0 else 1) < 30)) = true := by rfl)
    (hline : (apos.endLine == cpos.line) = true := by rfl) (hs : starEach (e :: es) X.env = (false, eval e X.env) :: starEach es X.env := by rfl) (hplain : (backTo cpos (starEach es X.env)).any (·.1) = false := by rfl) :
    DE B X (.Call (.Attribute o name apos) (e :: es) [] cpos) δ M Φ := .of (pe_bm PySem.F.plainAttrs_list slot hty hm cE cA hbase hfew hline hs hplain) fun κ σ H Q hb R k =>
  h κ σ H _ hb R fun v x M1 H1 ⟨⟨ds, il⟩, q⟩ R1 r1 => by
    obtain ⟨p, vs, ev, e1, rr⟩ := il.sq R1 r1
    refine ⟨by subst ev; exact .inl ⟨rfl, vs, SqL.of e1⟩, ?_⟩
    exact q ((v, x) :: κ) σ H1 _ (fun q hq => List.mem_cons_of_mem _ (hb q hq)) (R1.push r1) fun vs ys M2 H2 q2 R2 r2 => q2 κ δ σ H2 v vs Q R2.pop R2.top r2 k
theorem de_append {cpos : Pos} (h : DE B X o δ M fun x M1 => (∃ ds, IsL M1 x ds) ∧ DA B X [a] δ M1 fun ys M2 => MtD X.K "list" rAppend x ys M2 Φ)
    (hbase : attributeBase o "append" X.env (eval o X.env) = eval o X.env := by rfl)
    (hfew : ((backTo cpos (starEach [a] X.env)).all (fun x => !x.1) && (backToKw cpos (keywordEach [] X.env)).all (fun x => x.1.isSome)
      && decide (([a] : List Expr).length + ([] : List Keyword).length + (if ([] : List Keyword).isEmpty then 0 else 1) < 30)) = true := by rfl)
    (hline : (apos.endLine == cpos.line) = true := by rfl) (hs : starEach [a] X.env = (false, eval a X.env) :: starEach [] X.env := by rfl) (hplain : (backTo cpos (starEach [] X.env)).any (·.1) = false := by rfl) :
    DE B X (.Call (.Attribute o "append" apos) [a] [] cpos) δ M Φ := de_bml PySem.F.slot_list_append PySem.F.type_list_append mt_append h hbase hfew hline hs hplain
theorem mt_app {K : PySem.W.Frag} {j : Nat} {p : Addr} {ds : List D} (hm : M[j]? = some (p, .lst ds)) (hl : ds.length < sizeLine) (k : Φ .non (M.set j (p, .lst (ds ++ [d])))) : MtD K "list" rAppend (.raw (.ref p)) [d] M Φ := fun κ δ σ H v vs Q R rv rs h => by
  cases rv
  cases rs with
  | cons r1 r2 =>
    cases r2
    obtain ⟨vs, e1, rr⟩ := R.at hm
    rename_i u
    refine ⟨p, vs, u, rfl, rfl, e1, by rw [rr.length]; exact hl, h _ _ _ _ k ?_ .non⟩
    have hp : ∀ x, x ∉ M.F → upd H p (.lst (vs ++ [u])) x = H x := fun x hx => upd_ne fun z => hx (z ▸ R.mem hm p (by simp [own]))
    exact R.cell hm rfl (fun x hx => upd_ne (by simpa [own] using hx)) ⟨_, upd_same, (rr.append (.cons r1 .nil)).fwd (Fwd.same hp)⟩
theorem de_pop {cpos : Pos} (h : DE B X o δ M fun x M1 => (∃ ds, IsL M1 x ds) ∧ DA B X [a] δ M1 fun ys M2 => MtD X.K "list" rPopAt x ys M2 Φ)
    (hbase : attributeBase o "pop" X.env (eval o X.env) = eval o X.env := by rfl)
    (hfew : ((backTo cpos (starEach [a] X.env)).all (fun x => !x.1) && (backToKw cpos (keywordEach [] X.env)).all (fun x => x.1.isSome)
      && decide (([a] : List Expr).length + ([] : List Keyword).length + (if ([] : List Keyword).isEmpty then 0 else 1) < 30)) = true := by rfl)
    (hline : (apos.endLine == cpos.line) = true := by rfl) (hs : starEach [a] X.env = (false, eval a X.env) :: starEach [] X.env := by rfl) (hplain : (backTo cpos (starEach [] X.env)).any (·.1) = false := by rfl) :
    DE B X (.Call (.Attribute o "pop" apos) [a] [] cpos) δ M Φ := de_bml PySem.F.slot_list_pop PySem.F.type_list_pop mt_popAt h hbase hfew hline hs hplain
theorem mt_popD {K : PySem.W.Frag} {j m : Nat} {p : Addr} {ds : List D} {i : Int} (hm : M[j]? = some (p, .lst ds)) (h1 : -(2 ^ 63) ≤ i) (h2 : i < 2 ^ 63) (hi : seqIndex? i ds.length = some m) (hd : ds[m]? = some d) (k : Φ d (M.set j (p, .lst (ds.eraseIdx m)))) : MtD K "list" rPopAt (.raw (.ref p)) [.int i] M Φ := fun κ δ σ H v vs Q R rv rs h => by
  cases rv
  cases rs with
  | cons r1 r2 =>
    cases r2
    cases r1
    obtain ⟨vs, e1, rr⟩ := R.at hm
    obtain ⟨u, e2, ru⟩ := rr.get' hd
    have hp : ∀ x, x ∉ M.F → upd H p (.lst (vs.eraseIdx m)) x = H x := fun x hx => upd_ne fun z => hx (z ▸ R.mem hm p (by simp [own]))
    refine ⟨p, vs, i, m, u, rfl, rfl, e1, h1, h2, by rw [rr.length]; exact hi, e2, h _ _ _ _ k ?_ ?_⟩
    · exact R.cell hm rfl (fun x hx => upd_ne (by simpa [own] using hx)) ⟨_, upd_same, (rr.erase m).fwd (Fwd.same hp)⟩
    · rw [F_set (c' := .lst (ds.eraseIdx m)) hm rfl]
      exact ru.fwd (Fwd.same hp)
/-! ### built-in functions -/
def CallD (r : List V → Hp → VK → Prop) (ds : List D) (M : Mem) (Φ : D → Mem → Prop) : Prop := ∀ κ (δ : Env') σ H vs Q, Rs κ δ M σ H → Reps M.F H vs ds → (∀ v d M' H', Φ d M' → Rs κ δ M' σ H' → Rep M'.F H' v d → Q v H') → r vs H Q
theorem CallD.inl {r r' : List V → Hp → VK → Prop} {ds : List D} (h : CallD r ds M Φ) : CallD (fun vs H Q => r vs H Q ∨ r' vs H Q) ds M Φ := fun κ δ σ H vs Q R rs k => .inl (h κ δ σ H vs Q R rs k)
theorem CallD.inr {r r' : List V → Hp → VK → Prop} {ds : List D} (h : CallD r' ds M Φ) : CallD (fun vs H Q => r vs H Q ∨ r' vs H Q) ds M Φ := fun κ δ σ H vs Q R rs k => .inr (h κ δ σ H vs Q R rs k)
theorem de_blt {id : String} {r : List V → Hp → VK → Prop} {x : Str} {p : Pos} (hc : CallR X (.builtin id) r) (g : Gn X x) (hv : bootBuiltins x = some (.builtin id)) (h : DA B X (e :: es) δ M fun ds M1 => CallD r ds M1 Φ)
    (hn : x ≠ "__name__" := by decide) (hdb : (x == ("__debug__" : Str)) = false := by decide) (he : starEach (e :: es) X.env = (false, eval e X.env) :: starEach es X.env := by rfl) (hpl : (backTo pos (starEach es X.env)).any (·.1) = false := by rfl) : DE B X (.Call (.Name x p) (e :: es) [] pos) δ M Φ :=
  .of (pe_callB hc g.gl g.no hv cA hn hdb he hpl) fun κ σ H Q hb R k => h κ σ H _ hb R fun vs ds M1 H1 q R1 r1 => q κ δ σ H1 vs Q R1 r1 k
theorem de_ty {T : String} {r : List V → Hp → VK → Prop} {x : Str} {p : Pos} (hc : CallR X (.type T) r) (g : Gn X x) (hv : bootBuiltins x = some (.type T)) (h : DA B X (e :: es) δ M fun ds M1 => CallD r ds M1 Φ)
    (hn : x ≠ "__name__" := by decide) (hdb : (x == ("__debug__" : Str)) = false := by decide) (he : starEach (e :: es) X.env = (false, eval e X.env) :: starEach es X.env := by rfl) (hpl : (backTo pos (starEach es X.env)).any (·.1) = false := by rfl) : DE B X (.Call (.Name x p) (e :: es) [] pos) δ M Φ :=
  .of (pe_callTy hc g.gl g.no hv cA hn hdb he hpl) fun κ σ H Q hb R k => h κ σ H _ hb R fun vs ds M1 H1 q R1 r1 => q κ δ σ H1 vs Q R1 r1 k
def rLenU (K : PySem.W.Frag) : List V → Hp → VK → Prop := fun xs H Q => ∃ x n, xs = [x] ∧ LenV K x H n ∧ Q (.int n) H
theorem de_len {p : Pos} (g : Gn X "len") (h : DA B X [a] δ M fun ds M1 => CallD (rLenU X.K) ds M1 Φ) (he : starEach [a] X.env = (false, eval a X.env) :: starEach [] X.env := by rfl) (hpl : (backTo pos (starEach [] X.env)).any (·.1) = false := by rfl) : DE B X (.Call (.Name "len" p) [a] [] pos) δ M Φ := de_blt call_len g PySem.boot_len h (by decide) (by decide) he hpl
theorem cd_lenL {K : PySem.W.Frag} {ds : List D} (h : IsL M x ds) (k : Φ (.int (ds.length : Nat)) M) : CallD (rLenU K) [x] M Φ := fun κ δ σ H vs Q R rs f => by
  cases rs with
  | cons r1 r2 =>
    cases r2
    obtain ⟨p, vs, rfl, e1, rr⟩ := h.sq R r1
    exact ⟨_, vs.length, rfl, .inl ⟨vs, SqL.of e1, rfl⟩, by rw [rr.length]; exact f _ _ _ _ k R (.int _)⟩
theorem cd_lenT {K : PySem.W.Frag} {ds : List D} (k : Φ (.int (ds.length : Nat)) M) : CallD (rLenU K) [.tup ds] M Φ := fun κ δ σ H vs Q R rs f => by
  cases rs with
  | cons r1 r2 =>
    cases r2
    cases r1 with
    | tup h1 e1 rr => exact ⟨_, _, rfl, .inr ⟨_, SqT.of e1, rfl⟩, by rw [rr.length]; exact f _ _ _ _ k R (.int _)⟩
theorem cd_lenS {K : PySem.W.Frag} {z : Str} (hl : z.length ≤ sizeLine) (k : Φ (.int (z.length : Nat)) M) : CallD (rLenU K) [.str z] M Φ := fun κ δ σ H vs Q R rs f => by
  cases rs with
  | cons r1 r2 =>
    cases r2
    cases r1
    exact ⟨_, z.length, rfl, ⟨hl, rfl⟩, f _ _ _ _ k R (.int _)⟩
theorem cd_lenX {K : PySem.W.Frag} {ns : List Int} (k : Φ (.int (ns.length : Nat)) M) : CallD (rLenU K) [.scr K ns] M Φ := fun κ δ σ H vs Q R rs f => by
  cases rs with
  | cons r1 r2 =>
    cases r2
    cases r1 with
    | scrH h1 e1 => exact ⟨_, _, rfl, .inl ⟨_, .inl e1, rfl⟩, by rw [List.length_map]; exact f _ _ _ _ k R (.int _)⟩
    | scrK h1 => exact ⟨_, _, rfl, .inl ⟨_, h1 H, rfl⟩, by rw [List.length_map]; exact f _ _ _ _ k R (.int _)⟩
def rMin2 : List V → Hp → VK → Prop := fun xs H Q => ∃ i j, xs = [.int i, .int j] ∧ Q (.int (if j < i then j else i)) H
def rMax2 : List V → Hp → VK → Prop := fun xs H Q => ∃ i j, xs = [.int i, .int j] ∧ Q (.int (if j > i then j else i)) H
open PyProof.Rows in
theorem de_min2 {n : Nat} (z : Cz X n) {p : Pos} (g : Gn X "min") (h : DA B X [a, b] δ M fun ds M1 => CallD rMin2 ds M1 Φ) (he : starEach [a, b] X.env = (false, eval a X.env) :: starEach [b] X.env := by rfl) (hpl : (backTo pos (starEach [b] X.env)).any (·.1) = false := by rfl) : DE B X (.Call (.Name "min" p) [a, b] [] pos) δ M Φ := de_blt (call_min2 z.calm) g boot_min h (by decide) (by decide) he hpl
open PyProof.Rows in
theorem de_max2 {n : Nat} (z : Cz X n) {p : Pos} (g : Gn X "max") (h : DA B X [a, b] δ M fun ds M1 => CallD rMax2 ds M1 Φ) (he : starEach [a, b] X.env = (false, eval a X.env) :: starEach [b] X.env := by rfl) (hpl : (backTo pos (starEach [b] X.env)).any (·.1) = false := by rfl) : DE B X (.Call (.Name "max" p) [a, b] [] pos) δ M Φ := de_blt (call_max2 z.calm) g boot_max h (by decide) (by decide) he hpl
theorem cd_min2 {i j : Int} (k : Φ (.int (min i j)) M) : CallD rMin2 [.int i, .int j] M Φ := fun κ δ σ H vs Q R rs f => by
  cases rs with
  | cons r1 r2 =>
    cases r1
    cases r2 with
    | cons r2 r3 =>
      cases r2; cases r3
      exact ⟨i, j, rfl, by rw [show (if j < i then j else i) = min i j by omega]; exact f _ _ _ _ k R (.int _)⟩
theorem cd_max2 {i j : Int} (k : Φ (.int (max i j)) M) : CallD rMax2 [.int i, .int j] M Φ := fun κ δ σ H vs Q R rs f => by
  cases rs with
  | cons r1 r2 =>
    cases r1
    cases r2 with
    | cons r2 r3 =>
      cases r2; cases r3
      exact ⟨i, j, rfl, by rw [show (if j > i then j else i) = max i j by omega]; exact f _ _ _ _ k R (.int _)⟩
/-! isinstance -/
open PyProof.Rows in
theorem de_isi {p : Pos} (g : Gn X "isinstance") (h : DA B X [a, b] δ M fun ds M1 => CallD (rIsi X.K) ds M1 Φ) (he : starEach [a, b] X.env = (false, eval a X.env) :: starEach [b] X.env := by rfl) (hpl : (backTo pos (starEach [b] X.env)).any (·.1) = false := by rfl) : DE B X (.Call (.Name "isinstance" p) [a, b] [] pos) δ M Φ := de_blt call_isi g boot_isinstance h (by decide) (by decide) he hpl
/-- a built-in type as a value -/
theorem de_tyN {x : Str} {T : String} (g : Gn X x) (hv : bootBuiltins x = some (.type T)) (k : Φ (.raw (.ty T)) M) (hn : x ≠ "__name__" := by decide) (hd : (x == ("__debug__" : Str)) = false := by decide) : DE B X (.Name x pos) δ M Φ := .of (pe_bltn (v := .ty T) g.gl g.no hv rfl hn hd) (.val (fun _ _ => .raw _) k)
/-- the name of the type -/
def tyD : D → Option String
  | .non => some "NoneType"
  | .bl _ => some "bool"
  | .int _ => some "int"
  | .str _ => some "str"
  | .lst _ => some "list"
  | .tup _ => some "tuple"
  | _ => none
theorem cd_isi {K : PySem.W.Frag} {T S : String} {r : Bool} (hx : tyD x = some S) (hk : kitB S T = some r) (k : Φ (.bl r) M) : CallD (rIsi K) [x, .raw (.ty T)] M Φ := fun κ δ σ H vs Q R rs f => by
  cases rs with
  | cons r1 r2 =>
    cases r2 with
    | cons r2 r3 =>
      cases r2; cases r3
      refine ⟨_, _, .type S, .type T, r, rfl, .ty T, ?_, kit_ty hk, f _ _ _ _ k R (.bl _)⟩
      cases r1 with
      | non => cases hx; exact .base .non
      | bl b => cases hx; exact .base (.bl b)
      | int i => cases hx; exact .base (.int i)
      | str i => cases hx; exact .base (.str i)
      | lst h1 e1 _ => cases hx; exact .base (.lst e1)
      | tup h1 e1 _ => cases hx; exact .base (.tup e1)
      | obj _ _ _ _ => cases hx
      | raw _ => cases hx
      | scrH _ _ => cases hx
      | scrK _ => cases hx
      | exn0 _ _ => cases hx
      | exn _ _ _ _ _ _ => cases hx
end
end Hl
namespace Hl
open PySem L2
section
variable {B : Bx} {X : Cx} {e a b c o : Expr} {es rest : List Expr} {st : Stmt} {sts : List Stmt} {δ δ' : Env'} {M : Mem} {Φ : D → Mem → Prop} {Ψ : DEnds} {te ta tb : TE} {tt : TT} {pos pos' apos : Pos} {d x y : D} {ΦB : Bool → Mem → Prop} {ΦL : List D → Mem → Prop}
/-! ### comprehensions -/
/-- the context of a comprehension's block -/
structure Bk (X X' : Cx) (scope : Scope) : Prop where
  prog : X'.prog = X.prog
  wd : X'.w = X.w
  K : X'.K = X.K
  mg : X'.mg = X.mg
  base : X'.base = X.base
  N : X'.N = X.N
  A : X'.A = X.A
  calm : X'.calm = X.calm
  sc : X'.env.scope = relS scope X.env.scope
  xe : ∀ v s, ¬ X'.xe v s
theorem Bk.z {X X' : Cx} {scope : Scope} {n : Nat} (h : Bk X X' scope) (z : Cz X n) : Cz X' n := ⟨by rw [h.N]; exact z.nd, by rw [h.calm]; exact z.calm, by rw [h.A]; exact z.room⟩
theorem Bk.df {X X' : Cx} {scope : Scope} {k : Nat} {x : Str} {ps : List Str} {p : DSp} (h : Bk X X' scope) (d : DefX X k x ps p) : DefX X' k x ps p := by
  unfold DefX
  rw [h.prog, h.wd, h.K, h.mg, h.base]
  exact d
theorem Bk.nm {X X' : Cx} {scope sc : Scope} {N : List Str} {i : Nat} {x : Str} (h : Bk X X' scope) (hN : X.N = N) (hs : X.env.scope = sc) (hh : nmB N (relS scope sc) i x = true) : Nm X' i x := nm_of (by rw [h.N, hN]) (by rw [h.sc, hs]) hh
theorem Bk.lo {X X' : Cx} {scope sc : Scope} {N : List Str} {i : Nat} {x : Str} (h : Bk X X' scope) (hN : X.N = N) (hs : X.env.scope = sc) (hh : (nmB N (relS scope sc) i x && decide ((relS scope sc).names.lookup x = some .local)) = true) : Lo X' i x := by
  rw [Bool.and_eq_true] at hh
  have e := of_decide_eq_true hh.2
  exact ⟨h.nm hN hs hh.1, by rw [h.sc, hs]; exact .inl e, .inr (by rw [h.sc, hs]; exact e)⟩
theorem Bk.gl {X X' : Cx} {scope sc : Scope} {x : Str} (h : Bk X X' scope) (hs : X.env.scope = sc) (hh : (relS scope sc).names.lookup x = some .globalImplicit) : Gl X' x := gl_of (by rw [h.sc, hs]) hh
theorem Bk.gn {X X' : Cx} {scope sc : Scope} {x : Str} (h : Bk X X' scope) (hs : X.env.scope = sc) (hh : (relS scope sc).names.lookup x = some .globalImplicit) (g : X.mg x = none) : Gn X' x := ⟨h.gl hs hh, by rw [h.mg]; exact g⟩
def wipeD (δ : Env') : List Nat → Env'
  | [] => δ
  | v :: vs => (wipeD δ vs).set v none
theorem Rs.wipe {κ : List (V × D)} {σ : St} {H : Hp} (R : Rs κ δ M σ H) : ∀ vs : List Nat, Rs κ (wipeD δ vs) M (L2.wipe σ vs) H
  | [] => R
  | v :: vs => (R.wipe vs).wipe1 v none
/-! targets of a comprehension -/
inductive Tk where
  | one (i : Nat) | tup (is : List Nat)
def gNames : List Nat → TGs
  | [] => gNil
  | i :: is => gCons (gName i) (gNames is)
def gK (K : PySem.W.Frag) : Tk → TG
  | .one i => gName i
  | .tup is => gTup K is.length (gNames is)
def setsD : Env' → List Nat → List D → Env'
  | δ, i :: is, d :: ds => setsD (δ.set i (some d)) is ds
  | δ, _, _ => δ
def sets : St → List Nat → List V → St
  | σ, i :: is, v :: vs => sets (σ.set i (some v)) is vs
  | σ, _, _ => σ
def slotsK : Tk → List Nat
  | .one i => [i]
  | .tup is => is
theorem Rs.puts {κ : List (V × D)} {M : Mem} {H : Hp} : ∀ {is : List Nat} {vs : List V} {ds : List D} {δ : Env'} {σ : St}, Rs κ δ M σ H → Reps M.F H vs ds → Rs κ (setsD δ is ds) M (sets σ is vs) H
  | [], _, _, _, _, R, _ => by unfold setsD sets; exact R
  | i :: is, _, _, _, _, R, .nil => by unfold setsD sets; exact R
  | i :: is, v :: vs, d :: ds, δ, σ, R, .cons r rs => by unfold setsD sets; exact (R.put i r).puts rs
theorem gNames_run {H : Hp} : ∀ {is : List Nat} {vs : List V} {σ : St} {Q : St → Hp → Prop}, vs.length = is.length → Q (sets σ is vs) H → gNames is vs σ H Q
  | [], [], _, _, _, q => ⟨rfl, q⟩
  | [], _ :: _, _, _, h, _ => by cases h
  | i :: is, [], _, _, h, _ => by cases h
  | i :: is, v :: vs, σ, Q, h, q => ⟨v, vs, rfl, gNames_run (by simpa using h) q⟩
theorem wipe_set {σ : St} {i : Nat} {ov : Option V} : ∀ {vs : List Nat}, i ∈ vs → L2.wipe (σ.set i ov) vs = L2.wipe σ vs
  | v :: vs, h => by
    unfold L2.wipe
    by_cases e : i = v
    · subst e
      by_cases hm : i ∈ vs
      · rw [wipe_set hm]
      · have : ∀ (vs : List Nat) (σ : St), i ∉ vs → L2.wipe (σ.set i ov) vs = (L2.wipe σ vs).set i ov := by
          intro vs
          induction vs with
          | nil => intro σ _; rfl
          | cons w vs ih =>
            intro σ hn
            unfold L2.wipe
            rw [ih σ (fun z => hn (List.mem_cons_of_mem _ z)), List.set_comm _ _ (fun z => hn (by rw [z]; exact List.mem_cons_self))]
        rw [this vs σ hm, List.set_set]
    · have hm : i ∈ vs := by
        rcases List.mem_cons.mp h with h | h
        · exact absurd h e
        · exact h
      rw [wipe_set hm]
theorem wipe_none {σ : St} : ∀ {vs : List Nat}, L2.wipe (L2.wipe σ vs) vs = L2.wipe σ vs := by
  intro vs
  have key : ∀ (ws vs : List Nat) (σ : St), (∀ w ∈ ws, w ∈ vs) → L2.wipe (L2.wipe σ ws) vs = L2.wipe σ vs := by
    intro ws
    induction ws with
    | nil => intro vs σ _; rfl
    | cons w ws ih =>
      intro vs σ h
      show L2.wipe ((L2.wipe σ ws).set w none) vs = _
      rw [wipe_set (h w List.mem_cons_self), ih vs σ fun x hx => h x (List.mem_cons_of_mem _ hx)]
  exact key vs vs σ fun _ h => h
theorem wipe_sets {vs : List Nat} : ∀ {is : List Nat} {ws : List V} {σ : St}, (∀ i ∈ is, i ∈ vs) → L2.wipe (sets σ is ws) vs = L2.wipe σ vs
  | [], _, _, _ => by unfold sets; rfl
  | i :: is, [], _, _ => by unfold sets; rfl
  | i :: is, w :: ws, σ, h => by
    unfold sets
    rw [wipe_sets fun j hj => h j (List.mem_cons_of_mem _ hj), wipe_set (h i List.mem_cons_self)]
def bindK (tk : Tk) (x : D) (δ : Env') : Option Env' := match tk, x with
  | .one i, x => some (δ.set i (some x))
  | .tup is, .tup ds => if ds.length = is.length then some (setsD δ is ds) else none
  | _, _ => none
theorem gK_run {K : PySem.W.Frag} {tk : Tk} {δ2 : Env'} {κ : List (V × D)} {σ : St} {H : Hp} {v : V} {Q : St → Hp → Prop} {vs : List Nat} (R : Rs κ δ M σ H) (r : Rep M.F H v x) (e : bindK tk x δ = some δ2) (hv : ∀ i ∈ slotsK tk, i ∈ vs) (h : ∀ σ2, L2.wipe σ2 vs = L2.wipe σ vs → Rs κ δ2 M σ2 H → Q σ2 H) : gK K tk v σ H Q := by
  cases tk with
  | one i =>
    have e : δ.set i (some x) = δ2 := by unfold bindK at e; cases x <;> exact Option.some.inj e
    subst e
    exact h _ (wipe_set (hv i (by simp [slotsK]))) (R.put i r)
  | tup is =>
    cases x with
    | tup ds =>
      unfold bindK at e
      dsimp only at e
      split at e
      · next hl =>
        cases e
        cases r with
        | tup h1 e1 r1 =>
          refine ⟨_, _, rfl, SqT.of e1, by rw [r1.length]; exact hl, gNames_run (by rw [r1.length]; exact hl) ?_⟩
          exact h _ (wipe_sets hv) (R.puts r1)
      · cases e
    | _ => exact nomatch e
def teA (X : Cx) (scope : Scope) (e : Expr) : TE := fun σ H Q => ∀ X', Bk X X' scope → tE X' e σ H Q
def ttA (X : Cx) (scope : Scope) (ifs : List Expr) : TT := fun σ H Q => match ifs with
  | [] => Q true H
  | [c] => ∀ X', Bk X X' scope → tT X' c σ H Q
  | _ => False
theorem bk_blk {s : Shared} {H : Hp} {scope : Scope} {C : Addr} {cl : List (Str × Addr)} {fp : List Addr} : Bk X (X.blk s H scope (compEnvC scope cl C X.env) fp) scope := ⟨rfl, rfl, rfl, rfl, rfl, rfl, rfl, rfl, rfl, fun _ _ z => z⟩
/-- what one turn of a comprehension gives: an item or none -/
def Turn1 (B : Bx) (X : Cx) (scope : Scope) (elt : Expr) (ifs : List Expr) (δ : Env') (M : Mem) (P : Option D → Mem → Prop) : Prop := match ifs with
  | [] => ∀ X', Bk X X' scope → DE B X' elt δ M fun d M3 => P (some d) M3
  | [c] => ∀ X', Bk X X' scope → DT B X' c δ M fun t M3 => Br t (∀ X', Bk X X' scope → DE B X' elt δ M3 fun d M4 => P (some d) M4) (P none M3)
  | _ => False
theorem pts_A {s : Shared} {H : Hp} {scope : Scope} {C : Addr} {cl : List (Str × Addr)} {fp : List Addr} {ifs : List Expr} : PTs (X.blk s H scope (compEnvC scope cl C X.env) fp) ifs (ttA X scope ifs) := by
  match ifs with
  | [] => exact pts_nil
  | [c] => exact ⟨fun pins s' σ' H' Q I q => (pts_one cT).run pins s' σ' H' Q I (q _ bk_blk)⟩
  | _ :: _ :: _ => exact ⟨fun pins s' σ' H' Q I q => q.elim⟩
theorem pe_A {s : Shared} {H : Hp} {scope : Scope} {C : Addr} {cl : List (Str × Addr)} {fp : List Addr} {elt : Expr} : PE (X.blk s H scope (compEnvC scope cl C X.env) fp) elt (teA X scope elt) := ⟨fun pins s' σ' H' Q I q => cE.run pins s' σ' H' Q I (q _ bk_blk)⟩
/-- the turns of a comprehension, by data -/
def LcH (k : Nat) (B : Bx) (X : Cx) (scope : Scope) (elt : Expr) (ifs : List Expr) (own : List (Str × Nat)) (tk : Tk) (δ : Env') (xs : List D) (M' : Mem) (ΦL : List D → Mem → Prop) : Prop :=
  ∃ Iv : Nat → List D → Mem → Prop, Iv 0 [] M' ∧ (∀ (p : Addr) i x acc M1, xs[i]? = some x → Iv i acc M1 → acc.length < sizeLine ∧ ∃ δ2, bindK tk x (wipeD δ (own.map (·.2))) = some δ2 ∧
        Turn1 B X scope elt ifs δ2 (insM k (p, .lst acc) M1) fun od M2 => ∃ M3, M2 = insM k (p, .lst acc) M3 ∧ Iv (i + 1) (acc ++ od.toList) M3) ∧ ∀ acc M1, Iv xs.length acc M1 → ΦL acc M1
theorem wf_lc {elt : Expr} {ifs : List Expr} {scope : Scope} {wi : TI} {k : Nat} (own : List (Str × Nat)) (tk : Tk) (hv : ∀ i ∈ slotsK tk, i ∈ own.map (·.2))
    (w : WI B wi δ M fun xs M' => LcH k B X scope elt ifs own tk δ xs M' ΦL) : WF B (tLc wi (gK X.K tk) (ttA X scope ifs) (teA X scope elt) (own.map (·.2))) δ M ΦL := by
  intro κ σ H Q hb R kk
  refine w κ σ H _ hb R fun xs M1 H1 J κ' ⟨Iv, h0, hst, hd⟩ hk R1 W => ?_
  intro p hp
  have R1p : Rs κ' δ (insM k (p, .lst []) M1) σ (upd H1 p (.lst [])) := (R1.lst .nil hp).perm insM_perm
  refine ⟨fun i m H => m = xs.length - i ∧ i ≤ xs.length ∧ ∃ acc M, Iv i acc M ∧ Rs κ' δ (insM k (p, .lst acc) M) σ H, ⟨xs.length, by simp, Nat.zero_le _, [], M1, h0, R1p⟩, ?_⟩
  rintro i m H ⟨rfl, hi, acc, M, q, R⟩
  by_cases hlt : i < xs.length
  · refine .inr ⟨W.goes i δ _ σ H hlt R, fun H' => ∃ acc' M', Iv (i + 1) acc' M' ∧ Rs κ' δ (insM k (p, .lst acc') M') σ H', fun H' ⟨acc', M', q', R'⟩ => ⟨xs.length - (i + 1), by omega, rfl, hlt, acc', M', q', R'⟩, fun x H' y => ?_⟩
    obtain ⟨d, hd1, R2, r2⟩ := W.yields i δ _ σ H x H' hlt R y
    obtain ⟨hlen, δ2, eb, tu⟩ := hst p i d acc M hd1 q
    have Rw := (R2.push r2)
    let κ2 := κ' ++ sk σ δ
    have back : ∀ {M' : Mem} {H' : Hp}, (∀ q ∈ κ2, Rep M'.F H' q.1 q.2) → (∀ q ∈ M', CellOk M'.F H' q.1 q.2) → M'.F.Nodup → Rs κ' δ M' σ H' := fun h1 h2 h3 => ⟨fun q hq => h1 q (List.mem_append.mpr (.inl hq)), sk_back R2.sl fun q hq => h1 q (List.mem_append.mpr (.inr hq)), h2, h3⟩
    have R3 : Rs κ2 (wipeD δ (own.map (·.2))) (insM k (p, .lst acc) M) (L2.wipe σ (own.map (·.2))) H' := by
      have := R2.wipe (own.map (·.2))
      exact ⟨fun q hq => by
        rcases List.mem_append.mp hq with h | h
        · exact R2.kp q h
        · exact sk_rep R2.sl q h, this.sl, R2.cl, R2.nd⟩
    refine gK_run R3 r2 eb hv fun σ2 hw R4 => ⟨by rw [hw, wipe_none], ?_⟩
    have hb2 : ∀ q ∈ B.ps, q ∈ κ2 := fun q hq => List.mem_append.mpr (.inl (hk q (hb q hq)))
    have fin : ∀ {u : V} {d : D} {M2 : Mem} {H2 : Hp}, (∃ M3, M2 = insM k (p, .lst acc) M3 ∧ Iv (i + 1) (acc ++ [d]) M3) → Rs κ2 δ2 M2 σ2 H2 → Rep M2.F H2 u d → ∃ ac, H2 p = some (.lst ac) ∧ ac.length < sizeLine ∧ ∃ acc' M', Iv (i + 1) acc' M' ∧ Rs κ' δ (insM k (p, .lst acc') M') σ (upd H2 p (.lst (ac ++ [u]))) := by
      rintro u d M2 H2 ⟨M3, rfl, q3⟩ R5 r5
      have R6 := (back R5.kp R5.cl R5.nd).perm insM_perm.symm
      have r5 : Rep (Mem.F ((p, Cell.lst acc) :: M3)) H2 u d := r5.fwd (Fwd.less fun x hx => (F_perm insM_perm).mem_iff.mp hx)
      have hm : ((p, Cell.lst acc) :: M3)[0]? = some (p, .lst acc) := rfl
      obtain ⟨vs, e1, rr⟩ := R6.at hm
      refine ⟨vs, e1, by rw [rr.length]; exact hlen, acc ++ [d], M3, q3, ?_⟩
      have hpF : ∀ x, x ∉ (Mem.F ((p, Cell.lst acc) :: M3)) → upd H2 p (.lst (vs ++ [u])) x = H2 x := fun x hx => upd_ne fun z => hx (z ▸ R6.mem hm p (by simp [Hl.own]))
      have := R6.cell (c' := .lst (acc ++ [d])) hm rfl (H' := upd H2 p (.lst (vs ++ [u]))) (fun x hx => upd_ne (by simpa [Hl.own] using hx)) ⟨_, upd_same, (rr.append (.cons r5 .nil)).fwd (Fwd.same hpF)⟩
      exact Rs.perm this insM_perm
    match ifs, tu with
    | [], tu =>
      show (if true = true then teA X scope elt σ2 H' (fun y H4 => ∃ ac, H4 p = some (.lst ac) ∧ ac.length < sizeLine ∧ (∃ acc' M', Iv (i + 1) acc' M' ∧ Rs κ' δ (insM k (p, .lst acc') M') σ (upd H4 p (.lst (ac ++ [y]))))) else (∃ acc' M', Iv (i + 1) acc' M' ∧ Rs κ' δ (insM k (p, .lst acc') M') σ H'))
      rw [if_pos rfl]
      intro X' bk
      exact tu X' bk κ2 σ2 H' _ hb2 R4 fun u d M2 H2 q2 R5 r5 => fin q2 R5 r5
    | [c], tu =>
      intro X' bk
      refine tu X' bk κ2 σ2 H' _ hb2 R4 fun t M2 H2 q2 R5 => Br.ite ⟨fun e X2 bk2 => ?_, fun e => ?_⟩
      · exact q2.1 e X2 bk2 κ2 σ2 H2 _ hb2 R5 fun u d M3 H3 q3 R6 r6 => fin q3 R6 r6
      · obtain ⟨M3, rfl, q3⟩ := q2.2 e
        exact ⟨acc, M3, by simpa using q3, back R5.kp R5.cl R5.nd⟩
    | _ :: _ :: _, tu => exact tu.elim
  · have e : i = xs.length := by omega
    subst e
    refine .inl ⟨W.stops δ _ σ H R, ?_⟩
    exact kk p acc M H (hd acc M q) ((R.sub hk).perm insM_perm.symm)
theorem df_lc {tg iter elt : Expr} {ifs : List Expr} {scope sc : Scope} {N : List Str} {n : Nat} (k : Nat) (z : Cz X n) (hN : X.N = N) (hs : X.env.scope = sc) (own : List (Str × Nat)) (tk : Tk) (ok : blkC N sc scope own = true) (hv : ∀ i ∈ slotsK tk, i ∈ own.map (·.2)) (hg : ∀ X', Bk X X' scope → PG X' tg (gK X.K tk))
    (h : DI B X tg iter δ M fun xs M' => LcH k B X scope elt ifs own tk δ xs M' ΦL) (hf : ∀ x, foldedSetIterable iter X.env x = pure x := by intro _; rfl) : DF B X (.ListComp elt [⟨tg, iter, ifs, 0⟩] scope pos) δ M ΦL := by
  obtain ⟨wi, pi, w⟩ := h
  exact .of (pe_lc z.calm z.nd pi (blkOk_by (by rw [hN, hs]; exact ok)) (fun s H C cl fp => hg _ bk_blk) (fun s H C cl fp => pts_A) (fun s H C cl fp => pe_A) hf) (wf_lc own tk hv w)
/-- y = [..], the model's own statement -/
theorem ds_lc {tg iter elt : Expr} {ifs : List Expr} {scope sc : Scope} {N : List Str} {n i : Nat} {y : Str} {py spos : Pos} (k : Nat) (z : Cz X n) (l : Lo X i y) (hN : X.N = N) (hs : X.env.scope = sc) (own : List (Str × Nat)) (tk : Tk) (ok : blkC N sc scope own = true) (hv : ∀ i ∈ slotsK tk, i ∈ own.map (·.2)) (hg : ∀ X', Bk X X' scope → PG X' tg (gK X.K tk))
    (hyl : sc.names.lookup y = some .local) (hk : sc.kind = .function) (hpl : (py.line == pos.line) = true) (hno : (scope.names.any fun (n, k) => n == y && (k == .local || k == .cell)) = false)
    (h : DI B X tg iter δ M fun xs M' => LcH k B X scope elt ifs own tk δ xs M' fun ds M2 => Sets δ i (.lst ds) fun δ' => Ψ.nx δ' M2) (hf : ∀ x, foldedSetIterable iter X.env x = pure x := by intro _; rfl) : DS B X (.Assign [.Name y py] (.ListComp elt [⟨tg, iter, ifs, 0⟩] scope pos) spos) δ M Ψ := by
  obtain ⟨wi, pi, w⟩ := h
  refine .of (ps_setLc z.calm z.nd l.at_ (by rw [hs]; exact hyl) (sw_true (by rw [hs]; exact hk) (by rw [hs]; exact hyl) hpl hno) pi (blkOk_by (by rw [hN, hs]; exact ok)) (fun s H C cl fp => hg _ bk_blk) (fun s H C cl fp => pts_A) (fun s H C cl fp => pe_A) hf) fun κ σ H E hb R kk => ?_
  exact (WE.ofF (wf_lc own tk hv w) : WE B _ δ M fun d M2 => Sets δ i d fun δ' => Ψ.nx δ' M2) κ σ H _ hb R fun v d M' H' q R' r => kk.nx _ _ _ _ q.get (R'.put i r)
theorem ds_lcOwn {tg iter elt : Expr} {ifs : List Expr} {scope sc : Scope} {N : List Str} {n i : Nat} {y : Str} {py spos : Pos} (k : Nat) (z : Cz X n) (l : Lo X i y) (hN : X.N = N) (hs : X.env.scope = sc) (own : List (Str × Nat)) (tk : Tk) (ok : blkC N sc scope own = true) (hv : ∀ i ∈ slotsK tk, i ∈ own.map (·.2)) (hg : ∀ X', Bk X X' scope → PG X' tg (gK X.K tk))
    (hyl : sc.names.lookup y = some .local) (hk : sc.kind = .function) (hpl : (py.line == pos.line) = true) (hno : (scope.names.any fun (n, k) => n == y && (k == .local || k == .cell)) = false)
    (h : DI B X tg iter δ M fun xs M' => LcH k B X scope elt ifs own tk δ xs M' fun ds M2 => ∀ p : Addr, Sets δ i (.raw (.ref p)) fun δ' => Ψ.nx δ' (insM k (p, .lst ds) M2)) (hf : ∀ x, foldedSetIterable iter X.env x = pure x := by intro _; rfl) : DS B X (.Assign [.Name y py] (.ListComp elt [⟨tg, iter, ifs, 0⟩] scope pos) spos) δ M Ψ := by
  obtain ⟨wi, pi, w⟩ := h
  refine .of (ps_setLc z.calm z.nd l.at_ (by rw [hs]; exact hyl) (sw_true (by rw [hs]; exact hk) (by rw [hs]; exact hyl) hpl hno) pi (blkOk_by (by rw [hN, hs]; exact ok)) (fun s H C cl fp => hg _ bk_blk) (fun s H C cl fp => pts_A) (fun s H C cl fp => pe_A) hf) fun κ σ H E hb R kk => ?_
  exact wf_lc own tk hv w κ σ H _ hb R fun p ds M' H' q R' => kk.nx _ _ _ _ (q p).get ((R'.perm insM_perm).put i (.raw _))
end
end Hl
namespace Hl
open PySem L2
/-! ### == of lists and tuples -/
mutual
def toPy : D → PyData
  | .bl b => .bool b
  | .int i => .int i
  | .str x => .str x
  | .lst ds => .list (toPys ds)
  | .tup ds => .tuple (toPys ds)
  | _ => .none
def toPys : List D → List PyData
  | [] => []
  | d :: ds => toPy d :: toPys ds
end
mutual
def okD : D → Bool
  | .non => true
  | .bl _ => true
  | .int _ => true
  | .str x => PyData.canLay0 (.str x)
  | .lst ds => okDs ds
  | .tup ds => okDs ds
  | _ => false
def okDs : List D → Bool
  | [] => true
  | d :: ds => okD d && okDs ds
end
mutual
theorem rep_dp {K : PySem.W.Frag} {F : List Addr} {H : Hp} : ∀ {v : V} {d : D}, Rep F H v d → okD d = true → Dp K H v (toPy d)
  | _, _, .non, _ => .non
  | _, _, .bl b, _ => .bl b
  | _, _, .int i, _ => .int i
  | _, _, .str x, _ => .str x
  | _, _, .lst h e r, k => .lst (SqL.of e) (reps_dp r k)
  | _, _, .tup h e r, k => .tup (SqT.of e) (reps_dp r k)
  | _, _, .obj h e l r, k => by cases k
  | _, _, .raw v, k => by cases k
  | _, _, .scrH h e, k => by cases k
  | _, _, .scrK h, k => by cases k
  | _, _, .exn0 h e, k => by cases k
  | _, _, .exn h e h2 e2 l r, k => by cases k
theorem reps_dp {K : PySem.W.Frag} {F : List Addr} {H : Hp} : ∀ {vs : List V} {ds : List D}, Reps F H vs ds → okDs ds = true → DpAll K H vs (toPys ds)
  | _, _, .nil, _ => .nil
  | _, _, .cons r rs, k => by
    have k := Bool.and_eq_true_iff.mp (show (_ && _) = true from k)
    exact .cons (rep_dp r k.1) (reps_dp rs k.2)
end
mutual
theorem ok_lay : ∀ {d : D}, okD d = true → (toPy d).canLay0 = true
  | .non, _ => rfl
  | .bl _, _ => rfl
  | .int _, _ => rfl
  | .str x, h => h
  | .lst ds, h => oks_lay (ds := ds) h
  | .tup ds, h => oks_lay (ds := ds) h
  | .obj _ _ _, h => by cases h
  | .raw _, h => by cases h
  | .scr _ _, h => by cases h
  | .exn _ _ _, h => by cases h
theorem oks_lay : ∀ {ds : List D}, okDs ds = true → PyData.canLayAll0 (toPys ds) = true
  | [], _ => rfl
  | d :: ds, h => by
    have k := Bool.and_eq_true_iff.mp (show (_ && _) = true from h)
    show (_ && _) = true
    rw [ok_lay k.1, oks_lay k.2]; rfl
end
mutual
theorem eqv_refl : ∀ (d : PyData), d.canLay0 = true → PyData.eqv d d = true
  | .none, _ => rfl
  | .bool b, _ => by cases b <;> rfl
  | .int i, _ => by simp [PyData.eqv]
  | .str x, _ => by simp [PyData.eqv]
  | .list ds, h => eqvs_refl ds h
  | .tuple ds, h => eqvs_refl ds h
  | .dict _, h => by cases h
theorem eqvs_refl : ∀ (ds : List PyData), PyData.canLayAll0 ds = true → PyData.eqvAll ds ds = true
  | [], _ => rfl
  | d :: ds, h => by
    have k := Bool.and_eq_true_iff.mp (show (_ && _) = true from h)
    show (_ && _) = true
    rw [eqv_refl d k.1, eqvs_refl ds k.2]; rfl
end
/-- data as such, or a list that is a cell -/
inductive Is (M : Mem) : D → D → Prop
  | val (d : D) : Is M d d
  | cell {p : Addr} {ds : List D} (j : Nat) (h : M[j]? = some (p, .lst ds)) : Is M (.raw (.ref p)) (.lst ds)
section
variable {B : Bx} {X : Cx} {e a b c o : Expr} {es rest : List Expr} {st : Stmt} {sts : List Stmt} {δ δ' : Env'} {M : Mem} {Φ : D → Mem → Prop} {Ψ : DEnds} {te ta tb : TE} {tt : TT} {pos pos' apos : Pos} {d x y : D} {ΦB : Bool → Mem → Prop} {ΦL : List D → Mem → Prop}
theorem Is.dp {κ : List (V × D)} {σ : St} {H : Hp} {v : V} {x d : D} {K : PySem.W.Frag} (h : Is M x d) (R : Rs κ δ M σ H) (r : Rep M.F H v x) (k : okD d = true) : Dp K H v (toPy d) := by
  cases h with
  | val d => exact rep_dp r k
  | cell j h =>
    cases r
    obtain ⟨vs, e1, r1⟩ := R.at h
    exact .lst (SqL.of e1) (reps_dp r1 k)
def okE (d : D) : Bool := okD d && decide ((toPy d).depth ≤ 64)
theorem okE_sh {d : D} (h : okE d = true) : SeqAt.shaped (toPy d) = true := by
  have k := Bool.and_eq_true_iff.mp (show (_ && _) = true from h)
  show (_ && _) = true
  rw [ok_lay k.1, k.2]; rfl
theorem okE_ok {d : D} (h : okE d = true) : okD d = true := (Bool.and_eq_true_iff.mp (show (_ && _) = true from h)).1
theorem od_eqD {K : PySem.W.Frag} {x' y' : D} (hx : Is M x x') (hy : Is M y y') (kx : okE x' = true) (ky : okE y' = true) (k : Φ (.bl (PyData.eqv (toPy x') (toPy y'))) M) : OpD (rEqU K) x y M Φ := .inr fun κ δ σ H v w Q R rv rw' h =>
  ⟨_, _, hx.dp R rv (okE_ok kx), hy.dp R rw' (okE_ok ky), okE_sh kx, okE_sh ky, h _ _ M H k R (.bl _)⟩
theorem od_neD {K : PySem.W.Frag} {x' y' : D} (hx : Is M x x') (hy : Is M y y') (kx : okE x' = true) (ky : okE y' = true) (k : Φ (.bl (!PyData.eqv (toPy x') (toPy y'))) M) : OpD (rNeU K) x y M Φ := .inr fun κ δ σ H v w Q R rv rw' h =>
  ⟨_, _, hx.dp R rv (okE_ok kx), hy.dp R rw' (okE_ok ky), okE_sh kx, okE_sh ky, h _ _ M H k R (.bl _)⟩
theorem okDs_ints : ∀ (ns : List Int), okDs (ns.map D.int) = true
  | [] => rfl
  | n :: ns => okDs_ints ns
theorem depths_ints : ∀ (ns : List Int), PyData.depthAll (toPys (ns.map D.int)) = 0
  | [] => rfl
  | n :: ns => by
    show max 0 _ = 0
    rw [depths_ints ns]; rfl
theorem okE_ints (ns : List Int) : okE (.lst (ns.map D.int)) = true := by
  show (_ && _) = true
  rw [show okD (.lst (ns.map D.int)) = true from okDs_ints ns]
  have : (toPy (.lst (ns.map D.int))).depth = 1 := by
    show PyData.depthAll (toPys (ns.map D.int)) + 1 = 1
    rw [depths_ints]
  rw [this]; rfl
theorem eqv_ints : ∀ (ns ms : List Int), PyData.eqvAll (toPys (ns.map D.int)) (toPys (ms.map D.int)) = decide (ns = ms)
  | [], [] => rfl
  | [], _ :: _ => by simp [toPys, PyData.eqvAll]
  | _ :: _, [] => by simp [toPys, PyData.eqvAll]
  | n :: ns, m :: ms => by
    show (PyData.eqv (.int n) (.int m) && _) = _
    rw [eqv_ints ns ms]
    simp [PyData.eqv, Bool.beq_eq_decide_eq]
theorem od_neIs {K : PySem.W.Frag} {ns ms : List Int} (hx : Is M x (.lst (ns.map .int))) (hy : Is M y (.lst (ms.map .int))) (k : Φ (.bl (!decide (ns = ms))) M) : OpD (rNeU K) x y M Φ := od_neD hx hy (okE_ints _) (okE_ints _) (by
  rw [show PyData.eqv (toPy (.lst (ns.map .int))) (toPy (.lst (ms.map .int))) = decide (ns = ms) from eqv_ints ns ms]; exact k)
theorem od_eqIs {K : PySem.W.Frag} {ns ms : List Int} (hx : Is M x (.lst (ns.map .int))) (hy : Is M y (.lst (ms.map .int))) (k : Φ (.bl (decide (ns = ms))) M) : OpD (rEqU K) x y M Φ := od_eqD hx hy (okE_ints _) (okE_ints _) (by
  rw [show PyData.eqv (toPy (.lst (ns.map .int))) (toPy (.lst (ms.map .int))) = decide (ns = ms) from eqv_ints ns ms]; exact k)
/-- against the empty list -/
theorem od_neNil {K : PySem.W.Frag} {ds : List D} (hx : Is M x (.lst ds)) (hk : okE (.lst ds) = true) (k : Φ (.bl (!ds.isEmpty)) M) : OpD (rNeU K) x (.lst []) M Φ := od_neD hx (.val _) hk rfl (by
  rw [show PyData.eqv (toPy (.lst ds)) (toPy (.lst [])) = ds.isEmpty from by cases ds <;> rfl]; exact k)
theorem od_eqNil {K : PySem.W.Frag} {ds : List D} (hx : Is M x (.lst ds)) (hk : okE (.lst ds) = true) (k : Φ (.bl ds.isEmpty) M) : OpD (rEqU K) x (.lst []) M Φ := od_eqD hx (.val _) hk rfl (by
  rw [show PyData.eqv (toPy (.lst ds)) (toPy (.lst [])) = ds.isEmpty from by cases ds <;> rfl]; exact k)
/-- the same data -/
theorem od_neSame {K : PySem.W.Frag} {x' : D} (hx : Is M x x') (hy : Is M y x') (hk : okE x' = true) (k : Φ (.bl false) M) : OpD (rNeU K) x y M Φ := od_neD hx hy hk hk (by
  rw [eqv_refl _ (ok_lay (okE_ok hk))]; exact k)
theorem od_eqSame {K : PySem.W.Frag} {x' : D} (hx : Is M x x') (hy : Is M y x') (hk : okE x' = true) (k : Φ (.bl true) M) : OpD (rEqU K) x y M Φ := od_eqD hx hy hk hk (by
  rw [eqv_refl _ (ok_lay (okE_ok hk))]; exact k)
/-! ### the draws' state as a dict and a list -/
def stD (g : Addr) (r t e : Int) (cs : List Int) : List (Key × D) := [(.inr "great", .raw (.ref g)), (.inr "rest", .int r), (.inr "turn", .int t), (.inr "seed", .int e), (.inr "cells", .lst (cs.map .int))]
structure StOk (b : Nat) (gs : List Int) (r t e : Int) (cs : List Int) : Prop where
  hgs : ∀ x ∈ gs, 0 < x
  hr : 0 ≤ r
  ht : 0 ≤ t
  htb : t + (b : Int) ≤ 1000000000000
  he : 0 ≤ e
  he2 : e < 2147483647
  hcs : ∀ x ∈ cs, 0 ≤ x ∧ x < 2147483629
  hc1 : 0 < cs.length
  hc2 : cs.length ≤ 100
theorem st_open {κ : List (V × D)} {σ : St} {H : Hp} {s g : Addr} {b : Nat} (R : Rs κ δ ((s, .st g b) :: M) σ H) : ∃ gs r t e cs, StOk b gs r t e cs ∧ Rs κ δ ((s, .dct (stD g r t e cs)) :: (g, .lst (gs.map .int)) :: M) σ H := by
  obtain ⟨c, r, t, e, gs, cs, hc, h1, h2, h3, p1, p2, p3, p4, p5, p6, p7, p8, p9⟩ := R.cl (s, .st g b) List.mem_cons_self
  refine ⟨gs, r, t, e, cs, ⟨p1, p2, p3, p4, p5, p6, p7, p8, p9⟩, ?_⟩
  have eF : Mem.F ((s, Cell.dct (stD g r t e cs)) :: (g, .lst (gs.map .int)) :: M) = Mem.F ((s, .st g b) :: M) := rfl
  refine ⟨fun q hq => by rw [eF]; exact R.kp q hq, by rw [eF]; exact R.sl, fun q hq => ?_, by rw [eF]; exact R.nd⟩
  rw [eF]
  rcases List.mem_cons.mp hq with rfl | hq
  · exact ⟨_, h1, rfl, .cons (.raw _) (.cons (.int _) (.cons (.int _) (.cons (.int _) (.cons (.lst hc h3 (.ofInts cs)) .nil))))⟩
  · rcases List.mem_cons.mp hq with rfl | hq
    · exact ⟨_, h2, .ofInts gs⟩
    · exact R.cl q (List.mem_cons_of_mem _ hq)
theorem st_close {κ : List (V × D)} {σ : St} {H : Hp} {s g : Addr} {b : Nat} {gs : List Int} {r t e : Int} {cs : List Int} (k : StOk b gs r t e cs) (R : Rs κ δ ((s, .dct (stD g r t e cs)) :: (g, .lst (gs.map .int)) :: M) σ H) : Rs κ δ ((s, .st g b) :: M) σ H := by
  have eF : Mem.F ((s, Cell.dct (stD g r t e cs)) :: (g, .lst (gs.map .int)) :: M) = Mem.F ((s, .st g b) :: M) := rfl
  refine ⟨fun q hq => by rw [← eF]; exact R.kp q hq, by rw [← eF]; exact R.sl, fun q hq => ?_, by rw [← eF]; exact R.nd⟩
  rw [← eF]
  rcases List.mem_cons.mp hq with rfl | hq
  · obtain ⟨ws, h1, h2, rs⟩ := R.cl (s, .dct (stD g r t e cs)) List.mem_cons_self
    obtain ⟨vs, h3, r3⟩ := R.cl (g, .lst (gs.map .int)) (by simp)
    match ws, h2, rs with
    | [(k1, v1), (k2, v2), (k3, v3), (k4, v4), (k5, v5)], h2, rs =>
      injection h2 with e1 h2
      injection h2 with e2 h2
      injection h2 with e3 h2
      injection h2 with e4 h2
      injection h2 with e5 _
      have e1 : k1 = .inr "great" := e1
      have e2 : k2 = .inr "rest" := e2
      have e3 : k3 = .inr "turn" := e3
      have e4 : k4 = .inr "seed" := e4
      have e5 : k5 = .inr "cells" := e5
      subst e1 e2 e3 e4 e5
      cases rs with
      | cons r1 rs =>
        cases rs with
        | cons r2 rs =>
          cases rs with
          | cons r3' rs =>
            cases rs with
            | cons r4 rs =>
              cases rs with
              | cons r5 rs =>
                cases r1; cases r2; cases r3'; cases r4
                cases r5 with
                | lst hn he hr =>
                  have ev := hr.ints
                  subst ev
                  have ev := r3.ints
                  subst ev
                  exact ⟨_, r, t, e, gs, cs, hn, h1, h3, he, k.hgs, k.hr, k.ht, k.htb, k.he, k.he2, k.hcs, k.hc1, k.hc2⟩
  · exact R.cl q (List.mem_cons_of_mem _ (List.mem_cons_of_mem _ hq))
/-- a new state -/
theorem Rs.dct {κ : List (V × D)} {σ : St} {H : Hp} {p : Addr} {kvs : List (Key × D)} {ws : List (Key × V)} (R : Rs κ δ M σ H) (hp : H p = none) (e : ws.map (·.1) = kvs.map (·.1)) (r : Reps M.F H (ws.map (·.2)) (kvs.map (·.2))) : Rs κ δ ((p, .dct kvs) :: M) σ (upd H p (.dK ws)) :=
  R.add hp rfl ⟨ws, upd_same, e, r.fwd (Fwd.newC hp)⟩
theorem ws_stOpen {ts : TS} {s g : Addr} {b : Nat} (h : ∀ gs r t e cs, StOk b gs r t e cs → WS B ts δ ((s, .dct (stD g r t e cs)) :: (g, .lst (gs.map .int)) :: M) Ψ) : WS B ts δ ((s, .st g b) :: M) Ψ := fun κ σ H E hb R k => by
  obtain ⟨gs, r, t, e, cs, ok, R'⟩ := st_open R
  exact h gs r t e cs ok κ σ H E hb R' k
theorem ws_stClose {ts : TS} {s g : Addr} {b : Nat} {gs : List Int} {r t e : Int} {cs : List Int} (ok : StOk b gs r t e cs) (h : WS B ts δ ((s, .st g b) :: M) Ψ) : WS B ts δ ((s, .dct (stD g r t e cs)) :: (g, .lst (gs.map .int)) :: M) Ψ := fun κ σ H E hb R k => h κ σ H E hb (st_close ok R) k
/-- the same at a return: the promise may be closed behind the value -/
theorem WE.view {M' : Mem} (h : WE B te δ M' Φ) (v : ∀ κ σ H, Rs κ δ M σ H → Rs κ δ M' σ H) : WE B te δ M Φ := fun κ σ H Q hb R k => h κ σ H Q hb (v κ σ H R) k
theorem Vw.stc {s g : Addr} {b : Nat} {gs : List Int} {r t e : Int} {cs : List Int} (ok : StOk b gs r t e cs) : Vw d ((s, .dct (stD g r t e cs)) :: (g, .lst (gs.map .int)) :: M) d ((s, .st g b) :: M) := fun _ _ _ _ _ R r' => ⟨st_close ok R, r'⟩
end
end Hl
namespace Hl
open PySem L2
section
variable {d : D} {P : Env' → Prop}
theorem se0 {x0 : Option D} {r : Env'} (h : P (some d :: r)) : Sets (x0 :: r) 0 d P := .of h
theorem se1 {x0 x1 : Option D} {r : Env'} (h : P (x0 :: some d :: r)) : Sets (x0 :: x1 :: r) 1 d P := .of h
theorem se2 {x0 x1 x2 : Option D} {r : Env'} (h : P (x0 :: x1 :: some d :: r)) : Sets (x0 :: x1 :: x2 :: r) 2 d P := .of h
theorem se3 {x0 x1 x2 x3 : Option D} {r : Env'} (h : P (x0 :: x1 :: x2 :: some d :: r)) : Sets (x0 :: x1 :: x2 :: x3 :: r) 3 d P := .of h
theorem se4 {x0 x1 x2 x3 x4 : Option D} {r : Env'} (h : P (x0 :: x1 :: x2 :: x3 :: some d :: r)) : Sets (x0 :: x1 :: x2 :: x3 :: x4 :: r) 4 d P := .of h
theorem se5 {x0 x1 x2 x3 x4 x5 : Option D} {r : Env'} (h : P (x0 :: x1 :: x2 :: x3 :: x4 :: some d :: r)) : Sets (x0 :: x1 :: x2 :: x3 :: x4 :: x5 :: r) 5 d P := .of h
theorem se6 {x0 x1 x2 x3 x4 x5 x6 : Option D} {r : Env'} (h : P (x0 :: x1 :: x2 :: x3 :: x4 :: x5 :: some d :: r)) : Sets (x0 :: x1 :: x2 :: x3 :: x4 :: x5 :: x6 :: r) 6 d P := .of h
theorem se7 {x0 x1 x2 x3 x4 x5 x6 x7 : Option D} {r : Env'} (h : P (x0 :: x1 :: x2 :: x3 :: x4 :: x5 :: x6 :: some d :: r)) : Sets (x0 :: x1 :: x2 :: x3 :: x4 :: x5 :: x6 :: x7 :: r) 7 d P := .of h
theorem se8 {x0 x1 x2 x3 x4 x5 x6 x7 x8 : Option D} {r : Env'} (h : P (x0 :: x1 :: x2 :: x3 :: x4 :: x5 :: x6 :: x7 :: some d :: r)) : Sets (x0 :: x1 :: x2 :: x3 :: x4 :: x5 :: x6 :: x7 :: x8 :: r) 8 d P := .of h
theorem se9 {x0 x1 x2 x3 x4 x5 x6 x7 x8 x9 : Option D} {r : Env'} (h : P (x0 :: x1 :: x2 :: x3 :: x4 :: x5 :: x6 :: x7 :: x8 :: some d :: r)) : Sets (x0 :: x1 :: x2 :: x3 :: x4 :: x5 :: x6 :: x7 :: x8 :: x9 :: r) 9 d P := .of h
theorem se10 {x0 x1 x2 x3 x4 x5 x6 x7 x8 x9 x10 : Option D} {r : Env'} (h : P (x0 :: x1 :: x2 :: x3 :: x4 :: x5 :: x6 :: x7 :: x8 :: x9 :: some d :: r)) : Sets (x0 :: x1 :: x2 :: x3 :: x4 :: x5 :: x6 :: x7 :: x8 :: x9 :: x10 :: r) 10 d P := .of h
theorem se11 {x0 x1 x2 x3 x4 x5 x6 x7 x8 x9 x10 x11 : Option D} {r : Env'} (h : P (x0 :: x1 :: x2 :: x3 :: x4 :: x5 :: x6 :: x7 :: x8 :: x9 :: x10 :: some d :: r)) : Sets (x0 :: x1 :: x2 :: x3 :: x4 :: x5 :: x6 :: x7 :: x8 :: x9 :: x10 :: x11 :: r) 11 d P := .of h
theorem se12 {x0 x1 x2 x3 x4 x5 x6 x7 x8 x9 x10 x11 x12 : Option D} {r : Env'} (h : P (x0 :: x1 :: x2 :: x3 :: x4 :: x5 :: x6 :: x7 :: x8 :: x9 :: x10 :: x11 :: some d :: r)) : Sets (x0 :: x1 :: x2 :: x3 :: x4 :: x5 :: x6 :: x7 :: x8 :: x9 :: x10 :: x11 :: x12 :: r) 12 d P := .of h
theorem se13 {x0 x1 x2 x3 x4 x5 x6 x7 x8 x9 x10 x11 x12 x13 : Option D} {r : Env'} (h : P (x0 :: x1 :: x2 :: x3 :: x4 :: x5 :: x6 :: x7 :: x8 :: x9 :: x10 :: x11 :: x12 :: some d :: r)) : Sets (x0 :: x1 :: x2 :: x3 :: x4 :: x5 :: x6 :: x7 :: x8 :: x9 :: x10 :: x11 :: x12 :: x13 :: r) 13 d P := .of h
theorem se14 {x0 x1 x2 x3 x4 x5 x6 x7 x8 x9 x10 x11 x12 x13 x14 : Option D} {r : Env'} (h : P (x0 :: x1 :: x2 :: x3 :: x4 :: x5 :: x6 :: x7 :: x8 :: x9 :: x10 :: x11 :: x12 :: x13 :: some d :: r)) : Sets (x0 :: x1 :: x2 :: x3 :: x4 :: x5 :: x6 :: x7 :: x8 :: x9 :: x10 :: x11 :: x12 :: x13 :: x14 :: r) 14 d P := .of h
theorem se15 {x0 x1 x2 x3 x4 x5 x6 x7 x8 x9 x10 x11 x12 x13 x14 x15 : Option D} {r : Env'} (h : P (x0 :: x1 :: x2 :: x3 :: x4 :: x5 :: x6 :: x7 :: x8 :: x9 :: x10 :: x11 :: x12 :: x13 :: x14 :: some d :: r)) : Sets (x0 :: x1 :: x2 :: x3 :: x4 :: x5 :: x6 :: x7 :: x8 :: x9 :: x10 :: x11 :: x12 :: x13 :: x14 :: x15 :: r) 15 d P := .of h
theorem se16 {x0 x1 x2 x3 x4 x5 x6 x7 x8 x9 x10 x11 x12 x13 x14 x15 x16 : Option D} {r : Env'} (h : P (x0 :: x1 :: x2 :: x3 :: x4 :: x5 :: x6 :: x7 :: x8 :: x9 :: x10 :: x11 :: x12 :: x13 :: x14 :: x15 :: some d :: r)) : Sets (x0 :: x1 :: x2 :: x3 :: x4 :: x5 :: x6 :: x7 :: x8 :: x9 :: x10 :: x11 :: x12 :: x13 :: x14 :: x15 :: x16 :: r) 16 d P := .of h
theorem se17 {x0 x1 x2 x3 x4 x5 x6 x7 x8 x9 x10 x11 x12 x13 x14 x15 x16 x17 : Option D} {r : Env'} (h : P (x0 :: x1 :: x2 :: x3 :: x4 :: x5 :: x6 :: x7 :: x8 :: x9 :: x10 :: x11 :: x12 :: x13 :: x14 :: x15 :: x16 :: some d :: r)) : Sets (x0 :: x1 :: x2 :: x3 :: x4 :: x5 :: x6 :: x7 :: x8 :: x9 :: x10 :: x11 :: x12 :: x13 :: x14 :: x15 :: x16 :: x17 :: r) 17 d P := .of h
theorem se18 {x0 x1 x2 x3 x4 x5 x6 x7 x8 x9 x10 x11 x12 x13 x14 x15 x16 x17 x18 : Option D} {r : Env'} (h : P (x0 :: x1 :: x2 :: x3 :: x4 :: x5 :: x6 :: x7 :: x8 :: x9 :: x10 :: x11 :: x12 :: x13 :: x14 :: x15 :: x16 :: x17 :: some d :: r)) : Sets (x0 :: x1 :: x2 :: x3 :: x4 :: x5 :: x6 :: x7 :: x8 :: x9 :: x10 :: x11 :: x12 :: x13 :: x14 :: x15 :: x16 :: x17 :: x18 :: r) 18 d P := .of h
theorem se19 {x0 x1 x2 x3 x4 x5 x6 x7 x8 x9 x10 x11 x12 x13 x14 x15 x16 x17 x18 x19 : Option D} {r : Env'} (h : P (x0 :: x1 :: x2 :: x3 :: x4 :: x5 :: x6 :: x7 :: x8 :: x9 :: x10 :: x11 :: x12 :: x13 :: x14 :: x15 :: x16 :: x17 :: x18 :: some d :: r)) : Sets (x0 :: x1 :: x2 :: x3 :: x4 :: x5 :: x6 :: x7 :: x8 :: x9 :: x10 :: x11 :: x12 :: x13 :: x14 :: x15 :: x16 :: x17 :: x18 :: x19 :: r) 19 d P := .of h
theorem se20 {x0 x1 x2 x3 x4 x5 x6 x7 x8 x9 x10 x11 x12 x13 x14 x15 x16 x17 x18 x19 x20 : Option D} {r : Env'} (h : P (x0 :: x1 :: x2 :: x3 :: x4 :: x5 :: x6 :: x7 :: x8 :: x9 :: x10 :: x11 :: x12 :: x13 :: x14 :: x15 :: x16 :: x17 :: x18 :: x19 :: some d :: r)) : Sets (x0 :: x1 :: x2 :: x3 :: x4 :: x5 :: x6 :: x7 :: x8 :: x9 :: x10 :: x11 :: x12 :: x13 :: x14 :: x15 :: x16 :: x17 :: x18 :: x19 :: x20 :: r) 20 d P := .of h
theorem se21 {x0 x1 x2 x3 x4 x5 x6 x7 x8 x9 x10 x11 x12 x13 x14 x15 x16 x17 x18 x19 x20 x21 : Option D} {r : Env'} (h : P (x0 :: x1 :: x2 :: x3 :: x4 :: x5 :: x6 :: x7 :: x8 :: x9 :: x10 :: x11 :: x12 :: x13 :: x14 :: x15 :: x16 :: x17 :: x18 :: x19 :: x20 :: some d :: r)) : Sets (x0 :: x1 :: x2 :: x3 :: x4 :: x5 :: x6 :: x7 :: x8 :: x9 :: x10 :: x11 :: x12 :: x13 :: x14 :: x15 :: x16 :: x17 :: x18 :: x19 :: x20 :: x21 :: r) 21 d P := .of h
theorem se22 {x0 x1 x2 x3 x4 x5 x6 x7 x8 x9 x10 x11 x12 x13 x14 x15 x16 x17 x18 x19 x20 x21 x22 : Option D} {r : Env'} (h : P (x0 :: x1 :: x2 :: x3 :: x4 :: x5 :: x6 :: x7 :: x8 :: x9 :: x10 :: x11 :: x12 :: x13 :: x14 :: x15 :: x16 :: x17 :: x18 :: x19 :: x20 :: x21 :: some d :: r)) : Sets (x0 :: x1 :: x2 :: x3 :: x4 :: x5 :: x6 :: x7 :: x8 :: x9 :: x10 :: x11 :: x12 :: x13 :: x14 :: x15 :: x16 :: x17 :: x18 :: x19 :: x20 :: x21 :: x22 :: r) 22 d P := .of h
theorem se23 {x0 x1 x2 x3 x4 x5 x6 x7 x8 x9 x10 x11 x12 x13 x14 x15 x16 x17 x18 x19 x20 x21 x22 x23 : Option D} {r : Env'} (h : P (x0 :: x1 :: x2 :: x3 :: x4 :: x5 :: x6 :: x7 :: x8 :: x9 :: x10 :: x11 :: x12 :: x13 :: x14 :: x15 :: x16 :: x17 :: x18 :: x19 :: x20 :: x21 :: x22 :: some d :: r)) : Sets (x0 :: x1 :: x2 :: x3 :: x4 :: x5 :: x6 :: x7 :: x8 :: x9 :: x10 :: x11 :: x12 :: x13 :: x14 :: x15 :: x16 :: x17 :: x18 :: x19 :: x20 :: x21 :: x22 :: x23 :: r) 23 d P := .of h
theorem se24 {x0 x1 x2 x3 x4 x5 x6 x7 x8 x9 x10 x11 x12 x13 x14 x15 x16 x17 x18 x19 x20 x21 x22 x23 x24 : Option D} {r : Env'} (h : P (x0 :: x1 :: x2 :: x3 :: x4 :: x5 :: x6 :: x7 :: x8 :: x9 :: x10 :: x11 :: x12 :: x13 :: x14 :: x15 :: x16 :: x17 :: x18 :: x19 :: x20 :: x21 :: x22 :: x23 :: some d :: r)) : Sets (x0 :: x1 :: x2 :: x3 :: x4 :: x5 :: x6 :: x7 :: x8 :: x9 :: x10 :: x11 :: x12 :: x13 :: x14 :: x15 :: x16 :: x17 :: x18 :: x19 :: x20 :: x21 :: x22 :: x23 :: x24 :: r) 24 d P := .of h
theorem se25 {x0 x1 x2 x3 x4 x5 x6 x7 x8 x9 x10 x11 x12 x13 x14 x15 x16 x17 x18 x19 x20 x21 x22 x23 x24 x25 : Option D} {r : Env'} (h : P (x0 :: x1 :: x2 :: x3 :: x4 :: x5 :: x6 :: x7 :: x8 :: x9 :: x10 :: x11 :: x12 :: x13 :: x14 :: x15 :: x16 :: x17 :: x18 :: x19 :: x20 :: x21 :: x22 :: x23 :: x24 :: some d :: r)) : Sets (x0 :: x1 :: x2 :: x3 :: x4 :: x5 :: x6 :: x7 :: x8 :: x9 :: x10 :: x11 :: x12 :: x13 :: x14 :: x15 :: x16 :: x17 :: x18 :: x19 :: x20 :: x21 :: x22 :: x23 :: x24 :: x25 :: r) 25 d P := .of h
theorem se26 {x0 x1 x2 x3 x4 x5 x6 x7 x8 x9 x10 x11 x12 x13 x14 x15 x16 x17 x18 x19 x20 x21 x22 x23 x24 x25 x26 : Option D} {r : Env'} (h : P (x0 :: x1 :: x2 :: x3 :: x4 :: x5 :: x6 :: x7 :: x8 :: x9 :: x10 :: x11 :: x12 :: x13 :: x14 :: x15 :: x16 :: x17 :: x18 :: x19 :: x20 :: x21 :: x22 :: x23 :: x24 :: x25 :: some d :: r)) : Sets (x0 :: x1 :: x2 :: x3 :: x4 :: x5 :: x6 :: x7 :: x8 :: x9 :: x10 :: x11 :: x12 :: x13 :: x14 :: x15 :: x16 :: x17 :: x18 :: x19 :: x20 :: x21 :: x22 :: x23 :: x24 :: x25 :: x26 :: r) 26 d P := .of h
theorem se27 {x0 x1 x2 x3 x4 x5 x6 x7 x8 x9 x10 x11 x12 x13 x14 x15 x16 x17 x18 x19 x20 x21 x22 x23 x24 x25 x26 x27 : Option D} {r : Env'} (h : P (x0 :: x1 :: x2 :: x3 :: x4 :: x5 :: x6 :: x7 :: x8 :: x9 :: x10 :: x11 :: x12 :: x13 :: x14 :: x15 :: x16 :: x17 :: x18 :: x19 :: x20 :: x21 :: x22 :: x23 :: x24 :: x25 :: x26 :: some d :: r)) : Sets (x0 :: x1 :: x2 :: x3 :: x4 :: x5 :: x6 :: x7 :: x8 :: x9 :: x10 :: x11 :: x12 :: x13 :: x14 :: x15 :: x16 :: x17 :: x18 :: x19 :: x20 :: x21 :: x22 :: x23 :: x24 :: x25 :: x26 :: x27 :: r) 27 d P := .of h
theorem se28 {x0 x1 x2 x3 x4 x5 x6 x7 x8 x9 x10 x11 x12 x13 x14 x15 x16 x17 x18 x19 x20 x21 x22 x23 x24 x25 x26 x27 x28 : Option D} {r : Env'} (h : P (x0 :: x1 :: x2 :: x3 :: x4 :: x5 :: x6 :: x7 :: x8 :: x9 :: x10 :: x11 :: x12 :: x13 :: x14 :: x15 :: x16 :: x17 :: x18 :: x19 :: x20 :: x21 :: x22 :: x23 :: x24 :: x25 :: x26 :: x27 :: some d :: r)) : Sets (x0 :: x1 :: x2 :: x3 :: x4 :: x5 :: x6 :: x7 :: x8 :: x9 :: x10 :: x11 :: x12 :: x13 :: x14 :: x15 :: x16 :: x17 :: x18 :: x19 :: x20 :: x21 :: x22 :: x23 :: x24 :: x25 :: x26 :: x27 :: x28 :: r) 28 d P := .of h
theorem se29 {x0 x1 x2 x3 x4 x5 x6 x7 x8 x9 x10 x11 x12 x13 x14 x15 x16 x17 x18 x19 x20 x21 x22 x23 x24 x25 x26 x27 x28 x29 : Option D} {r : Env'} (h : P (x0 :: x1 :: x2 :: x3 :: x4 :: x5 :: x6 :: x7 :: x8 :: x9 :: x10 :: x11 :: x12 :: x13 :: x14 :: x15 :: x16 :: x17 :: x18 :: x19 :: x20 :: x21 :: x22 :: x23 :: x24 :: x25 :: x26 :: x27 :: x28 :: some d :: r)) : Sets (x0 :: x1 :: x2 :: x3 :: x4 :: x5 :: x6 :: x7 :: x8 :: x9 :: x10 :: x11 :: x12 :: x13 :: x14 :: x15 :: x16 :: x17 :: x18 :: x19 :: x20 :: x21 :: x22 :: x23 :: x24 :: x25 :: x26 :: x27 :: x28 :: x29 :: r) 29 d P := .of h
theorem se30 {x0 x1 x2 x3 x4 x5 x6 x7 x8 x9 x10 x11 x12 x13 x14 x15 x16 x17 x18 x19 x20 x21 x22 x23 x24 x25 x26 x27 x28 x29 x30 : Option D} {r : Env'} (h : P (x0 :: x1 :: x2 :: x3 :: x4 :: x5 :: x6 :: x7 :: x8 :: x9 :: x10 :: x11 :: x12 :: x13 :: x14 :: x15 :: x16 :: x17 :: x18 :: x19 :: x20 :: x21 :: x22 :: x23 :: x24 :: x25 :: x26 :: x27 :: x28 :: x29 :: some d :: r)) : Sets (x0 :: x1 :: x2 :: x3 :: x4 :: x5 :: x6 :: x7 :: x8 :: x9 :: x10 :: x11 :: x12 :: x13 :: x14 :: x15 :: x16 :: x17 :: x18 :: x19 :: x20 :: x21 :: x22 :: x23 :: x24 :: x25 :: x26 :: x27 :: x28 :: x29 :: x30 :: r) 30 d P := .of h
theorem se31 {x0 x1 x2 x3 x4 x5 x6 x7 x8 x9 x10 x11 x12 x13 x14 x15 x16 x17 x18 x19 x20 x21 x22 x23 x24 x25 x26 x27 x28 x29 x30 x31 : Option D} {r : Env'} (h : P (x0 :: x1 :: x2 :: x3 :: x4 :: x5 :: x6 :: x7 :: x8 :: x9 :: x10 :: x11 :: x12 :: x13 :: x14 :: x15 :: x16 :: x17 :: x18 :: x19 :: x20 :: x21 :: x22 :: x23 :: x24 :: x25 :: x26 :: x27 :: x28 :: x29 :: x30 :: some d :: r)) : Sets (x0 :: x1 :: x2 :: x3 :: x4 :: x5 :: x6 :: x7 :: x8 :: x9 :: x10 :: x11 :: x12 :: x13 :: x14 :: x15 :: x16 :: x17 :: x18 :: x19 :: x20 :: x21 :: x22 :: x23 :: x24 :: x25 :: x26 :: x27 :: x28 :: x29 :: x30 :: x31 :: r) 31 d P := .of h
theorem se32 {x0 x1 x2 x3 x4 x5 x6 x7 x8 x9 x10 x11 x12 x13 x14 x15 x16 x17 x18 x19 x20 x21 x22 x23 x24 x25 x26 x27 x28 x29 x30 x31 x32 : Option D} {r : Env'} (h : P (x0 :: x1 :: x2 :: x3 :: x4 :: x5 :: x6 :: x7 :: x8 :: x9 :: x10 :: x11 :: x12 :: x13 :: x14 :: x15 :: x16 :: x17 :: x18 :: x19 :: x20 :: x21 :: x22 :: x23 :: x24 :: x25 :: x26 :: x27 :: x28 :: x29 :: x30 :: x31 :: some d :: r)) : Sets (x0 :: x1 :: x2 :: x3 :: x4 :: x5 :: x6 :: x7 :: x8 :: x9 :: x10 :: x11 :: x12 :: x13 :: x14 :: x15 :: x16 :: x17 :: x18 :: x19 :: x20 :: x21 :: x22 :: x23 :: x24 :: x25 :: x26 :: x27 :: x28 :: x29 :: x30 :: x31 :: x32 :: r) 32 d P := .of h
theorem se33 {x0 x1 x2 x3 x4 x5 x6 x7 x8 x9 x10 x11 x12 x13 x14 x15 x16 x17 x18 x19 x20 x21 x22 x23 x24 x25 x26 x27 x28 x29 x30 x31 x32 x33 : Option D} {r : Env'} (h : P (x0 :: x1 :: x2 :: x3 :: x4 :: x5 :: x6 :: x7 :: x8 :: x9 :: x10 :: x11 :: x12 :: x13 :: x14 :: x15 :: x16 :: x17 :: x18 :: x19 :: x20 :: x21 :: x22 :: x23 :: x24 :: x25 :: x26 :: x27 :: x28 :: x29 :: x30 :: x31 :: x32 :: some d :: r)) : Sets (x0 :: x1 :: x2 :: x3 :: x4 :: x5 :: x6 :: x7 :: x8 :: x9 :: x10 :: x11 :: x12 :: x13 :: x14 :: x15 :: x16 :: x17 :: x18 :: x19 :: x20 :: x21 :: x22 :: x23 :: x24 :: x25 :: x26 :: x27 :: x28 :: x29 :: x30 :: x31 :: x32 :: x33 :: r) 33 d P := .of h
theorem se34 {x0 x1 x2 x3 x4 x5 x6 x7 x8 x9 x10 x11 x12 x13 x14 x15 x16 x17 x18 x19 x20 x21 x22 x23 x24 x25 x26 x27 x28 x29 x30 x31 x32 x33 x34 : Option D} {r : Env'} (h : P (x0 :: x1 :: x2 :: x3 :: x4 :: x5 :: x6 :: x7 :: x8 :: x9 :: x10 :: x11 :: x12 :: x13 :: x14 :: x15 :: x16 :: x17 :: x18 :: x19 :: x20 :: x21 :: x22 :: x23 :: x24 :: x25 :: x26 :: x27 :: x28 :: x29 :: x30 :: x31 :: x32 :: x33 :: some d :: r)) : Sets (x0 :: x1 :: x2 :: x3 :: x4 :: x5 :: x6 :: x7 :: x8 :: x9 :: x10 :: x11 :: x12 :: x13 :: x14 :: x15 :: x16 :: x17 :: x18 :: x19 :: x20 :: x21 :: x22 :: x23 :: x24 :: x25 :: x26 :: x27 :: x28 :: x29 :: x30 :: x31 :: x32 :: x33 :: x34 :: r) 34 d P := .of h
theorem se35 {x0 x1 x2 x3 x4 x5 x6 x7 x8 x9 x10 x11 x12 x13 x14 x15 x16 x17 x18 x19 x20 x21 x22 x23 x24 x25 x26 x27 x28 x29 x30 x31 x32 x33 x34 x35 : Option D} {r : Env'} (h : P (x0 :: x1 :: x2 :: x3 :: x4 :: x5 :: x6 :: x7 :: x8 :: x9 :: x10 :: x11 :: x12 :: x13 :: x14 :: x15 :: x16 :: x17 :: x18 :: x19 :: x20 :: x21 :: x22 :: x23 :: x24 :: x25 :: x26 :: x27 :: x28 :: x29 :: x30 :: x31 :: x32 :: x33 :: x34 :: some d :: r)) : Sets (x0 :: x1 :: x2 :: x3 :: x4 :: x5 :: x6 :: x7 :: x8 :: x9 :: x10 :: x11 :: x12 :: x13 :: x14 :: x15 :: x16 :: x17 :: x18 :: x19 :: x20 :: x21 :: x22 :: x23 :: x24 :: x25 :: x26 :: x27 :: x28 :: x29 :: x30 :: x31 :: x32 :: x33 :: x34 :: x35 :: r) 35 d P := .of h
end
section
variable {B : Bx} {X : Cx} {K : PySem.W.Frag} {M : Mem} {Φ : D → Mem → Prop} {Φ' : Mem → Prop} {s g : Addr} {r t e r' t' e' : Int} {cs : List Int}
theorem st_great (k : Φ (.raw (.ref g)) ((s, .dct (stD g r t e cs)) :: M)) : OpD (rIxU K) (.raw (.ref s)) (.str "great") ((s, .dct (stD g r t e cs)) :: M) Φ := od_ixD (k := .inr "great") 0 rfl rfl rfl k
theorem st_rest (k : Φ (.int r) ((s, .dct (stD g r t e cs)) :: M)) : OpD (rIxU K) (.raw (.ref s)) (.str "rest") ((s, .dct (stD g r t e cs)) :: M) Φ := od_ixD (k := .inr "rest") 0 rfl rfl rfl k
theorem st_turn (k : Φ (.int t) ((s, .dct (stD g r t e cs)) :: M)) : OpD (rIxU K) (.raw (.ref s)) (.str "turn") ((s, .dct (stD g r t e cs)) :: M) Φ := od_ixD (k := .inr "turn") 0 rfl rfl rfl k
theorem st_seed (k : Φ (.int e) ((s, .dct (stD g r t e cs)) :: M)) : OpD (rIxU K) (.raw (.ref s)) (.str "seed") ((s, .dct (stD g r t e cs)) :: M) Φ := od_ixD (k := .inr "seed") 0 rfl rfl rfl k
theorem st_cells (k : Φ (.lst (cs.map .int)) ((s, .dct (stD g r t e cs)) :: M)) : OpD (rIxU K) (.raw (.ref s)) (.str "cells") ((s, .dct (stD g r t e cs)) :: M) Φ := od_ixD (k := .inr "cells") 0 rfl rfl rfl k
theorem set_rest (k : Φ' ((s, .dct (stD g r' t e cs)) :: M)) : SetD (.raw (.ref s)) (.str "rest") (.int r') ((s, .dct (stD g r t e cs)) :: M) Φ' := sd_dict (k := .inr "rest") 0 rfl rfl (by show 5 < sizeLine; decide) k
theorem set_turn (k : Φ' ((s, .dct (stD g r t' e cs)) :: M)) : SetD (.raw (.ref s)) (.str "turn") (.int t') ((s, .dct (stD g r t e cs)) :: M) Φ' := sd_dict (k := .inr "turn") 0 rfl rfl (by show 5 < sizeLine; decide) k
theorem set_seed (k : Φ' ((s, .dct (stD g r t e' cs)) :: M)) : SetD (.raw (.ref s)) (.str "seed") (.int e') ((s, .dct (stD g r t e cs)) :: M) Φ' := sd_dict (k := .inr "seed") 0 rfl rfl (by show 5 < sizeLine; decide) k
/-- the end of a draw -/
theorem rt_close {δ : Env'} {te : TE} {b : Nat} {gs : List Int} {Φ : D → Mem → Prop} (ok : StOk b gs r t e cs) (h : WE B te δ ((s, .st g b) :: M) Φ) : WE B te δ ((s, .dct (stD g r t e cs)) :: (g, .lst (gs.map .int)) :: M) Φ := h.view fun κ σ H R => st_close ok R
theorem at_int {cs : List Int} {i : Int} (h0 : 0 ≤ i) (h1 : i < cs.length) : ∃ c, c ∈ cs ∧ atI (cs.map D.int) i = some (.int c) := by
  have hl : i.toNat < cs.length := by omega
  refine ⟨cs[i.toNat], List.getElem_mem hl, ?_⟩
  unfold atI ixN
  rw [if_pos h0, if_pos (by rw [List.length_map]; exact h1)]
  show (cs.map D.int)[i.toNat]? = _
  rw [List.getElem?_map, List.getElem?_eq_getElem hl]; rfl
end
/-! what kind of goal it is -/
section
variable {B : Bx} {X : Cx} {e a b c o v : Expr} {es : List Expr} {st : Stmt} {sts : List Stmt} {δ : Env'} {M : Mem} {Φ : D → Mem → Prop} {Ψ : DEnds} {ΦB : Bool → Mem → Prop} {ΦL : List D → Mem → Prop} {ΦM : Mem → Prop} {ΦE : Env' → Mem → Prop} {d x y : D} {pos : Pos}
theorem idE (h : DE B X e δ M Φ) : DE B X e δ M Φ := h
theorem idName {n : Str} (h : DE B X (.Name n pos) δ M Φ) : DE B X (.Name n pos) δ M Φ := h
theorem idCst {n : Const} {j} (h : DE B X (.Constant n j pos) δ M Φ) : DE B X (.Constant n j pos) δ M Φ := h
theorem idBin {op} (h : DE B X (.BinOp a op b pos) δ M Φ) : DE B X (.BinOp a op b pos) δ M Φ := h
theorem idCmp {ops bs} (h : DE B X (.Compare a ops bs pos) δ M Φ) : DE B X (.Compare a ops bs pos) δ M Φ := h
theorem idCallN {n : Str} {p ks} (h : DE B X (.Call (.Name n p) es ks pos) δ M Φ) : DE B X (.Call (.Name n p) es ks pos) δ M Φ := h
theorem idCallA {n : Str} {p ks} (h : DE B X (.Call (.Attribute o n p) es ks pos) δ M Φ) : DE B X (.Call (.Attribute o n p) es ks pos) δ M Φ := h
theorem idA (h : DA B X es δ M ΦL) : DA B X es δ M ΦL := h
theorem idT (h : DT B X e δ M ΦB) : DT B X e δ M ΦB := h
theorem idTC {ops bs} (h : DT B X (.Compare a ops bs pos) δ M ΦB) : DT B X (.Compare a ops bs pos) δ M ΦB := h
theorem idW (h : DW B X e δ M ΦB) : DW B X e δ M ΦB := h
theorem idS (h : DS B X st δ M Ψ) : DS B X st δ M Ψ := h
theorem idAsg {t} (h : DS B X (.Assign t e pos) δ M Ψ) : DS B X (.Assign t e pos) δ M Ψ := h
theorem idSs (h : DSs B X sts δ M Ψ) : DSs B X sts δ M Ψ := h
theorem idG (h : DG B X e d δ M ΦE) : DG B X e d δ M ΦE := h
theorem idGs {ds : List D} (h : DGs B X es ds δ M ΦE) : DGs B X es ds δ M ΦE := h
theorem idO {r : R2} (h : OpD r x y M Φ) : OpD r x y M Φ := h
theorem idOx {K : PySem.W.Frag} (h : OpD (rIxU K) x y M Φ) : OpD (rIxU K) x y M Φ := h
theorem idC {r : List V → Hp → VK → Prop} {ds : List D} (h : CallD r ds M Φ) : CallD r ds M Φ := h
theorem idSet (h : SetD x y d M ΦM) : SetD x y d M ΦM := h
theorem idSl {i : Nat} {P : Env' → Prop} (h : Sets δ i d P) : Sets δ i d P := h
theorem idB (h : toB ΦB d M) : toB ΦB d M := h
theorem idBr {b : Bool} {P Q : Prop} (h : Br b P Q) : Br b P Q := h
end
section
variable {M : Mem} {Φ : D → Mem → Prop} {i j : Int}
theorem od_mulS (h : (-(2 ^ 64) < i ∧ i < 2 ^ 64) ∨ (-(2 ^ 64) < j ∧ j < 2 ^ 64)) (k : Φ (.int (i * j)) M) : OpD rMulU (.int i) (.int j) M Φ := od_mul h k
theorem log2_small {j : Int} (h : 0 < j) (h2 : j < 2 ^ 1000) : j.natAbs.log2 < 9000 := by
  have : j.natAbs < 2 ^ 1000 := by omega
  exact Nat.lt_trans (PySem.Flt.log2_lt_of (by decide) this) (by decide)
theorem od_divS (h : 0 < j) (h2 : j < 2 ^ 1000) (k : Φ (.int (i / j)) M) : OpD rDivU (.int i) (.int j) M Φ := od_div ⟨h, log2_small h h2⟩ k
theorem p10_1 (k : Φ (.int 10) M) : OpD rPowU (.int 10) (.int 1) M Φ := od_pow ⟨by decide, by decide, by decide⟩ k
theorem p10_2 (k : Φ (.int 100) M) : OpD rPowU (.int 10) (.int 2) M Φ := od_pow ⟨by decide, by decide, by decide⟩ k
theorem p10_3 (k : Φ (.int 1000) M) : OpD rPowU (.int 10) (.int 3) M Φ := od_pow ⟨by decide, by decide, by decide⟩ k
theorem p10_4 (k : Φ (.int 10000) M) : OpD rPowU (.int 10) (.int 4) M Φ := od_pow ⟨by decide, by decide, by decide⟩ k
theorem p10_5 (k : Φ (.int 100000) M) : OpD rPowU (.int 10) (.int 5) M Φ := od_pow ⟨by decide, by decide, by decide⟩ k
theorem p10_6 (k : Φ (.int 1000000) M) : OpD rPowU (.int 10) (.int 6) M Φ := od_pow ⟨by decide, by decide, by decide⟩ k
theorem p10_7 (k : Φ (.int 10000000) M) : OpD rPowU (.int 10) (.int 7) M Φ := od_pow ⟨by decide, by decide, by decide⟩ k
theorem p10_8 (k : Φ (.int 100000000) M) : OpD rPowU (.int 10) (.int 8) M Φ := od_pow ⟨by decide, by decide, by decide⟩ k
theorem p10_9 (k : Φ (.int 1000000000) M) : OpD rPowU (.int 10) (.int 9) M Φ := od_pow ⟨by decide, by decide, by decide⟩ k
theorem p10_10 (k : Φ (.int 10000000000) M) : OpD rPowU (.int 10) (.int 10) M Φ := od_pow ⟨by decide, by decide, by decide⟩ k
theorem p10_11 (k : Φ (.int 100000000000) M) : OpD rPowU (.int 10) (.int 11) M Φ := od_pow ⟨by decide, by decide, by decide⟩ k
theorem p10_12 (k : Φ (.int 1000000000000) M) : OpD rPowU (.int 10) (.int 12) M Φ := od_pow ⟨by decide, by decide, by decide⟩ k
theorem p10_13 (k : Φ (.int 10000000000000) M) : OpD rPowU (.int 10) (.int 13) M Φ := od_pow ⟨by decide, by decide, by decide⟩ k
theorem p10_14 (k : Φ (.int 100000000000000) M) : OpD rPowU (.int 10) (.int 14) M Φ := od_pow ⟨by decide, by decide, by decide⟩ k
theorem p10_15 (k : Φ (.int 1000000000000000) M) : OpD rPowU (.int 10) (.int 15) M Φ := od_pow ⟨by decide, by decide, by decide⟩ k
theorem p10_16 (k : Φ (.int 10000000000000000) M) : OpD rPowU (.int 10) (.int 16) M Φ := od_pow ⟨by decide, by decide, by decide⟩ k
theorem p10_17 (k : Φ (.int 100000000000000000) M) : OpD rPowU (.int 10) (.int 17) M Φ := od_pow ⟨by decide, by decide, by decide⟩ k
theorem p10_18 (k : Φ (.int 1000000000000000000) M) : OpD rPowU (.int 10) (.int 18) M Φ := od_pow ⟨by decide, by decide, by decide⟩ k
theorem p10_19 (k : Φ (.int 10000000000000000000) M) : OpD rPowU (.int 10) (.int 19) M Φ := od_pow ⟨by decide, by decide, by decide⟩ k
theorem p10_20 (k : Φ (.int 100000000000000000000) M) : OpD rPowU (.int 10) (.int 20) M Φ := od_pow ⟨by decide, by decide, by decide⟩ k
theorem p10_21 (k : Φ (.int 1000000000000000000000) M) : OpD rPowU (.int 10) (.int 21) M Φ := od_pow ⟨by decide, by decide, by decide⟩ k
theorem p10_22 (k : Φ (.int 10000000000000000000000) M) : OpD rPowU (.int 10) (.int 22) M Φ := od_pow ⟨by decide, by decide, by decide⟩ k
theorem p10_23 (k : Φ (.int 100000000000000000000000) M) : OpD rPowU (.int 10) (.int 23) M Φ := od_pow ⟨by decide, by decide, by decide⟩ k
theorem p10_24 (k : Φ (.int 1000000000000000000000000) M) : OpD rPowU (.int 10) (.int 24) M Φ := od_pow ⟨by decide, by decide, by decide⟩ k
theorem p10_25 (k : Φ (.int 10000000000000000000000000) M) : OpD rPowU (.int 10) (.int 25) M Φ := od_pow ⟨by decide, by decide, by decide⟩ k
theorem p10_26 (k : Φ (.int 100000000000000000000000000) M) : OpD rPowU (.int 10) (.int 26) M Φ := od_pow ⟨by decide, by decide, by decide⟩ k
theorem p10_27 (k : Φ (.int 1000000000000000000000000000) M) : OpD rPowU (.int 10) (.int 27) M Φ := od_pow ⟨by decide, by decide, by decide⟩ k
theorem p10_28 (k : Φ (.int 10000000000000000000000000000) M) : OpD rPowU (.int 10) (.int 28) M Φ := od_pow ⟨by decide, by decide, by decide⟩ k
theorem p10_29 (k : Φ (.int 100000000000000000000000000000) M) : OpD rPowU (.int 10) (.int 29) M Φ := od_pow ⟨by decide, by decide, by decide⟩ k
theorem p10_30 (k : Φ (.int 1000000000000000000000000000000) M) : OpD rPowU (.int 10) (.int 30) M Φ := od_pow ⟨by decide, by decide, by decide⟩ k
theorem p10_31 (k : Φ (.int 10000000000000000000000000000000) M) : OpD rPowU (.int 10) (.int 31) M Φ := od_pow ⟨by decide, by decide, by decide⟩ k
theorem p10_32 (k : Φ (.int 100000000000000000000000000000000) M) : OpD rPowU (.int 10) (.int 32) M Φ := od_pow ⟨by decide, by decide, by decide⟩ k
theorem p10_33 (k : Φ (.int 1000000000000000000000000000000000) M) : OpD rPowU (.int 10) (.int 33) M Φ := od_pow ⟨by decide, by decide, by decide⟩ k
theorem p10_34 (k : Φ (.int 10000000000000000000000000000000000) M) : OpD rPowU (.int 10) (.int 34) M Φ := od_pow ⟨by decide, by decide, by decide⟩ k
theorem p10_35 (k : Φ (.int 100000000000000000000000000000000000) M) : OpD rPowU (.int 10) (.int 35) M Φ := od_pow ⟨by decide, by decide, by decide⟩ k
theorem p10_36 (k : Φ (.int 1000000000000000000000000000000000000) M) : OpD rPowU (.int 10) (.int 36) M Φ := od_pow ⟨by decide, by decide, by decide⟩ k
theorem p10_37 (k : Φ (.int 10000000000000000000000000000000000000) M) : OpD rPowU (.int 10) (.int 37) M Φ := od_pow ⟨by decide, by decide, by decide⟩ k
theorem p10_38 (k : Φ (.int 100000000000000000000000000000000000000) M) : OpD rPowU (.int 10) (.int 38) M Φ := od_pow ⟨by decide, by decide, by decide⟩ k
theorem p10_39 (k : Φ (.int 1000000000000000000000000000000000000000) M) : OpD rPowU (.int 10) (.int 39) M Φ := od_pow ⟨by decide, by decide, by decide⟩ k
theorem p10_40 (k : Φ (.int 10000000000000000000000000000000000000000) M) : OpD rPowU (.int 10) (.int 40) M Φ := od_pow ⟨by decide, by decide, by decide⟩ k
theorem p10_41 (k : Φ (.int 100000000000000000000000000000000000000000) M) : OpD rPowU (.int 10) (.int 41) M Φ := od_pow ⟨by decide, by decide, by decide⟩ k
theorem p10_42 (k : Φ (.int 1000000000000000000000000000000000000000000) M) : OpD rPowU (.int 10) (.int 42) M Φ := od_pow ⟨by decide, by decide, by decide⟩ k
theorem p10_43 (k : Φ (.int 10000000000000000000000000000000000000000000) M) : OpD rPowU (.int 10) (.int 43) M Φ := od_pow ⟨by decide, by decide, by decide⟩ k
theorem p10_44 (k : Φ (.int 100000000000000000000000000000000000000000000) M) : OpD rPowU (.int 10) (.int 44) M Φ := od_pow ⟨by decide, by decide, by decide⟩ k
theorem p10_45 (k : Φ (.int 1000000000000000000000000000000000000000000000) M) : OpD rPowU (.int 10) (.int 45) M Φ := od_pow ⟨by decide, by decide, by decide⟩ k
end
end Hl
namespace Hl
open PySem L2
section
variable {B : Bx} {X : Cx} {e a b c o : Expr} {es rest : List Expr} {st : Stmt} {sts : List Stmt} {δ δ' : Env'} {M : Mem} {Φ : D → Mem → Prop} {Ψ : DEnds} {te ta tb : TE} {tt : TT} {pos pos' apos : Pos} {d x y : D} {ΦB : Bool → Mem → Prop} {ΦL : List D → Mem → Prop}
/-- a new list as a cell at place k -/
theorem DE.own (k : Nat) (h : DF B X e δ M fun ds M' => ∀ p : Addr, Φ (.raw (.ref p)) (insM k (p, .lst ds) M')) : DE B X e δ M Φ := fun κ σ H Q hb R kk => h κ σ H Q hb R fun p ds M' H' q R' => kk _ _ _ _ (q p) (R'.perm insM_perm) (.raw _)
/-! dict displays -/
def DPs (B : Bx) (X : Cx) : List (Option Expr) → List Expr → Env' → Mem → (List (D × D) → Mem → Prop) → Prop
  | [], [], _, M, Φ => Φ [] M
  | some k :: ks, v :: vs, δ, M, Φ => DE B X k δ M fun x M1 => DE B X v δ M1 fun y M2 => DPs B X ks vs δ M2 fun ps M3 => Φ ((x, y) :: ps) M3
  | _, _, _, _, _ => False
def trsOf (X : Cx) : List (Option Expr) → List Expr → List (TE × TE)
  | some k :: ks, v :: vs => (tE X k, tE X v) :: trsOf X ks vs
  | _, _ => []
def isSomes : List (Option Expr) → List Expr → Bool
  | [], [] => true
  | some _ :: ks, _ :: vs => isSomes ks vs
  | _, _ => false
theorem pps_of : ∀ {ks : List (Option Expr)} {vs : List Expr}, isSomes ks vs = true → PPs X pos ks vs (trsOf X ks vs)
  | [], [], _ => pps_nil
  | some k :: ks, v :: vs, h => pps_cons cE cE (pps_of (ks := ks) (vs := vs) h)
  | [], _ :: _, h => by cases h
  | none :: _, _, h => by cases h
  | some _ :: _, [], h => by cases h
def PairRep (F : List Addr) (H : Hp) : List (V × V) → List (D × D) → Prop := Paired fun p q => Rep F H p.1 q.1 ∧ Rep F H p.2 q.2
theorem pairs_run : ∀ {ks : List (Option Expr)} {vs : List Expr} {M : Mem} {Φ : List (D × D) → Mem → Prop} {κ : List (V × D)} {σ : St} {H : Hp} {Q : List (V × V) → Hp → Prop}, DPs B X ks vs δ M Φ → (∀ q ∈ B.ps, q ∈ κ) → Rs κ δ M σ H →
    (∀ ps ds M' H', Φ ds M' → Rs κ δ M' σ H' → PairRep M'.F H' ps ds → Q ps H') → tPairs (trsOf X ks vs) σ H Q
  | [], [], _, _, _, _, _, _, h, hb, R, k => k [] [] _ _ h R .nil
  | some ke :: ks, v :: vs, M, Φ, κ, σ, H, Q, h, hb, R, k => by
    refine (show DE B X ke δ M _ from h) κ σ H _ hb R fun u x M1 H1 q1 R1 r1 => ?_
    refine q1 ((u, x) :: κ) σ H1 _ (fun q hq => List.mem_cons_of_mem _ (hb q hq)) (R1.push r1) fun w y M2 H2 q2 R2 r2 => ?_
    refine pairs_run q2 (fun q hq => List.mem_cons_of_mem _ (List.mem_cons_of_mem _ (hb q hq))) (R2.push r2) fun ps ds M3 H3 q3 R3 r3 => ?_
    exact k _ _ _ _ q3 R3.pop.pop (.cons ⟨R3.pop.top, R3.top⟩ r3)
  | [], _ :: _, _, _, _, _, _, _, h, _, _, _ => h.elim
  | none :: _, _, _, _, _, _, _, _, h, _, _, _ => by cases h
  | some _ :: _, [], _, _, _, _, _, _, h, _, _, _ => h.elim
def mergeD (kvs more : List (Key × D)) : List (Key × D) := more.foldl (fun acc kv => putD acc kv.1 kv.2) kvs
theorem pair_keys {F : List Addr} {H : Hp} : ∀ {ps : List (V × V)} {kvs : List (Key × D)}, PairRep F H ps (kvs.map fun kv => (kD kv.1, kv.2)) → ∃ ws : List (Key × V), ps = ws.map (fun kv => (kV kv.1, kv.2)) ∧ ws.map (·.1) = kvs.map (·.1) ∧ Reps F H (ws.map (·.2)) (kvs.map (·.2))
  | _, [], .nil => ⟨[], rfl, rfl, .nil⟩
  | (v1, v2) :: ps, (k, d) :: kvs, .cons ⟨r1, r2⟩ t => by
    obtain ⟨ws, e1, e2, r⟩ := pair_keys (kvs := kvs) t
    have := rep_k r1
    exact ⟨(k, v2) :: ws, by rw [e1]; show (v1, v2) :: _ = (kV k, v2) :: _; rw [show v1 = kV k from this], by simp [e2], .cons r2 r⟩
theorem merge_rep {F : List Addr} {H : Hp} : ∀ {ws : List (Key × V)} {kvs : List (Key × D)} {ws0 : List (Key × V)} {kvs0 : List (Key × D)}, ws.map (·.1) = kvs.map (·.1) → Reps F H (ws.map (·.2)) (kvs.map (·.2)) → ws0.map (·.1) = kvs0.map (·.1) → Reps F H (ws0.map (·.2)) (kvs0.map (·.2)) →
    (mergeK ws0 ws).map (·.1) = (mergeD kvs0 kvs).map (·.1) ∧ Reps F H ((mergeK ws0 ws).map (·.2)) ((mergeD kvs0 kvs).map (·.2))
  | [], [], _, _, _, _, h1, h2 => ⟨h1, h2⟩
  | [], _ :: _, _, _, h, _, _, _ => by cases h
  | _ :: _, [], _, _, h, _, _, _ => by cases h
  | (k1, v) :: ws, (k2, d) :: kvs, ws0, kvs0, h, r, h1, h2 => by
    have e1 : k1 = k2 := (List.cons.inj h).1
    have e2 : ws.map (·.1) = kvs.map (·.1) := (List.cons.inj h).2
    subst e1
    cases r with
    | cons r1 r2 => exact merge_rep (ws0 := putK ws0 k1 v) (kvs0 := putD kvs0 k1 d) e2 r2 (put_keys h1) (put_vals r1 h1 h2)
theorem de_disp {keys : List (Option Expr)} {values : List Expr} (k : Nat) (hi : isSomes keys values = true) (hall : keys.all (·.isSome) = true) (hl : keys.length = values.length) (h0 : keys ≠ []) (h15 : keys.length ≤ 15)
    (h : ∀ p, DPs B X keys values δ (insM k (p, .dct []) M) fun ps M2 => ∃ j kvs, M2[j]? = some (p, .dct []) ∧ ps = kvs.map (fun kv => (kD kv.1, kv.2)) ∧ kvs.length ≤ 15 ∧ Φ (.raw (.ref p)) (M2.set j (p, .dct (mergeD [] kvs)))) : DE B X (.Dict keys values pos) δ M Φ := by
  refine .of (pe_disp (pps_of hi) hall hl h0 h15) fun κ σ H Q hb R kk => ?_
  intro p hp
  have R1 : Rs κ δ (insM k (p, .dct []) M) σ (upd H p (.dK [])) := (R.dct (kvs := []) (ws := []) hp rfl .nil).perm insM_perm
  refine pairs_run (h p) hb R1 fun ps ds M2 H2 ⟨j, kvs, ej, ep, hk, q⟩ R2 r2 => ?_
  subst ep
  obtain ⟨ws0, e0, e1, r0⟩ := R2.at ej
  have hw : ws0 = [] := by cases ws0 with | nil => rfl | cons _ _ => cases e1
  subst hw
  obtain ⟨ws, ep, e2, rr⟩ := pair_keys r2
  refine ⟨e0, ws, ep, ?_, ?_⟩
  · have := congrArg List.length e2
    rw [List.length_map, List.length_map] at this
    omega
  · refine kk _ _ _ _ q ?_ (.raw _)
    obtain ⟨m1, m2⟩ := merge_rep (ws0 := []) (kvs0 := []) e2 rr rfl .nil
    have hpF : ∀ x, x ∉ M2.F → upd H2 p (.dK (mergeK [] ws)) x = H2 x := fun x hx => upd_ne fun z => hx (z ▸ R2.mem ej p (by simp [own]))
    exact R2.cell ej rfl (fun x hx => upd_ne (by simpa [own] using hx)) ⟨_, upd_same, m1, m2.fwd (Fwd.same hpF)⟩
/-! the script is walked -/
theorem wd_scr {κ : List (V × D)} {a : Addr} {K : PySem.W.Frag} {ns : List Int} : WalkD ((.ref a, .scr K ns) :: κ) (ns.map .int) (Itl K a) := by
  have sq : ∀ {δ : Env'} {M : Mem} {σ : St} {H : Hp}, Rs ((.ref a, .scr K ns) :: κ) δ M σ H → SqL K H a (ns.map V.int) := fun R => by
    cases R.top with
    | scrH h e => exact .inl e
    | scrK h => exact h _
  exact {
    goes := fun i δ M σ H hi R => by
      rw [List.length_map] at hi
      exact ⟨_, .int ns[i], sq R, by simp [hi]⟩
    stops := fun δ M σ H R => ⟨_, sq R, by simp⟩
    yields := fun i δ M σ H x H' hi R y => by
      obtain ⟨rfl, y⟩ := y
      have := y _ (sq R)
      rw [List.getElem?_map] at this
      cases e : ns[i]? with
      | none => rw [e] at this; cases this
      | some n =>
        rw [e] at this
        have ex : V.int n = x := Option.some.inj this
        subst ex
        exact ⟨.int n, by rw [List.getElem?_map, e]; rfl, R, .int n⟩ }
theorem di_scr {tg iter : Expr} (h : DE B X iter δ M fun d M' => ∃ ns, d = .scr X.K ns ∧ ΦL (ns.map .int) M') : DI B X tg iter δ M ΦL := ⟨_, pi_list cE, fun κ σ H R hb Rr k => h κ σ H _ hb Rr fun v d M1 H1 ⟨ns, ed, q⟩ R1 r1 => by
  subst ed
  cases r1 with
  | scrH h e => exact ⟨_, rfl, ⟨_, .inl e⟩, k _ M1 H1 _ _ q (fun q hq => List.mem_cons_of_mem _ hq) (R1.push (.scrH h e)) wd_scr⟩
  | scrK h => exact ⟨_, rfl, ⟨_, h _⟩, k _ M1 H1 _ _ q (fun q hq => List.mem_cons_of_mem _ hq) (R1.push (.scrK h)) wd_scr⟩⟩
/-- a comprehension without effects: each item gives F of it -/
theorem LcH.pure {scope : Scope} {elt : Expr} {ifs : List Expr} {own : List (Str × Nat)} {tk : Tk} {xs : List D} {k : Nat} (F : D → Option D) (hl : xs.length ≤ sizeLine)
    (h : ∀ (p : Addr) acc x, x ∈ xs → ∃ δ2, bindK tk x (wipeD δ (own.map (·.2))) = some δ2 ∧ Turn1 B X scope elt ifs δ2 (insM k (p, .lst acc) M) fun od M2 => od = F x ∧ M2 = insM k (p, .lst acc) M)
    (q : ΦL (xs.filterMap F) M) : LcH k B X scope elt ifs own tk δ xs M ΦL := by
  refine ⟨fun i acc M1 => M1 = M ∧ acc = (xs.take i).filterMap F ∧ acc.length ≤ i, ⟨rfl, rfl, Nat.le_refl _⟩, ?_, ?_⟩
  · rintro p i x acc M1 hx ⟨rfl, ha, hal⟩
    have hi : i < xs.length := (List.getElem?_eq_some_iff.mp hx).1
    obtain ⟨δ2, e1, tu⟩ := h p acc x (List.mem_of_getElem? hx)
    have fin : ∀ (od : Option D) M2, od = F x ∧ M2 = insM k (p, .lst acc) M1 → ∃ M3, M2 = insM k (p, .lst acc) M3 ∧ M3 = M1 ∧ acc ++ od.toList = (xs.take (i + 1)).filterMap F ∧ (acc ++ od.toList).length ≤ i + 1 := by
      rintro od M2 ⟨rfl, rfl⟩
      refine ⟨M1, rfl, rfl, ?_, ?_⟩
      · rw [List.take_add_one, hx, List.filterMap_append, ← ha]
        cases e : F x <;> simp [e]
      · rw [List.length_append]
        cases F x <;> simp <;> omega
    refine ⟨by omega, δ2, e1, ?_⟩
    unfold Turn1 at tu ⊢
    match ifs, tu with
    | [], tu => exact fun X' bk => (tu X' bk).mono fun d M2 q => fin _ _ q
    | [c], tu => exact fun X' bk => (tu X' bk).mono fun t M2 q => ⟨fun e X2 bk2 => (q.1 e X2 bk2).mono fun d M3 q => fin _ _ q, fun e => fin _ _ (q.2 e)⟩
    | _ :: _ :: _, tu => exact tu.elim
  · rintro acc M1 ⟨rfl, rfl, _⟩
    rw [List.take_length]
    exact q
end
end Hl
namespace Hl
open PySem L2
section
variable {B : Bx} {X X' : Cx} {scope : Scope} {n i : Nat} {x : Str} {pos tpos : Pos}
theorem pg_one (bk : Bk X X' scope) (z : Cz X n) (l : Lo X' i x) : PG X' (.Name x pos) (gK X.K (.one i)) := pg_name (bk.z z).nd l.at_ l.loc l.fn
theorem pgs_0 : PGs X' [] (gNames []) := pgs_nil
theorem pgs_1 {es : List Expr} {is : List Nat} (nd : X'.N.Nodup) (l : Lo X' i x) (h : PGs X' es (gNames is)) (hs : (assignEach (.Name x pos :: es) X'.env).map (·.2) = assign (.Name x pos) X'.env :: (assignEach es X'.env).map (·.2) := by rfl) : PGs X' (.Name x pos :: es) (gNames (i :: is)) := pgs_cons (pg_name nd l.at_ l.loc l.fn) h hs
theorem pg_many {es : List Expr} {is : List Nat} {kk : Nat} (bk : Bk X X' scope) (z : Cz X n) (h : PGs X' es (gNames is)) (hn : (assignEach es X'.env).length = is.length := by rfl) (hst : (assignEach es X'.env).findIdx? (·.1) = none := by rfl) : PG X' (.Tuple es kk tpos) (gK X.K (.tup is)) := by
  have := pg_tup (X := X') (pos := tpos) (k := kk) (bk.z z).calm h hn hst
  rw [bk.K] at this
  exact this
end
/-! ### the draws -/
/-- a number below many -/
def pTake : DSp := fun ds M Φ => ∃ s g b n M', ds = [.raw (.ref s), .int n] ∧ M = (s, .st g (b + 1)) :: M' ∧ 0 < n ∧ n < 2 ^ 1000 ∧ ∀ r, 0 ≤ r → r < n → Φ (.int r) ((s, .st g b) :: M')
theorem c_take {s g : Addr} {b : Nat} {n : Int} {M : Mem} {Φ : D → Mem → Prop} (hb : 0 < b) (h0 : 0 < n) (h1 : n < 2 ^ 1000) (k : ∀ r, 0 ≤ r → r < n → Φ (.int r) ((s, .st g (b - 1)) :: M)) : pTake [.raw (.ref s), .int n] ((s, .st g b) :: M) Φ := by
  refine ⟨s, g, b - 1, n, M, rfl, ?_, h0, h1, k⟩
  rw [Nat.sub_add_cancel hb]
/-- the state of a script -/
def pBegun (K : PySem.W.Frag) : DSp := fun ds M Φ => ∃ ns, ds = [.scr K ns] ∧ ns.length ≤ 63 ∧ ∀ s g, Φ (.raw (.ref s)) ((s, .st g 1000000000000) :: M)
def bigOnes (ns : List Int) : List Int := ns.filter fun n => decide (1000000000000000000 ≤ n)
def bigF : D → Option D
  | .int n => if 1000000000000000000 ≤ n then some (.int n) else none
  | _ => none
def modF : D → Option D
  | .int n => some (.int (n % 2147483629))
  | _ => none
theorem big_map (ns : List Int) : (ns.map D.int).filterMap bigF = (bigOnes ns).map D.int := by
  induction ns with
  | nil => rfl
  | cons n ns ih =>
    rw [List.map_cons, List.filterMap_cons]
    unfold bigOnes at ih ⊢
    rw [List.filter_cons]
    by_cases h : 1000000000000000000 ≤ n
    · simp only [bigF, h, if_true, decide_true, List.map_cons, ih]
    · simp only [bigF, h, if_false, decide_false, ih]; rfl
theorem rest_map (ns : List Int) : (ns.map D.int).filterMap modF = (ns.map fun n => n % 2147483629).map D.int := by
  induction ns with
  | nil => rfl
  | cons n ns ih => rw [List.map_cons, List.filterMap_cons]; simp only [modF, ih, List.map_cons]
theorem begun_ok (ns : List Int) (h : ns.length ≤ 63) : StOk 1000000000000 (bigOnes ns) 0 0 7 ((ns.map fun n => n % 2147483629) ++ [77]) := by
  refine ⟨fun x hx => ?_, by decide, by decide, by decide, by decide, by decide, fun x hx => ?_, by simp, by simp; omega⟩
  · have := of_decide_eq_true (List.mem_filter.mp hx).2
    omega
  · rcases List.mem_append.mp hx with hx | hx
    · obtain ⟨n, _, rfl⟩ := List.mem_map.mp hx
      exact ⟨Int.emod_nonneg _ (by decide), Int.emod_lt_of_pos _ (by decide)⟩
    · have : x = 77 := by simpa using hx
      subst this; decide
theorem c_begun {K : PySem.W.Frag} {ns : List Int} {M : Mem} {Φ : D → Mem → Prop} (h : ns.length ≤ 63) (k : ∀ s g, Φ (.raw (.ref s)) ((s, .st g 1000000000000) :: M)) : pBegun K [.scr K ns] M Φ := ⟨ns, rfl, h, k⟩
theorem at_sign {z : Str} {i : Int} (h0 : 0 ≤ i) (h1 : i < z.length) : ∃ c, atI z.cps.toList i = some c := by
  have hl : i.toNat < z.cps.toList.length := by
    have : z.length = z.cps.toList.length := by simp [Str.length]
    omega
  obtain ⟨j, rfl⟩ : ∃ j : Nat, i = (j : Int) := ⟨i.toNat, by omega⟩
  exact ⟨z.cps.toList[j], atI_nat (by simp [hl])⟩
end Hl
namespace Hl
open PySem L2
/-! ### calls with keywords -/
@[irreducible] def tKw (X : Cx) (kws : List Keyword) : TA := fun σ H Q => ∀ (pos : Pos) pins s, Inv X pins σ H s → wpAny (model X.prog X.w) X.A (evalAll ((backToKw pos (keywordEach kws X.env)).map (·.2))) (AP X pins σ Q) X.xe s
theorem cK {X : Cx} {kws : List Keyword} : PK X kws (tKw X kws) := ⟨fun pos pins s _ _ _ I h => by unfold tKw at h; exact h pos pins s I⟩
abbrev DK (B : Bx) (X : Cx) (kws : List Keyword) := WA B (tKw X kws)
structure DefK (P : Program) (w : World) (K : PySem.W.Frag) (mg : Str → Option Value) (base : Heap) (k : Nat) (x : Str) (ks ps : List Str) (pm : List Nat) (p : DSp) : Prop where
  ex : ∃ f fd, mg x = some (.ref f) ∧ PySem.W.keepIn K (.ref f) = true ∧ (∀ (s : Shared) (ws : List Value), ws.length = ks.length → BindsTo s fd ⟨[], ks.zip ws⟩ (ps.zip (pm.map fun j => ws.getD j .none))) ∧ (∀ j ∈ pm, j < ks.length) ∧ FnOk P w K mg base CX0 k f fd ps (lift p)
abbrev DefKX (X : Cx) := DefK X.prog X.w X.K X.mg X.base
section
variable {B : Bx} {X : Cx} {e a b c o : Expr} {es rest : List Expr} {st : Stmt} {sts : List Stmt} {δ δ' : Env'} {M : Mem} {Φ : D → Mem → Prop} {Ψ : DEnds} {te ta tb : TE} {tt : TT} {pos pos' apos kpos : Pos} {d x y : D} {ΦB : Bool → Mem → Prop} {ΦL : List D → Mem → Prop} {kws : List Keyword} {nm : Option Str}
theorem DK.of {t : TA} (h : PK X kws t) (w : WA B t δ M ΦL) : DK B X kws δ M ΦL := fun κ σ H Q hb R k => by unfold tKw; exact fun pos pins s I => h.run pos pins s σ H Q I (w κ σ H Q hb R k)
theorem dk_nil (k : ΦL [] M) : DK B X [] δ M ΦL := .of pk_nil fun κ σ H Q hb R h => h _ _ M H k R .nil
theorem dk_cons (h : DE B X a δ M fun x M1 => DK B X kws δ M1 fun xs M2 => ΦL (x :: xs) M2) : DK B X (⟨nm, a, kpos⟩ :: kws) δ M ΦL := .of (pk_cons cE cK) fun κ σ H Q hb R k =>
  h κ σ H _ hb R fun v x M1 H1 q1 R1 r1 => q1 ((v, x) :: κ) σ H1 _ (fun q hq => List.mem_cons_of_mem _ (hb q hq)) (R1.push r1) fun vs xs M2 H2 q2 R2 r2 => k _ _ _ _ q2 R2.pop (.cons R2.top r2)
theorem Reps.pick {F : List Addr} {H : Hp} {vs : List V} {ds : List D} (r : Reps F H vs ds) : ∀ (pm : List Nat), (∀ j ∈ pm, j < vs.length) → Reps F H (pm.map fun j => vs.getD j .non) (pm.map fun j => ds.getD j .non)
  | [], _ => .nil
  | j :: pm, h => by
    have hj := h j List.mem_cons_self
    obtain ⟨d, e1, r1⟩ := r.get (i := j) (v := vs[j]) (by simp [hj])
    refine .cons ?_ (r.pick pm fun i hi => h i (List.mem_cons_of_mem _ hi))
    have a1 : vs.getD j .non = vs[j] := by simp [List.getD, hj]
    have a2 : ds.getD j .non = d := by simp [List.getD, e1]
    dsimp only
    rw [a1, a2]; exact r1
theorem Vals.pick {vs : List V} {us : List Value} (r : Vals vs us) : ∀ (pm : List Nat), (∀ j ∈ pm, j < vs.length) → Vals (pm.map fun j => vs.getD j .non) (pm.map fun j => us.getD j .none)
  | [], _ => .nil
  | j :: pm, h => by
    have hj := h j List.mem_cons_self
    obtain ⟨u, e1, r1⟩ := Vals.get r (i := j) (x := vs[j]) (by simp [hj])
    refine .cons ?_ (Vals.pick r pm fun i hi => h i (List.mem_cons_of_mem _ hi))
    have a1 : vs.getD j .non = vs[j] := by simp [List.getD, hj]
    have a2 : us.getD j .none = u := by simp [List.getD, e1]
    dsimp only
    rw [a1, a2]; exact r1
theorem de_callK {k n : Nat} {x : Str} {ks ps : List Str} {pm : List Nat} {p : DSp} {pp : Pos} (z : Cz X n) (f : DefKX X k x ks ps pm p) (hk : k ≤ n) (hg : Gl X x) (h : DK B X kws δ M fun ds M' => ds.length = ks.length ∧ p (pm.map fun j => ds.getD j .non) M' Φ)
    (hall : (backToKw pos (keywordEach kws X.env)).all (·.1.isSome) = true := by rfl) (hks : (backToKw pos (keywordEach kws X.env)).filterMap (·.1) = ks := by rfl) (hdb : (x == ("__debug__" : Str)) = false := by decide)
    (hpl : ((backTo pos (starEach [] X.env)).any (·.1) || (backToKw pos (keywordEach kws X.env)).any (·.1.isNone)) = false := by rfl) : DE B X (.Call (.Name x pp) [] kws pos) δ M Φ := by
  obtain ⟨fa, fd, h1, h2, h3, h4, h5⟩ := f.ex
  refine .of (te := fun σ H Q => tKw X kws σ H fun zs H2 => zs.length = ks.length ∧ lift p (pm.map fun j => zs.getD j .non) H2 Q E0) ⟨fun pins s σ H Q I hq => ?_⟩ fun κ σ H Q hb R kk => h κ σ H _ hb R fun vs ds M1 H1 ⟨ql, q⟩ R1 r1 => ⟨by rw [r1.length]; exact ql, ?_⟩
  · refine wpAny_Call_Name_kw (ld_glob I hg h1 ?_ hdb)
    refine PySem.W.callWith_KW0 (h₀ := X.base) (first := []) I.ok.mod.kin h2 hall (thn (cK.run pos pins s σ H _ I hq) fun ws s2 ⟨zs, H2, I2, rz, l2, q2⟩ => ⟨I2.kIn, ?_⟩) hpl
    rw [hks]
    have r2 := Vals.pick rz pm (fun j hj => by rw [l2]; exact h4 j hj)
    refine wpAny_call (codeAny_mono (h5.run X.A X.stack s2 H2 ⟨[], ks.zip ws⟩ _ _ Q E0 (z.room.mono hk) I2.env0 (h3 s2 ws (rz.length.symm.trans l2)) r2 q2) fun r s' hq => ?_)
    cases r with
    | error e => exact hq.elim
    | ok fl =>
      cases fl with
      | ret u => exact I2.after hq
      | next => exact False.elim hq
      | brk => exact False.elim hq
      | cont => exact False.elim hq
  · refine ⟨κ ++ sk σ δ, _, M1, Φ, R1.pack, r1.pick pm (fun j hj => by rw [r1.length, ql]; exact h4 j hj), q, fun v d M2 H2 q2 R2 r2 => kk v d M2 H2 q2 (R1.unpack R2) r2⟩
/-! ### in, not in -/
def rInU (K : PySem.W.Frag) : R2 := fun x y H Q => (∃ (c : Nat) (z : Str), x = .str ⟨#[c]⟩ ∧ y = .str z ∧ Q (.bl (decide (c ∈ z.cps.toList))) H) ∨ rIn K false x y H Q
def rNotInU (K : PySem.W.Frag) : R2 := fun x y H Q => (∃ (c : Nat) (z : Str), x = .str ⟨#[c]⟩ ∧ y = .str z ∧ Q (.bl (!decide (c ∈ z.cps.toList))) H) ∨ rIn K true x y H Q
theorem de_in (h : DE B X a δ M fun x M1 => DE B X b δ M1 fun y M2 => OpD (rInU X.K) x y M2 Φ) (hm : behindInMarks .In b = false := by rfl) : DE B X (.Compare a [.In] [b] pos) δ M Φ := de_cmp (op_in_sign.or op_in_seq) hm h
theorem de_notin (h : DE B X a δ M fun x M1 => DE B X b δ M1 fun y M2 => OpD (rNotInU X.K) x y M2 Φ) (hm : behindInMarks .NotIn b = false := by rfl) : DE B X (.Compare a [.NotIn] [b] pos) δ M Φ := de_cmp (op_notIn_sign.or op_notIn_seq) hm h
theorem dt_in (h : DE B X a δ M fun x M1 => DE B X b δ M1 fun y M2 => OpD (rInU X.K) x y M2 (toB ΦB)) (hm : behindInMarks .In b = false := by rfl) : DT B X (.Compare a [.In] [b] pos) δ M ΦB := dt_cmp (op_in_sign.or op_in_seq) hm h
theorem dt_notin (h : DE B X a δ M fun x M1 => DE B X b δ M1 fun y M2 => OpD (rNotInU X.K) x y M2 (toB ΦB)) (hm : behindInMarks .NotIn b = false := by rfl) : DT B X (.Compare a [.NotIn] [b] pos) δ M ΦB := dt_cmp (op_notIn_sign.or op_notIn_seq) hm h
theorem od_inS {K : PySem.W.Frag} {c : Nat} {z : Str} (k : Φ (.bl (decide (c ∈ z.cps.toList))) M) : OpD (rInU K) (.str ⟨#[c]⟩) (.str z) M Φ := .inl fun κ δ σ H v w Q R rv rw' h => by
  cases rv; cases rw'
  exact ⟨c, z, rfl, rfl, h _ _ M H k R (.bl _)⟩
theorem od_notinS {K : PySem.W.Frag} {c : Nat} {z : Str} (k : Φ (.bl (!decide (c ∈ z.cps.toList))) M) : OpD (rNotInU K) (.str ⟨#[c]⟩) (.str z) M Φ := .inl fun κ δ σ H v w Q R rv rw' h => by
  cases rv; cases rw'
  exact ⟨c, z, rfl, rfl, h _ _ M H k R (.bl _)⟩
/-- a text's constant of the module -/
theorem gc_str {x : Str} {z : Str} {sc : Scope} (hs : X.env.scope = sc) (h : sc.names.lookup x = some .globalImplicit) (hm : ∃ t, X.mg x = some (.str z t)) (dbg : (x == ("__debug__" : Str)) = false := by decide) : Gc X x (.str z) := by
  obtain ⟨t, e⟩ := hm
  exact ⟨gl_of hs h, ⟨_, e, t, rfl⟩, dbg⟩
theorem gc_int {x : Str} {z : Int} {sc : Scope} (hs : X.env.scope = sc) (h : sc.names.lookup x = some .globalImplicit) (hm : ∃ t, X.mg x = some (.int z t)) (dbg : (x == ("__debug__" : Str)) = false := by decide) : Gc X x (.int z) := by
  obtain ⟨t, e⟩ := hm
  exact ⟨gl_of hs h, ⟨_, e, t, rfl⟩, dbg⟩
theorem de_gstr {x : Str} {z : Str} (g : Gc X x (.str z)) (k : Φ (.str z) M) : DE B X (.Name x pos) δ M Φ := de_glob g (fun _ _ => .str z) k
theorem de_gint {x : Str} {z : Int} (g : Gc X x (.int z)) (k : Φ (.int z) M) : DE B X (.Name x pos) δ M Φ := de_glob g (fun _ _ => .int z) k
/-! a op1 b op2 c -/
theorem de_chain {op op' : CmpOp} {r r' : R2} (ho : OpR X (compareOp op) r) (ho' : OpR X (compareOp op') r') (h : DE B X a δ M fun x M1 => DE B X b δ M1 fun y M2 => OpD r x y M2 (toB fun t M3 => Br t (DE B X c δ M3 fun w M4 => OpD r' y w M4 Φ) (Φ (.bl false) M3)))
    (hm : lastMarks [op, op'] [b, c] = false := by with_unfolding_all rfl) : DE B X (.Compare a [op, op'] [b, c] pos) δ M Φ := .of (pe_chain ho ho' cE cE cE hm) fun κ σ H Q hb R k =>
  h κ σ H _ hb R fun v x M1 H1 q1 R1 r1 => q1 ((v, x) :: κ) σ H1 _ (fun q hq => List.mem_cons_of_mem _ (hb q hq)) (R1.push r1) fun w y M2 H2 q2 R2 r2 =>
    q2 ((w, y) :: κ) δ σ H2 v w _ (R2.pop.push r2) R2.top r2 fun u du M3 H3 ⟨t, e, q3⟩ R3 r3 => by
      subst e; cases r3
      refine ⟨t, rfl, Br.ite ⟨fun e => ?_, fun e => k _ _ _ _ (q3.2 e) R3.pop (.bl _)⟩⟩
      exact q3.1 e ((w, y) :: κ) σ H3 _ (fun q hq => List.mem_cons_of_mem _ (hb q hq)) R3 fun w2 y2 M4 H4 q4 R4 r4 => q4 κ δ σ H4 w w2 Q R4.pop R4.top r4 k
theorem de_le2 (h : DE B X a δ M fun x M1 => DE B X b δ M1 fun y M2 => OpD rLeU x y M2 (toB fun t M3 => Br t (DE B X c δ M3 fun w M4 => OpD rLeU y w M4 Φ) (Φ (.bl false) M3))) (hm : lastMarks [.LtE, .LtE] [b, c] = false := by with_unfolding_all rfl) : DE B X (.Compare a [.LtE, .LtE] [b, c] pos) δ M Φ := de_chain op_le op_le h hm
/-- a statement whose ways meet -/
theorem ds_cut (Mid : Env' → Mem → Prop) (h1 : DS B X st δ M { Ψ with nx := Mid }) (h2 : ∀ δ M, Mid δ M → DSs B X sts δ M Ψ) : DSs B X (st :: sts) δ M Ψ := ds_cons (h1.mono (fun δ M q => h2 δ M q) (fun _ _ q => q) (fun _ _ q => q) fun _ _ q => q)
/-- 1 <= x <= 9 of ints, the last one written -/
theorem de_le2C {l : Int} {j : Nat} {p1 : Pos} (h : DE B X a δ M fun x M1 => DE B X b δ M1 fun y M2 => ∃ i j, x = .int i ∧ y = .int j ∧ Φ (.bl (decide (i ≤ j) && decide (j ≤ l))) M2) (hm : lastMarks [.LtE, .LtE] [b, .Constant (.int l) j p1] = false := by with_unfolding_all rfl) :
    DE B X (.Compare a [.LtE, .LtE] [b, .Constant (.int l) j p1] pos) δ M Φ := de_le2 (h.mono fun x M1 h1 => h1.mono fun y M2 ⟨i, j, ex, ey, q⟩ => by
  subst ex ey
  refine od_le (toB.mk ⟨fun e => de_int (od_le ?_), fun e => ?_⟩)
  · rw [e] at q; exact q
  · rw [e] at q; exact q) hm
theorem ex_ii {i j : Int} {P : Int → Int → Prop} (h : P i j) : ∃ a b, D.int i = .int a ∧ D.int j = .int b ∧ P a b := ⟨i, j, rfl, rfl, h⟩
theorem ex_i {i : Int} {P : Int → Prop} (h : P i) : ∃ a, D.int i = .int a ∧ P a := ⟨i, rfl, h⟩
theorem ex_l {ds : List D} {P : List D → Prop} (h : P ds) : ∃ a, D.lst ds = .lst a ∧ P a := ⟨ds, rfl, h⟩
theorem ex_t {ds : List D} {P : List D → Prop} (h : P ds) : ∃ a, D.tup ds = .tup a ∧ P a := ⟨ds, rfl, h⟩
theorem ex_s {z : Str} {P : Str → Prop} (h : P z) : ∃ a, D.str z = .str a ∧ P a := ⟨z, rfl, h⟩
theorem ex_x {K : PySem.W.Frag} {ns : List Int} {P : List Int → Prop} (h : P ns) : ∃ a, D.scr K ns = .scr K a ∧ P a := ⟨ns, rfl, h⟩
theorem idK (h : DK B X kws δ M ΦL) : DK B X kws δ M ΦL := h
theorem idI {tg iter : Expr} (h : DI B X tg iter δ M ΦL) : DI B X tg iter δ M ΦL := h
end
/-- the law is kept -/
def pLaw (K : PySem.W.Frag) : DSp := fun ds M Φ => ∃ ns, ds = [.scr K ns] ∧ ns.length ≤ 63 ∧ Φ (.bl true) M
theorem law_start {K : PySem.W.Frag} {H : Hp} {a : Addr} {ns : List Int} {E : XK} (hl : ns.length ≤ 63) (hS : SqL K H a (ns.map V.int)) : lift (pLaw K) [.ref a] H (fun v _ => v = .bl true) E := by
  refine ⟨[], [.scr K ns], [], fun d _ => d = .bl true, ⟨by simp, .nil, by simp, .nil⟩, .cons ?_ .nil, ⟨ns, rfl, hl, rfl⟩, fun v d M' H' e R r => by subst e; cases r; rfl⟩
  rcases hS with h | h
  · exact .scrH (by simp [Mem.F]) h
  · exact .scrK fun _ => .inr h
theorem defK_mk {P : Program} {w : World} {K : PySem.W.Frag} {mg : Str → Option Value} {base : Heap} {k : Nat} {x : Str} {ks ps : List Str} {pm : List Nat} {p : DSp} {f : Addr} {fd : FuncData} (gm : mg x = some (.ref f)) (kp : PySem.W.keepIn K (.ref f) = true)
    (b : ∀ (s : Shared) (ws : List Value), ws.length = ks.length → BindsTo s fd ⟨[], ks.zip ws⟩ (ps.zip (pm.map fun j => ws.getD j .none))) (h : ∀ j ∈ pm, j < ks.length) (F : FnOk P w K mg base CX0 k f fd ps (lift p)) : DefK P w K mg base k x ks ps pm p := ⟨f, fd, gm, kp, b, h, F⟩
end Hl
namespace Hl
open PySem L2
section
variable {B : Bx} {X : Cx} {e a b c o : Expr} {es rest : List Expr} {st : Stmt} {sts : List Stmt} {δ δ' : Env'} {M : Mem} {Φ : D → Mem → Prop} {Ψ : DEnds} {te ta tb : TE} {tt : TT} {pos pos' apos kpos : Pos} {d x y : D} {ΦB : Bool → Mem → Prop} {ΦL : List D → Mem → Prop}
/-! ### typed lists -/
theorem range_get {lo : Int} {n i : Nat} {x : D} (h : (rangeD lo n)[i]? = some x) : i < n ∧ x = .int (lo + (i : Nat)) := by
  unfold rangeD at h
  have hi : i < n := by have := (List.getElem?_eq_some_iff.mp h).1; simpa using this
  rw [List.getElem?_map, List.getElem?_range hi] at h
  exact ⟨hi, (Option.some.inj h).symm⟩
theorem range_len {lo : Int} {n : Nat} : (rangeD lo n).length = n := by simp [rangeD]
theorem map_get {α : Type} {f : α → D} {l : List α} {i : Nat} {x : D} (h : (l.map f)[i]? = some x) : ∃ y, l[i]? = some y ∧ x = f y := by
  rw [List.getElem?_map] at h
  cases e : l[i]? with
  | none => rw [e] at h; cases h
  | some y => rw [e] at h; exact ⟨y, rfl, (Option.some.inj h).symm⟩
theorem enum_get {ds : List D} {i : Nat} {x : D} (h : (enumD ds)[i]? = some x) : ∃ y, ds[i]? = some y ∧ x = .tup [.int (i : Nat), y] := by
  unfold enumD at h
  have hi : i < ds.length := by have := (List.getElem?_eq_some_iff.mp h).1; simpa using this
  rw [List.getElem?_map, List.getElem?_range hi] at h
  refine ⟨ds[i], by simp [hi], ?_⟩
  rw [← Option.some.inj h]
  simp [hi]
theorem enum_len {ds : List D} : (enumD ds).length = ds.length := by simp [enumD]
theorem at_map {α : Type} {f : α → D} {l : List α} {i : Int} (h0 : 0 ≤ i) (h1 : i < l.length) : ∃ y, l[i.toNat]? = some y ∧ atI (l.map f) i = some (f y) := by
  have hl : i.toNat < l.length := by omega
  refine ⟨l[i.toNat], by simp [hl], ?_⟩
  obtain ⟨j, rfl⟩ : ∃ j : Nat, i = (j : Int) := ⟨i.toNat, by omega⟩
  exact atI_nat (by rw [List.getElem?_map]; simp at hl ⊢; simp [hl])
theorem at_mapN {α : Type} {f : α → D} {l : List α} {j : Nat} {y : α} (h : l[j]? = some y) : atI (l.map f) (j : Int) = some (f y) := atI_nat (by rw [List.getElem?_map, h]; rfl)
theorem ixN_nat' {n j : Nat} (h : j < n) : ixN n (j : Int) = some j := by
  unfold ixN
  rw [if_pos (by omega), if_pos (by omega)]
  simp
abbrev pD (p : Int × Int) : D := .tup [.int p.1, .int p.2]
abbrev tD (p : Int × Int × Int) : D := .tup [.int p.1, .int p.2.1, .int p.2.2]
/-! ### sorted -/
/-- in the order of pairs -/
def LeP (a b : Int × Int) : Prop := a.1 < b.1 ∨ (a.1 = b.1 ∧ a.2 ≤ b.2)
theorem de_sorted {p : Pos} {r : List V → Hp → VK → Prop} (hr : CallR X (.builtin "sorted") r) (g : Gn X "sorted") (h : DA B X [a] δ M fun ds M1 => CallD r ds M1 Φ) (he : starEach [a] X.env = (false, eval a X.env) :: starEach [] X.env := by rfl) (hpl : (backTo pos (starEach [] X.env)).any (·.1) = false := by rfl) : DE B X (.Call (.Name "sorted" p) [a] [] pos) δ M Φ := de_blt hr g PyProof.Rows.boot_sorted h (by decide) (by decide) he hpl
theorem de_sortedP {p : Pos} (g : Gn X "sorted") (h : DA B X [a] δ M fun ds M1 => CallD (rSortedPO X.K) ds M1 Φ) (he : starEach [a] X.env = (false, eval a X.env) :: starEach [] X.env := by rfl) (hpl : (backTo pos (starEach [] X.env)).any (·.1) = false := by rfl) : DE B X (.Call (.Name "sorted" p) [a] [] pos) δ M Φ := de_sorted cr_sortedPO g h he hpl
def pairAt (H : Hp) (v : V) : Int × Int := match v with
  | .ref t => match H t with
    | some (.tup [.int i, .int j]) => (i, j)
    | _ => (0, 0)
  | _ => (0, 0)
theorem pairAt_is {F : List Addr} {H : Hp} {v : V} {q : Int × Int} (r : Rep F H v (pD q)) : pairAt H v = q ∧ ∃ t, v = .ref t ∧ H t = some (.tup [.int q.1, .int q.2]) := by
  cases r with
  | tup hn e rs =>
    cases rs with
    | cons r1 rs =>
      cases rs with
      | cons r2 rs =>
        cases r1; cases r2; cases rs
        rename_i t
        refine ⟨?_, t, rfl, e⟩
        unfold pairAt
        dsimp only
        rw [e]
theorem reps_pairs {F : List Addr} {H : Hp} : ∀ {vs : List V} {ps : List (Int × Int)}, Reps F H vs (ps.map pD) → vs.map (pairAt H) = ps ∧ ∀ v ∈ vs, Rep F H v (pD (pairAt H v))
  | _, [], .nil => ⟨rfl, by simp⟩
  | _, p :: ps, .cons r rs => by
    obtain ⟨e1, _⟩ := pairAt_is r
    obtain ⟨e2, h2⟩ := reps_pairs rs
    refine ⟨by rw [List.map_cons, e1, e2], fun v hv => ?_⟩
    rcases List.mem_cons.mp hv with rfl | hv
    · rw [e1]; exact r
    · exact h2 v hv
theorem reps_of {F : List Addr} {H : Hp} {f : V → D} : ∀ {vs : List V}, (∀ v ∈ vs, Rep F H v (f v)) → Reps F H vs (vs.map f)
  | [], _ => .nil
  | v :: vs, h => .cons (h v List.mem_cons_self) (reps_of fun w hw => h w (List.mem_cons_of_mem _ hw))
theorem cd_sortedP {K : PySem.W.Frag} {ps : List (Int × Int)} (h : IsL M x (ps.map pD)) (k : ∀ qs : List (Int × Int), qs.Perm ps → qs.Pairwise LeP → Φ (.lst (qs.map pD)) M) : CallD (rSortedPO K) [x] M Φ := fun κ δ σ H vs Q R rs f => by
  cases rs with
  | cons r1 r2 =>
    cases r2
    obtain ⟨a, us, rfl, e1, rr⟩ := h.sq R r1
    obtain ⟨em, hm⟩ := reps_pairs rr
    refine ⟨a, us, pairAt H, rfl, SqL.of e1, fun v hv => (pairAt_is (hm v hv)).2, fun ys p hs hb hp => ?_⟩
    have hperm : (ys.map (pairAt H)).Perm ps := by rw [← em]; exact hb.perm.map _
    have hsort : (ys.map (pairAt H)).Pairwise LeP := by
      rw [List.pairwise_map]
      refine List.Pairwise.imp (fun {x y} h => ?_) hs
      have := SrtO.lexB_no.mp h
      unfold LeP
      omega
    have rys : Reps M.F H ys ((ys.map (pairAt H)).map pD) := by
      rw [List.map_map]
      exact reps_of fun v hv => hm v (hb.perm.mem_iff.mp hv)
    obtain ⟨R', r'⟩ := R.lstV rys hp
    exact f _ _ _ _ (k _ hperm hsort) R' r'
/-! ### sum, list -/
theorem de_sum {n : Nat} (z : Cz X n) {p : Pos} (g : Gn X "sum") (h : DA B X [a] δ M fun ds M1 => CallD (rSum X.K) ds M1 Φ) (he : starEach [a] X.env = (false, eval a X.env) :: starEach [] X.env := by rfl) (hpl : (backTo pos (starEach [] X.env)).any (·.1) = false := by rfl) : DE B X (.Call (.Name "sum" p) [a] [] pos) δ M Φ := de_blt (cr_sum z.calm) g PyProof.Rows.boot_sum h (by decide) (by decide) he hpl
theorem cd_sum {K : PySem.W.Frag} {ns : List Int} (h : IsL M x (ns.map .int)) (k : Φ (.int ns.sum) M) : CallD (rSum K) [x] M Φ := fun κ δ σ H vs Q R rs f => by
  cases rs with
  | cons r1 r2 =>
    cases r2
    obtain ⟨a, us, rfl, e1, rr⟩ := h.sq R r1
    have := rr.ints
    subst this
    exact ⟨a, ns, rfl, SqL.of e1, f _ _ _ _ k R (.int _)⟩
def rListU (K : PySem.W.Frag) : List V → Hp → VK → Prop := fun xs H Q => ∃ p ys, xs = [.ref p] ∧ (SqL K H p ys ∨ SqT K H p ys) ∧ ∀ l, H l = none → Q (.ref l) (upd H l (.lst ys))
theorem df_list {p : Pos} {ds : List D} (g : Gn X "list") (h : DE B X a δ M fun x M1 => ∃ ds, IsL M1 x ds ∧ ΦL ds M1) (he : starEach [a] X.env = (false, eval a X.env) :: starEach [] X.env := by rfl) (hpl : (backTo pos (starEach [] X.env)).any (·.1) = false := by rfl) : DF B X (.Call (.Name "list" p) [a] [] pos) δ M ΦL :=
  .of (pe_callTy call_list_of g.gl g.no PyProof.Rows.boot_list (pa_cons cE pa_nil he) (by decide) (by decide) he hpl) fun κ σ H Q hb R k => h κ σ H _ hb R fun v x M1 H1 ⟨ds, il, q⟩ R1 r1 => by
    obtain ⟨a, us, rfl, e1, rr⟩ := il.sq R1 r1
    exact ⟨a, us, rfl, .inl (SqL.of e1), fun l hl => k l ds M1 _ q (R1.lst rr hl)⟩
theorem de_list {p : Pos} (g : Gn X "list") (h : DE B X a δ M fun x M1 => ∃ ds, IsL M1 x ds ∧ Φ (.lst ds) M1) (he : starEach [a] X.env = (false, eval a X.env) :: starEach [] X.env := by rfl) (hpl : (backTo pos (starEach [] X.env)).any (·.1) = false := by rfl) : DE B X (.Call (.Name "list" p) [a] [] pos) δ M Φ := .f (df_list (ds := []) g h he hpl)
/-! isinstance of what is known -/
theorem isi_ii {K : PySem.W.Frag} {i : Int} (k : Φ (.bl true) M) : CallD (rIsi K) [.int i, .raw (.ty "int")] M Φ := cd_isi (S := "int") rfl (by decide +kernel) k
theorem isi_ib {K : PySem.W.Frag} {i : Int} (k : Φ (.bl false) M) : CallD (rIsi K) [.int i, .raw (.ty "bool")] M Φ := cd_isi (S := "int") rfl (by decide +kernel) k
theorem isi_bb {K : PySem.W.Frag} {i : Bool} (k : Φ (.bl true) M) : CallD (rIsi K) [.bl i, .raw (.ty "bool")] M Φ := cd_isi (S := "bool") rfl (by decide +kernel) k
theorem isi_bi {K : PySem.W.Frag} {i : Bool} (k : Φ (.bl true) M) : CallD (rIsi K) [.bl i, .raw (.ty "int")] M Φ := cd_isi (S := "bool") rfl (by decide +kernel) k
theorem isi_ll {K : PySem.W.Frag} {ds : List D} (k : Φ (.bl true) M) : CallD (rIsi K) [.lst ds, .raw (.ty "list")] M Φ := cd_isi (S := "list") rfl (by decide +kernel) k
theorem isi_tt {K : PySem.W.Frag} {ds : List D} (k : Φ (.bl true) M) : CallD (rIsi K) [.tup ds, .raw (.ty "tuple")] M Φ := cd_isi (S := "tuple") rfl (by decide +kernel) k
theorem isi_nb {K : PySem.W.Frag} (k : Φ (.bl false) M) : CallD (rIsi K) [.non, .raw (.ty "bool")] M Φ := cd_isi (S := "NoneType") rfl (by decide +kernel) k
theorem isi_ni {K : PySem.W.Frag} (k : Φ (.bl false) M) : CallD (rIsi K) [.non, .raw (.ty "int")] M Φ := cd_isi (S := "NoneType") rfl (by decide +kernel) k
theorem isi_nt {K : PySem.W.Frag} (k : Φ (.bl false) M) : CallD (rIsi K) [.non, .raw (.ty "tuple")] M Φ := cd_isi (S := "NoneType") rfl (by decide +kernel) k
/-! the same lists of pairs, triples -/
theorem okDs_map {α : Type} {f : α → D} (h : ∀ x, okD (f x) = true) : ∀ (l : List α), okDs (l.map f) = true
  | [] => rfl
  | x :: l => by show (okD (f x) && okDs (l.map f)) = true; rw [h x, okDs_map h l]; rfl
theorem depth_map {α : Type} {f : α → D} {n : Nat} (h : ∀ x, (toPy (f x)).depth ≤ n) : ∀ (l : List α), PyData.depthAll (toPys (l.map f)) ≤ n
  | [] => Nat.zero_le _
  | x :: l => by
    show max (toPy (f x)).depth (PyData.depthAll (toPys (l.map f))) ≤ n
    exact Nat.max_le.mpr ⟨h x, depth_map h l⟩
theorem okE_map {α : Type} {f : α → D} (h1 : ∀ x, okD (f x) = true) (h2 : ∀ x, (toPy (f x)).depth ≤ 63) (l : List α) : okE (.lst (l.map f)) = true := by
  show (okDs (l.map f) && decide (PyData.depthAll (toPys (l.map f)) + 1 ≤ 64)) = true
  rw [okDs_map h1 l, decide_eq_true (by have := depth_map h2 l; omega)]; rfl
theorem okE_pairs (ps : List (Int × Int)) : okE (.lst (ps.map pD)) = true := okE_map (fun _ => rfl) (fun _ => by show 1 ≤ 63; decide) ps
theorem okE_triples (ps : List (Int × Int × Int)) : okE (.lst (ps.map tD)) = true := okE_map (fun _ => rfl) (fun _ => by show 1 ≤ 63; decide) ps
/-- a written list of ints at a place within -/
theorem od_ixM {K : PySem.W.Frag} (ns : List Int) {i : Int} (h0 : 0 ≤ i) (h1 : i < ns.length) (k : ∀ m, m ∈ ns → Φ (.int m) M) : OpD (rIxU K) (.lst (ns.map .int)) (.int i) M Φ := by
  obtain ⟨c, hc, e⟩ := at_int h0 h1
  exact od_ixL e (k c hc)
theorem len_and {xs : List D} {P : Prop} (h : xs.length ≤ sizeLine) (k : P) : xs.length ≤ sizeLine ∧ P := ⟨h, k⟩
/-- a comprehension over typed data without effects -/
theorem LcH.pureT {α β : Type} {scope : Scope} {elt : Expr} {ifs : List Expr} {own : List (Str × Nat)} {tk : Tk} {k : Nat} (l : List α) (f : α → D) (G : α → Option β) (g : β → D) (hl : l.length ≤ sizeLine)
    (h : ∀ (p : Addr) acc a, a ∈ l → ∃ δ2, bindK tk (f a) (wipeD δ (own.map (·.2))) = some δ2 ∧ Turn1 B X scope elt ifs δ2 (insM k (p, .lst acc) M) fun od M2 => od = (G a).map g ∧ M2 = insM k (p, .lst acc) M)
    (q : ΦL ((l.filterMap G).map g) M) : LcH k B X scope elt ifs own tk δ (l.map f) M ΦL := by
  refine ⟨fun i acc M1 => M1 = M ∧ acc = ((l.take i).filterMap G).map g ∧ acc.length ≤ i, ⟨rfl, rfl, Nat.le_refl _⟩, ?_, ?_⟩
  · rintro p i x acc M1 hx ⟨rfl, ha, hal⟩
    obtain ⟨a, ea, rfl⟩ := map_get hx
    have hi : i < l.length := (List.getElem?_eq_some_iff.mp ea).1
    obtain ⟨δ2, e1, tu⟩ := h p acc a (List.mem_of_getElem? ea)
    have fin : ∀ (od : Option D) M2, od = (G a).map g ∧ M2 = insM k (p, .lst acc) M1 → ∃ M3, M2 = insM k (p, .lst acc) M3 ∧ M3 = M1 ∧ acc ++ od.toList = ((l.take (i + 1)).filterMap G).map g ∧ (acc ++ od.toList).length ≤ i + 1 := by
      rintro od M2 ⟨rfl, rfl⟩
      refine ⟨M1, rfl, rfl, ?_, ?_⟩
      · rw [List.take_add_one, ea, List.filterMap_append, List.map_append, ← ha]
        cases e : G a <;> simp [e]
      · rw [List.length_append]
        cases G a <;> simp <;> omega
    refine ⟨by omega, δ2, e1, ?_⟩
    unfold Turn1 at tu ⊢
    match ifs, tu with
    | [], tu => exact fun X' bk => (tu X' bk).mono fun d M2 q => fin _ _ q
    | [c], tu => exact fun X' bk => (tu X' bk).mono fun t M2 q => ⟨fun e X2 bk2 => (q.1 e X2 bk2).mono fun d M3 q => fin _ _ q, fun e => fin _ _ (q.2 e)⟩
    | _ :: _ :: _, tu => exact tu.elim
  · rintro acc M1 ⟨rfl, rfl, _⟩
    rw [List.length_map, List.take_length]
    exact q
theorem LcH.mapT {α β : Type} {scope : Scope} {elt : Expr} {own : List (Str × Nat)} {tk : Tk} {k : Nat} (l : List α) (f : α → D) (G : α → β) (g : β → D) (hl : l.length ≤ sizeLine)
    (h : ∀ (p : Addr) acc a, a ∈ l → ∃ δ2, bindK tk (f a) (wipeD δ (own.map (·.2))) = some δ2 ∧ ∀ X', Bk X X' scope → DE B X' elt δ2 (insM k (p, .lst acc) M) fun d M2 => d = g (G a) ∧ M2 = insM k (p, .lst acc) M)
    (q : ΦL ((l.map G).map g) M) : LcH k B X scope elt [] own tk δ (l.map f) M ΦL := by
  refine LcH.pureT l f (fun a => some (G a)) g hl (fun p acc a ha => ?_) (by rw [List.filterMap_eq_map']; exact q)
  obtain ⟨δ2, e, tu⟩ := h p acc a ha
  exact ⟨δ2, e, fun X' bk => (tu X' bk).mono fun d M2 ⟨e1, e2⟩ => ⟨by rw [e1]; rfl, e2⟩⟩
end
end Hl
namespace Hl
open PySem L2
open PyProof.Rows hiding St
/-! ### enumerate(tuple) -/
set_option maxHeartbeats 1000000 in
theorem meets_enumerate_new1 {v : Value} {o : Obj} {H : Heap → Prop} (B : Begins v o H) :
    Meets (Builtin.«enumerate.__new__» ⟨[.type "enumerate", v], []⟩) (fun _ R s => H s.heap ∧
      R (.ok (.ret (.ref (s.heap.push o).objs.size))) { s with heap := (s.heap.push o).push { cls := .type "enumerate", data := .fields #[.none, .bool false, .ref s.heap.objs.size, rawInt 0, .none, .none] } }) :=
  .of_wp fun prog w A R s h => by
    obtain ⟨hp, g, d, tk, os⟩ := s; obtain ⟨h1, h⟩ := h
    have hsub := sub_enumerate
    have q1 : ∀ {A' : Around} {E : Value → Shared → Prop} {Q : Value → Shared → Prop}, Q (.ref hp.objs.size) ⟨hp.push o, g, d, tk, os⟩ → wpAny (model prog w) A' (pyIter v) Q E ⟨hp, g, d, tk, os⟩ :=
      fun q => B.iter prog w _ _ ⟨hp, g, d, tk, os⟩ _ h1 q
    wp_walk using q1
    refine wpAny_stack_any fun st => wpAny_pure ?_
    split
    · rename_i c _ _ _ _ _
      cases (c == Value.type "enumerate")
      · wp_walk using q1
        exact ⟨_, rfl, h⟩
      · wp_walk using q1
        exact ⟨_, rfl, h⟩
    · wp_walk using q1
      exact ⟨_, rfl, h⟩
theorem enum_begins1 {prog : Program} {w : World} {A : Around} {E : Value → Shared → Prop} {s : Shared} {v : Value} {o : Obj} {H : Heap → Prop} {Q : Value → Shared → Prop} (B : Begins v o H) (h1 : H s.heap)
    (h : ∀ h', IsEnum h' (s.heap.objs.size + 1) s.heap.objs.size 0 .none → h'.get? s.heap.objs.size = some o → h'.objs.size = s.heap.objs.size + 2 →
      (∀ b o, s.heap.get? b = some o → h'.get? b = some o) → Q (.ref (s.heap.objs.size + 1)) { s with heap := h' }) :
    wpAny (model prog w) A (call (.type "enumerate") [v]) Q E s := by
  refine callType_new F.called_enumerate (by decide) (F.typeCall_enumerate_1 _) (F.newCall_enumerate_1 _) (fun obj => F.args_object_init_2 obj _) F.entry_enumerate_new
    (meets_enumerate_new1 B) ⟨h1, ?_⟩
  have hz : (s.heap.push o).objs.size = s.heap.objs.size + 1 := Heap.size_push ..
  show _ ∧ _
  rw [hz]
  have he : IsEnum ((s.heap.push o).push { cls := .type "enumerate", data := .fields #[.none, .bool false, .ref s.heap.objs.size, rawInt 0, .none, .none] }) (s.heap.objs.size + 1) s.heap.objs.size 0 .none := by
    have := Heap.get?_push_size (s.heap.push o) (o := { cls := .type "enumerate", data := .fields #[.none, .bool false, .ref s.heap.objs.size, rawInt 0, .none, .none] }) rfl
    rw [hz] at this; exact this
  refine ⟨⟨_, he, rfl⟩, h _ he (Heap.get?_push_of_some _ (Heap.get?_push_size _ B.free)) (by rw [Heap.size_push, hz]) fun b o x => Heap.get?_push_of_some _ (Heap.get?_push_of_some _ x)⟩
/-- the tuple at a, each item in a new pair -/
def IteT (K : PySem.W.Frag) (a : Addr) : It :=
  ⟨fun i H => ∃ (xs : List V) (x : V), SqT K H a xs ∧ xs[i]? = some x, fun i H v H' => ∃ T x, v = .ref T ∧ H T = none ∧ H' = upd H T (.tup [.int (i : Nat), x]) ∧ ∀ xs, SqT K H a xs → xs[i]? = some x, fun i H => ∃ xs : List V, SqT K H a xs ∧ xs.length = i⟩
theorem turn_enumT {P : Program} {w : World} {K : PySem.W.Frag} {elts : List Expr} {kk : Nat} {tpos : Pos} (a e it : Addr) :
    Turn P w K (.Tuple elts kk tpos) (IteT K a) [e, it] e (fun i h => (∃ old, IsEnum h e it ((i : Nat) : Int) old) ∧ h.IsTupleIter it a i ∧ e ≠ it ∧ a ≠ it ∧ a ≠ e) where
  mem := by simp
  obj := fun i h st b hb => by
    obtain ⟨⟨old, he⟩, ⟨o, ho, hc, hd⟩, _⟩ := st
    have e' : b = e ∨ b = it := by simpa using hb
    rcases e' with z | z
    · rw [z]; exact ⟨_, he, fun v q => nomatch q⟩
    · rw [z]; exact ⟨o, ho, fun v q => by rw [hd] at q; cases q⟩
  keep := fun i h h' st k => let ⟨⟨old, he⟩, hi, hne⟩ := st; ⟨⟨old, k e (by simp) _ he⟩, hi.at fun o q => k it (by simp) o q, hne⟩
  item := by
    intro X hP hw hK hc i pins s σ H E I hf st hg
    subst hP hw hK
    obtain ⟨⟨old, he⟩, hit, hne, ha1, ha2⟩ := st
    obtain ⟨xs, x, hq, hx⟩ := hg
    obtain ⟨its, rv, p, hz⟩ := I.tuple hq
    obtain ⟨u, hu, ru⟩ := rv.get hx
    have hel : e < s.heap.objs.size := Heap.lt_size he
    have hil : it < s.heap.objs.size := by obtain ⟨_, q, _⟩ := hit; exact Heap.lt_size q
    have hlt : i < its.toArray.size := by simpa using (List.getElem?_eq_some_iff.mp hu).1
    refine wpAny_pyNext_enum_itemD (Draws.tuple (A := X.A.in1) (show X.A.in1.handled = none from I.ok.hd hc) it a ha1 its.toArray) he ⟨hit, p⟩ hlt hne (by simp; exact ⟨hne, Ne.symm ha2⟩) fun y h' tk hP ho hs' hT hsz hk => ?_
    obtain rfl : y = u := by
      have hP : its.toArray[i]? = some y := hP
      rw [show its.toArray[i]? = some u by simpa using hu] at hP
      exact (Option.some.inj hP).symm
    refine ⟨_, rfl, wpAny_letOwnedTupleGo_enum (s := { s with heap := h', toks := tk + 1 }) ho fun h'' he' sb => ?_⟩
    have hT2 : h''.get? s.heap.objs.size = some { cls := .type "tuple", data := .seq #[.int i tk, y] } := (sb.2 _ (Nat.ne_of_gt hel)).trans hT
    have new : ObjOk X.prog X.w (upd H s.heap.objs.size (.tup [.int (i : Nat), x])) h'' s.heap.objs.size (.tup [.int (i : Nat), x]) :=
      ⟨by show 2 ≤ sizeLine; decide, [.int i tk, y], .cons ⟨_, rfl⟩ (.cons ru .nil), ⟨_, hT2, rfl, _, rfl⟩⟩
    have I1 : Inv X pins σ (upd H s.heap.objs.size (.tup [.int (i : Nat), x])) { s with heap := h'', toks := tk + 1 } :=
      I.turnedNew (ch := [e, it]) (fun b ob hb q => (sb.2 b (fun z => hb (by simp [z]))).trans (hk b ob (fun z => hb (by simp [z])) (fun z => hb (by simp [z])) q)) hf (Nat.le_refl _) new
    refine ⟨.ref s.heap.objs.size, _, I1, rfl, ⟨_, x, rfl, I.hok.fresh (Nat.le_refl _), rfl, fun ys hy => by rw [I.tuple_inj hy hq]; exact hx⟩, ⟨⟨y, ?_⟩, hs'.1.at fun o q => (sb.2 it (Ne.symm hne)).trans q, hne, ha1, ha2⟩, fun b hb => ?_⟩
    · have e1 : ((i + 1 : Nat) : Int) = (i : Int) + 1 := by omega
      rw [e1]; exact he'
    · have hb' : b < s.heap.objs.size := by
        have e' : b = e ∨ b = it := by simpa using hb
        rcases e' with z | z
        · rw [z]; exact hel
        · rw [z]; exact hil
      rw [upd_ne (Nat.ne_of_lt hb')]
      exact (hf b hb).1
  done := by
    intro X hP hw hK hc i pins s σ H E I hf st hg
    subst hP hw hK
    obtain ⟨⟨old, he⟩, hit, hne, ha1, ha2⟩ := st
    obtain ⟨xs, hq, hx⟩ := hg
    obtain ⟨its, rv, p, hz⟩ := I.tuple hq
    obtain ⟨f0, f1, f2, f3, f4, f5⟩ := hf it (by simp)
    have hl := rv.length
    have hn : its.toArray.size = i := by simp; omega
    subst hn
    exact wpAny_pyNext_enum_endD (Draws.tuple (A := X.A.in1) (show X.A.in1.handled = none from I.ok.hd hc) it a ha1 its.toArray) he ⟨hit, p⟩ fun h' eb => ⟨rfl, I.turned (t' := s.toks) (fun b o hb q => eb b o hb q) f0 f1 f3 f4 f5⟩
  self := fun A i s Q E st h => let ⟨⟨_, he⟩, _⟩ := st; wpAny_pyIter_enum he h
def iEnumT (K : PySem.W.Frag) (ta : TA) : TI := fun σ H R => ta σ H fun vs H1 => ∃ a xs, vs = [.ref a] ∧ SqT K H1 a xs ∧ R (IteT K a) H1
theorem pi_enumT {X : Cx} {e : Expr} {ta : TA} {p pos tpos : Pos} {elts : List Expr} {kk : Nat} (hg : Gl X "enumerate") (hm : X.mg "enumerate" = none) (ha : PA X [e] ta) (hs : starEach [e] X.env = [(false, eval e X.env)] := by rfl) :
    PI X (.Tuple elts kk tpos) (.Call (.Name "enumerate" p) [e] [] pos) (iEnumT X.K ta) := by
  refine ⟨fun pins s σ H R I h => ?_⟩
  refine Call_ (ld_blt I hg hm boot_enumerate (PyProof.Rows.callWith_type1 (thn (ha.run pos pins s σ H _ I h) fun us s1 ⟨vs, H1, I1, r1, q1⟩ => ?_) hs rfl))
  obtain ⟨a, xs, ex, hq, q⟩ := q1
  subst ex
  cases r1 with
  | cons r rr =>
    cases rr
    cases r
    obtain ⟨its, rv, p', hz⟩ := I1.tuple hq
    have hal : a < s1.heap.objs.size := by obtain ⟨_, q, _⟩ := p'; exact Heap.lt_size q
    refine enum_begins1 (begins_tuple a its.toArray) p' fun h' he hit hsz hk => wpAny_pyIter_enum he ?_
    have I2 : Inv X pins σ H1 { s1 with heap := h' } := I1.kept (t' := s1.toks) hk
    refine ⟨s1.heap.objs.size + 1, [s1.heap.objs.size + 1, s1.heap.objs.size], _, _, H1, rfl, I2, turn_enumT a (s1.heap.objs.size + 1) s1.heap.objs.size, ⟨⟨.none, he⟩, ⟨_, hit, rfl, rfl⟩, Nat.succ_ne_self _, Nat.ne_of_lt hal, Nat.ne_of_lt (Nat.lt_succ_of_lt hal)⟩, fun b hb => ?_, q⟩
    have e' : b = s1.heap.objs.size + 1 ∨ b = s1.heap.objs.size := by simpa using hb
    have hle : s1.heap.objs.size ≤ b := by
      rcases e' with z | z
      · rw [z]; exact Nat.le_add_right _ _
      · rw [z]; exact Nat.le_refl _
    exact I1.fpOk hle (I1.hok.fresh hle)
theorem SqT.fun' {K : PySem.W.Frag} {H : Hp} {a : Addr} {xs : List V} (e : H a = some (.tup xs)) : SqT K H a xs := SqT.of e
theorem wd_enumT {κ : List (V × D)} {a : Addr} {ds : List D} {K : PySem.W.Frag} : WalkD ((.ref a, .tup ds) :: κ) (enumD ds) (IteT K a) where
  goes := fun i δ M σ H hi R => by
    cases R.top with
    | tup hn e r =>
      have hi : i < ds.length := by simpa [enumD] using hi
      obtain ⟨d, hd⟩ := lt_some hi
      obtain ⟨v, hv, _⟩ := r.get' hd
      exact ⟨_, v, SqT.of e, hv⟩
  stops := fun δ M σ H R => by
    cases R.top with
    | tup hn e r => exact ⟨_, SqT.of e, by rw [r.length]; simp [enumD]⟩
  yields := fun i δ M σ H x H' hi R y => by
    cases R.top with
    | tup hn e r =>
      have hi : i < ds.length := by simpa [enumD] using hi
      obtain ⟨T, v2, rfl, hT, rfl, e2⟩ := y
      obtain ⟨d, hd, rd⟩ := r.get (e2 _ (SqT.of e))
      refine ⟨.tup [.int (i : Nat), d], by simp [enumD, hi, (List.getElem?_eq_some_iff.mp hd).2], ?_⟩
      obtain ⟨R1, r1⟩ := R.tupV (p := T) (vs := [.int (i : Nat), v2]) (ds := [.int (i : Nat), d]) (.cons (.int _) (.cons rd .nil)) hT
      exact ⟨R1, r1⟩
section
variable {B : Bx} {X : Cx} {e a b c o : Expr} {es rest : List Expr} {st : Stmt} {sts : List Stmt} {δ δ' : Env'} {M : Mem} {Φ : D → Mem → Prop} {Ψ : DEnds} {te ta tb : TE} {tt : TT} {pos pos' apos : Pos} {d x y : D} {ΦB : Bool → Mem → Prop} {ΦL : List D → Mem → Prop}
theorem di_enumT {p tpos : Pos} {elts : List Expr} {kk : Nat} (g : Gn X "enumerate") (h : DE B X a δ M fun d M' => ∃ ds, d = .tup ds ∧ ΦL (enumD ds) M') (hs : starEach [a] X.env = [(false, eval a X.env)] := by rfl) : DI B X (.Tuple elts kk tpos) (.Call (.Name "enumerate" p) [a] [] pos) δ M ΦL :=
  ⟨_, pi_enumT g.gl g.no (pa_cons cE pa_nil hs) hs, fun κ σ H R hb Rr k => h κ σ H _ hb Rr fun v d M1 H1 ⟨ds, ed, q⟩ R1 r1 => by
    subst ed
    cases r1 with
    | tup hn e1 r1 => exact ⟨_, _, rfl, SqT.of e1, k _ M1 H1 _ _ q (fun q hq => List.mem_cons_of_mem _ hq) (R1.push (.tup hn e1 r1)) wd_enumT⟩⟩
/-! ### in, not in, of lists of texts or numbers -/
theorem reps_strs {F : List Addr} {H : Hp} : ∀ {vs : List V} {zs : List Str}, Reps F H vs (zs.map .str) → vs = zs.map .str
  | _, [], r => by cases r; rfl
  | _, z :: zs, r => by
    cases r with
    | cons r1 r2 => cases r1; rw [reps_strs r2]; rfl
theorem inV_strs (z : Str) : ∀ zs : List Str, inV (.str z) (zs.map .str) = decide (z ∈ zs)
  | [] => by simp [inV]
  | w :: zs => by
    have ih := inV_strs z zs
    unfold inV at ih ⊢
    rw [List.map_cons, List.any_cons, ih]
    show ((w == z) || _) = _
    by_cases h : w = z
    · subst h; simp
    · simp [h, Ne.symm h, beq_eq_false_iff_ne.mpr h]
theorem flat_strs : ∀ zs : List Str, (zs.map V.str).all flatV = true
  | [] => rfl
  | _ :: zs => flat_strs zs
theorem od_inZ {K : PySem.W.Frag} {z : Str} {zs : List Str} (h : IsL M y (zs.map .str)) (k : Φ (.bl (decide (z ∈ zs))) M) : OpD (rInU K) (.str z) y M Φ := .inr fun κ δ σ H v w Q R rv rw' f => by
  cases rv
  obtain ⟨p, us, rfl, e1, rr⟩ := h.sq R rw'
  have := reps_strs rr
  subst this
  refine ⟨p, _, rfl, .inl (SqL.of e1), rfl, flat_strs zs, ?_⟩
  show Q (.bl (inV _ _)) H
  rw [inV_strs]
  exact f _ _ M H k R (.bl _)
theorem od_notinZ {K : PySem.W.Frag} {z : Str} {zs : List Str} (h : IsL M y (zs.map .str)) (k : Φ (.bl (!decide (z ∈ zs))) M) : OpD (rNotInU K) (.str z) y M Φ := .inr fun κ δ σ H v w Q R rv rw' f => by
  cases rv
  obtain ⟨p, us, rfl, e1, rr⟩ := h.sq R rw'
  have := reps_strs rr
  subst this
  refine ⟨p, _, rfl, .inl (SqL.of e1), rfl, flat_strs zs, ?_⟩
  show Q (.bl (!inV _ _)) H
  rw [inV_strs]
  exact f _ _ M H k R (.bl _)
/-! ### slices -/
def DPt (B : Bx) (X : Cx) : Option Expr → Env' → Mem → (Option Int → Mem → Prop) → Prop
  | none, _, M, Φ => Φ none M
  | some e, δ, M, Φ => DE B X e δ M fun d M' => ∃ i, d = .int i ∧ Φ (some i) M'
def cutD {α : Type} (xs : List α) (lo hi : Option Int) : List α := (xs.drop (HT.sIx xs.length 0 lo)).take (HT.sIx xs.length xs.length hi - HT.sIx xs.length 0 lo)
def SlD (x : D) (lo hi : Option Int) (M : Mem) (Φ : D → Mem → Prop) : Prop := (∃ z : Str, x = .str z ∧ z.length ≤ sizeLine ∧ Φ (.str (cutS z lo hi)) M) ∨ (∃ ds, IsL M x ds ∧ Φ (.lst (cutD ds lo hi)) M)
def rSlU (K : PySem.W.Frag) : V → Option Int → Option Int → Hp → VK → Prop := fun x lo hi H Q => rSlS x lo hi H Q ∨ rSlL K x lo hi H Q
theorem sl_U : SlR X (rSlU X.K) := sl_str.or sl_list
def tPt (X : Cx) : Option Expr → TO
  | none => tNoPart
  | some e => tPart (tE X e)
theorem po_pt : ∀ {e : Option Expr}, PO X e (tPt X e)
  | none => po_none
  | some e => po_some cE
theorem DPt.run {e : Option Expr} {Φ : Option Int → Mem → Prop} (h : DPt B X e δ M Φ) {κ : List (V × D)} {σ : St} {H : Hp} {Q : Option Int → Hp → Prop} (hb : ∀ q ∈ B.ps, q ∈ κ) (R : Rs κ δ M σ H) (k : ∀ o M' H', Φ o M' → Rs κ δ M' σ H' → Q o H') : tPt X e σ H Q := by
  cases e with
  | none => exact k none M H h R
  | some e =>
    refine h κ σ H _ hb R fun v d M' H' ⟨i, ed, q⟩ R' r' => ?_
    subst ed
    cases r'
    exact ⟨i, rfl, k _ _ _ q R'⟩
theorem Reps.cut {F : List Addr} {H : Hp} {vs : List V} {ds : List D} (r : Reps F H vs ds) (i : Nat) : Reps F H (vs.take i) (ds.take i) ∧ Reps F H (vs.drop i) (ds.drop i) := by
  induction i generalizing vs ds with
  | zero => exact ⟨by rw [List.take_zero, List.take_zero]; exact .nil, r⟩
  | succ i ih =>
    cases r with
    | nil => exact ⟨.nil, .nil⟩
    | cons r1 r2 => exact ⟨.cons r1 (ih r2).1, (ih r2).2⟩
theorem de_slice {lo hi : Option Expr} {p2 : Pos} (h : DE B X a δ M fun x M1 => DPt B X lo δ M1 fun l M2 => DPt B X hi δ M2 fun u M3 => SlD x l u M3 Φ) : DE B X (.Subscript a (.Slice lo hi none p2) pos) δ M Φ :=
  .of (pe_slice sl_U cE po_pt po_pt) fun κ σ H Q hb R k => h κ σ H _ hb R fun v x M1 H1 q1 R1 r1 =>
    q1.run (κ := (v, x) :: κ) (fun q hq => List.mem_cons_of_mem _ (hb q hq)) (R1.push r1) fun l M2 H2 q2 R2 =>
    q2.run (κ := (v, x) :: κ) (fun q hq => List.mem_cons_of_mem _ (hb q hq)) R2 fun u M3 H3 q3 R3 => by
      have rx := R3.top
      rcases q3 with ⟨z, rfl, hz, q⟩ | ⟨ds, il, q⟩
      · cases rx
        exact .inl ⟨z, rfl, hz, k _ _ _ _ q R3.pop (.str _)⟩
      · obtain ⟨p, us, rfl, e1, rr⟩ := il.sq R3.pop rx
        refine .inr ⟨p, us, rfl, SqL.of e1, fun p hp => ?_⟩
        have hc : Reps M3.F H3 (cutV us l u) (cutD ds l u) := by
          unfold cutV cutD
          rw [rr.length]
          exact (((Reps.cut rr _).2).cut _).1
        obtain ⟨R', r'⟩ := R3.pop.lstV hc hp
        exact k _ _ _ _ q R' r'
theorem SlD.str {z : Str} {l u : Option Int} (hz : z.length ≤ sizeLine) (k : Φ (.str (cutS z l u)) M) : SlD (.str z) l u M Φ := .inl ⟨z, rfl, hz, k⟩
theorem SlD.lst {ds : List D} {l u : Option Int} (h : IsL M x ds) (k : Φ (.lst (cutD ds l u)) M) : SlD x l u M Φ := .inr ⟨ds, h, k⟩
theorem DPt.no {Φ : Option Int → Mem → Prop} (k : Φ none M) : DPt B X none δ M Φ := k
theorem DPt.so {Φ : Option Int → Mem → Prop} (k : DE B X e δ M fun d M' => ∃ i, d = .int i ∧ Φ (some i) M') : DPt B X (some e) δ M Φ := k
theorem cut_to {α : Type} {xs : List α} {i : Int} (h : 0 ≤ i) : cutD xs none (some i) = xs.take i.toNat := by
  unfold cutD
  show (xs.drop 0).take ((if i < 0 then _ else min i.toNat xs.length) - 0) = _
  rw [if_neg (by omega), List.drop_zero, Nat.sub_zero]
  by_cases hl : i.toNat ≤ xs.length
  · rw [Nat.min_eq_left hl]
  · rw [Nat.min_eq_right (by omega), List.take_length, List.take_of_length_le (by omega)]
theorem cut_from {α : Type} {xs : List α} {i : Int} (h : 0 ≤ i) : cutD xs (some i) none = xs.drop i.toNat := by
  unfold cutD
  show (xs.drop (if i < 0 then _ else min i.toNat xs.length)).take (xs.length - (if i < 0 then _ else min i.toNat xs.length)) = _
  rw [if_neg (by omega)]
  by_cases hl : i.toNat ≤ xs.length
  · rw [Nat.min_eq_left hl]
    exact List.take_of_length_le (by simp)
  · rw [Nat.min_eq_right (by omega), List.drop_of_length_le (by omega), List.drop_of_length_le (by omega), List.take_nil]
theorem cutS_len (z : Str) (l u : Option Int) : (cutS z l u).length ≤ z.length := by
  show (((z.cps.toList.drop _).take _).toArray).size ≤ _
  rw [List.size_toArray, List.length_take, List.length_drop]
  show _ ≤ z.cps.size
  rw [← Array.length_toList]
  omega
/-! ### tuple(list) -/
theorem de_tuple {p : Pos} (g : Gn X "tuple") (h : DE B X a δ M fun x M1 => ∃ ds, IsL M1 x ds ∧ Φ (.tup ds) M1) (he : starEach [a] X.env = (false, eval a X.env) :: starEach [] X.env := by rfl) : DE B X (.Call (.Name "tuple" p) [a] [] pos) δ M Φ :=
  .of (pe_tupleOf g.gl g.no cE he) fun κ σ H Q hb R k => h κ σ H _ hb R fun v x M1 H1 ⟨ds, il, q⟩ R1 r1 => by
    obtain ⟨a, us, rfl, e1, rr⟩ := il.sq R1 r1
    refine .inl ⟨a, us, rfl, SqL.of e1, fun q' hq => ?_⟩
    obtain ⟨R', r'⟩ := R1.tupV rr hq
    exact k _ _ _ _ q R' r'
end
end Hl
namespace Hl
open PySem L2
open PyProof.Rows hiding St
/-! ### max(xs, default=d), min(xs), all(xs), sorted triples -/
def rMaxDef (K : PySem.W.Frag) : List V → List V → Hp → VK → Prop := fun vs zs H Q => ∃ (a : Addr) (ns : List Int) (d : Int), vs = [V.ref a] ∧ zs = [.int d] ∧ SqL K H a (ns.map V.int) ∧ (ns = [] → Q (.int d) H) ∧ ∀ m, m ∈ ns → (∀ y, y ∈ ns → y ≤ m) → Q (.int m) H
theorem foldmax (n : Int) (ns : List Int) : ns.foldl max n ∈ n :: ns ∧ ∀ y, y ∈ n :: ns → y ≤ ns.foldl max n := by
  induction ns generalizing n with
  | nil => exact ⟨List.mem_cons_self, fun y hy => by have : y = n := by simpa using hy
                                                     subst this; exact Int.le_refl _⟩
  | cons k ns ih =>
    obtain ⟨h1, h2⟩ := ih (max n k)
    rw [List.foldl_cons]
    refine ⟨?_, fun y hy => ?_⟩
    · rcases List.mem_cons.mp h1 with e | e
      · rw [e]
        rcases Int.le_total n k with q | q
        · rw [Int.max_eq_right q]; simp
        · rw [Int.max_eq_left q]; simp
      · exact List.mem_cons_of_mem _ (List.mem_cons_of_mem _ e)
    · have hm := h2 (max n k) List.mem_cons_self
      rcases List.mem_cons.mp hy with e | e
      · subst e; omega
      · rcases List.mem_cons.mp e with e | e
        · subst e; omega
        · exact h2 y (List.mem_cons_of_mem _ e)
theorem cr_maxDef {X : Cx} (hc : X.calm = true) (hu : X.A.units + 64 < cLine) : CallRK X (.builtin "max") [Str.ofString "default"] (rMaxDef X.K) := by
  intro pins s σ H vs zs us ws Q I r rz h
  obtain ⟨a, ns, d, rfl, rfl, hs, q0, q⟩ := h
  obtain ⟨its, rv, hl, _⟩ := I.list hs
  rw [Vals.ref1 r]
  cases rz with
  | cons r1 r2 =>
    cases r2
    obtain ⟨t, rfl⟩ := r1
    have hi := rv.ints
    have hr : ReadsAll s.heap its.toArray.toList (ns.map PyData.int) [] := by simpa using PySem.W.readsAll_of_ints hi
    have hd : PyData.depthAll (ns.map PyData.int) = 0 := by
      have : ∀ ns : List Int, PyData.depthAll (ns.map PyData.int) = 0 := fun ns => by
       induction ns with
       | nil => rfl
       | cons n ns ih => show max 0 _ = 0; rw [ih]; rfl
      exact this ns
    refine PySem.W.max_list_default (xs := ns.map PyData.int) (I.ok.hd hc) hl.isList hr ⟨fun x hx y hy => ?_, fun x hx => ?_⟩ (by rw [hd]; omega) (fun e h' tk hk => ?_) fun y ys i v h' tk bs e hv hrd hk => ?_
    · obtain ⟨n, _, rfl⟩ := List.mem_map.mp hx
      obtain ⟨m, _, rfl⟩ := List.mem_map.mp hy
      rfl
    · obtain ⟨n, _, rfl⟩ := List.mem_map.mp hx
      exact fun e => nomatch e
    · exact ⟨.int d, H, I.kept hk, ⟨_, rfl⟩, q0 (List.map_eq_nil_iff.mp e)⟩
    · cases ns with
      | nil => cases e
      | cons n ns =>
        rw [List.map_cons] at e
        cases e
        rw [PySem.W.maxD_ints] at hrd
        obtain ⟨h1, h2⟩ := foldmax n ns
        cases hrd
        exact ⟨.int _, H, I.kept hk, ⟨_, rfl⟩, q _ h1 h2⟩
section
variable {B : Bx} {X : Cx} {e a b c o : Expr} {es rest : List Expr} {st : Stmt} {sts : List Stmt} {δ δ' : Env'} {M : Mem} {Φ : D → Mem → Prop} {Ψ : DEnds} {te ta tb : TE} {tt : TT} {pos pos' apos kpos : Pos} {d x y : D} {ΦB : Bool → Mem → Prop} {ΦL : List D → Mem → Prop}
theorem de_maxDef {p : Pos} {n : Nat} {kws : List Keyword} (z : Cz X n) (g : Gn X "max") (h : DE B X a δ M fun x M1 => DK B X kws δ M1 fun ds M2 => ∃ ns d, IsL M2 x (ns.map .int) ∧ ds = [.int d] ∧ (ns = [] → Φ (.int d) M2) ∧ ∀ m, m ∈ ns → (∀ y, y ∈ ns → y ≤ m) → Φ (.int m) M2)
    (hu : X.A.units + 64 < cLine) (he : starEach [a] X.env = (false, eval a X.env) :: starEach [] X.env := by rfl) (he2 : backTo pos (starEach [a] X.env) = (false, eval a X.env) :: backTo pos (starEach [] X.env) := by rfl) (hpl : (backTo pos (starEach [a] X.env)).any (·.1) = false := by rfl)
    (hall : (backToKw pos (keywordEach kws X.env)).all (·.1.isSome) = true := by rfl) (hnone : (backToKw pos (keywordEach kws X.env)).any (·.1.isNone) = false := by rfl) (hks : (backToKw pos (keywordEach kws X.env)).filterMap (·.1) = [Str.ofString "default"] := by rfl) : DE B X (.Call (.Name "max" p) [a] kws pos) δ M Φ :=
  .of (pe_callBK (cr_maxDef z.calm hu) g.gl g.no boot_max (pa_cons cE pa_nil he) cK (by decide) (by decide) he2 hpl hall hnone hks) fun κ σ H Q hb R k => h κ σ H _ hb R fun v x M1 H1 q1 R1 r1 =>
    q1 ((v, x) :: κ) σ H1 _ (fun q hq => List.mem_cons_of_mem _ (hb q hq)) (R1.push r1) fun ws ds M2 H2 ⟨ns, d, il, ed, k0, k1⟩ R2 r2 => by
      subst ed
      obtain ⟨a, us, rfl, e1, rr⟩ := il.sq R2.pop R2.top
      have := rr.ints
      subst this
      cases r2 with
      | cons r2 r3 =>
        cases r3
        cases r2
        exact ⟨a, ns, d, rfl, rfl, SqL.of e1, fun e => k _ _ _ _ (k0 e) R2.pop (.int _), fun m h1 h2 => k _ _ _ _ (k1 m h1 h2) R2.pop (.int _)⟩
theorem de_minL {n : Nat} (z : Cz X n) {p : Pos} (g : Gn X "min") (h : DA B X [a] δ M fun ds M1 => CallD (rMin X.K) ds M1 Φ) (he : starEach [a] X.env = (false, eval a X.env) :: starEach [] X.env := by rfl) (hpl : (backTo pos (starEach [] X.env)).any (·.1) = false := by rfl) : DE B X (.Call (.Name "min" p) [a] [] pos) δ M Φ := de_blt (cr_min z.calm) g boot_min h (by decide) (by decide) he hpl
theorem de_maxL {n : Nat} (z : Cz X n) {p : Pos} (g : Gn X "max") (h : DA B X [a] δ M fun ds M1 => CallD (rMax X.K) ds M1 Φ) (he : starEach [a] X.env = (false, eval a X.env) :: starEach [] X.env := by rfl) (hpl : (backTo pos (starEach [] X.env)).any (·.1) = false := by rfl) : DE B X (.Call (.Name "max" p) [a] [] pos) δ M Φ := de_blt (cr_max z.calm) g boot_max h (by decide) (by decide) he hpl
theorem cd_minL {K : PySem.W.Frag} {ns : List Int} (h : IsL M x (ns.map .int)) (hne : ns ≠ []) (k : ∀ m, m ∈ ns → (∀ y, y ∈ ns → m ≤ y) → Φ (.int m) M) : CallD (rMin K) [x] M Φ := fun κ δ σ H vs Q R rs f => by
  cases rs with
  | cons r1 r2 =>
    cases r2
    obtain ⟨a, us, rfl, e1, rr⟩ := h.sq R r1
    have := rr.ints
    subst this
    exact ⟨a, ns, rfl, SqL.of e1, List.length_pos_iff.mpr hne, fun m h1 h2 => f _ _ _ _ (k m h1 h2) R (.int _)⟩
theorem cd_maxL {K : PySem.W.Frag} {ns : List Int} (h : IsL M x (ns.map .int)) (hne : ns ≠ []) (k : ∀ m, m ∈ ns → (∀ y, y ∈ ns → y ≤ m) → Φ (.int m) M) : CallD (rMax K) [x] M Φ := fun κ δ σ H vs Q R rs f => by
  cases rs with
  | cons r1 r2 =>
    cases r2
    obtain ⟨a, us, rfl, e1, rr⟩ := h.sq R r1
    have := rr.ints
    subst this
    exact ⟨a, ns, rfl, SqL.of e1, List.length_pos_iff.mpr hne, fun m h1 h2 => f _ _ _ _ (k m h1 h2) R (.int _)⟩
theorem reps_bls {F : List Addr} {H : Hp} : ∀ {vs : List V} {zs : List Bool}, Reps F H vs (zs.map .bl) → vs = zs.map .bl
  | _, [], r => by cases r; rfl
  | _, z :: zs, r => by
    cases r with
    | cons r1 r2 => cases r1; rw [reps_bls r2]; rfl
theorem de_all {n : Nat} (z : Cz X n) {p : Pos} (g : Gn X "all") (h : DA B X [a] δ M fun ds M1 => CallD (rAll X.K) ds M1 Φ) (he : starEach [a] X.env = (false, eval a X.env) :: starEach [] X.env := by rfl) (hpl : (backTo pos (starEach [] X.env)).any (·.1) = false := by rfl) : DE B X (.Call (.Name "all" p) [a] [] pos) δ M Φ := de_blt (cr_all z.calm) g boot_all h (by decide) (by decide) he hpl
theorem cd_all {K : PySem.W.Frag} {bs : List Bool} (h : IsL M x (bs.map .bl)) (k : Φ (.bl (bs.all id)) M) : CallD (rAll K) [x] M Φ := fun κ δ σ H vs Q R rs f => by
  cases rs with
  | cons r1 r2 =>
    cases r2
    obtain ⟨a, us, rfl, e1, rr⟩ := h.sq R r1
    have := reps_bls rr
    subst this
    exact ⟨a, bs, rfl, SqL.of e1, f _ _ _ _ k R (.bl _)⟩
/-- in the order of triples -/
def LeT (a b : Int × Int × Int) : Prop := a.1 < b.1 ∨ (a.1 = b.1 ∧ (a.2.1 < b.2.1 ∨ (a.2.1 = b.2.1 ∧ a.2.2 ≤ b.2.2)))
def tAt (H : Hp) (v : V) : Int × Int × Int := match v with
  | .ref t => match H t with
    | some (.tup [.int i, .int j, .int k]) => (i, j, k)
    | _ => (0, 0, 0)
  | _ => (0, 0, 0)
theorem tAt_is {F : List Addr} {H : Hp} {v : V} {q : Int × Int × Int} (r : Rep F H v (tD q)) : tAt H v = q ∧ ∃ t, v = .ref t ∧ H t = some (.tup [.int q.1, .int q.2.1, .int q.2.2]) := by
  cases r with
  | tup hn e rs =>
    cases rs with
    | cons r1 rs =>
      cases rs with
      | cons r2 rs =>
        cases rs with
        | cons r3 rs =>
          cases r1; cases r2; cases r3; cases rs
          rename_i t
          refine ⟨?_, t, rfl, e⟩
          unfold tAt
          dsimp only
          rw [e]
theorem reps_triples {F : List Addr} {H : Hp} : ∀ {vs : List V} {ps : List (Int × Int × Int)}, Reps F H vs (ps.map tD) → vs.map (tAt H) = ps ∧ ∀ v ∈ vs, Rep F H v (tD (tAt H v))
  | _, [], .nil => ⟨rfl, by simp⟩
  | _, p :: ps, .cons r rs => by
    obtain ⟨e1, _⟩ := tAt_is r
    obtain ⟨e2, h2⟩ := reps_triples rs
    refine ⟨by rw [List.map_cons, e1, e2], fun v hv => ?_⟩
    rcases List.mem_cons.mp hv with rfl | hv
    · rw [e1]; exact r
    · exact h2 v hv
theorem code3 (B x y w : Int) : TS.code B [x, y, w] = x * (B * B) + (y * B + w) := by
  show x * B ^ 2 + (y * B ^ 1 + (w * B ^ 0 + 0)) = _
  rw [Int.pow_succ, Int.pow_succ, Int.pow_zero, Int.one_mul, Int.mul_one, Int.add_zero]
theorem code_lex {B : Int} {p q : Int × Int × Int} (hp : TS.Bd B [p.1, p.2.1, p.2.2]) (hq : TS.Bd B [q.1, q.2.1, q.2.2]) (h : TS.code B [p.1, p.2.1, p.2.2] ≤ TS.code B [q.1, q.2.1, q.2.2]) : LeT p q := by
  rw [code3, code3] at h
  have b1 := hp p.2.1 (by simp)
  have b2 := hp p.2.2 (by simp)
  have b3 := hq q.2.1 (by simp)
  have b4 := hq q.2.2 (by simp)
  have key : ∀ {a a' r r' B : Int}, 0 < B → 0 ≤ r → r' < B → a * B + r ≤ a' * B + r' → a ≤ a' := by
    intro a a' r r' B hB h0 h1 h2
    rcases Int.lt_or_le a' a with g | g
    · have : (a' + 1) * B ≤ a * B := Int.mul_le_mul_of_nonneg_right (by omega) (by omega)
      rw [Int.add_mul, Int.one_mul] at this
      omega
    · exact g
  have hB : 0 < B := by omega
  have hBB : 0 < B * B := Int.mul_pos hB hB
  have lo : ∀ {y w : Int}, 0 ≤ y → 0 ≤ w → 0 ≤ y * B + w := fun h1 h2 => by
    have := Int.mul_nonneg h1 (Int.le_of_lt hB)
    omega
  have hi : ∀ {y w : Int}, y < B → w < B → y * B + w < B * B := fun {y w} h1 h2 => by
    have : (y + 1) * B ≤ B * B := Int.mul_le_mul_of_nonneg_right (by omega) (by omega)
    rw [Int.add_mul, Int.one_mul] at this
    omega
  have h1 := key hBB (lo b1.1 b2.1) (hi b3.2 b4.2) h
  unfold LeT
  rcases Int.lt_or_eq_of_le h1 with g | g
  · exact .inl g
  · refine .inr ⟨g, ?_⟩
    rw [g] at h
    have h2 := key hB b2.1 b4.2 (Int.le_of_add_le_add_left h)
    rcases Int.lt_or_eq_of_le h2 with g2 | g2
    · exact .inl g2
    · refine .inr ⟨g2, ?_⟩
      rw [g2] at h
      omega
theorem de_sortedT {p : Pos} (Bd : Int) (g : Gn X "sorted") (h : DA B X [a] δ M fun ds M1 => CallD (rSortU X.K 3 Bd) ds M1 Φ) (he : starEach [a] X.env = (false, eval a X.env) :: starEach [] X.env := by rfl) (hpl : (backTo pos (starEach [] X.env)).any (·.1) = false := by rfl) : DE B X (.Call (.Name "sorted" p) [a] [] pos) δ M Φ := de_sorted (cr_sortT (by decide)) g h he hpl
theorem cd_sortedT {K : PySem.W.Frag} {Bd : Int} {ps : List (Int × Int × Int)} (h : IsL M x (ps.map tD)) (hb : ∀ p ∈ ps, TS.Bd Bd [p.1, p.2.1, p.2.2]) (h64 : ps.length < 64) (k : ∀ qs : List (Int × Int × Int), qs.Perm ps → qs.Pairwise LeT → Φ (.lst (qs.map tD)) M) : CallD (rSortU K 3 Bd) [x] M Φ := fun κ δ σ H vs Q R rs f => by
  cases rs with
  | cons r1 r2 =>
    cases r2
    obtain ⟨a, us, rfl, e1, rr⟩ := h.sq R r1
    obtain ⟨e2, h2⟩ := reps_triples rr
    have hmem : ∀ v ∈ us, tAt H v ∈ ps := fun v hv => by rw [← e2]; exact List.mem_map.mpr ⟨v, hv, rfl⟩
    have hT : ∀ v ∈ us, TupI K H v [(tAt H v).1, (tAt H v).2.1, (tAt H v).2.2] := fun v hv => by
      obtain ⟨_, t, rfl, et⟩ := tAt_is (h2 v hv)
      exact ⟨t, rfl, SqT.of et⟩
    refine ⟨a, us, rfl, SqL.of e1, by rw [rr.length, List.length_map]; exact h64, fun v hv => ⟨_, hT v hv, rfl, hb _ (hmem v hv)⟩, fun ys p hperm hpw hp => ?_⟩
    have hin : ∀ v ∈ ys, v ∈ us := fun v hv => hperm.mem_iff.mp hv
    have hrep : Reps M.F H ys ((ys.map (tAt H)).map tD) := by
      rw [List.map_map]
      exact reps_of fun v hv => h2 v (hin v hv)
    obtain ⟨R', r'⟩ := R.lstV hrep hp
    refine f _ _ _ _ (k (ys.map (tAt H)) (by rw [← e2]; exact hperm.map _) ?_) R' r'
    rw [List.pairwise_map]
    exact List.Pairwise.imp_of_mem (fun {u v} hu hv huv => code_lex (hb _ (hmem u (hin u hu))) (hb _ (hmem v (hin v hv))) (huv _ _ (hT u (hin u hu)) (hT v (hin v hv)))) hpw
end
end Hl
namespace Hl
open PySem PySem.Spec L2
open PyProof.Rows hiding St
/-! ### sorted(set(xs)), xs a list of ints -/
abbrev emptySet (w : World) : Obj := { cls := .type "set", dict := none, data := .set #[] 0 (.fresh 0 0 (!w.params.followText "set-order")) }
section
variable {P : Program} {w : World} {A : Around} {E : Value → Shared → Prop} {s : Shared}
theorem call_set_listI {l : Addr} {items : Array Value} (ns : List Int) {Q : Value → Shared → Prop} (hh : A.handled = none) (hl : s.heap.IsList l items) (hit : IntsAre items.toList ns) (hb : ns.length + 1 < scanBound)
    (h : ∀ (h' : Heap) (tk c : Nat), SetR w h' s.heap.objs.size (fun j => decide (j ∈ ns)) c → c ≤ ns.length → (∀ b o, s.heap.get? b = some o → h'.get? b = some o) → Q (.ref s.heap.objs.size) { s with heap := h', toks := tk }) :
    wpAny (model P w) A (call (.type "set") [.ref l]) Q E s := by
  have hn : items.size = ns.length := by have := IntsAre.length hit; rwa [Array.length_toList] at this
  obtain ⟨c, tl, hmro⟩ := F.called_set.mro
  have hmade := F.called_set.made
  have hsub := F.called_set.sub
  refine wpAny_call (codeAny_of_tree ?_)
  show wpAny _ _ (callAny (.type "set") _) _ _ _
  refine wpAny_pure ⟨Code.quiet_builtin _ (by decide +kernel), codeAny_builtin F.entry_type_call ?_⟩
  rw [Around.under_plain (weight_type_call_type "set" [.ref l] []) rfl]
  have h1 := F.called_set.notType
  have h2 := F.called_set.canCreate
  have hct := F.typeCall_set_1 (.ref l)
  repeat (any_goals (first | assumption | wp_step))
  refine codeAny_mono (code_set_led1 (.ref l) (E := E) (Q₁ := fun obj s₁ => obj = .ref s.heap.objs.size ∧ s₁ = { s with heap := s.heap.push (emptySet w) }) ⟨rfl, rfl⟩) fun r s₁ hr => ?_
  cases r with
  | error e => exact hr
  | ok fl =>
    cases fl with
    | ret obj =>
      obtain ⟨rfl, rfl⟩ := hr
      have hS : (s.heap.push (emptySet w)).get? s.heap.objs.size = some (emptySet w) := Heap.get?_push_size _ rfl
      have hT : Shared.TypeIs { s with heap := s.heap.push (emptySet w) } (.ref s.heap.objs.size) "set" := ⟨_, hS, rfl⟩
      have hli := F.called_set.init.lookup
      have hbi := F.called_set.init.bind (.ref s.heap.objs.size)
      repeat (any_goals (first | assumption | wp_step))
      refine codeAny_mono (codeAny_call_builtin (R := wants (fun r s₂ => r = .none ∧ ∃ h' tk c, s₂ = { s with heap := h', toks := tk } ∧ SetR w h' s.heap.objs.size (fun j => decide (j ∈ ns)) c ∧ c ≤ ns.length ∧
          (∀ b o, s.heap.get? b = some o → h'.get? b = some o)) E) F.called_set.init.plain F.entry_set_init (check_set_init_1 hT ?_)) fun r₂ s₂ hr₂ => ?_
      · obtain ⟨⟨ocls, odict, odata, oslots⟩, hol, hcl, nl, hdl⟩ := hl
        simp only at hcl hdl
        subst hcl; subst hdl
        have hol' : (s.heap.push (emptySet w)).get? l = some { cls := .type "list", dict := odict, data := .seq items nl, slots := oslots } := Heap.get?_push_of_some _ hol
        have hsls := F.sub_list_set
        have hslf := F.sub_list_frozenset
        have hne : (Value.type "list" == Value.type "dict") = false := by decide
        have hl1 : (s.heap.push (emptySet w)).IsList l items := ⟨_, hol', rfl, nl, rfl⟩
        unfold Builtin.«set.__init__» noKeywords Builtin.Frozenset.updateFrom
        generalize hPI : pyIter = PI
        wp_walk
        subst hPI
        refine wpAny_pyIter_list hl1 (wpAny_bind (wpAny_runValue ?_))
        have hlS : l < s.heap.objs.size := Heap.lt_size hol
        have hh3 : A.in1.in1.in1.handled = none := by simp [hh]
        have hneI : l ≠ (s.heap.push (emptySet w)).objs.size := by rw [Heap.size_push]; exact Nat.ne_of_lt (Nat.lt_succ_of_lt hlS)
        have hSf : s.heap.objs.size ∉ [(s.heap.push (emptySet w)).objs.size, l] := by
          rw [Heap.size_push]
          simp only [List.mem_cons, List.not_mem_nil, or_false, not_or]
          exact ⟨Nat.ne_of_lt (Nat.lt_succ_self _), Nat.ne_of_gt hlS⟩
        have hval : ∀ (i : Nat) (v : Value), items[i]? = some v → ∃ k t, ns[i]? = some k ∧ v = .int k t := fun i v hv => by
          have hi : i < ns.length := by rw [← hn]; exact (Array.getElem?_eq_some_iff.mp hv).1
          obtain ⟨t, e⟩ := IntsAre.int_at hit i v (by rw [Array.getElem?_toList]; exact hv)
          refine ⟨ns[i], t, List.getElem?_eq_getElem hi, ?_⟩
          rw [e, List.getD_eq_getElem?_getD, List.getElem?_eq_getElem hi]; rfl
        refine set_update_ints ((Walks.list hh3 _ l hneI items).toS) s.heap.objs.size hSf ns hn hb hval (items.size - 0) 0 _ (by omega) (Nat.zero_le _)
          ⟨⟨_, Heap.get?_push_size _ rfl, rfl, rfl⟩, hl1.push _⟩ ⟨0, Nat.le_refl 0, setR_new_at (Heap.get?_push_of_some _ hS)⟩ fun s' c' hm hc' hS' => ?_
        obtain ⟨h', g2, d', tk', os'⟩ := s'
        have eg : g2 = s.gens := hm.gens
        have ed : d' = s.drawn := hm.drawn
        have eo : os' = s.os := hm.os
        subst eg; subst ed; subst eo
        show wpAny _ _ _ _ _ _
        refine wpAny_pure ?_
        show wpAny _ _ (ret Value.none) _ _ _
        rw [hn] at hc'
        refine wpAny_pure ⟨rfl, h', tk', c', rfl, hS', hc', fun b o e => ?_⟩
        have hb0 : b < s.heap.objs.size := Heap.lt_size e
        refine hm.heap b o ?_ (Heap.get?_push_of_some _ (Heap.get?_push_of_some _ e))
        rw [Heap.size_push]
        simp only [List.mem_cons, List.not_mem_nil, or_false, not_or]
        exact ⟨Nat.ne_of_lt hb0, Nat.ne_of_lt (Nat.lt_succ_of_lt hb0)⟩
      · cases r₂ with
        | error e => exact hr₂
        | ok fl₂ =>
          cases fl₂ with
          | ret r =>
            obtain ⟨rfl, h', tk, c', rfl, hS', hc', hk'⟩ := hr₂
            repeat (any_goals (first | assumption | wp_step))
            exact h _ _ _ hS' hc' hk'
          | _ => exact hr₂.elim
    | _ => exact hr.elim
end
def rSetL (K : PySem.W.Frag) (w : World) : List V → Hp → VK → Prop := fun xs H Q => ∃ (l : Addr) (ns : List Int), xs = [V.ref l] ∧ SqL K H l (ns.map V.int) ∧ ns.length ≤ 1000 ∧ ∀ p c, H p = none → c ≤ ns.length → Q (.ref p) (upd H p (SetO w p (fun j => decide (j ∈ ns)) c))
theorem cr_setL {X : Cx} (hc : X.calm = true) : CallR X (.type "set") (rSetL X.K X.w) := by
  intro pins s σ H vs us Q I r h
  obtain ⟨a, ns, rfl, hs, hl, q⟩ := h
  obtain ⟨its, rv, pl, _⟩ := I.list hs
  rw [Vals.ref1 r]
  refine call_set_listI ns (I.ok.hd hc) pl.isList (by simpa using rv.ints) (by unfold scanBound; omega) fun h' tk c R hcn hk => ?_
  exact ⟨.ref _, upd H s.heap.objs.size (SetO X.w s.heap.objs.size (fun j => decide (j ∈ ns)) c), I.laid (t' := tk) hk (Nat.le_refl _) (setO_new R), rfl, q _ c (I.hok.fresh (Nat.le_refl _)) hcn⟩
section
variable {B : Bx} {X : Cx} {e a b c o : Expr} {es rest : List Expr} {δ δ' : Env'} {M : Mem} {Φ : D → Mem → Prop} {pos pos' pos2 p2 : Pos} {d x y : D} {ΦL : List D → Mem → Prop}
/-- sorted(set(xs)), xs a list of ints -/
theorem de_sortedSet {p : Pos} {n : Nat} (z : Cz X n) (g : Gn X "sorted") (g2 : Gn X "set") (h : DE B X a δ M fun x M1 => ∃ ns : List Int, IsL M1 x (ns.map .int) ∧ ns.length < 64 ∧ ∀ ms : List Int, ms.Pairwise (· < ·) → (∀ k, k ∈ ms ↔ k ∈ ns) → Φ (.lst (ms.map .int)) M1)
    (he : starEach [a] X.env = (false, eval a X.env) :: starEach [] X.env := by rfl) (hpl : (backTo pos2 (starEach [] X.env)).any (·.1) = false := by rfl)
    (he2 : starEach [.Call (.Name "set" p2) [a] [] pos2] X.env = (false, eval (.Call (.Name "set" p2) [a] [] pos2) X.env) :: starEach [] X.env := by rfl) (hpl2 : (backTo pos (starEach [] X.env)).any (·.1) = false := by rfl) :
    DE B X (.Call (.Name "sorted" p) [.Call (.Name "set" p2) [a] [] pos2] [] pos) δ M Φ :=
  .of (pe_callB (cr_sortedSet z.calm) g.gl g.no boot_sorted (pa_cons (pe_callTy (cr_setL z.calm) g2.gl g2.no boot_set (pa_cons cE pa_nil he) (by decide) (by decide) he hpl) pa_nil he2) (by decide) (by decide) he2 hpl2) fun κ σ H Q hb R k => h κ σ H _ hb R fun v x M1 H1 ⟨ns, il, hl, q⟩ R1 r1 => by
    obtain ⟨a, us, rfl, e1, rr⟩ := il.sq R1 r1
    have := rr.ints
    subst this
    refine ⟨a, ns, rfl, SqL.of e1, by omega, fun p' c hp hc => ?_⟩
    refine ⟨p', _, c, rfl, upd_same, by omega, fun ms l hpw hmem hlen hl => ?_⟩
    have R2 := R1.new (p := p') (o := SetO X.w p' (fun j => decide (j ∈ ns)) c) hp
    have hrep : Reps M1.F (upd H1 p' (SetO X.w p' (fun j => decide (j ∈ ns)) c)) (ms.map V.int) (ms.map D.int) := by
      clear hpw hmem hlen
      induction ms with
      | nil => exact .nil
      | cons m ms ih => exact .cons (.int _) ih
    obtain ⟨R3, r3⟩ := R2.lstV hrep hl
    exact k _ _ _ _ (q ms hpw fun kk => by rw [hmem kk]; simp) R3 r3
end
end Hl
namespace Hl
open PySem L2
open PyProof.Rows hiding St
/-! ### exceptions in the air, by data -/
def XRep (F : List Addr) (H : Hp) (dx : Option Addr) (ns : List Str) (ds : List D) : Prop :=
  (dx = none ∧ ns = [] ∧ ds = []) ∨ ∃ d vs, dx = some d ∧ d ∉ F ∧ H d = some (.xd (ns.zip vs)) ∧ ns.length = vs.length ∧ Reps F H vs ds
theorem XRep.fwd {F F' : List Addr} {H H' : Hp} {dx : Option Addr} {ns : List Str} {ds : List D} (h : XRep F H dx ns ds) (k : Fwd F H F' H') : XRep F' H' dx ns ds := by
  rcases h with h | ⟨d, vs, e, hn, hd, hl, r⟩
  · exact .inl h
  · exact .inr ⟨d, vs, e, (k _ _ hn hd).1, (k _ _ hn hd).2, hl, r.fwd k⟩
theorem XRep.held {F : List Addr} {H : Hp} {dx : Option Addr} {ns : List Str} {ds : List D} {a C : Addr} (h : XRep F H dx ns ds) (hn : a ∉ F) (hf : H a = none) : Rep F (upd H a (XO (.ref C) dx a)) (.ref a) (.exn C ns ds) := by
  rcases h with ⟨rfl, rfl, rfl⟩ | ⟨d, vs, rfl, hd, e, hl, r⟩
  · exact .exn0 hn upd_same
  · exact .exn hn upd_same hd (by rw [upd_ne (ne_of_none e hf)]; exact e) hl (r.fwd (Fwd.new hf))
/-- what is wished of an exception, by data -/
def wishX (B : Bx) : WX := fun cls dx σ H => ∃ C ns ds δ M κ, cls = .ref C ∧ B.ex C ns ds δ M ∧ (∀ q ∈ B.ps, q ∈ κ) ∧ Rs κ δ M σ H ∧ XRep M.F H dx ns ds
def Tks (X : Cx) (B : Bx) : Prop := Takes X (wishX B)
abbrev XPost := Addr → List Str → List D → Mem → Prop
abbrev DSpE := List D → Mem → (D → Mem → Prop) → XPost → Prop
def noX : XPost := fun _ _ _ _ => False
def liftE (p : DSpE) : Sp := fun vs H Q E => ∃ κ ds M Φ Ξ, Rs κ [] M [] H ∧ Reps M.F H vs ds ∧ p ds M Φ Ξ ∧ (∀ v d M' H', Φ d M' → Rs κ [] M' [] H' → Rep M'.F H' v d → Q v H') ∧
  ∀ C ns es M' H' dx, Ξ C ns es M' → Rs κ [] M' [] H' → XRep M'.F H' dx ns es → E (.ref C) dx H'
/-! ### arguments: by place, by keyword, defaults -/
def DVal : D → Value → Prop
  | .non, u => u = .none
  | .bl b, u => u = .bool b
  | .int i, u => ∃ t, u = .int i t
  | .str z, u => ∃ t, u = .str z t
  | _, _ => False
def dV : D → V
  | .bl b => .bl b
  | .int i => .int i
  | .str z => .str z
  | _ => .non
theorem dval_rel {d : D} {u : Value} (h : DVal d u) : RelV (dV d) u := by
  cases d <;> first | exact h | exact h.elim
theorem dval_rep {d : D} {u : Value} (h : DVal d u) (F : List Addr) (H : Hp) : Rep F H (dV d) d := by
  cases d <;> first | exact .non | exact .bl _ | exact .int _ | exact .str _ | exact h.elim
abbrev Sel := List (Nat ⊕ D)
def selD (sel : Sel) (ds : List D) : List D := sel.map fun | .inl j => ds.getD j .non | .inr d => d
def selV (sel : Sel) (vs : List V) : List V := sel.map fun | .inl j => vs.getD j .non | .inr d => dV d
inductive SelOk (us : List Value) : Sel → List Value → Prop
  | nil : SelOk us [] []
  | at {j : Nat} {u : Value} {sel : Sel} {all : List Value} : us[j]? = some u → SelOk us sel all → SelOk us (.inl j :: sel) (u :: all)
  | dflt {d : D} {u : Value} {sel : Sel} {all : List Value} : DVal d u → SelOk us sel all → SelOk us (.inr d :: sel) (u :: all)
theorem SelOk.vals {vs : List V} {us : List Value} (r : Vals vs us) : ∀ {sel : Sel} {all : List Value}, SelOk us sel all → Vals (selV sel vs) all
  | _, _, .nil => .nil
  | _, _, .at (j := j) e t => by
    refine .cons ?_ (SelOk.vals r t)
    have hj : j < us.length := (List.getElem?_eq_some_iff.mp e).1
    have hv : j < vs.length := by rw [r.length]; exact hj
    obtain ⟨u', e1, r1⟩ := Vals.get r (i := j) (x := vs[j]) (by simp [hv])
    rw [e] at e1
    cases e1
    have a1 : vs.getD j .non = vs[j] := by simp [List.getD, hv]
    show RelV (vs.getD j .non) _
    rw [a1]; exact r1
  | _, _, .dflt h t => .cons (dval_rel h) (SelOk.vals r t)
theorem SelOk.reps {us : List Value} {vs : List V} {ds : List D} {F : List Addr} {H : Hp} (hl : vs.length = us.length) (r : Reps F H vs ds) : ∀ {sel : Sel} {all : List Value}, SelOk us sel all → Reps F H (selV sel vs) (selD sel ds)
  | _, _, .nil => .nil
  | _, _, .at (j := j) e t => by
    refine .cons ?_ (SelOk.reps hl r t)
    have hj : j < us.length := (List.getElem?_eq_some_iff.mp e).1
    have hv : j < vs.length := by omega
    obtain ⟨d, e1, r1⟩ := r.get (i := j) (v := vs[j]) (by simp [hv])
    have a1 : vs.getD j .non = vs[j] := by simp [List.getD, hv]
    have a2 : ds.getD j .non = d := by simp [List.getD, e1]
    show Rep F H (vs.getD j .non) (ds.getD j .non)
    rw [a1, a2]; exact r1
  | _, _, .dflt h t => .cons (dval_rep h F H) (SelOk.reps hl r t)
/-- how a call with n arguments by place and the keywords ks binds the parameters ps -/
structure CallB (K : PySem.W.Frag) (fd : FuncData) (ps : List Str) (n : Nat) (ks : List Str) (sel : Sel) : Prop where
  to : ∀ (s : Shared) (us ws : List Value), K.In s.heap → us.length = n → ws.length = ks.length → ∃ all, SelOk (us ++ ws) sel all ∧ BindsTo s fd ⟨us, ks.zip ws⟩ (ps.zip all)
/-- a def, its promise, a way to call it -/
structure FnD (P : Program) (w : World) (K : PySem.W.Frag) (mg : Str → Option Value) (base : Heap) (k : Nat) (f : Addr) (n : Nat) (ks : List Str) (sel : Sel) (p : DSpE) : Prop where
  ex : ∃ fd ps, CallB K fd ps n ks sel ∧ FnOk P w K mg base (L2.CX P w) k f fd ps (liftE p)
structure DefE (P : Program) (w : World) (K : PySem.W.Frag) (mg : Str → Option Value) (base : Heap) (k : Nat) (x : Str) (n : Nat) (ks : List Str) (sel : Sel) (p : DSpE) : Prop where
  ex : ∃ f, mg x = some (.ref f) ∧ PySem.W.keepIn K (.ref f) = true ∧ FnD P w K mg base k f n ks sel p
structure MethE (P : Program) (w : World) (K : PySem.W.Frag) (mg : Str → Option Value) (base : Heap) (k : Nat) (C : Addr) (m : Str) (n : Nat) (ks : List Str) (sel : Sel) (p : DSpE) : Prop where
  ex : ∃ f, Cls K C ∧ Meth K C m f ∧ FnD P w K mg base k f (n + 1) ks sel p
structure MakeE (P : Program) (w : World) (K : PySem.W.Frag) (mg : Str → Option Value) (base : Heap) (k : Nat) (x : Str) (C : Addr) (n : Nat) (ks : List Str) (sel : Sel) (p : DSpE) : Prop where
  ex : ∃ f, mg x = some (.ref C) ∧ Mk K C f ∧ FnD P w K mg base k f (n + 1) ks sel p
abbrev DefEX (X : Cx) := DefE X.prog X.w X.K X.mg X.base
abbrev MethEX (X : Cx) := MethE X.prog X.w X.K X.mg X.base
abbrev MakeEX (X : Cx) := MakeE X.prog X.w X.K X.mg X.base
section
variable {X : Cx} {k n : Nat} {f : Addr} {ks : List Str} {sel : Sel} {p : DSpE} {pins : List (Addr × Obj)} {σ : St} {H : Hp} {s : Shared} {Q : VK} {E : XK} {us ws : List Value} {vs zs : List V}
theorem Vals.app {vs zs : List V} {us ws : List Value} (r : Vals vs us) (q : Vals zs ws) : Vals (vs ++ zs) (us ++ ws) := r.append q
theorem run_E (F : FnD X.prog X.w X.K X.mg X.base k f n ks sel p) (hr : Room k X.A) (hx : PassesAt (L2.CX X.prog X.w) X σ E) (I : Inv X pins σ H s) (r : Vals vs us) (rz : Vals zs ws) (h1 : vs.length = n) (h2 : zs.length = ks.length)
    (h : ∀ us all, Vals (vs ++ zs) us → SelOk us sel all → liftE p (selV sel (vs ++ zs)) H Q E) : wpAny (model X.prog X.w) X.A (call (.ref f) us (ks.zip ws)) (EP X pins σ Q) X.xe s := by
  obtain ⟨fd, ps, cb, F⟩ := F.ex
  obtain ⟨all, so, b⟩ := cb.to s us ws I.kIn (by rw [← r.length]; exact h1) (by rw [← rz.length]; exact h2)
  have r2 := so.vals (r.append rz)
  have hq := h _ all (r.append rz) so
  refine wpAny_call (codeAny_mono (F.run X.A X.stack s H ⟨us, ks.zip ws⟩ all _ Q E hr I.env0 b r2 hq) fun r s' hq => ?_)
  cases r with
  | error e => exact hx pins H s e s' I hq
  | ok fl =>
    cases fl with
    | ret u => exact I.after hq
    | next => exact False.elim hq
    | brk => exact False.elim hq
    | cont => exact False.elim hq
theorem run_makeE {C : Addr} (Mk_ : Mk X.K C f) (F : FnD X.prog X.w X.K X.mg X.base k f (n + 1) ks sel p) (hr : Room (k + 1) X.A) (hx : PassesAt (L2.CX X.prog X.w) X σ E) (I : Inv X pins σ H s) (r : Vals vs us) (rz : Vals zs ws) (h1 : vs.length = n) (h2 : zs.length = ks.length)
    (h : ∀ x dx, H x = none → H dx = none → dx ≠ x → ∀ us all, Vals (.ref x :: vs ++ zs) us → SelOk us sel all → liftE p (selV sel (.ref x :: vs ++ zs)) (upd (upd H dx (.own x)) x (.ins C dx [])) (fun v H2 => v = .non ∧ Q (.ref x) H2) E) :
    wpAny (model X.prog X.w) X.A (call (.ref C) us (ks.zip ws)) (EP X pins σ Q) X.xe s := by
  obtain ⟨fd, ps, cb, F⟩ := F.ex
  have I2 := Inv.made (C := C) I
  obtain ⟨all, so, b⟩ := cb.to _ (.ref (s.heap.objs.size + 1) :: us) ws I2.kIn (by rw [List.length_cons, ← r.length, h1]) (by rw [← rz.length]; exact h2)
  have r1 : Vals (V.ref (s.heap.objs.size + 1) :: vs ++ zs) (Value.ref (s.heap.objs.size + 1) :: us ++ ws) := .cons rfl (r.append rz)
  have r2 := so.vals r1
  have hq := h (s.heap.objs.size + 1) s.heap.objs.size (I.hok.fresh (Nat.le_succ _)) (I.hok.fresh (Nat.le_refl _)) (Nat.ne_of_lt (Nat.lt_succ_self _)) _ all r1 so
  refine wpAny_call (make_map (f := f) I.kIn Mk_.makes Mk_.init (beq_iff_eq.mp Mk_.fn) (codeAny_mono (F.run _ X.stack _ _ ⟨Value.ref (s.heap.objs.size + 1) :: us, ks.zip ws⟩ all _ _ E (hr.make C us (ks.zip ws))
    (I2.env0.make C us (ks.zip ws)) b r2 hq) fun r s' hq' => ?_))
  cases r with
  | error e => exact hx pins _ _ e s' I2 hq'
  | ok fl =>
    cases fl with
    | ret u =>
      obtain ⟨v, H', I3, rv, ev, q3⟩ := I2.after hq'
      subst ev
      exact ⟨rv, ⟨V.ref (s.heap.objs.size + 1), H', I3, rfl, q3⟩⟩
    | next => exact False.elim hq'
    | brk => exact False.elim hq'
    | cont => exact False.elim hq'
end
end Hl
namespace Hl
open PySem L2
open PyProof.Rows hiding St
/-! ### the arguments of a call -/
def DAK (B : Bx) (X : Cx) : List Expr → List Keyword → Env' → Mem → (List D → List D → Mem → Prop) → Prop
  | [], [], _, M, Φ => Φ [] [] M
  | e :: es, [], δ, M, Φ => DA B X (e :: es) δ M fun ds M1 => Φ ds [] M1
  | [], k :: kws, δ, M, Φ => DK B X (k :: kws) δ M fun zs M1 => Φ [] zs M1
  | e :: es, k :: kws, δ, M, Φ => DA B X (e :: es) δ M fun ds M1 => DK B X (k :: kws) δ M1 fun zs M2 => Φ ds zs M2
def PlA (X : Cx) (pos : Pos) : List Expr → List Keyword → List Str → Prop
  | [], [], ks => ks = []
  | e :: es, [], ks => ks = [] ∧ starEach (e :: es) X.env = (false, eval e X.env) :: starEach es X.env ∧ (backTo pos (starEach es X.env)).any (·.1) = false
  | [], k :: kws, ks => (backToKw pos (keywordEach (k :: kws) X.env)).filterMap (·.1) = ks ∧ (backToKw pos (keywordEach (k :: kws) X.env)).all (·.1.isSome) = true ∧ ((backTo pos (starEach [] X.env)).any (·.1) || (backToKw pos (keywordEach (k :: kws) X.env)).any (·.1.isNone)) = false
  | e :: es, k :: kws, ks => (backToKw pos (keywordEach (k :: kws) X.env)).filterMap (·.1) = ks ∧ (backToKw pos (keywordEach (k :: kws) X.env)).all (·.1.isSome) = true ∧ ((backTo pos (starEach (e :: es) X.env)).any (·.1) || (backToKw pos (keywordEach (k :: kws) X.env)).any (·.1.isNone)) = false ∧
      starEach (e :: es) X.env = (false, eval e X.env) :: starEach es X.env
section
variable {B : Bx} {X : Cx} {e a b c o : Expr} {es rest : List Expr} {kw : Keyword} {kws : List Keyword} {st : Stmt} {sts : List Stmt} {δ δ' : Env'} {M : Mem} {Φ : D → Mem → Prop} {Ψ : DEnds} {pos pos' apos pp : Pos} {d x y : D} {ΦA : List D → List D → Mem → Prop}
theorem dak_nn (h : ΦA [] [] M) : DAK B X [] [] δ M ΦA := h
theorem dak_en (h : DA B X (e :: es) δ M fun ds M1 => ΦA ds [] M1) : DAK B X (e :: es) [] δ M ΦA := h
theorem dak_nk (h : DK B X (kw :: kws) δ M fun zs M1 => ΦA [] zs M1) : DAK B X [] (kw :: kws) δ M ΦA := h
theorem dak_ek (h : DA B X (e :: es) δ M fun ds M1 => DK B X (kw :: kws) δ M1 fun zs M2 => ΦA ds zs M2) : DAK B X (e :: es) (kw :: kws) δ M ΦA := h
/-- the held values -/
theorem held {κ : List (V × D)} {vs : List V} {ds : List D} {δ : Env'} {M : Mem} {σ : St} {H : Hp} : Reps M.F H vs ds → Rs κ δ M σ H → ∃ κ', (∀ q ∈ κ, q ∈ κ') ∧ Rs κ' δ M σ H ∧ ∀ {δ' : Env'} {M' : Mem} {σ' : St} {H' : Hp}, Rs κ' δ' M' σ' H' → Reps M'.F H' vs ds := by
  induction vs generalizing ds with
  | nil => intro r R; cases r; exact ⟨κ, fun _ h => h, R, fun _ => .nil⟩
  | cons v vs ih =>
    intro r R
    cases r with
    | cons r1 r2 =>
      obtain ⟨κ', h1, R', h2⟩ := ih r2 R
      rename_i d ds
      exact ⟨(v, d) :: κ', fun q hq => List.mem_cons_of_mem _ (h1 q hq), R'.push r1, fun R => .cons R.top (h2 R.pop)⟩
theorem dak_run {ks : List Str} {f : Value} {first : List Value} {pins : List (Addr × Obj)} {s : Shared} {κ : List (V × D)} {σ : St} {H : Hp} {Rq : Value → Shared → Prop} (hk : PySem.W.keepIn X.K f = true) (pl : PlA X pos es kws ks) (h : DAK B X es kws δ M ΦA) (I : Inv X pins σ H s)
    (hb : ∀ q ∈ B.ps, q ∈ κ) (R : Rs κ δ M σ H)
    (q : ∀ us ws s2 vs zs ds es M2 H2, Inv X pins σ H2 s2 → Vals vs us → Vals zs ws → ΦA ds es M2 → Rs κ δ M2 σ H2 → Reps M2.F H2 vs ds → Reps M2.F H2 zs es → wpAny (model X.prog X.w) X.A (call f (first ++ us) (ks.zip ws)) Rq X.xe s2) :
    wpAny (model X.prog X.w) X.A (callWith pos f first (backTo pos (starEach es X.env)) (backToKw pos (keywordEach kws X.env))) Rq X.xe s := by
  match es, kws, pl, h with
  | [], [], pl, h =>
    have pl : ks = [] := pl
    subst pl
    exact PySem.W.callWith_K0 I.kIn hk (q [] [] s [] [] [] [] M H I .nil .nil h R .nil .nil)
  | e :: es, [], ⟨e1, e2, e3⟩, h =>
    subst e1
    refine PySem.W.callWith_K (h₀ := X.base) I.ok.mod.kin hk (thn ((cA (X := X) (es := e :: es)).run pos pins s σ H (fun vs H1 => ∃ ds M1, ΦA ds [] M1 ∧ Rs κ δ M1 σ H1 ∧ Reps M1.F H1 vs ds) I (h κ σ H _ hb R fun vs ds M1 H1 q1 R1 r1 => ⟨ds, M1, q1, R1, r1⟩)) fun us s1 ⟨vs, H1, I1, r, ds, M1, q1, R1, r1⟩ => ⟨I1.kIn, ?_⟩) e2 e3
    exact q us [] s1 vs [] ds [] M1 H1 I1 r .nil q1 R1 r1 .nil
  | [], k :: kws, ⟨e1, e2, e3⟩, h =>
    refine PySem.W.callWith_KW0 (h₀ := X.base) I.ok.mod.kin hk e2 (thn ((cK (X := X) (kws := k :: kws)).run pos pins s σ H (fun vs H1 => ∃ ds M1, ΦA [] ds M1 ∧ Rs κ δ M1 σ H1 ∧ Reps M1.F H1 vs ds) I (h κ σ H _ hb R fun vs ds M1 H1 q1 R1 r1 => ⟨ds, M1, q1, R1, r1⟩)) fun ws s1 ⟨zs, H1, I1, r, ds, M1, q1, R1, r1⟩ => ⟨I1.kIn, ?_⟩) e3
    rw [e1]
    exact q [] ws s1 [] zs [] ds M1 H1 I1 .nil r q1 R1 .nil r1
  | e :: es, k :: kws, ⟨e1, e2, e3, e4⟩, h =>
    refine PySem.W.callWith_KW (h₀ := X.base) I.ok.mod.kin hk e2 (thn ((cA (X := X) (es := e :: es)).run pos pins s σ H (fun vs H1 => ∃ ds M1, (DK B X (k :: kws) δ M1 fun zs M2 => ΦA ds zs M2) ∧ Rs κ δ M1 σ H1 ∧ Reps M1.F H1 vs ds) I (h κ σ H _ hb R fun vs ds M1 H1 q1 R1 r1 => ⟨ds, M1, q1, R1, r1⟩)) fun us s1 ⟨vs, H1, I1, r, ds, M1, q1, R1, r1⟩ => ?_) e3 e4
    obtain ⟨κ', k1, R2, k2⟩ := held r1 R1
    refine thn ((cK (X := X) (kws := k :: kws)).run pos pins s1 σ H1 (fun zs H2 => ∃ es M2, ΦA ds es M2 ∧ Rs κ' δ M2 σ H2 ∧ Reps M2.F H2 zs es) I1 (q1 κ' σ H1 _ (fun q hq => k1 q (hb q hq)) R2 fun zs es M2 H2 q2 R3 r3 => ⟨es, M2, q2, R3, r3⟩)) fun ws s2 ⟨zs, H2, I2, rz, es, M2, q2, R3, r3⟩ => ⟨I2.kIn, ?_⟩
    rw [e1]
    exact q us ws s2 vs zs ds es M2 H2 I2 r rz q2 (R3.sub k1) (k2 R3) r3
/-! ### calls of defs that may raise -/
theorem liftE_of {p : DSpE} {sel : Sel} {κ : List (V × D)} {σ : St} {H : Hp} {Q : VK} {vs : List V} {ds us} {all} {Ξ : XPost} {E : XK} (so : SelOk us sel all) (hl : vs.length = us.length) (R : Rs κ δ M σ H) (r : Reps M.F H vs ds) (q : p (selD sel ds) M Φ Ξ)
    (k : ∀ v d M' H', Φ d M' → Rs κ δ M' σ H' → Rep M'.F H' v d → Q v H') (kx : ∀ C ns es M' H' dx, Ξ C ns es M' → Rs κ δ M' σ H' → XRep M'.F H' dx ns es → E (.ref C) dx H') : liftE p (selV sel vs) H Q E :=
  ⟨κ ++ sk σ δ, _, M, Φ, Ξ, R.pack, so.reps hl r, q, fun v d M' H' q' R' r' => k v d M' H' q' (R.unpack R') r', fun C ns es M' H' dx q' R' x => kx C ns es M' H' dx q' (R.unpack R') x⟩
/-- what the def may raise here is wished for -/
def atX (B : Bx) (δ : Env') : XPost := fun C ns ds M => B.ex C ns ds δ M
structure Lets (X : Cx) (B : Bx) (δ : Env') (Ξ : XPost) : Prop where
  ex : ∃ W, Takes X W ∧ ∀ κ σ C ns es M' H' dx, (∀ q ∈ B.ps, q ∈ κ) → Ξ C ns es M' → Rs κ δ M' σ H' → XRep M'.F H' dx ns es → W (.ref C) dx σ H'
theorem lets_at (tk : Tks X B) : Lets X B δ (atX B δ) := ⟨wishX B, tk, fun κ σ C ns es M' H' dx hb e R x => ⟨C, ns, es, δ, M', κ, rfl, e, hb, R, x⟩⟩
theorem lets_no : Lets X B δ noX := ⟨fun _ _ _ _ => False, takes0, fun _ _ _ _ _ _ _ _ _ e _ _ => e⟩
variable {k n m : Nat} {x : Str} {ks : List Str} {sel : Sel} {p : DSpE} {Ξ : XPost} {C : Addr}
theorem de_fE (z : Cz X m) (f : DefEX X k x n ks sel p) (hk : k ≤ m) (hg : Gl X x) (lt : Lets X B δ Ξ)
    (h : DAK B X es kws δ M fun ds zs M' => ds.length = n ∧ zs.length = ks.length ∧ p (selD sel (ds ++ zs)) M' Φ Ξ) (pl : PlA X pos es kws ks) (hdb : (x == ("__debug__" : Str)) = false := by decide) : DE B X (.Call (.Name x pp) es kws pos) δ M Φ := by
  obtain ⟨fa, h1, h2, h3⟩ := f.ex
  obtain ⟨W, tk, hx⟩ := lt
  intro κ σ H Q hb R kk
  unfold tE
  intro pins s I
  refine wpAny_Call_Name_kw (ld_glob I hg h1 ?_ hdb)
  refine dak_run (first := []) h2 pl h I hb R fun us ws s2 vs zs ds es M2 H2 I2 rv rz ⟨l1, l2, q⟩ R2 r1 r2 => ?_
  refine run_E h3 (z.room.mono hk) (passAt tk σ) I2 rv rz (by rw [r1.length]; exact l1) (by rw [r2.length]; exact l2) fun us' all rr so => ?_
  exact liftE_of so rr.length R2 (r1.append r2) q kk fun C ns es M' H' dx e R' x => hx κ σ C ns es M' H' dx hb e R' x
/-- an instance, by data or as a cell -/
inductive IsO (M : Mem) : D → Addr → List Str → List D → Prop
  | val (C : Addr) (ns : List Str) (ds : List D) : IsO M (.obj C ns ds) C ns ds
  | cell {p C : Addr} {ns : List Str} {ds : List D} (j : Nat) (h : M[j]? = some (p, .obj C ns ds)) : IsO M (.raw (.ref p)) C ns ds
theorem IsO.sq {κ : List (V × D)} {σ : St} {H : Hp} {v : V} {x : D} {C : Addr} {ns : List Str} {ds : List D} (h : IsO M x C ns ds) (R : Rs κ δ M σ H) (r : Rep M.F H v x) : ∃ p dx vs, v = .ref p ∧ H p = some (.ins C dx (ns.zip vs)) ∧ ns.length = vs.length ∧ Reps M.F H vs ds := by
  cases h with
  | val C ns ds => cases r with | obj h1 e1 l1 r1 => exact ⟨_, _, _, rfl, e1, l1, r1⟩
  | cell j h =>
    cases r
    obtain ⟨dx, vs, e1, l1, r1⟩ := R.at h
    exact ⟨_, dx, vs, rfl, e1, l1, r1⟩
theorem lookup_zip {β : Type} {f : Str} : ∀ {ns : List Str} {vs : List β}, ns.contains f = false → (ns.zip vs).lookup f = none
  | [], _, _ => by simp
  | _ :: _, [], _ => by simp
  | n :: ns, v :: vs, h => by
    rw [List.contains_cons, Bool.or_eq_false_iff] at h
    rw [List.zip_cons_cons, List.lookup_cons, h.1]
    exact lookup_zip h.2
theorem de_mE {pl_ : Sem Bool} {x : D} {mn : Str} (z : Cz X m) (f : MethEX X k C mn n ks sel p) (hk : k ≤ m) (lt : Lets X B δ Ξ)
    (h : DE B X o δ M fun x M1 => (∃ ns fs, IsO M1 x C ns fs ∧ ns.contains mn = false) ∧ DAK B X es kws δ M1 fun ds zs M' => ds.length = n ∧ zs.length = ks.length ∧ p (selD sel (x :: ds ++ zs)) M' Φ Ξ) (pl : PlA X pos es kws ks)
    (ht : eval (.Call (.Attribute o mn apos) es kws pos) X.env = (do
      let ov ← eval o X.env
      standAt apos.atName
      let (f, first) ← holding [ov] (getMethod ov mn pl_)
      callWith pos f first (backTo pos (starEach es X.env)) (backToKw pos (keywordEach kws X.env))) := by rfl) : DE B X (.Call (.Attribute o mn apos) es kws pos) δ M Φ := by
  obtain ⟨fa, c, hm, h3⟩ := f.ex
  obtain ⟨W, tk, hx⟩ := lt
  intro κ σ H Q hb R kk
  unfold tE
  intro pins s I
  refine PySem.W.methodCall_KW (pl := pl_) (thn ((cE (X := X) (e := o)).run pins s σ H (fun v H1 => ∃ x M1, ((∃ ns fs, IsO M1 x C ns fs ∧ ns.contains mn = false) ∧ DAK B X es kws δ M1 fun ds zs M' => ds.length = n ∧ zs.length = ks.length ∧ p (selD sel (x :: ds ++ zs)) M' Φ Ξ) ∧ Rs κ δ M1 σ H1 ∧ Rep M1.F H1 v x) I (h κ σ H _ hb R fun v x M1 H1 q R1 r1 => ⟨x, M1, q, R1, r1⟩)) fun u s1 ⟨v, H1, I1, rv, x, M1, ⟨⟨ns, fs, io, hn⟩, hd⟩, R1, r1⟩ => ?_) ht
  obtain ⟨a, dx, vs0, rfl, ea, hl, rr⟩ := io.sq R1 r1
  obtain rfl : u = Value.ref a := rv
  refine getmeth_ok I1 ea c hm (lookup_zip hn) ?_
  refine dak_run (κ := (.ref a, x) :: κ) (first := [.ref a]) hm.kp pl hd I1 (fun q hq => List.mem_cons_of_mem _ (hb q hq)) (R1.push r1) fun us ws s2 vs zs ds es M2 H2 I2 rv rz ⟨l1, l2, q⟩ R2 r3 r4 => ?_
  have rs : Vals (V.ref a :: vs) (Value.ref a :: us) := .cons rfl rv
  refine run_E h3 (z.room.mono hk) (passAt tk σ) I2 rs rz (by rw [List.length_cons, r3.length, l1]) (by rw [r4.length]; exact l2) fun us' all rr so => ?_
  exact liftE_of so rr.length R2.pop ((Reps.cons R2.top r3).append r4) q kk fun C ns es M' H' dx e R' x => hx κ σ C ns es M' H' dx hb e R' x
/-- C(..): a new object as a cell at place j, then __init__ -/
theorem de_kE {x : Str} (j : Nat) (z : Cz X m) (f : MakeEX X k x C n ks sel p) (hk : k + 1 ≤ m) (hg : Gl X x) (lt : Lets X B δ Ξ)
    (h : DAK B X es kws δ M fun ds zs M' => ds.length = n ∧ zs.length = ks.length ∧ ∀ a, p (selD sel (.raw (.ref a) :: ds ++ zs)) (insM j (a, .obj C [] []) M') (fun d M2 => d = .non ∧ Φ (.raw (.ref a)) M2) Ξ) (pl : PlA X pos es kws ks) (hdb : (x == ("__debug__" : Str)) = false := by decide) : DE B X (.Call (.Name x pp) es kws pos) δ M Φ := by
  obtain ⟨fa, h1, mk, h3⟩ := f.ex
  obtain ⟨W, tk, hx⟩ := lt
  intro κ σ H Q hb R kk
  unfold tE
  intro pins s I
  refine wpAny_Call_Name_kw (ld_glob I hg h1 ?_ hdb)
  refine dak_run (first := []) mk.kp pl h I hb R fun us ws s2 vs zs ds es M2 H2 I2 rv rz ⟨l1, l2, q⟩ R2 r1 r2 => ?_
  refine run_makeE mk h3 (z.room.mono hk) (passAt tk σ) I2 rv rz (by rw [r1.length]; exact l1) (by rw [r2.length]; exact l2) fun a dx ha hdx hne us' all rr so => ?_
  have R3 : Rs κ δ M2 σ (upd H2 dx (.own a)) := R2.new hdx
  have R4 : Rs κ δ (insM j (a, .obj C [] []) M2) σ (upd (upd H2 dx (.own a)) a (.ins C dx [])) := (R3.add (p := a) (o := .ins C dx []) (c := .obj C [] []) (by rw [upd_ne (Ne.symm hne)]; exact ha) rfl ⟨dx, [], upd_same, rfl, .nil⟩).perm insM_perm
  have fw : Fwd M2.F H2 (Mem.F (insM j (a, .obj C [] []) M2)) (upd (upd H2 dx (.own a)) a (.ins C dx [])) := by
    intro b o hb e
    have n1 : b ≠ dx := fun z => by rw [z, hdx] at e; cases e
    have n2 : b ≠ a := fun z => by rw [z, ha] at e; cases e
    refine ⟨fun z => ?_, by rw [upd_ne n2, upd_ne n1]; exact e⟩
    have z2 : b ∈ Mem.F ((a, Cell.obj C [] []) :: M2) := (F_perm insM_perm).mem_iff.mpr z
    rcases List.mem_append.mp (show b ∈ own a (Cell.obj C [] []) ++ Mem.F M2 from z2) with y | y
    · exact n2 (by simpa [own] using y)
    · exact hb y
  have r5 : Reps (Mem.F (insM j (a, .obj C [] []) M2)) (upd (upd H2 dx (.own a)) a (.ins C dx [])) (.ref a :: vs ++ zs) (.raw (.ref a) :: ds ++ es) := (Reps.cons (.raw _) (r1.fwd fw)).append (r2.fwd fw)
  refine liftE_of so rr.length R4 r5 (q a) (fun v d M' H' ⟨e, q'⟩ R' r' => ?_) fun C ns es M' H' dx e R' x => hx κ σ C ns es M' H' dx hb e R' x
  subst e
  cases r'
  exact ⟨rfl, kk _ _ _ _ q' R' (.raw _)⟩
end
/-! ### a def that may raise, from its body -/
structure InDefE (P : Program) (w : World) (K : PySem.W.Frag) (mg : Str → Option Value) (base : Heap) (N : List Str) (sc : Scope) (k : Nat) (X : Cx) (B : Bx) : Prop where
  prog : X.prog = P
  wd : X.w = w
  K : X.K = K
  mg : X.mg = mg
  base : X.base = base
  N : X.N = N
  sc : X.env.scope = sc
  fn : X.fn = fun _ => true
  z : Cz X k
  hp : PassesOwn (model X.prog X.w) X.A X.env X.xe
  tk : Tks X B
  st : X.stack = X.env :: X.outer
  fr : X.env.frame = some X.env.locals
/-- an exception's state may be looked at otherwise -/
def VwX (ns : List Str) (ds : List D) (M : Mem) (ds2 : List D) (M2 : Mem) : Prop := ∀ κ δ σ H dx, Rs κ δ M σ H → XRep M.F H dx ns ds → Rs κ δ M2 σ H ∧ XRep M2.F H dx ns ds2
theorem VwX.refl {ns : List Str} {ds : List D} {M : Mem} : VwX ns ds M ds M := fun _ _ _ _ _ R x => ⟨R, x⟩
theorem VwX.sub {ns : List Str} {ds : List D} {M M2 : Mem} (h : M2.Sublist M) : VwX ns ds M ds M2 := fun _ _ _ _ _ R x => ⟨R.less h, x.fwd (Fwd.less fun x hx => (F_sub h).subset hx)⟩
theorem fnokE_of {P : Program} {w : World} {K : PySem.W.Frag} {mg : Str → Option Value} {base : Heap} {x qual : Str} {st : Stmt} {f : Addr} {fd : FuncData} {N ps : List Str} {k : Nat} {p : DSpE} (F : Fun K x qual st f fd) (S : FnScope N ps (defScope st))
    (len : ∀ ds M Φ Ξ, p ds M Φ Ξ → ds.length = ps.length)
    (h : ∀ X kp ds M Φ Ξ, p ds M Φ Ξ → InDefE P w K mg base N (defScope st) k X ⟨kp, fun C ns es _ M' => ∃ es2 M2, VwX ns es M' es2 M2 ∧ Ξ C ns es2 M2⟩ → DSs ⟨kp, fun C ns es _ M' => ∃ es2 M2, VwX ns es M' es2 M2 ∧ Ξ C ns es2 M2⟩ X (defBody st) (startD N.length ds) M { nx := fun _ M' => ∃ d2 M2, Vw .non M' d2 M2 ∧ Φ d2 M2, rt := fun d M' => ∃ d2 M2, Vw d M' d2 M2 ∧ Φ d2 M2 }) : FnOk P w K mg base (L2.CX P w) (k + 1) f fd ps (liftE p) := by
  refine F.okX S (fun vs H Q E hl => ?_) fun cdv A outer s H vs Q E hr hl => ?_
  · obtain ⟨κ, ds, M, Φ, Ξ, R, r, q, _⟩ := hl
    rw [r.length]; exact len ds M Φ Ξ q
  · obtain ⟨κ, ds, M, Φ, Ξ, R, r, q, kk, kx⟩ := hl
    refine ⟨_, cSs, ?_⟩
    refine h _ κ ds M Φ Ξ q ⟨rfl, rfl, rfl, rfl, rfl, rfl, rfl, rfl, ⟨S.nd, rfl, hr⟩, PassesOwn.leaving, ?_, rfl, rfl⟩ κ _ H _ (fun _ h => h) (start_rs R r) ⟨fun δ M' σ H' ⟨d2, M2, h1, h2⟩ R' => ?_, fun v d M' δ σ H' ⟨d2, M2, h1, h2⟩ R' r' => ?_, fun _ _ _ _ z => z.elim, fun _ _ _ _ z => z.elim⟩
    · refine Takes.imp (takes_of (E := E) rfl rfl rfl rfl) fun cls dx σ H' hw => ?_
      obtain ⟨C, ns, es, δ, M', κ', rfl, ⟨es2, M2, hv, hX⟩, hb, R', x'⟩ := hw
      obtain ⟨R2, x2⟩ := hv κ' δ σ H' dx R' x'
      exact kx C ns es2 M2 H' dx hX ⟨fun q hq => R2.kp q (hb q hq), .nil, R2.cl, R2.nd⟩ x2
    · obtain ⟨R2, r2⟩ := h1 _ _ _ _ _ R' .non
      exact kk .non d2 M2 H' h2 ⟨R2.kp, .nil, R2.cl, R2.nd⟩ r2
    · obtain ⟨R2, r2⟩ := h1 _ _ _ _ _ R' r'
      exact kk v d2 M2 H' h2 ⟨R2.kp, .nil, R2.cl, R2.nd⟩ r2
end Hl
namespace Hl
open PySem L2
open PyProof.Rows hiding St
/-! ### try, the caught exception held -/
section
variable {X : Cx} {pins : List (Addr × Obj)} {σ : St} {H : Hp} {sI s' : Shared} {B : Heap} {a : Addr} {o : HO}
theorem xo_ok {P : Program} {w : World} {H : Hp} {h : Heap} {a : Addr} {cls : Value} {d : Option Addr} {oe : Obj} {vs : Array Value} (e : h.get? a = some oe) (z : Zc cls d oe) (hd : oe.data = .fields vs) : ObjOk P w H h a (XO cls d a) :=
  ⟨⟨oe, vs, e, z, hd⟩, ⟨oe, e⟩, fun _ _ ⟨o, v, q, r⟩ k => ⟨o, v, k o q, r⟩⟩
theorem Inv.landedX (I : Inv X pins σ H sI) (nb : ∀ b o, sI.heap.get? b = some o → b ∉ frs X.stack → B.get? b = some o) (st : B.StaysIn s'.heap) (up : sI.heap.UpToSlots s'.heap) (os : s'.os = sI.os) (ag : AllBare s'.gens)
    (na : H a = none) (n0 : sI.heap.get? a = none) (ok : ObjOk X.prog X.w (upd H a o) s'.heap a o) : Inv X pins σ (upd H a o) s' := by
  have nf : ∀ b ∈ frs X.stack, ∀ o, sI.heap.get? b = some o → ∃ sl, s'.heap.get? b = some { o with slots := sl } := fun b hb o e => by
    obtain ⟨_, o', e', hd⟩ := I.stack.mem hb
    rw [e] at e'; cases e'
    exact up b o e hd
  have J := I.call (ch := []) (h' := s'.heap) (g' := s'.gens) (t' := s'.toks) (d' := s'.drawn) (H' := upd H a o)
    ⟨fun b o e _ hb _ => st b o (nb b o e hb), fun b o e _ hb _ => nf b hb o e, fun b o e n _ => by rw [upd_ne (fun z => by rw [z, n0] at e; cases e)]; exact n, fun b o e _ => by
      by_cases hb : b ∈ frs X.stack
      · obtain ⟨sl, q⟩ := nf b hb o e
        exact ⟨_, q⟩
      · exact ⟨o, st b o (nb b o e hb)⟩, fun b xs e => by rw [upd_ne (ne_of_none e na)]; exact e, fun b o u e => by rw [upd_ne (ne_of_none e na)]; exact e, fun b ps e => ⟨#[], by rw [upd_ne (ne_of_none e na), e]; simp⟩⟩
    (HOk.laidN ((I.inGround nb).kept st) (fun _ _ q => q) na ok) ag (fun _ z => nomatch z)
  obtain ⟨a1, a2, a3, a4, a5⟩ := s'
  have e5 : a5 = sI.os := os
  subst e5
  exact J
theorem Inv.suiteX (I : Inv X pins σ H s') {a : Addr} : Inv (X.suite a (X.pn ++ pins)) [] σ H s' :=
  ⟨I.ok.suite _ _, I.os, I.bare, I.base, I.loc, I.cell, I.free, I.freeC, fun p hp => by rw [List.append_nil] at hp; exact I.pin p hp, I.hok, I.len⟩
theorem Inv.unsuiteX {a : Addr} {pn' : List (Addr × Obj)} (I : Inv (X.suite a (X.pn ++ pins)) pn' σ H s') (ok : X.Ok) : Inv X pins σ H s' :=
  ⟨ok, I.os, I.bare, I.base, I.loc, I.cell, I.free, I.freeC, fun p hp => I.pin p (List.mem_append_left _ hp), I.hok, I.len⟩
end
/-- a handler: its class, its name's slot, its suite's reading -/
abbrev Hd1 := Value × Option Nat × TS
def endsAs (i : Nat) (D : Ends) : Ends := { nx := fun σ' H' => D.nx (σ'.set i none) H', rt := D.rt, bk := fun σ' H' => D.bk (σ'.set i none) H', ct := fun σ' H' => D.ct (σ'.set i none) H' }
def wHds (K : PySem.W.Frag) (Wout : WX) (D : Ends) : List Hd1 → WX
  | [] => Wout
  | (c, none, ts) :: r => fun cls d σ H => ∃ b, PySem.W.exmOne K cls c = some b ∧ (b = true → ∀ a, H a = none → ts D σ (upd H a (XO cls d a))) ∧ (b = false → wHds K Wout D r cls d σ H)
  | (c, some i, ts) :: r => fun cls d σ H => ∃ b, PySem.W.exmOne K cls c = some b ∧ (b = true → ∀ a, H a = none → ts (endsAs i D) (σ.set i (some (.ref a))) (upd H a (XO cls d a))) ∧ (b = false → wHds K Wout D r cls d σ H)
inductive HdsX (X : Cx) : List ExceptHandler → List Hd1 → Prop
  | nil : HdsX X [] []
  | cons {x : Str} {c : Value} {ts : TS} {b₀ : Stmt} {suite : List Stmt} {np pos' : Pos} {hds : List ExceptHandler} {l : List Hd1} (hc : Names X x c)
      (hsu : ∀ (a : Addr) (pn : List (Addr × Obj)), PSs (X.suite a pn) (b₀ :: suite) ts) (r : HdsX X hds l) : HdsX X (.ExceptHandler (some (.Name x np)) none (b₀ :: suite) pos' :: hds) ((c, none, ts) :: l)
  | consAs {x n : Str} {i : Nat} {c : Value} {ts : TS} {b₀ : Stmt} {suite : List Stmt} {np pos' : Pos} {hds : List ExceptHandler} {l : List Hd1} (hc : Names X x c) (hi : X.N[i]? = some n) (hln : X.env.kindOf n = some .local)
      (hsu : ∀ (a : Addr) (pn : List (Addr × Obj)), PSs (X.suite a pn) (b₀ :: suite) ts) (r : HdsX X hds l) : HdsX X (.ExceptHandler (some (.Name x np)) (some n) (b₀ :: suite) pos' :: hds) ((c, some i, ts) :: l)
theorem ps_tryX {X : Cx} {body : List Stmt} {h₀ : ExceptHandler} {hds : List ExceptHandler} {l : List Hd1} {pos : Pos} {tb : WX → TS} {Wout : WX} (hs : X.stack = X.env :: X.outer) (hf : X.env.frame = some X.env.locals) (hN : X.N.Nodup) (tk : Takes X Wout)
    (hb : ∀ (W : WX) (pn : List (Addr × Obj)) (xe : Value → Shared → Prop), Takes (X.tr pn xe) W → PassesOwn (model X.prog X.w) X.A X.env xe → PSs (X.tr pn xe) body (tb W))
    (hh : HdsX X (h₀ :: hds) l) : PS X (.Try body (h₀ :: hds) [] [] pos) (fun D σ H => tb (wHds X.K Wout D l) D σ H) := by
  refine ⟨fun pins s σ H D I h => ?_⟩
  have ok := I.ok
  have hfr : X.A.frames = some (X.env :: X.outer) := by rw [ok.frames, hs]
  refine wpAny_Try_except ?_
  refine wpAny_mono ((hb (wHds X.K Wout D l) (X.pn ++ pins) (fun e s₁ => wpAny (model X.prog X.w) X.A (noteFrame e X.env) (fun _ s₂ => wpAny (model X.prog X.w) X.A (setFlight e none) (fun _ s₃ =>
    wpAny (model X.prog X.w) X.A (handleBy e X.env (h₀ :: hds)) (SP X pins D) X.xe s₃) X.xe s₂) X.xe s₁) (fun u s' xx => ?_) PassesOwn.looking).run [] s σ H D (I.toTry _) h) (fun f s1 hsp => ?_) (fun e s1 he => he)
  · obtain ⟨a, B, sI, pins', σ', H', cls, d, rfl, J', nb, up, sky, na, os, ag, w⟩ := xx
    have J : Inv X pins σ' H' sI := J'.ofTry ok
    have sky' : Sky B (X.env :: X.outer) a (Zc cls d) X.env.locals s'.heap := by rw [← hs]; exact sky
    show wpAny (model X.prog X.w) X.A (noteFrame (.ref a) X.env) _ _ _
    refine Sky.land Zc.steady hfr hf sky' fun h3 fl3 up3 => ?_
    have J3 : Inv X pins σ' H' { s' with heap := h3 } := J.landed nb fl3.1 (up.trans up3) os ag
    obtain ⟨oe3, vs3, he3, hz3, hd3⟩ := fl3.there
    have notFr : ∀ {h : Heap} {o : Obj} {vs : Array Value}, h.FunFrames B (X.env :: X.outer) → h.get? a = some o → o.data = .fields vs → a ∉ frs (X.env :: X.outer) := fun {h o vs} ff e dd hm => by
      obtain ⟨_, o', e', hnf⟩ := ff.mem hm
      rw [e] at e'; cases e'
      exact hnf _ dd
    have nfr := notFr fl3.2.2.1 he3 hd3
    have nL : a ≠ X.env.locals := fun z => nfr (List.mem_filterMap.mpr ⟨X.env, List.mem_cons_self, by rw [hf, z]⟩)
    have nF : a ∉ X.fs := fun hm => by
      obtain ⟨e, he, q⟩ := List.mem_filterMap.mp hm
      exact nfr (List.mem_filterMap.mpr ⟨e, List.mem_cons_of_mem _ he, q⟩)
    have n0 : sI.heap.get? a = none := by
      cases e : sI.heap.get? a with
      | none => rfl
      | some ob =>
        have z := nb a ob e (by rw [hs]; exact nfr)
        rw [fl3.2.1] at z
        cases z
    have S3 := J3.suite he3 hd3 na nL nF
    have LT : PySem.W.Looks (model X.prog X.w) h3 (typeOf (.ref a)) cls := fun A Q E s k q => wpAny_typeOf_ref (k _ _ he3) (by rw [hz3.1]; exact q)
    have go : ∀ {hds' : List ExceptHandler} {l' : List Hd1}, HdsX X hds' l' → wHds X.K Wout D l' cls d σ' H' →
        wpAny (model X.prog X.w) X.A (handleBy (.ref a) X.env hds') (SP X pins D) X.xe { s' with heap := h3 } := by
      intro hds' l' hk
      have test : ∀ {x : Str} {c : Value} {np : Pos} {Q : Value → Shared → Prop} {E : Value → Shared → Prop}, Names X x c → Q c { s' with heap := h3 } → wpAny (model X.prog X.w) (X.A.mark (some (.ref a))) (eval (.Name x np) X.env) Q E { s' with heap := h3 } := fun {x c np Q E} hc q => by
        obtain ⟨hg, hdbg, hm | ⟨hm, hv, hnn⟩⟩ := hc
        · exact ld_glob (X := X.suite a ((a, oe3) :: (X.pn ++ pins))) S3 hg hm q hdbg
        · exact ld_blt (X := X.suite a ((a, oe3) :: (X.pn ++ pins))) S3 hg hm hv q hnn hdbg
      induction hk with
      | nil =>
        intro w
        refine wpAny_handleBy_nil ?_
        obtain ⟨k1, k2, k3, oe, vs, T, oT, ts', he, hz, hd, h1, hr⟩ := id fl3
        unfold PySem.passOn
        refine wpAny_bind (wpAny_field he hd h1 ?_)
        rw [if_neg (show ¬ ((Value.ref T == Value.none) = true) from by simp)]
        have fin : wpAny (model X.prog X.w) X.A (setFlight (.ref a) X.env.frame) (fun _ s4 => wpAny (model X.prog X.w) X.A (throw (.ref a) : Sem Flow) (SP X pins D) X.xe s4) X.xe { s' with heap := h3 } := by
          rw [hf]
          refine HandSPX.setFlight_upZ fl3 fun h4 hh4 up4 => wpAny_throw (tk _ _ ?_)
          exact ⟨a, B, sI, pins, σ', H', cls, d, rfl, J, nb, (up.trans up3).trans up4, .inr (.inr (by rw [hs]; exact hh4)), na, os, ag, w⟩
        first
          | exact wpAny_bind (wpAny_pure (wpAny_bind fin))
          | exact wpAny_bind fin
      | @cons x c ts b₀ suite np pos' hds2 l2 hc hsu r ih =>
        intro w
        obtain ⟨b, hb1, hyes, hno⟩ := w
        refine wpAny_handleBy_cons (codeAny_handlers_test ?_) (by intro q; cases q)
        have LM := PySem.W.exm_one (M := model X.prog X.w) (J3.kIn) LT hb1
        refine test hc (LM.here ?_)
        cases b with
        | true =>
          refine codeAny_handlers_suite ?_
          refine HandSPX.lands_againZ fl3 fun h4 fl4 up4 => ?_
          obtain ⟨oe4, vs4, he4, hz4, hd4⟩ := fl4.there
          have J4 : Inv X pins σ' (upd H' a (XO cls d a)) { s' with heap := h4 } := Inv.landedX J nb fl4.1 ((up.trans up3).trans up4) os ag na n0 (xo_ok he4 hz4 hd4)
          have S4 := Inv.suiteX J4 (a := a)
          refine wpAny_mono ((hsu a (X.pn ++ pins)).run [] _ _ _ _ S4 (hyes rfl a na)) (fun f s6 hsp => ?_) (fun _ _ z => False.elim z)
          cases f with
          | next =>
            obtain ⟨σ6, H6, S6, q6⟩ := hsp
            exact ⟨_, _, Inv.unsuiteX S6 ok, q6⟩
          | brk =>
            obtain ⟨σ6, H6, S6, q6⟩ := hsp
            exact ⟨_, _, Inv.unsuiteX S6 ok, q6⟩
          | cont =>
            obtain ⟨σ6, H6, S6, q6⟩ := hsp
            exact ⟨_, _, Inv.unsuiteX S6 ok, q6⟩
          | ret u =>
            obtain ⟨v6, σ6, H6, S6, r6, q6⟩ := hsp
            exact ⟨_, _, _, Inv.unsuiteX S6 ok, r6, q6⟩
        | false =>
          show wpAny _ X.A (handleBy (.ref a) X.env hds2) _ _ _
          exact ih (hno rfl)
      | @consAs x n i c ts b₀ suite np pos' hds2 l2 hc hi hln hsu r ih =>
        intro w
        obtain ⟨b, hb1, hyes, hno⟩ := w
        refine wpAny_handleBy_cons (codeAny_handlers_test ?_) (by intro q; cases q)
        have LM := PySem.W.exm_one (M := model X.prog X.w) (J3.kIn) LT hb1
        refine test hc (LM.here ?_)
        cases b with
        | true =>
          refine codeAny_handlers_suite_as ?_
          refine HandSPX.lands_againZ fl3 fun h4 fl4 up4 => ?_
          obtain ⟨oe4, vs4, he4, hz4, hd4⟩ := fl4.there
          have J4 : Inv X pins σ' (upd H' a (XO cls d a)) { s' with heap := h4 } := Inv.landedX J nb fl4.1 ((up.trans up3).trans up4) os ag na n0 (xo_ok he4 hz4 hd4)
          have S4 := Inv.suiteX J4 (a := a)
          refine store_ok (X := X.suite a (X.pn ++ pins)) (v := .ref a) S4 hN hi (.inl hln) rfl (fun s5 S5 => ?_) (.inr hln)
          refine wpAny_mono ((hsu a (X.pn ++ pins)).run [] s5 _ _ _ S5 (hyes rfl a na)) (fun f s6 hsp => ?_) (fun _ _ z => False.elim z)
          have end_ : ∀ {σ6 : St} {H6 : Hp} {Q : Shared → Prop}, Inv (X.suite a (X.pn ++ pins)) [] σ6 H6 s6 → (∀ s7, Inv X pins (σ6.set i none) H6 s7 → Q s7) →
              wpAny (model X.prog X.w) X.A (do bindName X.env n .none; unbindBehindTheSuite X.env n pos') (fun _ s7 => Q s7) X.xe s6 := fun {σ6 H6 Q} S6 hq => gone_ok (Inv.unsuiteX S6 ok) hN hi hln hq
          cases f with
          | next =>
            obtain ⟨σ6, H6, S6, q6⟩ := hsp
            exact end_ S6 fun s7 J7 => ⟨_, _, J7, q6⟩
          | brk =>
            obtain ⟨σ6, H6, S6, q6⟩ := hsp
            exact end_ S6 fun s7 J7 => ⟨_, _, J7, q6⟩
          | cont =>
            obtain ⟨σ6, H6, S6, q6⟩ := hsp
            exact end_ S6 fun s7 J7 => ⟨_, _, J7, q6⟩
          | ret u =>
            obtain ⟨v6, σ6, H6, S6, r6, q6⟩ := hsp
            exact end_ S6 fun s7 J7 => ⟨_, _, _, J7, r6, q6⟩
        | false =>
          show wpAny _ X.A (handleBy (.ref a) X.env hds2) _ _ _
          exact ih (hno rfl)
    exact go hh w
  · cases f with
    | next =>
      obtain ⟨σ', H', J', q⟩ := hsp
      exact wpAny_execs_nil ⟨σ', H', J'.ofTry ok, q⟩
    | brk =>
      obtain ⟨σ', H', J', q⟩ := hsp
      exact ⟨σ', H', J'.ofTry ok, q⟩
    | cont =>
      obtain ⟨σ', H', J', q⟩ := hsp
      exact ⟨σ', H', J'.ofTry ok, q⟩
    | ret u =>
      obtain ⟨v, σ', H', J', r, q⟩ := hsp
      exact ⟨v, σ', H', J'.ofTry ok, r, q⟩
end Hl
namespace Hl
open PySem L2
open PyProof.Rows hiding St
section
variable {B : Bx} {X : Cx} {e a b c o : Expr} {es rest : List Expr} {kw : Keyword} {kws : List Keyword} {st : Stmt} {sts body suite : List Stmt} {δ δ' : Env'} {M : Mem} {Φ : D → Mem → Prop} {Ψ : DEnds} {pos pos' apos pp np : Pos} {d x y : D} {ΦL : List D → Mem → Prop}
/-! ### try, by data -/
/-- a handler, by data: its class, its slot, its suite -/
abbrev HdD := Addr × Option Nat × List Stmt
def endsD (oi : Option Nat) (Ψ : DEnds) : DEnds := match oi with
  | none => Ψ
  | some i => { nx := fun δ M => Ψ.nx (δ.set i none) M, rt := Ψ.rt, bk := fun δ M => Ψ.bk (δ.set i none) M, ct := fun δ M => Ψ.ct (δ.set i none) M }
def envD (oi : Option Nat) (δ : Env') (d : D) : Env' := match oi with
  | none => δ
  | some i => δ.set i (some d)
def exH (B : Bx) (X : Cx) (Ψ : DEnds) : List HdD → Addr → List Str → List D → Env' → Mem → Prop
  | [] => B.ex
  | (c0, oi, suite) :: r => fun C ns ds δ M => ∃ b, PySem.W.exmOne X.K (.ref C) (.ref c0) = some b ∧ (b = true → ∀ a pn kp, DSs ⟨kp, fun _ _ _ _ _ => False⟩ (X.suite a pn) suite (envD oi δ (.exn C ns ds)) M (endsD oi Ψ)) ∧ (b = false → exH B X Ψ r C ns ds δ M)
def HdsOkD (X : Cx) : List ExceptHandler → List HdD → Prop
  | [], [] => True
  | .ExceptHandler (some (.Name x _)) n (b₀ :: su) _ :: hds, (c0, oi, suite) :: l => (Gl X x ∧ (x == ("__debug__" : Str)) = false ∧ X.mg x = some (.ref c0)) ∧ suite = b₀ :: su ∧ (match n, oi with
      | none, none => True
      | some n, some i => X.N[i]? = some n ∧ X.env.kindOf n = some .local
      | _, _ => False) ∧ HdsOkD X hds l
  | _, _ => False
def tsSu (X : Cx) (suite : List Stmt) : TS := fun D σ H => ∀ a pn, tSs (X.suite a pn) suite D σ H
def toHd (X : Cx) (l : List HdD) : List Hd1 := l.map fun h => (.ref h.1, h.2.1, tsSu X h.2.2)
theorem hds_of : ∀ {hds : List ExceptHandler} {l : List HdD}, HdsOkD X hds l → HdsX X hds (toHd X l)
  | [], [], _ => .nil
  | .ExceptHandler (some (.Name x _)) none (b₀ :: su) _ :: hds, (c0, none, suite) :: l, ⟨⟨h1, h2, h3⟩, e, _, r⟩ => by
    subst e
    exact .cons ⟨h1, h2, .inl h3⟩ (fun a pn => ⟨fun pins s σ H D I h => cSs.run pins s σ H D I (h a pn)⟩) (hds_of r)
  | .ExceptHandler (some (.Name x _)) (some n) (b₀ :: su) _ :: hds, (c0, some i, suite) :: l, ⟨⟨h1, h2, h3⟩, e, ⟨h4, h5⟩, r⟩ => by
    subst e
    exact .consAs ⟨h1, h2, .inl h3⟩ h4 h5 (fun a pn => ⟨fun pins s σ H D I h => cSs.run pins s σ H D I (h a pn)⟩) (hds_of r)
  | .ExceptHandler (some (.Name x _)) none (b₀ :: su) _ :: hds, (c0, some i, suite) :: l, ⟨_, _, h, _⟩ => h.elim
  | .ExceptHandler (some (.Name x _)) (some n) (b₀ :: su) _ :: hds, (c0, none, suite) :: l, ⟨_, _, h, _⟩ => h.elim
theorem ends_as {κ : List (V × D)} {E : Ends} {i : Nat} (k : EndsOk κ Ψ E) : EndsOk κ (endsD (some i) Ψ) (endsAs i E) :=
  ⟨fun δ M σ H q R => k.nx _ M _ H q (R.wipe1 i none), k.rt, fun δ M σ H q R => k.bk _ M _ H q (R.wipe1 i none), fun δ M σ H q R => k.ct _ M _ H q (R.wipe1 i none)⟩
theorem wish_hds {κ κ' : List (V × D)} {E : Ends} {C : Addr} {ns : List Str} {ds : List D} {M : Mem} {σ : St} {H : Hp} {dx : Option Addr} (hbk : ∀ q ∈ B.ps, q ∈ κ) (hk : ∀ q ∈ κ, q ∈ κ') (k : EndsOk κ Ψ E) (R : Rs κ' δ M σ H) (xr : XRep M.F H dx ns ds) :
    ∀ {l : List HdD}, exH B X Ψ l C ns ds δ M → wHds X.K (wishX B) E (toHd X l) (.ref C) dx σ H
  | [], h => ⟨C, ns, ds, δ, M, κ', rfl, h, fun q hq => hk q (hbk q hq), R, xr⟩
  | (c0, none, suite) :: l, ⟨b, h1, h2, h3⟩ => by
    refine ⟨b, h1, fun eb a na a' pn => ?_, fun eb => wish_hds hbk hk k R xr (h3 eb)⟩
    exact h2 eb a' pn κ κ' σ _ E hk (R.new na) (k.sub hk)
  | (c0, some i, suite) :: l, ⟨b, h1, h2, h3⟩ => by
    refine ⟨b, h1, fun eb a na a' pn => ?_, fun eb => wish_hds hbk hk k R xr (h3 eb)⟩
    exact h2 eb a' pn κ κ' _ _ _ hk ((R.new na).put i (xr.held (R.fresh na) na)) (ends_as (k.sub hk))
/-- try: body / except ..: .. -/
theorem ds_try {h₀ : ExceptHandler} {hds : List ExceptHandler} (l : List HdD) (hst : X.stack = X.env :: X.outer) (hfr : X.env.frame = some X.env.locals) (nd : X.N.Nodup) (tk : Tks X B) (hok : HdsOkD X (h₀ :: hds) l)
    (h : ∀ pn xe kp, PassesOwn (model X.prog X.w) X.A X.env xe → Tks (X.tr pn xe) ⟨kp, exH B X Ψ l⟩ → DSs ⟨kp, exH B X Ψ l⟩ (X.tr pn xe) body δ M Ψ) : DS B X (.Try body (h₀ :: hds) [] [] pos) δ M Ψ := by
  refine .of (ps_tryX (tb := fun W D σ H => ∀ pn xe, Takes (X.tr pn xe) W → PassesOwn (model X.prog X.w) X.A X.env xe → tSs (X.tr pn xe) body D σ H) hst hfr nd tk (fun W pn xe tk' po => ⟨fun pins s σ H D I h => cSs.run pins s σ H D I (h pn xe tk' po)⟩) (hds_of hok)) fun κ σ H E hb R k => ?_
  intro pn xe tk' po
  refine h pn xe κ po (Takes.imp tk' fun cls dx σ' H' hw => ?_) κ σ H E (fun _ h => h) R k
  obtain ⟨C, ns, ds, δ', M', κ', rfl, hx, hb', R', xr⟩ := hw
  exact wish_hds hb hb' k R' xr hx
/-! ### raise -/
/-- an own exception class without an own __init__ -/
structure Ex0 (K : PySem.W.Frag) (mg : Str → Option Value) (x : Str) (C : Addr) : Prop where
  gC : mg x = some (.ref C)
  q : PySem.W.excIn K C [.type "ValueError", .type "Exception", .type "BaseException", .type "object"] "ValueError.__new__" = true
  kC : PySem.W.keepIn K (.ref C) = true
  sub : PySem.W.subIn K (.ref C) (.type "BaseException") = some true
  ty : PySem.W.typeIn K (.ref C) = some (.type "type")
theorem pmk_own0 {C : Addr} {x : Str} {p : Pos} (T : Ex0 X.K X.mg x C) (hg : Gl X x) (hdb : (x == ("__debug__" : Str)) = false := by decide) : PMk X (.Call (.Name x p) [] [] pos) (fun σ H Q => Q (.ref C) none H) := by
  intro pins s σ H Q I h
  refine wpAny_Call_Name_kw (ld_glob I hg T.gC ?_ hdb)
  refine PySem.W.callWith_K0 I.kIn T.kC ?_
  show wpAny _ _ (call (.ref C) []) _ _ _
  obtain ⟨bm, N, nm, qn, bs, hdct, sn, sub, ab, col, dd, k0, k1, k2, k3, k5, mN, hC, hN, hni, T'⟩ := exc_obj I.kIn T.q
  refine wpAny_call_exc_subT PySem.F.excBase_ValueError T' hC hN hni (fun h' e hm => ?_) (by show 0 ≤ sizeLine; exact Nat.zero_le _)
  exact mk_of I hm (raises_own T.sub T.ty) h (I.hok.gone hm.new)
theorem ds_raise0 {C : Addr} {x : Str} {p : Pos} {n : Nat} (z : Cz X n) (tk : Tks X B) (T : Ex0 X.K X.mg x C) (hg : Gl X x) (h : B.ex C [] [] δ M) (hdb : (x == ("__debug__" : Str)) = false := by decide) : DS B X (.Raise (some (.Call (.Name x p) [] [] pos)) none pos') δ M Ψ :=
  .of (ps_raise z.calm tk (pmk_own0 T hg hdb)) fun κ σ H E hb R k => ⟨C, [], [], δ, M, κ, rfl, h, hb, R, .inl ⟨rfl, rfl, rfl⟩⟩
theorem ds_raise {C : Addr} {x : Str} {p : Pos} {n : Nat} (z : Cz X n) (tk : Tks X B) (T : Ex0 X.K X.mg x C) (hg : Gl X x) (h : DA B X (e :: es) δ M fun ds M' => ds.length ≤ sizeLine ∧ B.ex C [] [] δ M')
    (hdb : (x == ("__debug__" : Str)) = false := by decide) (he : starEach (e :: es) X.env = (false, eval e X.env) :: starEach es X.env := by rfl) (hpl : (backTo pos (starEach es X.env)).any (·.1) = false := by rfl) : DS B X (.Raise (some (.Call (.Name x p) (e :: es) [] pos)) none pos') δ M Ψ :=
  .of (ps_raise z.calm tk (pmk_ownA PySem.F.excBase_ValueError T.q T.gC T.kC (raises_own T.sub T.ty) hg cA hdb he hpl)) fun κ σ H E hb R k => h κ σ H _ hb R fun vs ds M1 H1 ⟨hl, q⟩ R1 r1 =>
    ⟨by rw [r1.length]; exact hl, C, [], [], δ, M1, κ, rfl, q, hb, R1, .inl ⟨rfl, rfl, rfl⟩⟩
/-- the promise of an exception's __init__: the fields are set, one by one -/
def spXI (C : Addr) (ns : List Str) : Sp := fun vs H Q _ => ∃ a args, vs = .ref a :: args ∧ args.length = ns.length ∧ H a = some (exo a C none) ∧
  ∀ dx H', H dx = none → dx ≠ a → H' a = some (exo a C (some dx)) → H' dx = some (exd dx (ns.reverse.zip args.reverse)) → (∀ b, b ≠ a → b ≠ dx → H' b = H b) → Q .non H'
/-- an own exception class whose __init__ keeps its arguments -/
structure ExI (P : Program) (w : World) (K : PySem.W.Frag) (mg : Str → Option Value) (base : Heap) (x : Str) (C : Addr) (ns : List Str) : Prop where
  gC : mg x = some (.ref C)
  T : OexC K C
  ex : ∃ fI fd ps, PySem.W.findIn K (.ref C) "__init__" = some (some (.ref fI)) ∧ PySem.W.typeIn K (.ref fI) = some (.type "function") ∧ Binds K fd ps [] ∧ FnOk P w K mg base CX0 1 fI fd ps (spXI C ns)
theorem zip_rev {α β : Type} : ∀ {xs : List α} {ys : List β}, xs.length = ys.length → xs.reverse.length = ys.reverse.length := by
  intro xs ys h
  rw [List.length_reverse, List.length_reverse, h]
theorem Reps.reverse {F : List Addr} {H : Hp} : ∀ {vs : List V} {ds : List D}, Reps F H vs ds → Reps F H vs.reverse ds.reverse
  | _, _, .nil => .nil
  | _, _, .cons r t => by
    rw [List.reverse_cons, List.reverse_cons]
    exact (Reps.reverse t).append (.cons r .nil)
theorem ds_raiseI {C : Addr} {x : Str} {p : Pos} {n : Nat} {ns : List Str} (z : Cz X n) (hn : 2 ≤ n) (tk : Tks X B) (T : ExI X.prog X.w X.K X.mg X.base x C ns) (hg : Gl X x) (h : DA B X (e :: es) δ M fun ds M' => ds.length = ns.length ∧ ds.length ≤ 1000 ∧ B.ex C ns.reverse ds.reverse δ M')
    (hdb : (x == ("__debug__" : Str)) = false := by decide) (he : starEach (e :: es) X.env = (false, eval e X.env) :: starEach es X.env := by rfl) (hpl : (backTo pos (starEach es X.env)).any (·.1) = false := by rfl) : DS B X (.Raise (some (.Call (.Name x p) (e :: es) [] pos)) none pos') δ M Ψ := by
  obtain ⟨fI, fd, ps, h1, h2, h3, h4⟩ := T.ex
  refine .of (ps_raise z.calm tk (pmk_oex T.T h1 h2 h4 (z.room.mono hn) h3 .nil pass0 hg T.gC cA hdb he hpl)) fun κ σ H E hb R k => h κ σ H _ hb R fun vs ds M1 H1 ⟨hl, hl2, q⟩ R1 r1 => ?_
  refine ⟨by rw [r1.length]; exact hl2, fun a na => ⟨a, vs, by rw [List.append_nil], by rw [r1.length]; exact hl, upd_same, fun dx H' n1 n2 e1 e2 e3 => ?_⟩⟩
  have ndx : H1 dx = none := by rw [upd_ne n2] at n1; exact n1
  refine ⟨rfl, dx, _, e1, e2, ndx, ?_⟩
  have eq : upd (del H' a) dx (.xd (ns.reverse.zip vs.reverse)) = upd H1 dx (.xd (ns.reverse.zip vs.reverse)) := by
    funext b
    by_cases hb : b = dx
    · subst hb; rw [upd_same, upd_same]
    · rw [upd_ne hb, upd_ne hb]
      by_cases ha : b = a
      · subst ha; rw [del_same, na]
      · rw [del_ne ha, e3 b ha hb, upd_ne ha]
  rw [eq]
  exact ⟨C, ns.reverse, ds.reverse, δ, M1, κ, rfl, q, hb, R1.new ndx, .inr ⟨dx, vs.reverse, rfl, R1.fresh ndx, upd_same, by rw [List.length_reverse, List.length_reverse, r1.length, hl], (Reps.reverse r1).fwd (Fwd.new ndx)⟩⟩
/-! ### fields -/
structure FldP (K : PySem.W.Frag) (C : Addr) (f : Str) : Prop where
  c : Cls K C
  n : NoAttr K C f
structure XfP (K : PySem.W.Frag) (C : Addr) (f : Str) : Prop where
  ga : PySem.W.findIn K (.ref C) "__getattribute__" = some (some (.builtin "BaseException.__getattribute__"))
  gg : PySem.W.findIn K (.ref C) "__getattr__" = some none
  exC : PySem.W.subIn K (.ref C) (.type "BaseException") = some true
  hdC : PySem.W.hasDictIn K C = true
  no : PySem.W.findIn K (.ref C) f = some none
def tFldU (K : PySem.W.Frag) (ta : TE) (f : Str) : TE := fun σ H Q => ta σ H fun x H1 => (∃ a C dx fs v, x = .ref a ∧ H1 a = some (.ins C dx fs) ∧ FldP K C f ∧ fs.lookup f = some v ∧ Q v H1) ∨
  ∃ a C d fs v, x = .ref a ∧ H1 a = some (XO (.ref C) (some d) a) ∧ H1 d = some (.xd fs) ∧ XfP K C f ∧ fs.lookup f = some v ∧ Q v H1
theorem pe_fldU {f : Str} {ta : TE} (he : PE X e ta) (hb : attributeBase e f X.env (eval e X.env) = eval e X.env) : PE X (.Attribute e f pos) (tFldU X.K ta f) := by
  refine ⟨fun pins s σ H Q I h => ?_⟩
  refine attr_of hb (thn (he.run pins s σ H _ I h) fun u s1 ⟨x, H1, I1, rx, q⟩ => ?_)
  rcases q with ⟨a, C, dx, fs, v, ex, ea, ff, l, q⟩ | ⟨a, C, dd, fs, v, ex, ea, ed, T, l, q⟩
  · subst ex
    obtain rfl : u = Value.ref a := rx
    exact getattr_ok I1 ea ff.c ff.n l fun u' s2 I2 ru => ⟨v, H1, I2, ru, q⟩
  · subst ex
    obtain rfl : u = Value.ref a := rx
    obtain ⟨⟨oe, vs, ha, hz, hd⟩, _, _⟩ := I1.hok a _ ea
    have hx : ObjOk X.prog X.w H1 s1.heap dd (.xd fs) := I1.hok dd _ ed
    obtain ⟨mA, hns, hr⟩ := hx
    obtain ⟨od, ho, hl⟩ := lookIn_ns hns
    obtain ⟨u, hu, ru⟩ := RelO.some_of (v := v) (o := mA f) (by rw [← l]; exact hr f)
    have J : PySem.W.InstAt s1.heap a oe C (some od) := ⟨ha, hz.1, by unfold PySem.W.notCls; rw [hd] <;> rfl, by rw [hz.2]; exact ho⟩
    exact HandSPX.exc_get I1.kIn J T.ga T.gg T.exC (PySem.W.findObj_own T.hdC T.no rfl (by rw [hl, hu])) (handed_of ru) ⟨v, H1, I1.tok _, ru, q⟩
theorem reps_lookup {F : List Addr} {H : Hp} {f : Str} : ∀ {ns : List Str} {vs : List V} {ds : List D} {d : D}, Reps F H vs ds → (ns.zip ds).lookup f = some d → ∃ v, (ns.zip vs).lookup f = some v ∧ Rep F H v d
  | [], _, _, _, _, h => by simp at h
  | _ :: _, _, _, _, .nil, h => by simp at h
  | n :: ns, v :: vs, d0 :: ds, d, .cons r t, h => by
    rw [List.zip_cons_cons, List.lookup_cons] at h
    rw [List.zip_cons_cons, List.lookup_cons]
    cases e : f == n with
    | true => rw [e] at h; cases h; exact ⟨v, rfl, r⟩
    | false => rw [e] at h; exact reps_lookup t h
/-- a field of data -/
def FldD (K : PySem.W.Frag) (f : Str) (x : D) (M : Mem) (Φ : D → Mem → Prop) : Prop := (∃ C ns fs d, IsO M x C ns fs ∧ FldP K C f ∧ (ns.zip fs).lookup f = some d ∧ Φ d M) ∨ ∃ C ns fs d, x = .exn C ns fs ∧ XfP K C f ∧ (ns.zip fs).lookup f = some d ∧ Φ d M
theorem de_fld {f : Str} (h : DE B X o δ M fun x M1 => FldD X.K f x M1 Φ) (hb : attributeBase o f X.env (eval o X.env) = eval o X.env := by rfl) : DE B X (.Attribute o f pos) δ M Φ :=
  .of (pe_fldU cE hb) fun κ σ H Q hb R k => h κ σ H _ hb R fun v x M1 H1 q R1 r1 => by
    rcases q with ⟨C, ns, fs, d, io, ff, l, q⟩ | ⟨C, ns, fs, d, ex, T, l, q⟩
    · obtain ⟨a, dx, vs, rfl, ea, hl, rr⟩ := io.sq R1 r1
      obtain ⟨v, l2, rv⟩ := reps_lookup rr l
      exact .inl ⟨a, C, dx, _, v, rfl, ea, ff, l2, k _ _ _ _ q R1 rv⟩
    · subst ex
      cases r1 with
      | exn0 h1 e1 => simp at l
      | exn h1 e1 h2 e2 hl rr =>
        obtain ⟨v, l2, rv⟩ := reps_lookup rr l
        exact .inr ⟨_, C, _, _, v, rfl, e1, e2, T, l2, k _ _ _ _ q R1 rv⟩
theorem fld_v {K : PySem.W.Frag} {f : Str} {C : Addr} {ns : List Str} {fs : List D} (ff : FldP K C f) (l : (ns.zip fs).lookup f = some d) (k : Φ d M) : FldD K f (.obj C ns fs) M Φ := .inl ⟨C, ns, fs, d, .val _ _ _, ff, l, k⟩
theorem fld_c {K : PySem.W.Frag} {f : Str} {C p : Addr} {ns : List Str} {fs : List D} (j : Nat) (hm : M[j]? = some (p, .obj C ns fs)) (ff : FldP K C f) (l : (ns.zip fs).lookup f = some d) (k : Φ d M) : FldD K f (.raw (.ref p)) M Φ := .inl ⟨C, ns, fs, d, .cell j hm, ff, l, k⟩
theorem fld_x {K : PySem.W.Frag} {f : Str} {C : Addr} {ns : List Str} {fs : List D} (T : XfP K C f) (l : (ns.zip fs).lookup f = some d) (k : Φ d M) : FldD K f (.exn C ns fs) M Φ := .inr ⟨C, ns, fs, d, rfl, T, l, k⟩
/-- a field is set -/
def putN (f : Str) (d : D) : List Str → List D → List Str × List D
  | n :: ns, x :: ds => if n = f then (n :: ns, d :: ds) else (n :: (putN f d ns ds).1, x :: (putN f d ns ds).2)
  | _, _ => ([f], [d])
theorem putN_rep {F : List Addr} {H : Hp} {f : Str} {v : V} {d : D} (rv : Rep F H v d) : ∀ {ns : List Str} {vs : List V} {ds : List D}, ns.length = vs.length → Reps F H vs ds → ∃ vs', putF f v (ns.zip vs) = (putN f d ns ds).1.zip vs' ∧ (putN f d ns ds).1.length = vs'.length ∧ Reps F H vs' (putN f d ns ds).2
  | [], [], _, _, .nil => ⟨[v], rfl, rfl, .cons rv .nil⟩
  | [], _ :: _, _, h, _ => by cases h
  | _ :: _, [], _, h, _ => by cases h
  | n :: ns, w :: vs, x :: ds, h, .cons r t => by
    unfold putN
    rw [List.zip_cons_cons]
    unfold putF
    by_cases e : n = f
    · rw [if_pos e, if_pos e]
      exact ⟨v :: vs, rfl, h, .cons rv t⟩
    · rw [if_neg e, if_neg e]
      obtain ⟨vs', h1, h2, h3⟩ := putN_rep (f := f) rv (ns := ns) (vs := vs) (ds := ds) (by simpa using h) t
      exact ⟨w :: vs', by rw [h1]; rfl, by simp [h2], .cons r h3⟩
theorem ds_fld {f : Str} (h : DE B X e δ M fun d M1 => DE B X o δ M1 fun x M2 => ∃ j p C ns fs, x = .raw (.ref p) ∧ M2[j]? = some (p, .obj C ns fs) ∧ FldP X.K C f ∧ ns.length < 1000 ∧ Ψ.nx δ (M2.set j (p, .obj C (putN f d ns fs).1 (putN f d ns fs).2)))
    (hs : swapsWith e (some (.Attribute o f pos')) pos.line X.env = pure false := by rfl) : DS B X (.Assign [.Attribute o f pos'] e pos) δ M Ψ :=
  .of (ps_fld cE cE hs) fun κ σ H E hb R k => h κ σ H _ hb R fun v d M1 H1 q1 R1 r1 => q1 ((v, d) :: κ) σ H1 _ (fun q hq => List.mem_cons_of_mem _ (hb q hq)) (R1.push r1) fun w x M2 H2 ⟨j, p, C, ns, fs, ex, hm, ff, hl, q⟩ R2 r2 => by
    subst ex
    cases r2
    obtain ⟨dx, vs, e1, l1, rr⟩ := R2.at hm
    obtain ⟨vs', h1, h2, h3⟩ := putN_rep (f := f) R2.top l1 rr
    refine ⟨p, C, dx, _, rfl, e1, ff.c, ff.n, by simp [l1]; omega, k.nx _ _ _ _ q ?_⟩
    have hp : ∀ x, x ∉ M2.F → upd H2 p (.ins C dx (putF f v (ns.zip vs))) x = H2 x := fun x hx => upd_ne fun z => hx (z ▸ R2.mem hm p (by simp [own]))
    exact R2.pop.cell hm rfl (fun x hx => upd_ne (by simpa [own] using hx)) ⟨dx, vs', by rw [upd_same, h1], h2, h3.fwd (Fwd.same hp)⟩
/-! ### isinstance of exceptions and own things -/
structure ExcP (K : PySem.W.Frag) (C : Addr) : Prop where
  cl : (PySem.W.clsIn K C).isSome = true
  ga : PySem.W.findIn K (.ref C) "__getattribute__" = some (some (.builtin "BaseException.__getattribute__"))
  gg : PySem.W.findIn K (.ref C) "__getattr__" = some none
  hs : PySem.W.subIn K (.ref C) (.type "BaseException") = some true
  ha : PySem.W.findIn K (.ref C) "__class__" = some (some (.builtin "object.__class__"))
  hn : PySem.W.specialIn K (.builtin "object.__class__") "__get__" = some (some (.builtin "getset_descriptor.__get__"))
  ht : PySem.W.takesIn K (.builtin "object.__class__") = some true
  hm : PySem.W.mroIn K C (.type "object") = some true
structure InsP (K : PySem.W.Frag) (C : Addr) : Prop where
  cl : Cls K C
  ha : PySem.W.findIn K (.ref C) "__class__" = some (some (.builtin "object.__class__"))
  hn : PySem.W.specialIn K (.builtin "object.__class__") "__get__" = some (some (.builtin "getset_descriptor.__get__"))
  ht : PySem.W.takesIn K (.builtin "object.__class__") = some true
  hm : PySem.W.mroIn K C (.type "object") = some true
def rIsX (K : PySem.W.Frag) : List V → Hp → VK → Prop := fun xs H Q => ∃ (a C : Addr) (dx : Option Addr) (c : V) (u : Value) (b : Bool), xs = [.ref a, c] ∧ ClsV c u ∧ H a = some (XO (.ref C) dx a) ∧ (dx = none ∨ ∃ d fs, dx = some d ∧ H d = some (.xd fs)) ∧ ExcP K C ∧ PySem.W.kitOne K (.ref C) u = some b ∧ Q (.bl b) H
def rIsiU (K : PySem.W.Frag) : List V → Hp → VK → Prop := fun xs H Q => rIsi K xs H Q ∨ rIsX K xs H Q
theorem call_isX : CallR X (.builtin "isinstance") (rIsX X.K) := by
  intro pins s σ H xs us Q I r h
  obtain ⟨a, C, dx, c, u, b, rfl, k, ea, hd, T, e, q⟩ := h
  cases r with
  | cons rx rr =>
    cases rr with
    | cons rt rr =>
      cases rr
      cases rx
      have ec := k.eq rt
      subst ec
      obtain ⟨⟨oe, vs, ha, hz, hdt⟩, _, _⟩ := I.hok a _ ea
      have J : ∃ od, PySem.W.InstAt s.heap a oe C od := by
        rcases hd with rfl | ⟨d, fs, rfl, ed⟩
        · exact ⟨none, ha, hz.1, by unfold PySem.W.notCls; rw [hdt] <;> rfl, by rw [hz.2]; trivial⟩
        · have hx : ObjOk X.prog X.w H s.heap d (.xd fs) := I.hok d _ ed
          obtain ⟨mA, hns, hr⟩ := hx
          obtain ⟨od, ho, hl⟩ := lookIn_ns hns
          exact ⟨some od, ha, hz.1, by unfold PySem.W.notCls; rw [hdt] <;> rfl, by rw [hz.2]; exact ho⟩
      obtain ⟨od, J⟩ := J
      exact PySem.W.kia_one (PySem.W.kitx_exc T.cl T.ga T.gg T.hs T.ha T.hn T.ht T.hm) I.kIn J e (fun z => nomatch z) fun tk => ⟨.bl b, H, I.kept (t' := tk) fun _ _ z => z, rfl, q⟩
theorem de_isiU {p : Pos} (g : Gn X "isinstance") (h : DA B X [a, b] δ M fun ds M1 => CallD (rIsiU X.K) ds M1 Φ) (he : starEach [a, b] X.env = (false, eval a X.env) :: starEach [b] X.env := by rfl) (hpl : (backTo pos (starEach [b] X.env)).any (·.1) = false := by rfl) : DE B X (.Call (.Name "isinstance" p) [a, b] [] pos) δ M Φ := de_blt (call_isi.or call_isX) g boot_isinstance h (by decide) (by decide) he hpl
theorem ClsD {c : V} {F : List Addr} {H : Hp} {v : V} (r : Rep F H v (.raw c)) : v = c := by cases r; rfl
theorem isx_x {K : PySem.W.Frag} {C : Addr} {ns : List Str} {fs : List D} {c : V} {u : Value} {b : Bool} (T : ExcP K C) (hc : ClsV c u) (hk : PySem.W.kitOne K (.ref C) u = some b) (k : Φ (.bl b) M) : CallD (rIsiU K) [.exn C ns fs, .raw c] M Φ := .inr fun κ δ σ H vs Q R rs f => by
  cases rs with
  | cons r1 r2 =>
    cases r2 with
    | cons r2 r3 =>
      cases r3
      have := ClsD r2
      subst this
      cases r1 with
      | exn0 h1 e1 => exact ⟨_, C, none, _, u, b, rfl, hc, e1, .inl rfl, T, hk, f _ _ _ _ k R (.bl _)⟩
      | exn h1 e1 h2 e2 hl rr => exact ⟨_, C, _, _, u, b, rfl, hc, e1, .inr ⟨_, _, rfl, e2⟩, T, hk, f _ _ _ _ k R (.bl _)⟩
theorem isx_o {K : PySem.W.Frag} {C : Addr} {ns : List Str} {fs : List D} {c : V} {u : Value} {b : Bool} (h : IsO M x C ns fs) (T : InsP K C) (hc : ClsV c u) (hk : PySem.W.kitOne K (.ref C) u = some b) (k : Φ (.bl b) M) : CallD (rIsiU K) [x, .raw c] M Φ := .inl fun κ δ σ H vs Q R rs f => by
  cases rs with
  | cons r1 r2 =>
    cases r2 with
    | cons r2 r3 =>
      cases r3
      have := ClsD r2
      subst this
      obtain ⟨p, dx, vs, rfl, ea, hl, rr⟩ := h.sq R r1
      exact ⟨_, _, .ref C, u, b, rfl, hc, .base (.ins ea T.cl T.ha T.hn T.ht T.hm), hk, f _ _ _ _ k R (.bl _)⟩
/-- a plain thing and an own class -/
theorem isx_b {K : PySem.W.Frag} {S : String} {c : V} {u : Value} {b : Bool} (hx : tyD x = some S) (hc : ClsV c u) (hk : PySem.W.kitOne K (.type S) u = some b) (k : Φ (.bl b) M) : CallD (rIsiU K) [x, .raw c] M Φ := .inl fun κ δ σ H vs Q R rs f => by
  cases rs with
  | cons r1 r2 =>
    cases r2 with
    | cons r2 r3 =>
      cases r3
      have := ClsD r2
      subst this
      refine ⟨_, _, .type S, u, b, rfl, hc, ?_, hk, f _ _ _ _ k R (.bl _)⟩
      cases r1 with
      | non => cases hx; exact .base .non
      | bl b => cases hx; exact .base (.bl b)
      | int i => cases hx; exact .base (.int i)
      | str i => cases hx; exact .base (.str i)
      | lst h1 e1 _ => cases hx; exact .base (.lst e1)
      | tup h1 e1 _ => cases hx; exact .base (.tup e1)
      | obj _ _ _ _ => cases hx
      | raw _ => cases hx
      | scrH _ _ => cases hx
      | scrK _ => cases hx
      | exn0 _ _ => cases hx
      | exn _ _ _ _ _ _ => cases hx
/-- an own class as a value -/
theorem de_gcls {x : Str} {C : Addr} (hg : Gl X x) (hm : X.mg x = some (.ref C)) (k : Φ (.raw (.ref C)) M) (hd : (x == ("__debug__" : Str)) = false := by decide) : DE B X (.Name x pos) δ M Φ := de_glob (v := .ref C) ⟨hg, ⟨_, hm, rfl⟩, hd⟩ (fun _ _ => .raw _) k
end
end Hl
namespace Hl
open PySem L2
open PyProof.Rows hiding St
/-! ### a def as it stands, with or without defaults -/
structure FunG (K : PySem.W.Frag) (x qual : Str) (st : Stmt) (f : Addr) (fd : FuncData) : Prop where
  ex : ∃ (oc : Value) (od : Option Addr) (dV kV doc pm : Value) (an : Option Addr) (cdv ct : Value) (osl : Array (Option Value)),
    fd = PySem.W.fnOf x qual (defArgs st) (defBody st) (defScope st) dV kV doc pm an cdv ct ∧ K.lookup f = some ⟨oc, od, .func fd, osl⟩ ∧ PySem.W.codeIn K cdv qual = true
theorem fung_mk {K : PySem.W.Frag} {x qual : Str} {st : Stmt} {f : Addr} {oc : Value} {od an : Option Addr} {osl : Array (Option Value)} {dV kV doc pm cdv ct : Value} (l : K.lookup f = some ⟨oc, od, .func (PySem.W.fnOf x qual (defArgs st) (defBody st) (defScope st) dV kV doc pm an cdv ct), osl⟩)
    (c : PySem.W.codeIn K cdv qual = true) : FunG K x qual st f (PySem.W.fnOf x qual (defArgs st) (defBody st) (defScope st) dV kV doc pm an cdv ct) := ⟨oc, od, dV, kV, doc, pm, an, cdv, ct, osl, rfl, l, c⟩
theorem fnokG_of {P : Program} {w : World} {K : PySem.W.Frag} {mg : Str → Option Value} {base : Heap} {x qual : Str} {st : Stmt} {f : Addr} {fd : FuncData} {N ps : List Str} {k : Nat} {p : DSpE} (F : FunG K x qual st f fd) (S : FnScope N ps (defScope st))
    (len : ∀ ds M Φ Ξ, p ds M Φ Ξ → ds.length = ps.length)
    (h : ∀ X kp ds M Φ Ξ, p ds M Φ Ξ → InDefE P w K mg base N (defScope st) k X ⟨kp, fun C ns es _ M' => ∃ es2 M2, VwX ns es M' es2 M2 ∧ Ξ C ns es2 M2⟩ → DSs ⟨kp, fun C ns es _ M' => ∃ es2 M2, VwX ns es M' es2 M2 ∧ Ξ C ns es2 M2⟩ X (defBody st) (startD N.length ds) M { nx := fun _ M' => ∃ d2 M2, Vw .non M' d2 M2 ∧ Φ d2 M2, rt := fun d M' => ∃ d2 M2, Vw d M' d2 M2 ∧ Φ d2 M2 }) : FnOk P w K mg base (L2.CX P w) (k + 1) f fd ps (liftE p) := by
  obtain ⟨oc, od, dV, kV, doc, pm, an, cdv, ct, osl, rfl, lk, hcd⟩ := F.ex
  refine fn_of lk hcd S (fun vs H Q E hl => ?_) fun A outer s H vs Q E hr hl => ?_
  · obtain ⟨κ, ds, M, Φ, Ξ, R, r, q, _⟩ := hl
    rw [r.length]; exact len ds M Φ Ξ q
  · obtain ⟨κ, ds, M, Φ, Ξ, R, r, q, kk, kx⟩ := hl
    refine ⟨_, cSs, ?_⟩
    refine h _ κ ds M Φ Ξ q ⟨rfl, rfl, rfl, rfl, rfl, rfl, rfl, rfl, ⟨S.nd, rfl, hr⟩, PassesOwn.leaving, ?_, rfl, rfl⟩ κ _ H _ (fun _ h => h) (start_rs R r) ⟨fun δ M' σ H' ⟨d2, M2, h1, h2⟩ R' => ?_, fun v d M' δ σ H' ⟨d2, M2, h1, h2⟩ R' r' => ?_, fun _ _ _ _ z => z.elim, fun _ _ _ _ z => z.elim⟩
    · refine Takes.imp (takes_of (E := E) rfl rfl rfl rfl) fun cls dx σ H' hw => ?_
      obtain ⟨C, ns, es, δ, M', κ', rfl, ⟨es2, M2, hv, hX⟩, hb, R', x'⟩ := hw
      obtain ⟨R2, x2⟩ := hv κ' δ σ H' dx R' x'
      exact kx C ns es2 M2 H' dx hX ⟨fun q hq => R2.kp q (hb q hq), .nil, R2.cl, R2.nd⟩ x2
    · obtain ⟨R2, r2⟩ := h1 _ _ _ _ _ R' .non
      exact kk .non d2 M2 H' h2 ⟨R2.kp, .nil, R2.cl, R2.nd⟩ r2
    · obtain ⟨R2, r2⟩ := h1 _ _ _ _ _ R' r'
      exact kk v d2 M2 H' h2 ⟨R2.kp, .nil, R2.cl, R2.nd⟩ r2
/-! facts within a comprehension's block -/
section
variable {X X' : Cx} {scope : Scope} {k : Nat} {x f : Str} {n : Nat} {ks : List Str} {sel : Sel} {p : DSpE} {C : Addr}
theorem Bk.dE (h : Bk X X' scope) (d : DefEX X k x n ks sel p) : DefEX X' k x n ks sel p := by unfold DefEX; rw [h.prog, h.wd, h.K, h.mg, h.base]; exact d
theorem Bk.mE (h : Bk X X' scope) (d : MethEX X k C x n ks sel p) : MethEX X' k C x n ks sel p := by unfold MethEX; rw [h.prog, h.wd, h.K, h.mg, h.base]; exact d
theorem Bk.kE (h : Bk X X' scope) (d : MakeEX X k x C n ks sel p) : MakeEX X' k x C n ks sel p := by unfold MakeEX; rw [h.prog, h.wd, h.K, h.mg, h.base]; exact d
theorem Bk.fld (h : Bk X X' scope) (d : FldP X.K C f) : FldP X'.K C f := by rw [h.K]; exact d
theorem Bk.xf (h : Bk X X' scope) (d : XfP X.K C f) : XfP X'.K C f := by rw [h.K]; exact d
theorem Bk.insP (h : Bk X X' scope) (d : InsP X.K C) : InsP X'.K C := by rw [h.K]; exact d
theorem Bk.excP (h : Bk X X' scope) (d : ExcP X.K C) : ExcP X'.K C := by rw [h.K]; exact d
theorem Bk.kit {t u : Value} {b : Bool} (h : Bk X X' scope) (d : PySem.W.kitOne X.K t u = some b) : PySem.W.kitOne X'.K t u = some b := by rw [h.K]; exact d
theorem Bk.mgo {v : Option Value} (h : Bk X X' scope) (d : X.mg x = v) : X'.mg x = v := by rw [h.mg]; exact d
theorem Bk.gcs {sc : Scope} {z : Str} (h : Bk X X' scope) (hs : X.env.scope = sc) (hh : (relS scope sc).names.lookup x = some .globalImplicit) (hm : ∃ t, X.mg x = some (.str z t)) (dbg : (x == ("__debug__" : Str)) = false := by decide) : Gc X' x (.str z) := by
  obtain ⟨t, e⟩ := hm
  exact ⟨h.gl hs hh, ⟨_, by rw [h.mg]; exact e, t, rfl⟩, dbg⟩
theorem Bk.gci {sc : Scope} {z : Int} (h : Bk X X' scope) (hs : X.env.scope = sc) (hh : (relS scope sc).names.lookup x = some .globalImplicit) (hm : ∃ t, X.mg x = some (.int z t)) (dbg : (x == ("__debug__" : Str)) = false := by decide) : Gc X' x (.int z) := by
  obtain ⟨t, e⟩ := hm
  exact ⟨h.gl hs hh, ⟨_, by rw [h.mg]; exact e, t, rfl⟩, dbg⟩
end
/-! ### loops and joins by the slots that change -/
def putAll (δ : Env') : List Nat → List (Option D) → Env'
  | i :: is, v :: vs => putAll (δ.set i v) is vs
  | _, _ => δ
theorem set_self {α : Type} {l : List (Option α)} {i : Nat} : l.set i (l.getD i none) = l := by
  apply List.ext_getElem?
  intro n
  by_cases hn : i = n
  · subst hn
    by_cases hl : i < l.length
    · rw [List.getElem?_set_self hl, List.getD_eq_getElem?_getD, List.getElem?_eq_getElem hl]; rfl
    · rw [List.getElem?_eq_none (by simpa using hl), List.getElem?_eq_none (by simpa using hl)]
  · rw [List.getElem?_set_ne hn]
theorem putAll_self {δ : Env'} : ∀ {cs : List Nat}, putAll δ cs (cs.map fun i => δ.getD i none) = δ
  | [] => rfl
  | c :: cs => by
    show putAll (δ.set c (δ.getD c none)) cs _ = δ
    rw [set_self]; exact putAll_self
section
variable {B : Bx} {X : Cx} {tg iter c : Expr} {st : Stmt} {sts body : List Stmt} {δ : Env'} {M : Mem} {Ψ : DEnds} {pos : Pos}
theorem ds_forC {n : Nat} (cs : List Nat) (z : Cz X n) (hp : PassesOwn (model X.prog X.w) X.A X.env X.xe)
    (h : DI B X tg iter δ M fun xs M' => ∃ Iv : Nat → List (Option D) → Mem → Prop, Iv 0 (cs.map fun i => δ.getD i none) M' ∧
      (∀ i x vs δ1 M1, xs[i]? = some x → Iv i vs M1 → δ1 = putAll δ cs vs → DG B X tg x δ1 M1 fun δ' M' => DSs B X body δ' M' { Ψ with nx := fun δ' M' => ∃ vs', δ' = putAll δ cs vs' ∧ Iv (i + 1) vs' M', ct := fun δ' M' => ∃ vs', δ' = putAll δ cs vs' ∧ Iv (i + 1) vs' M', bk := Ψ.nx }) ∧
      ∀ vs δ1 M1, Iv xs.length vs M1 → δ1 = putAll δ cs vs → Ψ.nx δ1 M1)
    (hs : ∀ x, foldedSetIterable iter X.env x = pure x := by intro _; rfl) : DS B X (.For tg iter body [] pos) δ M Ψ := by
  refine ds_for z hp ?_ hs
  obtain ⟨wi, pi, w⟩ := h
  refine ⟨wi, pi, fun κ σ H R hb Rr k => w κ σ H R hb Rr fun xs M' H' J κ' ⟨Iv, h0, h1, h2⟩ hk R' W => k xs M' H' J κ' ⟨fun i δ1 M1 => ∃ vs, δ1 = putAll δ cs vs ∧ Iv i vs M1, ⟨_, putAll_self.symm, h0⟩, fun i x δ1 M1 hx ⟨vs, e, hv⟩ => h1 i x vs δ1 M1 hx hv e, fun δ1 M1 ⟨vs, e, hv⟩ => h2 vs δ1 M1 hv e⟩ hk R' W⟩
theorem ds_cutC (cs : List Nat) (Mid : List (Option D) → Mem → Prop) (h1 : DS B X st δ M { Ψ with nx := fun δ' M' => ∃ vs, δ' = putAll δ cs vs ∧ Mid vs M' }) (h2 : ∀ vs δ1 M1, Mid vs M1 → δ1 = putAll δ cs vs → DSs B X sts δ1 M1 Ψ) : DSs B X (st :: sts) δ M Ψ :=
  ds_cut (fun δ1 M1 => ∃ vs, δ1 = putAll δ cs vs ∧ Mid vs M1) h1 fun δ1 M1 ⟨vs, e, hv⟩ => h2 vs δ1 M1 hv e
theorem ds_whileC (cs : List Nat) (hp : PassesOwn (model X.prog X.w) X.A X.env X.xe) (Iv : Nat → List (Option D) → Mem → Prop) (h0 : ∃ m, Iv m (cs.map fun i => δ.getD i none) M)
    (h : ∀ m vs δ1 M1, Iv m vs M1 → δ1 = putAll δ cs vs → DT B X c δ1 M1 fun t M2 => Br t (DSs B X body δ1 M2 { Ψ with nx := fun δ' M' => ∃ vs', δ' = putAll δ cs vs' ∧ ∃ m', m' < m ∧ Iv m' vs' M', ct := fun δ' M' => ∃ vs', δ' = putAll δ cs vs' ∧ ∃ m', m' < m ∧ Iv m' vs' M', bk := Ψ.nx }) (Ψ.nx δ1 M2)) : DS B X (.While c body [] pos) δ M Ψ := by
  refine ds_while hp (fun m δ1 M1 => ∃ vs, δ1 = putAll δ cs vs ∧ Iv m vs M1) ?_ fun m δ1 M1 ⟨vs, e, hv⟩ => ?_
  · obtain ⟨m, h0⟩ := h0
    exact ⟨m, _, putAll_self.symm, h0⟩
  · refine (h m vs δ1 M1 hv e).mono fun t M2 q => ⟨fun et => ?_, fun et => q.2 et⟩
    exact (q.1 et).mono (fun δ' M' ⟨vs', e', m', hm, hv'⟩ => ⟨m', hm, vs', e', hv'⟩) (fun _ _ q => q) (fun _ _ q => q) fun δ' M' ⟨vs', e', m', hm, hv'⟩ => ⟨m', hm, vs', e', hv'⟩
end
/-! ### items of typed lists -/
section
variable {K : PySem.W.Frag} {M : Mem} {Φ : D → Mem → Prop} {α : Type} {l : List α} {f : α → D} {i : Int}
theorem od_ixE (h : 0 ≤ i ∧ i < l.length) (k : ∀ y, l[i.toNat]? = some y → Φ (f y) M) : OpD (rIxU K) (.lst (l.map f)) (.int i) M Φ := by
  obtain ⟨y, h1, h2⟩ := at_map (f := f) h.1 h.2
  exact od_ixL h2 (k y h1)
end
end Hl
namespace Hl
open PySem L2
open PyProof.Rows hiding St
section
variable {B : Bx} {X : Cx} {e a b c o : Expr} {es rest : List Expr} {kw : Keyword} {kws : List Keyword} {st : Stmt} {sts body suite : List Stmt} {δ δ' : Env'} {M : Mem} {Φ : D → Mem → Prop} {Ψ : DEnds} {pos pos' apos pp np : Pos} {d x y : D} {ΦL : List D → Mem → Prop}
def selN (n : Nat) : Sel := (List.range n).map .inl
theorem selN_eq {ds : List D} {n : Nat} (h : ds.length = n) : selD (selN n) ds = ds := by
  subst h
  unfold selD selN
  rw [List.map_map]
  apply List.ext_getElem
  · simp
  · intro i h1 h2
    simp [List.getD, h2]
theorem ar_id {k : Nat} {p : DSpE} {ds : List D} {Ξ : XPost} (h : ds.length = k) (q : p ds M Φ Ξ) : ds.length = k ∧ ([] : List D).length = ([] : List Str).length ∧ p (selD (selN k) (ds ++ [])) M Φ Ξ := ⟨h, rfl, by rw [List.append_nil, selN_eq h]; exact q⟩
theorem ar_idM {k : Nat} {p : DSpE} {ds : List D} {Ξ : XPost} (h : ds.length = k) (q : p (x :: ds) M Φ Ξ) : ds.length = k ∧ ([] : List D).length = ([] : List Str).length ∧ p (selD (selN (k + 1)) (x :: ds ++ [])) M Φ Ξ := ⟨h, rfl, by rw [List.append_nil, selN_eq (by simp [h])]; exact q⟩
theorem ar_idN {k : Nat} {p : DSpE} {ds : List D} {Ξ : XPost} {Φ' : Addr → D → Mem → Prop} {Mm : Addr → Mem} (h : ds.length = k) (q : ∀ a, p (.raw (.ref a) :: ds) (Mm a) (Φ' a) Ξ) : ds.length = k ∧ ([] : List D).length = ([] : List Str).length ∧ ∀ a, p (selD (selN (k + 1)) (.raw (.ref a) :: ds ++ [])) (Mm a) (Φ' a) Ξ := ⟨h, rfl, fun a => by rw [List.append_nil, selN_eq (by simp [h])]; exact q a⟩
theorem ar_g {k : Nat} {p : DSpE} {ds zs args : List D} {ks : List Str} {sel : Sel} {Ξ : XPost} (h : ds.length = k) (h2 : zs.length = ks.length) (q : p (selD sel (ds ++ zs)) M Φ Ξ) : ds.length = k ∧ zs.length = ks.length ∧ p (selD sel (ds ++ zs)) M Φ Ξ := ⟨h, h2, q⟩
theorem ar_gM {k : Nat} {p : DSpE} {ds zs args : List D} {ks : List Str} {sel : Sel} {Ξ : XPost} (h : ds.length = k) (h2 : zs.length = ks.length) (q : p (selD sel (x :: ds ++ zs)) M Φ Ξ) : ds.length = k ∧ zs.length = ks.length ∧ p (selD sel (x :: ds ++ zs)) M Φ Ξ := ⟨h, h2, q⟩
theorem ar_gN {k : Nat} {p : DSpE} {ds zs args : List D} {ks : List Str} {sel : Sel} {Ξ : XPost} {Φ' : Addr → D → Mem → Prop} {Mm : Addr → Mem} (h : ds.length = k) (h2 : zs.length = ks.length) (q : ∀ a, p (selD sel (.raw (.ref a) :: ds ++ zs)) (Mm a) (Φ' a) Ξ) : ds.length = k ∧ zs.length = ks.length ∧ ∀ a, p (selD sel (.raw (.ref a) :: ds ++ zs)) (Mm a) (Φ' a) Ξ := ⟨h, h2, q⟩
/-! methods, the class by the thing -/
def MtE (B : Bx) (X : Cx) (m : Nat) (pos : Pos) (es : List Expr) (kws : List Keyword) (mn : Str) (δ : Env') (x : D) (M1 : Mem) (Φ : D → Mem → Prop) : Prop := ∃ C k n ks sel p Ξ, MethEX X k C mn n ks sel p ∧ k ≤ m ∧ Lets X B δ Ξ ∧ PlA X pos es kws ks ∧ (∃ ns fs, IsO M1 x C ns fs ∧ ns.contains mn = false) ∧
  DAK B X es kws δ M1 fun ds zs M' => ds.length = n ∧ zs.length = ks.length ∧ p (selD sel (x :: ds ++ zs)) M' Φ Ξ
theorem de_mU {pl_ : Sem Bool} {m : Nat} {mn : Str} (z : Cz X m) (h : DE B X o δ M fun x M1 => MtE B X m pos es kws mn δ x M1 Φ)
    (ht : eval (.Call (.Attribute o mn apos) es kws pos) X.env = (do
      let ov ← eval o X.env
      standAt apos.atName
      let (f, first) ← holding [ov] (getMethod ov mn pl_)
      callWith pos f first (backTo pos (starEach es X.env)) (backToKw pos (keywordEach kws X.env))) := by rfl) : DE B X (.Call (.Attribute o mn apos) es kws pos) δ M Φ := by
  intro κ σ H Q hb R kk
  unfold tE
  intro pins s I
  refine PySem.W.methodCall_KW (pl := pl_) (thn ((cE (X := X) (e := o)).run pins s σ H (fun v H1 => ∃ x M1, MtE B X m pos es kws mn δ x M1 Φ ∧ Rs κ δ M1 σ H1 ∧ Rep M1.F H1 v x) I (h κ σ H _ hb R fun v x M1 H1 q R1 r1 => ⟨x, M1, q, R1, r1⟩)) fun u s1 ⟨v, H1, I1, rv, x, M1, hm, R1, r1⟩ => ?_) ht
  obtain ⟨C, k, n, ks, sel, p, Ξ, f, hk, lt, pl, ⟨ns, fs, io, hn⟩, hd⟩ := hm
  obtain ⟨fa, c, hm, h3⟩ := f.ex
  obtain ⟨W, tk, hx⟩ := lt
  obtain ⟨a, dx, vs0, rfl, ea, hl, rr⟩ := io.sq R1 r1
  obtain rfl : u = Value.ref a := rv
  refine getmeth_ok I1 ea c hm (lookup_zip hn) ?_
  refine dak_run (κ := (.ref a, x) :: κ) (first := [.ref a]) hm.kp pl hd I1 (fun q hq => List.mem_cons_of_mem _ (hb q hq)) (R1.push r1) fun us ws s2 vs zs ds es M2 H2 I2 rv rz ⟨l1, l2, q⟩ R2 r3 r4 => ?_
  have rs : Vals (V.ref a :: vs) (Value.ref a :: us) := .cons rfl rv
  refine run_E h3 (z.room.mono hk) (passAt tk σ) I2 rs rz (by rw [List.length_cons, r3.length, l1]) (by rw [r4.length]; exact l2) fun us' all rr so => ?_
  exact liftE_of so rr.length R2.pop ((Reps.cons R2.top r3).append r4) q kk fun C ns es M' H' dx e R' x => hx κ σ C ns es M' H' dx hb e R' x
theorem mt_v {m k n : Nat} {mn : Str} {C : Addr} {ns ks : List Str} {fs : List D} {sel : Sel} {p : DSpE} {Ξ : XPost} (f : MethEX X k C mn n ks sel p) (hk : k ≤ m) (lt : Lets X B δ Ξ) (pl : PlA X pos es kws ks) (hn : ns.contains mn = false)
    (h : DAK B X es kws δ M fun ds zs M' => ds.length = n ∧ zs.length = ks.length ∧ p (selD sel (.obj C ns fs :: ds ++ zs)) M' Φ Ξ) : MtE B X m pos es kws mn δ (.obj C ns fs) M Φ := ⟨C, k, n, ks, sel, p, Ξ, f, hk, lt, pl, ⟨ns, fs, .val _ _ _, hn⟩, h⟩
theorem mt_c {m k n : Nat} {mn : Str} {C q : Addr} {ns ks : List Str} {fs : List D} {sel : Sel} {p : DSpE} {Ξ : XPost} (j : Nat) (hm : M[j]? = some (q, .obj C ns fs)) (f : MethEX X k C mn n ks sel p) (hk : k ≤ m) (lt : Lets X B δ Ξ) (pl : PlA X pos es kws ks) (hn : ns.contains mn = false)
    (h : DAK B X es kws δ M fun ds zs M' => ds.length = n ∧ zs.length = ks.length ∧ p (selD sel (.raw (.ref q) :: ds ++ zs)) M' Φ Ξ) : MtE B X m pos es kws mn δ (.raw (.ref q)) M Φ := ⟨C, k, n, ks, sel, p, Ξ, f, hk, lt, pl, ⟨ns, fs, .cell j hm, hn⟩, h⟩
/-! an exception reaches a handler -/
theorem exh_yes {c0 C : Addr} {oi : Option Nat} {ns : List Str} {ds : List D} {r : List HdD} (hm : PySem.W.exmOne X.K (.ref C) (.ref c0) = some true) (h : ∀ a pn kp, DSs ⟨kp, fun _ _ _ _ _ => False⟩ (X.suite a pn) suite (envD oi δ (.exn C ns ds)) M (endsD oi Ψ)) : exH B X Ψ ((c0, oi, suite) :: r) C ns ds δ M := ⟨true, hm, (fun _ => h), (fun z => nomatch z)⟩
theorem exh_no {c0 C : Addr} {oi : Option Nat} {ns : List Str} {ds : List D} {r : List HdD} (hm : PySem.W.exmOne X.K (.ref C) (.ref c0) = some false) (h : exH B X Ψ r C ns ds δ M) : exH B X Ψ ((c0, oi, suite) :: r) C ns ds δ M := ⟨false, hm, (fun z => nomatch z), fun _ => h⟩
theorem exh_nil {C : Addr} {ns : List Str} {ds : List D} (h : B.ex C ns ds δ M) : exH B X Ψ [] C ns ds δ M := h
theorem kind_of {sc : Scope} {x : Str} (hs : X.env.scope = sc) (h : sc.names.lookup x = some .local) : X.env.kindOf x = some .local := by unfold Env.kindOf; rw [hs]; exact h
theorem len_andI {ds : List D} {ns : List Str} {P : Prop} (h1 : ds.length = ns.length) (h2 : ds.length ≤ 1000) (k : P) : ds.length = ns.length ∧ ds.length ≤ 1000 ∧ P := ⟨h1, h2, k⟩
/-- a store without calm -/
theorem ds_setN {i : Nat} {x : Str} (nd : X.N.Nodup) (l : Lo X i x) (h : DE B X e δ M fun d M' => Sets δ i d fun δ' => Ψ.nx δ' M') (hs : swapsWith e (some (.Name x pos')) pos.line X.env = pure false := by rfl) : DS B X (.Assign [.Name x pos'] e pos) δ M Ψ :=
  .of (ps_set nd l.at_ l.loc cE hs l.fn) fun κ σ H E hb R k => h κ σ H _ hb R fun v d M' H' q R' r => k.nx _ _ _ _ q.get (R'.put i r)
/-! a field is set, the class by the thing -/
def StF (K : PySem.W.Frag) (f : Str) (d x : D) (M : Mem) (Φ : Mem → Prop) : Prop := ∃ j p C ns fs ns' fs', x = .raw (.ref p) ∧ M[j]? = some (p, .obj C ns fs) ∧ FldP K C f ∧ ns.length < 1000 ∧ putN f d ns fs = (ns', fs') ∧ Φ (M.set j (p, .obj C ns' fs'))
theorem ds_fldU {f : Str} (h : DE B X e δ M fun d M1 => DE B X o δ M1 fun x M2 => StF X.K f d x M2 fun M3 => Ψ.nx δ M3)
    (hs : swapsWith e (some (.Attribute o f pos')) pos.line X.env = pure false := by rfl) : DS B X (.Assign [.Attribute o f pos'] e pos) δ M Ψ := ds_fld (h.mono fun d M1 h1 => h1.mono fun x M2 ⟨j, p, C, ns, fs, ns', fs', e1, e2, ff, hl, hp, k⟩ => ⟨j, p, C, ns, fs, e1, e2, ff, hl, by rw [hp]; exact k⟩) hs
theorem sf_n0 {K : PySem.W.Frag} {f : Str} {p C : Addr}   {ΦM : Mem → Prop} (j : Nat) (hm : M[j]? = some (p, .obj C [] [])) (ff : FldP K C f)  (k : ΦM (M.set j (p, .obj C [f] [d]))) : StF K f d (.raw (.ref p)) M ΦM := ⟨j, p, C, _, _, _, _, rfl, hm, ff, (by show 0 < 1000; decide), by simp [putN], k⟩
theorem sf_n1 {K : PySem.W.Frag} {f : Str} {p C : Addr} {n0 : Str} {x0 : D} {ΦM : Mem → Prop} (j : Nat) (hm : M[j]? = some (p, .obj C [n0] [x0])) (ff : FldP K C f) (h0 : (n0 = f) = False) (k : ΦM (M.set j (p, .obj C [n0, f] [x0, d]))) : StF K f d (.raw (.ref p)) M ΦM := ⟨j, p, C, _, _, _, _, rfl, hm, ff, (by show 1 < 1000; decide), by simp [putN, h0], k⟩
theorem sf_n2 {K : PySem.W.Frag} {f : Str} {p C : Addr} {n0 n1 : Str} {x0 x1 : D} {ΦM : Mem → Prop} (j : Nat) (hm : M[j]? = some (p, .obj C [n0, n1] [x0, x1])) (ff : FldP K C f) (h0 : (n0 = f) = False) (h1 : (n1 = f) = False) (k : ΦM (M.set j (p, .obj C [n0, n1, f] [x0, x1, d]))) : StF K f d (.raw (.ref p)) M ΦM := ⟨j, p, C, _, _, _, _, rfl, hm, ff, (by show 2 < 1000; decide), by simp [putN, h0, h1], k⟩
theorem sf_n3 {K : PySem.W.Frag} {f : Str} {p C : Addr} {n0 n1 n2 : Str} {x0 x1 x2 : D} {ΦM : Mem → Prop} (j : Nat) (hm : M[j]? = some (p, .obj C [n0, n1, n2] [x0, x1, x2])) (ff : FldP K C f) (h0 : (n0 = f) = False) (h1 : (n1 = f) = False) (h2 : (n2 = f) = False) (k : ΦM (M.set j (p, .obj C [n0, n1, n2, f] [x0, x1, x2, d]))) : StF K f d (.raw (.ref p)) M ΦM := ⟨j, p, C, _, _, _, _, rfl, hm, ff, (by show 3 < 1000; decide), by simp [putN, h0, h1, h2], k⟩
theorem sf_n4 {K : PySem.W.Frag} {f : Str} {p C : Addr} {n0 n1 n2 n3 : Str} {x0 x1 x2 x3 : D} {ΦM : Mem → Prop} (j : Nat) (hm : M[j]? = some (p, .obj C [n0, n1, n2, n3] [x0, x1, x2, x3])) (ff : FldP K C f) (h0 : (n0 = f) = False) (h1 : (n1 = f) = False) (h2 : (n2 = f) = False) (h3 : (n3 = f) = False) (k : ΦM (M.set j (p, .obj C [n0, n1, n2, n3, f] [x0, x1, x2, x3, d]))) : StF K f d (.raw (.ref p)) M ΦM := ⟨j, p, C, _, _, _, _, rfl, hm, ff, (by show 4 < 1000; decide), by simp [putN, h0, h1, h2, h3], k⟩
theorem sf_n5 {K : PySem.W.Frag} {f : Str} {p C : Addr} {n0 n1 n2 n3 n4 : Str} {x0 x1 x2 x3 x4 : D} {ΦM : Mem → Prop} (j : Nat) (hm : M[j]? = some (p, .obj C [n0, n1, n2, n3, n4] [x0, x1, x2, x3, x4])) (ff : FldP K C f) (h0 : (n0 = f) = False) (h1 : (n1 = f) = False) (h2 : (n2 = f) = False) (h3 : (n3 = f) = False) (h4 : (n4 = f) = False) (k : ΦM (M.set j (p, .obj C [n0, n1, n2, n3, n4, f] [x0, x1, x2, x3, x4, d]))) : StF K f d (.raw (.ref p)) M ΦM := ⟨j, p, C, _, _, _, _, rfl, hm, ff, (by show 5 < 1000; decide), by simp [putN, h0, h1, h2, h3, h4], k⟩
theorem sf_n6 {K : PySem.W.Frag} {f : Str} {p C : Addr} {n0 n1 n2 n3 n4 n5 : Str} {x0 x1 x2 x3 x4 x5 : D} {ΦM : Mem → Prop} (j : Nat) (hm : M[j]? = some (p, .obj C [n0, n1, n2, n3, n4, n5] [x0, x1, x2, x3, x4, x5])) (ff : FldP K C f) (h0 : (n0 = f) = False) (h1 : (n1 = f) = False) (h2 : (n2 = f) = False) (h3 : (n3 = f) = False) (h4 : (n4 = f) = False) (h5 : (n5 = f) = False) (k : ΦM (M.set j (p, .obj C [n0, n1, n2, n3, n4, n5, f] [x0, x1, x2, x3, x4, x5, d]))) : StF K f d (.raw (.ref p)) M ΦM := ⟨j, p, C, _, _, _, _, rfl, hm, ff, (by show 6 < 1000; decide), by simp [putN, h0, h1, h2, h3, h4, h5], k⟩
theorem sf_u1_0 {K : PySem.W.Frag} {f : Str} {p C : Addr}  {x0 : D} {ΦM : Mem → Prop} (j : Nat) (hm : M[j]? = some (p, .obj C [f] [x0])) (ff : FldP K C f)  (k : ΦM (M.set j (p, .obj C [f] [d]))) : StF K f d (.raw (.ref p)) M ΦM := ⟨j, p, C, _, _, _, _, rfl, hm, ff, (by show 1 < 1000; decide), by simp [putN], k⟩
theorem sf_u2_0 {K : PySem.W.Frag} {f : Str} {p C : Addr} {n1 : Str} {x0 x1 : D} {ΦM : Mem → Prop} (j : Nat) (hm : M[j]? = some (p, .obj C [f, n1] [x0, x1])) (ff : FldP K C f)  (k : ΦM (M.set j (p, .obj C [f, n1] [d, x1]))) : StF K f d (.raw (.ref p)) M ΦM := ⟨j, p, C, _, _, _, _, rfl, hm, ff, (by show 2 < 1000; decide), by simp [putN], k⟩
theorem sf_u2_1 {K : PySem.W.Frag} {f : Str} {p C : Addr} {n0 : Str} {x0 x1 : D} {ΦM : Mem → Prop} (j : Nat) (hm : M[j]? = some (p, .obj C [n0, f] [x0, x1])) (ff : FldP K C f) (h0 : (n0 = f) = False) (k : ΦM (M.set j (p, .obj C [n0, f] [x0, d]))) : StF K f d (.raw (.ref p)) M ΦM := ⟨j, p, C, _, _, _, _, rfl, hm, ff, (by show 2 < 1000; decide), by simp [putN, h0], k⟩
theorem sf_u3_0 {K : PySem.W.Frag} {f : Str} {p C : Addr} {n1 n2 : Str} {x0 x1 x2 : D} {ΦM : Mem → Prop} (j : Nat) (hm : M[j]? = some (p, .obj C [f, n1, n2] [x0, x1, x2])) (ff : FldP K C f)  (k : ΦM (M.set j (p, .obj C [f, n1, n2] [d, x1, x2]))) : StF K f d (.raw (.ref p)) M ΦM := ⟨j, p, C, _, _, _, _, rfl, hm, ff, (by show 3 < 1000; decide), by simp [putN], k⟩
theorem sf_u3_1 {K : PySem.W.Frag} {f : Str} {p C : Addr} {n0 n2 : Str} {x0 x1 x2 : D} {ΦM : Mem → Prop} (j : Nat) (hm : M[j]? = some (p, .obj C [n0, f, n2] [x0, x1, x2])) (ff : FldP K C f) (h0 : (n0 = f) = False) (k : ΦM (M.set j (p, .obj C [n0, f, n2] [x0, d, x2]))) : StF K f d (.raw (.ref p)) M ΦM := ⟨j, p, C, _, _, _, _, rfl, hm, ff, (by show 3 < 1000; decide), by simp [putN, h0], k⟩
theorem sf_u3_2 {K : PySem.W.Frag} {f : Str} {p C : Addr} {n0 n1 : Str} {x0 x1 x2 : D} {ΦM : Mem → Prop} (j : Nat) (hm : M[j]? = some (p, .obj C [n0, n1, f] [x0, x1, x2])) (ff : FldP K C f) (h0 : (n0 = f) = False) (h1 : (n1 = f) = False) (k : ΦM (M.set j (p, .obj C [n0, n1, f] [x0, x1, d]))) : StF K f d (.raw (.ref p)) M ΦM := ⟨j, p, C, _, _, _, _, rfl, hm, ff, (by show 3 < 1000; decide), by simp [putN, h0, h1], k⟩
theorem sf_u4_0 {K : PySem.W.Frag} {f : Str} {p C : Addr} {n1 n2 n3 : Str} {x0 x1 x2 x3 : D} {ΦM : Mem → Prop} (j : Nat) (hm : M[j]? = some (p, .obj C [f, n1, n2, n3] [x0, x1, x2, x3])) (ff : FldP K C f)  (k : ΦM (M.set j (p, .obj C [f, n1, n2, n3] [d, x1, x2, x3]))) : StF K f d (.raw (.ref p)) M ΦM := ⟨j, p, C, _, _, _, _, rfl, hm, ff, (by show 4 < 1000; decide), by simp [putN], k⟩
theorem sf_u4_1 {K : PySem.W.Frag} {f : Str} {p C : Addr} {n0 n2 n3 : Str} {x0 x1 x2 x3 : D} {ΦM : Mem → Prop} (j : Nat) (hm : M[j]? = some (p, .obj C [n0, f, n2, n3] [x0, x1, x2, x3])) (ff : FldP K C f) (h0 : (n0 = f) = False) (k : ΦM (M.set j (p, .obj C [n0, f, n2, n3] [x0, d, x2, x3]))) : StF K f d (.raw (.ref p)) M ΦM := ⟨j, p, C, _, _, _, _, rfl, hm, ff, (by show 4 < 1000; decide), by simp [putN, h0], k⟩
theorem sf_u4_2 {K : PySem.W.Frag} {f : Str} {p C : Addr} {n0 n1 n3 : Str} {x0 x1 x2 x3 : D} {ΦM : Mem → Prop} (j : Nat) (hm : M[j]? = some (p, .obj C [n0, n1, f, n3] [x0, x1, x2, x3])) (ff : FldP K C f) (h0 : (n0 = f) = False) (h1 : (n1 = f) = False) (k : ΦM (M.set j (p, .obj C [n0, n1, f, n3] [x0, x1, d, x3]))) : StF K f d (.raw (.ref p)) M ΦM := ⟨j, p, C, _, _, _, _, rfl, hm, ff, (by show 4 < 1000; decide), by simp [putN, h0, h1], k⟩
theorem sf_u4_3 {K : PySem.W.Frag} {f : Str} {p C : Addr} {n0 n1 n2 : Str} {x0 x1 x2 x3 : D} {ΦM : Mem → Prop} (j : Nat) (hm : M[j]? = some (p, .obj C [n0, n1, n2, f] [x0, x1, x2, x3])) (ff : FldP K C f) (h0 : (n0 = f) = False) (h1 : (n1 = f) = False) (h2 : (n2 = f) = False) (k : ΦM (M.set j (p, .obj C [n0, n1, n2, f] [x0, x1, x2, d]))) : StF K f d (.raw (.ref p)) M ΦM := ⟨j, p, C, _, _, _, _, rfl, hm, ff, (by show 4 < 1000; decide), by simp [putN, h0, h1, h2], k⟩
theorem sf_u5_0 {K : PySem.W.Frag} {f : Str} {p C : Addr} {n1 n2 n3 n4 : Str} {x0 x1 x2 x3 x4 : D} {ΦM : Mem → Prop} (j : Nat) (hm : M[j]? = some (p, .obj C [f, n1, n2, n3, n4] [x0, x1, x2, x3, x4])) (ff : FldP K C f)  (k : ΦM (M.set j (p, .obj C [f, n1, n2, n3, n4] [d, x1, x2, x3, x4]))) : StF K f d (.raw (.ref p)) M ΦM := ⟨j, p, C, _, _, _, _, rfl, hm, ff, (by show 5 < 1000; decide), by simp [putN], k⟩
theorem sf_u5_1 {K : PySem.W.Frag} {f : Str} {p C : Addr} {n0 n2 n3 n4 : Str} {x0 x1 x2 x3 x4 : D} {ΦM : Mem → Prop} (j : Nat) (hm : M[j]? = some (p, .obj C [n0, f, n2, n3, n4] [x0, x1, x2, x3, x4])) (ff : FldP K C f) (h0 : (n0 = f) = False) (k : ΦM (M.set j (p, .obj C [n0, f, n2, n3, n4] [x0, d, x2, x3, x4]))) : StF K f d (.raw (.ref p)) M ΦM := ⟨j, p, C, _, _, _, _, rfl, hm, ff, (by show 5 < 1000; decide), by simp [putN, h0], k⟩
theorem sf_u5_2 {K : PySem.W.Frag} {f : Str} {p C : Addr} {n0 n1 n3 n4 : Str} {x0 x1 x2 x3 x4 : D} {ΦM : Mem → Prop} (j : Nat) (hm : M[j]? = some (p, .obj C [n0, n1, f, n3, n4] [x0, x1, x2, x3, x4])) (ff : FldP K C f) (h0 : (n0 = f) = False) (h1 : (n1 = f) = False) (k : ΦM (M.set j (p, .obj C [n0, n1, f, n3, n4] [x0, x1, d, x3, x4]))) : StF K f d (.raw (.ref p)) M ΦM := ⟨j, p, C, _, _, _, _, rfl, hm, ff, (by show 5 < 1000; decide), by simp [putN, h0, h1], k⟩
theorem sf_u5_3 {K : PySem.W.Frag} {f : Str} {p C : Addr} {n0 n1 n2 n4 : Str} {x0 x1 x2 x3 x4 : D} {ΦM : Mem → Prop} (j : Nat) (hm : M[j]? = some (p, .obj C [n0, n1, n2, f, n4] [x0, x1, x2, x3, x4])) (ff : FldP K C f) (h0 : (n0 = f) = False) (h1 : (n1 = f) = False) (h2 : (n2 = f) = False) (k : ΦM (M.set j (p, .obj C [n0, n1, n2, f, n4] [x0, x1, x2, d, x4]))) : StF K f d (.raw (.ref p)) M ΦM := ⟨j, p, C, _, _, _, _, rfl, hm, ff, (by show 5 < 1000; decide), by simp [putN, h0, h1, h2], k⟩
theorem sf_u5_4 {K : PySem.W.Frag} {f : Str} {p C : Addr} {n0 n1 n2 n3 : Str} {x0 x1 x2 x3 x4 : D} {ΦM : Mem → Prop} (j : Nat) (hm : M[j]? = some (p, .obj C [n0, n1, n2, n3, f] [x0, x1, x2, x3, x4])) (ff : FldP K C f) (h0 : (n0 = f) = False) (h1 : (n1 = f) = False) (h2 : (n2 = f) = False) (h3 : (n3 = f) = False) (k : ΦM (M.set j (p, .obj C [n0, n1, n2, n3, f] [x0, x1, x2, x3, d]))) : StF K f d (.raw (.ref p)) M ΦM := ⟨j, p, C, _, _, _, _, rfl, hm, ff, (by show 5 < 1000; decide), by simp [putN, h0, h1, h2, h3], k⟩
theorem sf_u6_0 {K : PySem.W.Frag} {f : Str} {p C : Addr} {n1 n2 n3 n4 n5 : Str} {x0 x1 x2 x3 x4 x5 : D} {ΦM : Mem → Prop} (j : Nat) (hm : M[j]? = some (p, .obj C [f, n1, n2, n3, n4, n5] [x0, x1, x2, x3, x4, x5])) (ff : FldP K C f)  (k : ΦM (M.set j (p, .obj C [f, n1, n2, n3, n4, n5] [d, x1, x2, x3, x4, x5]))) : StF K f d (.raw (.ref p)) M ΦM := ⟨j, p, C, _, _, _, _, rfl, hm, ff, (by show 6 < 1000; decide), by simp [putN], k⟩
theorem sf_u6_1 {K : PySem.W.Frag} {f : Str} {p C : Addr} {n0 n2 n3 n4 n5 : Str} {x0 x1 x2 x3 x4 x5 : D} {ΦM : Mem → Prop} (j : Nat) (hm : M[j]? = some (p, .obj C [n0, f, n2, n3, n4, n5] [x0, x1, x2, x3, x4, x5])) (ff : FldP K C f) (h0 : (n0 = f) = False) (k : ΦM (M.set j (p, .obj C [n0, f, n2, n3, n4, n5] [x0, d, x2, x3, x4, x5]))) : StF K f d (.raw (.ref p)) M ΦM := ⟨j, p, C, _, _, _, _, rfl, hm, ff, (by show 6 < 1000; decide), by simp [putN, h0], k⟩
theorem sf_u6_2 {K : PySem.W.Frag} {f : Str} {p C : Addr} {n0 n1 n3 n4 n5 : Str} {x0 x1 x2 x3 x4 x5 : D} {ΦM : Mem → Prop} (j : Nat) (hm : M[j]? = some (p, .obj C [n0, n1, f, n3, n4, n5] [x0, x1, x2, x3, x4, x5])) (ff : FldP K C f) (h0 : (n0 = f) = False) (h1 : (n1 = f) = False) (k : ΦM (M.set j (p, .obj C [n0, n1, f, n3, n4, n5] [x0, x1, d, x3, x4, x5]))) : StF K f d (.raw (.ref p)) M ΦM := ⟨j, p, C, _, _, _, _, rfl, hm, ff, (by show 6 < 1000; decide), by simp [putN, h0, h1], k⟩
theorem sf_u6_3 {K : PySem.W.Frag} {f : Str} {p C : Addr} {n0 n1 n2 n4 n5 : Str} {x0 x1 x2 x3 x4 x5 : D} {ΦM : Mem → Prop} (j : Nat) (hm : M[j]? = some (p, .obj C [n0, n1, n2, f, n4, n5] [x0, x1, x2, x3, x4, x5])) (ff : FldP K C f) (h0 : (n0 = f) = False) (h1 : (n1 = f) = False) (h2 : (n2 = f) = False) (k : ΦM (M.set j (p, .obj C [n0, n1, n2, f, n4, n5] [x0, x1, x2, d, x4, x5]))) : StF K f d (.raw (.ref p)) M ΦM := ⟨j, p, C, _, _, _, _, rfl, hm, ff, (by show 6 < 1000; decide), by simp [putN, h0, h1, h2], k⟩
theorem sf_u6_4 {K : PySem.W.Frag} {f : Str} {p C : Addr} {n0 n1 n2 n3 n5 : Str} {x0 x1 x2 x3 x4 x5 : D} {ΦM : Mem → Prop} (j : Nat) (hm : M[j]? = some (p, .obj C [n0, n1, n2, n3, f, n5] [x0, x1, x2, x3, x4, x5])) (ff : FldP K C f) (h0 : (n0 = f) = False) (h1 : (n1 = f) = False) (h2 : (n2 = f) = False) (h3 : (n3 = f) = False) (k : ΦM (M.set j (p, .obj C [n0, n1, n2, n3, f, n5] [x0, x1, x2, x3, d, x5]))) : StF K f d (.raw (.ref p)) M ΦM := ⟨j, p, C, _, _, _, _, rfl, hm, ff, (by show 6 < 1000; decide), by simp [putN, h0, h1, h2, h3], k⟩
theorem sf_u6_5 {K : PySem.W.Frag} {f : Str} {p C : Addr} {n0 n1 n2 n3 n4 : Str} {x0 x1 x2 x3 x4 x5 : D} {ΦM : Mem → Prop} (j : Nat) (hm : M[j]? = some (p, .obj C [n0, n1, n2, n3, n4, f] [x0, x1, x2, x3, x4, x5])) (ff : FldP K C f) (h0 : (n0 = f) = False) (h1 : (n1 = f) = False) (h2 : (n2 = f) = False) (h3 : (n3 = f) = False) (h4 : (n4 = f) = False) (k : ΦM (M.set j (p, .obj C [n0, n1, n2, n3, n4, f] [x0, x1, x2, x3, x4, d]))) : StF K f d (.raw (.ref p)) M ΦM := ⟨j, p, C, _, _, _, _, rfl, hm, ff, (by show 6 < 1000; decide), by simp [putN, h0, h1, h2, h3, h4], k⟩
theorem sf_u7_0 {K : PySem.W.Frag} {f : Str} {p C : Addr} {n1 n2 n3 n4 n5 n6 : Str} {x0 x1 x2 x3 x4 x5 x6 : D} {ΦM : Mem → Prop} (j : Nat) (hm : M[j]? = some (p, .obj C [f, n1, n2, n3, n4, n5, n6] [x0, x1, x2, x3, x4, x5, x6])) (ff : FldP K C f)  (k : ΦM (M.set j (p, .obj C [f, n1, n2, n3, n4, n5, n6] [d, x1, x2, x3, x4, x5, x6]))) : StF K f d (.raw (.ref p)) M ΦM := ⟨j, p, C, _, _, _, _, rfl, hm, ff, (by show 7 < 1000; decide), by simp [putN], k⟩
theorem sf_u7_1 {K : PySem.W.Frag} {f : Str} {p C : Addr} {n0 n2 n3 n4 n5 n6 : Str} {x0 x1 x2 x3 x4 x5 x6 : D} {ΦM : Mem → Prop} (j : Nat) (hm : M[j]? = some (p, .obj C [n0, f, n2, n3, n4, n5, n6] [x0, x1, x2, x3, x4, x5, x6])) (ff : FldP K C f) (h0 : (n0 = f) = False) (k : ΦM (M.set j (p, .obj C [n0, f, n2, n3, n4, n5, n6] [x0, d, x2, x3, x4, x5, x6]))) : StF K f d (.raw (.ref p)) M ΦM := ⟨j, p, C, _, _, _, _, rfl, hm, ff, (by show 7 < 1000; decide), by simp [putN, h0], k⟩
theorem sf_u7_2 {K : PySem.W.Frag} {f : Str} {p C : Addr} {n0 n1 n3 n4 n5 n6 : Str} {x0 x1 x2 x3 x4 x5 x6 : D} {ΦM : Mem → Prop} (j : Nat) (hm : M[j]? = some (p, .obj C [n0, n1, f, n3, n4, n5, n6] [x0, x1, x2, x3, x4, x5, x6])) (ff : FldP K C f) (h0 : (n0 = f) = False) (h1 : (n1 = f) = False) (k : ΦM (M.set j (p, .obj C [n0, n1, f, n3, n4, n5, n6] [x0, x1, d, x3, x4, x5, x6]))) : StF K f d (.raw (.ref p)) M ΦM := ⟨j, p, C, _, _, _, _, rfl, hm, ff, (by show 7 < 1000; decide), by simp [putN, h0, h1], k⟩
theorem sf_u7_3 {K : PySem.W.Frag} {f : Str} {p C : Addr} {n0 n1 n2 n4 n5 n6 : Str} {x0 x1 x2 x3 x4 x5 x6 : D} {ΦM : Mem → Prop} (j : Nat) (hm : M[j]? = some (p, .obj C [n0, n1, n2, f, n4, n5, n6] [x0, x1, x2, x3, x4, x5, x6])) (ff : FldP K C f) (h0 : (n0 = f) = False) (h1 : (n1 = f) = False) (h2 : (n2 = f) = False) (k : ΦM (M.set j (p, .obj C [n0, n1, n2, f, n4, n5, n6] [x0, x1, x2, d, x4, x5, x6]))) : StF K f d (.raw (.ref p)) M ΦM := ⟨j, p, C, _, _, _, _, rfl, hm, ff, (by show 7 < 1000; decide), by simp [putN, h0, h1, h2], k⟩
theorem sf_u7_4 {K : PySem.W.Frag} {f : Str} {p C : Addr} {n0 n1 n2 n3 n5 n6 : Str} {x0 x1 x2 x3 x4 x5 x6 : D} {ΦM : Mem → Prop} (j : Nat) (hm : M[j]? = some (p, .obj C [n0, n1, n2, n3, f, n5, n6] [x0, x1, x2, x3, x4, x5, x6])) (ff : FldP K C f) (h0 : (n0 = f) = False) (h1 : (n1 = f) = False) (h2 : (n2 = f) = False) (h3 : (n3 = f) = False) (k : ΦM (M.set j (p, .obj C [n0, n1, n2, n3, f, n5, n6] [x0, x1, x2, x3, d, x5, x6]))) : StF K f d (.raw (.ref p)) M ΦM := ⟨j, p, C, _, _, _, _, rfl, hm, ff, (by show 7 < 1000; decide), by simp [putN, h0, h1, h2, h3], k⟩
theorem sf_u7_5 {K : PySem.W.Frag} {f : Str} {p C : Addr} {n0 n1 n2 n3 n4 n6 : Str} {x0 x1 x2 x3 x4 x5 x6 : D} {ΦM : Mem → Prop} (j : Nat) (hm : M[j]? = some (p, .obj C [n0, n1, n2, n3, n4, f, n6] [x0, x1, x2, x3, x4, x5, x6])) (ff : FldP K C f) (h0 : (n0 = f) = False) (h1 : (n1 = f) = False) (h2 : (n2 = f) = False) (h3 : (n3 = f) = False) (h4 : (n4 = f) = False) (k : ΦM (M.set j (p, .obj C [n0, n1, n2, n3, n4, f, n6] [x0, x1, x2, x3, x4, d, x6]))) : StF K f d (.raw (.ref p)) M ΦM := ⟨j, p, C, _, _, _, _, rfl, hm, ff, (by show 7 < 1000; decide), by simp [putN, h0, h1, h2, h3, h4], k⟩
theorem sf_u7_6 {K : PySem.W.Frag} {f : Str} {p C : Addr} {n0 n1 n2 n3 n4 n5 : Str} {x0 x1 x2 x3 x4 x5 x6 : D} {ΦM : Mem → Prop} (j : Nat) (hm : M[j]? = some (p, .obj C [n0, n1, n2, n3, n4, n5, f] [x0, x1, x2, x3, x4, x5, x6])) (ff : FldP K C f) (h0 : (n0 = f) = False) (h1 : (n1 = f) = False) (h2 : (n2 = f) = False) (h3 : (n3 = f) = False) (h4 : (n4 = f) = False) (h5 : (n5 = f) = False) (k : ΦM (M.set j (p, .obj C [n0, n1, n2, n3, n4, n5, f] [x0, x1, x2, x3, x4, x5, d]))) : StF K f d (.raw (.ref p)) M ΦM := ⟨j, p, C, _, _, _, _, rfl, hm, ff, (by show 7 < 1000; decide), by simp [putN, h0, h1, h2, h3, h4, h5], k⟩
theorem isl_c {p : Addr} {ds : List D} {P : Prop} (j : Nat) (hm : M[j]? = some (p, .lst ds)) (k : P) : (∃ ds, IsL M (.raw (.ref p)) ds) ∧ P := ⟨⟨ds, .cell j hm⟩, k⟩
theorem idApp {K : PySem.W.Frag} {ds : List D} {r : V → List V → Hp → VK → Prop} (h : MtD K "list" r x ds M Φ) : MtD K "list" r x ds M Φ := h
theorem len_lt {n : Nat} (h : n ≤ 100000) : n < sizeLine := Nat.lt_of_le_of_lt h (by decide)
theorem idFld {f : Str} {K : PySem.W.Frag} (h : FldD K f x M Φ) : FldD K f x M Φ := h
theorem idMt {m : Nat} {mn : Str} (h : MtE B X m pos es kws mn δ x M Φ) : MtE B X m pos es kws mn δ x M Φ := h
theorem idStF {f : Str} {K : PySem.W.Frag} {ΦM : Mem → Prop} (h : StF K f d x M ΦM) : StF K f d x M ΦM := h
theorem idDAK {ΦA : List D → List D → Mem → Prop} (h : DAK B X es kws δ M ΦA) : DAK B X es kws δ M ΦA := h
theorem idAttr {f : Str} (h : DE B X (.Attribute o f pos) δ M Φ) : DE B X (.Attribute o f pos) δ M Φ := h
theorem idRaise {e' : Option Expr} {e2 : Option Expr} (h : DS B X (.Raise e' e2 pos) δ M Ψ) : DS B X (.Raise e' e2 pos) δ M Ψ := h
end
theorem set0 {α : Type} {a b : α} {l : List α} {P : List α → Prop} (h : P (b :: l)) : P ((a :: l).set 0 b) := h
/-- the law of a def that may let exceptions out: it lets none -/
def pLawE (K : PySem.W.Frag) : DSpE := fun ds M Φ Ξ => ∃ ns, ds = [.scr K ns] ∧ ns.length ≤ 63 ∧ Φ (.bl true) M
theorem law_startE {K : PySem.W.Frag} {H : Hp} {a : Addr} {ns : List Int} (hl : ns.length ≤ 63) (hS : SqL K H a (ns.map V.int)) : liftE (pLawE K) [.ref a] H (fun v _ => v = .bl true) (fun _ _ _ => False) := by
  refine ⟨[], [.scr K ns], [], fun d _ => d = .bl true, fun _ _ _ _ => False, ⟨by simp, .nil, by simp, .nil⟩, .cons ?_ .nil, ⟨ns, rfl, hl, rfl⟩, fun v d M' H' e R r => by subst e; cases r; rfl, fun _ _ _ _ _ _ z => z.elim⟩
  rcases hS with h | h
  · exact .scrH (by simp [Mem.F]) h
  · exact .scrK fun _ => .inr h
theorem law_out {P : Program} {w : World} {outer : List Env} {H : Hp} {s : Shared} {u : Value} {s' : Shared} (h : L2.CX P w outer H s (fun _ _ _ => False) u s') : False := by
  obtain ⟨_, _, _, _, _, _, _, _, _, _, _, _, z⟩ := h
  exact z
theorem x_at {H : Hp} {a dx C : Addr} {x y : HO} (n : dx ≠ a) : upd (upd H dx x) a y a = some y := upd_same
theorem x_dx {H : Hp} {a dx : Addr} {x y : HO} (n : dx ≠ a) : upd (upd H dx x) a y dx = some x := by rw [upd_ne n, upd_same]
end Hl
namespace Hl
open PySem L2
open PyProof.Rows hiding St
section
variable {B : Bx} {X : Cx} {e a b c o : Expr} {es rest : List Expr} {δ δ' : Env'} {M : Mem} {Φ : D → Mem → Prop} {Ψ : DEnds} {pos pos' apos pp np : Pos} {d x y : D}
/-! isinstance(e, (A, B)), e an exception that is held -/
def rIsXT (K : PySem.W.Frag) : List V → Hp → VK → Prop := fun xs H Q => ∃ (a C tp : Addr) (dx : Option Addr) (cs : List V) (us : List Value) (b : Bool), xs = [.ref a, .ref tp] ∧ H tp = some (.tup cs) ∧ Paired ClsV cs us ∧ H a = some (XO (.ref C) dx a) ∧ (dx = none ∨ ∃ d fs, dx = some d ∧ H d = some (.xd fs)) ∧ ExcP K C ∧ PySem.W.kitAny K (.ref C) us = some b ∧ Q (.bl b) H
theorem call_isXT : CallR X (.builtin "isinstance") (rIsXT X.K) := by
  intro pins s σ H xs us Q I r h
  obtain ⟨a, C, tp, dx, cs, ws, b, rfl, hT, k, ea, hd, T, e, q⟩ := h
  obtain ⟨u1, u2, rfl, r1, r2⟩ := vals2 r
  cases (show u2 = Value.ref tp from r2)
  cases (show u1 = Value.ref a from r1)
  obtain ⟨⟨oe, vs, ha, hz, hdt⟩, _, _⟩ := I.hok a _ ea
  have J : ∃ od, PySem.W.InstAt s.heap a oe C od := by
    rcases hd with rfl | ⟨d, fs, rfl, ed⟩
    · exact ⟨none, ha, hz.1, by unfold PySem.W.notCls; rw [hdt] <;> rfl, by rw [hz.2]; trivial⟩
    · have hx : ObjOk X.prog X.w H s.heap d (.xd fs) := I.hok d _ ed
      obtain ⟨mA, hns, hr⟩ := hx
      obtain ⟨od, ho, hl⟩ := lookIn_ns hns
      exact ⟨some od, ha, hz.1, by unfold PySem.W.notCls; rw [hdt] <;> rfl, by rw [hz.2]; exact ho⟩
  obtain ⟨od, J⟩ := J
  obtain ⟨_, its, rv, o, h1, h2, n, h3⟩ := (show ObjOk X.prog X.w H s.heap tp (.tup cs) from I.hok tp _ hT)
  have e3 := ClsV.all k rv
  subst e3
  obtain ⟨oc, od2, dt, sl⟩ := o
  simp only at h2 h3
  subst h2 h3
  exact PySem.W.kia_tup (PySem.W.kitx_exc T.cl T.ga T.gg T.hs T.ha T.hn T.ht T.hm) I.kIn J h1 e (fun z => nomatch z) fun tk => ⟨.bl b, H, I.tok tk, rfl, q⟩
def rIsiV (K : PySem.W.Frag) : List V → Hp → VK → Prop := fun xs H Q => rIsiU K xs H Q ∨ rIsXT K xs H Q
theorem de_isiV {p : Pos} (g : Gn X "isinstance") (h : DA B X [a, b] δ M fun ds M1 => CallD (rIsiV X.K) ds M1 Φ) (he : starEach [a, b] X.env = (false, eval a X.env) :: starEach [b] X.env := by rfl) (hpl : (backTo pos (starEach [b] X.env)).any (·.1) = false := by rfl) : DE B X (.Call (.Name "isinstance" p) [a, b] [] pos) δ M Φ := de_blt ((call_isi.or call_isX).or call_isXT) g boot_isinstance h (by decide) (by decide) he hpl
/-- a held exception and two own classes -/
theorem isx_t2 {K : PySem.W.Frag} {C : Addr} {ns : List Str} {fs : List D} {c1 c2 : V} {u1 u2 : Value} {b1 b2 : Bool} (T : ExcP K C) (h1 : ClsV c1 u1) (h2 : ClsV c2 u2) (k1 : PySem.W.kitOne K (.ref C) u1 = some b1) (k2 : PySem.W.kitOne K (.ref C) u2 = some b2) (k : Φ (.bl (b1 || b2)) M) : CallD (rIsiV K) [.exn C ns fs, .tup [.raw c1, .raw c2]] M Φ := .inr fun κ δ σ H vs Q R rs f => by
  cases rs with
  | cons r1 r2 =>
    cases r2 with
    | cons r2 r3 =>
      cases r3
      have kk : PySem.W.kitAny K (.ref C) [u1, u2] = some (b1 || b2) := by
        refine kitAny_cons k1 (fun e => ?_) fun e => by rw [e]; rfl
        rw [e]
        refine kitAny_cons k2 (fun e => ?_) fun e => by rw [e]; rfl
        rw [e]; exact kitAny_nil
      cases r2 with
      | tup hn e2 rr =>
        cases rr with
        | cons q1 rr =>
          cases rr with
          | cons q2 rr =>
            cases rr
            have := ClsD q1
            subst this
            have := ClsD q2
            subst this
            cases r1 with
            | exn0 h3 e1 => exact ⟨_, C, _, none, _, _, _, rfl, e2, .cons h1 (.cons h2 .nil), e1, .inl rfl, T, kk, f _ _ _ _ k R (.bl _)⟩
            | exn h3 e1 h4 e4 hl rr => exact ⟨_, C, _, _, _, _, _, rfl, e2, .cons h1 (.cons h2 .nil), e1, .inr ⟨_, _, rfl, e4⟩, T, kk, f _ _ _ _ k R (.bl _)⟩
end
/-! the name of a handler goes -/
def Uns (δ : Env') (i : Nat) (P : Env' → Prop) : Prop := P (δ.set i none)
theorem ua0 {P : Env' → Prop} {x0 : Option D} {r : Env'} (h : P (none :: r)) : Uns (x0 :: r) 0 P := h
theorem ua1 {P : Env' → Prop} {x0 x1 : Option D} {r : Env'} (h : P (x0 :: none :: r)) : Uns (x0 :: x1 :: r) 1 P := h
theorem ua2 {P : Env' → Prop} {x0 x1 x2 : Option D} {r : Env'} (h : P (x0 :: x1 :: none :: r)) : Uns (x0 :: x1 :: x2 :: r) 2 P := h
theorem ua3 {P : Env' → Prop} {x0 x1 x2 x3 : Option D} {r : Env'} (h : P (x0 :: x1 :: x2 :: none :: r)) : Uns (x0 :: x1 :: x2 :: x3 :: r) 3 P := h
theorem ua4 {P : Env' → Prop} {x0 x1 x2 x3 x4 : Option D} {r : Env'} (h : P (x0 :: x1 :: x2 :: x3 :: none :: r)) : Uns (x0 :: x1 :: x2 :: x3 :: x4 :: r) 4 P := h
theorem ua5 {P : Env' → Prop} {x0 x1 x2 x3 x4 x5 : Option D} {r : Env'} (h : P (x0 :: x1 :: x2 :: x3 :: x4 :: none :: r)) : Uns (x0 :: x1 :: x2 :: x3 :: x4 :: x5 :: r) 5 P := h
theorem ua6 {P : Env' → Prop} {x0 x1 x2 x3 x4 x5 x6 : Option D} {r : Env'} (h : P (x0 :: x1 :: x2 :: x3 :: x4 :: x5 :: none :: r)) : Uns (x0 :: x1 :: x2 :: x3 :: x4 :: x5 :: x6 :: r) 6 P := h
theorem ua7 {P : Env' → Prop} {x0 x1 x2 x3 x4 x5 x6 x7 : Option D} {r : Env'} (h : P (x0 :: x1 :: x2 :: x3 :: x4 :: x5 :: x6 :: none :: r)) : Uns (x0 :: x1 :: x2 :: x3 :: x4 :: x5 :: x6 :: x7 :: r) 7 P := h
theorem ua8 {P : Env' → Prop} {x0 x1 x2 x3 x4 x5 x6 x7 x8 : Option D} {r : Env'} (h : P (x0 :: x1 :: x2 :: x3 :: x4 :: x5 :: x6 :: x7 :: none :: r)) : Uns (x0 :: x1 :: x2 :: x3 :: x4 :: x5 :: x6 :: x7 :: x8 :: r) 8 P := h
theorem ua9 {P : Env' → Prop} {x0 x1 x2 x3 x4 x5 x6 x7 x8 x9 : Option D} {r : Env'} (h : P (x0 :: x1 :: x2 :: x3 :: x4 :: x5 :: x6 :: x7 :: x8 :: none :: r)) : Uns (x0 :: x1 :: x2 :: x3 :: x4 :: x5 :: x6 :: x7 :: x8 :: x9 :: r) 9 P := h
theorem ua10 {P : Env' → Prop} {x0 x1 x2 x3 x4 x5 x6 x7 x8 x9 x10 : Option D} {r : Env'} (h : P (x0 :: x1 :: x2 :: x3 :: x4 :: x5 :: x6 :: x7 :: x8 :: x9 :: none :: r)) : Uns (x0 :: x1 :: x2 :: x3 :: x4 :: x5 :: x6 :: x7 :: x8 :: x9 :: x10 :: r) 10 P := h
theorem ua11 {P : Env' → Prop} {x0 x1 x2 x3 x4 x5 x6 x7 x8 x9 x10 x11 : Option D} {r : Env'} (h : P (x0 :: x1 :: x2 :: x3 :: x4 :: x5 :: x6 :: x7 :: x8 :: x9 :: x10 :: none :: r)) : Uns (x0 :: x1 :: x2 :: x3 :: x4 :: x5 :: x6 :: x7 :: x8 :: x9 :: x10 :: x11 :: r) 11 P := h
theorem ua12 {P : Env' → Prop} {x0 x1 x2 x3 x4 x5 x6 x7 x8 x9 x10 x11 x12 : Option D} {r : Env'} (h : P (x0 :: x1 :: x2 :: x3 :: x4 :: x5 :: x6 :: x7 :: x8 :: x9 :: x10 :: x11 :: none :: r)) : Uns (x0 :: x1 :: x2 :: x3 :: x4 :: x5 :: x6 :: x7 :: x8 :: x9 :: x10 :: x11 :: x12 :: r) 12 P := h
theorem ua13 {P : Env' → Prop} {x0 x1 x2 x3 x4 x5 x6 x7 x8 x9 x10 x11 x12 x13 : Option D} {r : Env'} (h : P (x0 :: x1 :: x2 :: x3 :: x4 :: x5 :: x6 :: x7 :: x8 :: x9 :: x10 :: x11 :: x12 :: none :: r)) : Uns (x0 :: x1 :: x2 :: x3 :: x4 :: x5 :: x6 :: x7 :: x8 :: x9 :: x10 :: x11 :: x12 :: x13 :: r) 13 P := h
theorem ua14 {P : Env' → Prop} {x0 x1 x2 x3 x4 x5 x6 x7 x8 x9 x10 x11 x12 x13 x14 : Option D} {r : Env'} (h : P (x0 :: x1 :: x2 :: x3 :: x4 :: x5 :: x6 :: x7 :: x8 :: x9 :: x10 :: x11 :: x12 :: x13 :: none :: r)) : Uns (x0 :: x1 :: x2 :: x3 :: x4 :: x5 :: x6 :: x7 :: x8 :: x9 :: x10 :: x11 :: x12 :: x13 :: x14 :: r) 14 P := h
theorem ua15 {P : Env' → Prop} {x0 x1 x2 x3 x4 x5 x6 x7 x8 x9 x10 x11 x12 x13 x14 x15 : Option D} {r : Env'} (h : P (x0 :: x1 :: x2 :: x3 :: x4 :: x5 :: x6 :: x7 :: x8 :: x9 :: x10 :: x11 :: x12 :: x13 :: x14 :: none :: r)) : Uns (x0 :: x1 :: x2 :: x3 :: x4 :: x5 :: x6 :: x7 :: x8 :: x9 :: x10 :: x11 :: x12 :: x13 :: x14 :: x15 :: r) 15 P := h
theorem ua16 {P : Env' → Prop} {x0 x1 x2 x3 x4 x5 x6 x7 x8 x9 x10 x11 x12 x13 x14 x15 x16 : Option D} {r : Env'} (h : P (x0 :: x1 :: x2 :: x3 :: x4 :: x5 :: x6 :: x7 :: x8 :: x9 :: x10 :: x11 :: x12 :: x13 :: x14 :: x15 :: none :: r)) : Uns (x0 :: x1 :: x2 :: x3 :: x4 :: x5 :: x6 :: x7 :: x8 :: x9 :: x10 :: x11 :: x12 :: x13 :: x14 :: x15 :: x16 :: r) 16 P := h
theorem ua17 {P : Env' → Prop} {x0 x1 x2 x3 x4 x5 x6 x7 x8 x9 x10 x11 x12 x13 x14 x15 x16 x17 : Option D} {r : Env'} (h : P (x0 :: x1 :: x2 :: x3 :: x4 :: x5 :: x6 :: x7 :: x8 :: x9 :: x10 :: x11 :: x12 :: x13 :: x14 :: x15 :: x16 :: none :: r)) : Uns (x0 :: x1 :: x2 :: x3 :: x4 :: x5 :: x6 :: x7 :: x8 :: x9 :: x10 :: x11 :: x12 :: x13 :: x14 :: x15 :: x16 :: x17 :: r) 17 P := h
theorem ua18 {P : Env' → Prop} {x0 x1 x2 x3 x4 x5 x6 x7 x8 x9 x10 x11 x12 x13 x14 x15 x16 x17 x18 : Option D} {r : Env'} (h : P (x0 :: x1 :: x2 :: x3 :: x4 :: x5 :: x6 :: x7 :: x8 :: x9 :: x10 :: x11 :: x12 :: x13 :: x14 :: x15 :: x16 :: x17 :: none :: r)) : Uns (x0 :: x1 :: x2 :: x3 :: x4 :: x5 :: x6 :: x7 :: x8 :: x9 :: x10 :: x11 :: x12 :: x13 :: x14 :: x15 :: x16 :: x17 :: x18 :: r) 18 P := h
theorem ua19 {P : Env' → Prop} {x0 x1 x2 x3 x4 x5 x6 x7 x8 x9 x10 x11 x12 x13 x14 x15 x16 x17 x18 x19 : Option D} {r : Env'} (h : P (x0 :: x1 :: x2 :: x3 :: x4 :: x5 :: x6 :: x7 :: x8 :: x9 :: x10 :: x11 :: x12 :: x13 :: x14 :: x15 :: x16 :: x17 :: x18 :: none :: r)) : Uns (x0 :: x1 :: x2 :: x3 :: x4 :: x5 :: x6 :: x7 :: x8 :: x9 :: x10 :: x11 :: x12 :: x13 :: x14 :: x15 :: x16 :: x17 :: x18 :: x19 :: r) 19 P := h
theorem ua20 {P : Env' → Prop} {x0 x1 x2 x3 x4 x5 x6 x7 x8 x9 x10 x11 x12 x13 x14 x15 x16 x17 x18 x19 x20 : Option D} {r : Env'} (h : P (x0 :: x1 :: x2 :: x3 :: x4 :: x5 :: x6 :: x7 :: x8 :: x9 :: x10 :: x11 :: x12 :: x13 :: x14 :: x15 :: x16 :: x17 :: x18 :: x19 :: none :: r)) : Uns (x0 :: x1 :: x2 :: x3 :: x4 :: x5 :: x6 :: x7 :: x8 :: x9 :: x10 :: x11 :: x12 :: x13 :: x14 :: x15 :: x16 :: x17 :: x18 :: x19 :: x20 :: r) 20 P := h
theorem ua21 {P : Env' → Prop} {x0 x1 x2 x3 x4 x5 x6 x7 x8 x9 x10 x11 x12 x13 x14 x15 x16 x17 x18 x19 x20 x21 : Option D} {r : Env'} (h : P (x0 :: x1 :: x2 :: x3 :: x4 :: x5 :: x6 :: x7 :: x8 :: x9 :: x10 :: x11 :: x12 :: x13 :: x14 :: x15 :: x16 :: x17 :: x18 :: x19 :: x20 :: none :: r)) : Uns (x0 :: x1 :: x2 :: x3 :: x4 :: x5 :: x6 :: x7 :: x8 :: x9 :: x10 :: x11 :: x12 :: x13 :: x14 :: x15 :: x16 :: x17 :: x18 :: x19 :: x20 :: x21 :: r) 21 P := h
theorem ua22 {P : Env' → Prop} {x0 x1 x2 x3 x4 x5 x6 x7 x8 x9 x10 x11 x12 x13 x14 x15 x16 x17 x18 x19 x20 x21 x22 : Option D} {r : Env'} (h : P (x0 :: x1 :: x2 :: x3 :: x4 :: x5 :: x6 :: x7 :: x8 :: x9 :: x10 :: x11 :: x12 :: x13 :: x14 :: x15 :: x16 :: x17 :: x18 :: x19 :: x20 :: x21 :: none :: r)) : Uns (x0 :: x1 :: x2 :: x3 :: x4 :: x5 :: x6 :: x7 :: x8 :: x9 :: x10 :: x11 :: x12 :: x13 :: x14 :: x15 :: x16 :: x17 :: x18 :: x19 :: x20 :: x21 :: x22 :: r) 22 P := h
theorem ua23 {P : Env' → Prop} {x0 x1 x2 x3 x4 x5 x6 x7 x8 x9 x10 x11 x12 x13 x14 x15 x16 x17 x18 x19 x20 x21 x22 x23 : Option D} {r : Env'} (h : P (x0 :: x1 :: x2 :: x3 :: x4 :: x5 :: x6 :: x7 :: x8 :: x9 :: x10 :: x11 :: x12 :: x13 :: x14 :: x15 :: x16 :: x17 :: x18 :: x19 :: x20 :: x21 :: x22 :: none :: r)) : Uns (x0 :: x1 :: x2 :: x3 :: x4 :: x5 :: x6 :: x7 :: x8 :: x9 :: x10 :: x11 :: x12 :: x13 :: x14 :: x15 :: x16 :: x17 :: x18 :: x19 :: x20 :: x21 :: x22 :: x23 :: r) 23 P := h
theorem endA {Ψ : DEnds} {i : Nat} {δ : Env'} {M : Mem} (h : Uns δ i fun δ' => Ψ.nx δ' M) : (endsD (some i) Ψ).nx δ M := h
theorem idUns {δ : Env'} {i : Nat} {P : Env' → Prop} (h : Uns δ i P) : Uns δ i P := h
/-! x in xs, a list of ints -/
section
variable {M : Mem} {Φ : D → Mem → Prop} {y : D}
theorem inV_ints (z : Int) : ∀ zs : List Int, inV (.int z) (zs.map .int) = decide (z ∈ zs)
  | [] => by simp [inV]
  | w :: zs => by
    have ih := inV_ints z zs
    unfold inV at ih ⊢
    rw [List.map_cons, List.any_cons, ih]
    show ((w == z) || _) = _
    by_cases h : w = z
    · subst h; simp
    · simp [h, Ne.symm h, beq_eq_false_iff_ne.mpr h]
theorem flat_ints : ∀ zs : List Int, (zs.map V.int).all flatV = true
  | [] => rfl
  | _ :: zs => flat_ints zs
theorem od_inN {K : PySem.W.Frag} {z : Int} {zs : List Int} (h : IsL M y (zs.map .int)) (k : Φ (.bl (decide (z ∈ zs))) M) : OpD (rInU K) (.int z) y M Φ := .inr fun κ δ σ H v w Q R rv rw' f => by
  cases rv
  obtain ⟨p, us, rfl, e1, rr⟩ := h.sq R rw'
  have := rr.ints
  subst this
  refine ⟨p, _, rfl, .inl (SqL.of e1), rfl, flat_ints zs, ?_⟩
  show Q (.bl (inV _ _)) H
  rw [inV_ints]
  exact f _ _ M H k R (.bl _)
theorem od_notinN {K : PySem.W.Frag} {z : Int} {zs : List Int} (h : IsL M y (zs.map .int)) (k : Φ (.bl (!decide (z ∈ zs))) M) : OpD (rNotInU K) (.int z) y M Φ := .inr fun κ δ σ H v w Q R rv rw' f => by
  cases rv
  obtain ⟨p, us, rfl, e1, rr⟩ := h.sq R rw'
  have := rr.ints
  subst this
  refine ⟨p, _, rfl, .inl (SqL.of e1), rfl, flat_ints zs, ?_⟩
  show Q (.bl (!inV _ _)) H
  rw [inV_ints]
  exact f _ _ M H k R (.bl _)
end
end Hl
namespace Hl
open PySem L2
section
variable {K : PySem.W.Frag} {C : Addr} {cls : Value} {b : Bool}
theorem kcls_ref (hd : PySem.W.hasDictIn K C = true) (ht : PySem.W.typeIn K (.ref C) = some (.type "type")) (h : PySem.W.subIn K cls (.ref C) = some b) : PySem.W.kitCls K cls (.ref C) = some b := by
  obtain ⟨cd, hc, _⟩ := PySem.W.any_some hd
  have e2 : ((PySem.W.clsIn K C).isSome && PySem.W.typeIn K (.ref C) == some (.type "type")) = true := by rw [hc, ht] <;> rfl
  show (if ((PySem.W.clsIn K C).isSome && PySem.W.typeIn K (.ref C) == some (.type "type")) = true then PySem.W.subIn K cls (.ref C) else none) = some b
  rw [if_pos e2]
  exact h
theorem exm_mk (h1 : PySem.W.subIn K (.ref C) (.type "BaseException") = some true) (hd : PySem.W.hasDictIn K C = true) (ht : PySem.W.typeIn K (.ref C) = some (.type "type")) (h : PySem.W.subIn K cls (.ref C) = some b) : PySem.W.exmOne K cls (.ref C) = some b := by
  have e1 : (PySem.W.subIn K (.ref C) (.type "BaseException") == some true) = true := by rw [h1] <;> rfl
  unfold PySem.W.exmOne
  rw [if_pos e1]
  exact kcls_ref hd ht h
theorem kit_ref (hd : PySem.W.hasDictIn K C = true) (ht : PySem.W.typeIn K (.ref C) = some (.type "type")) (h : PySem.W.subIn K cls (.ref C) = some b) (hs : PySem.W.subIn K (.ref C) (.ref C) = some true) : PySem.W.kitOne K cls (.ref C) = some b := by
  unfold PySem.W.kitOne
  split
  · next e =>
    have e := beq_iff_eq.mp e
    cases b with
    | true => rfl
    | false =>
      rw [e, hs] at h
      cases h
  · exact kcls_ref hd ht h
theorem kit_same : PySem.W.kitOne K (.ref C) (.ref C) = some true := by
  unfold PySem.W.kitOne
  rw [if_pos (beq_self_eq_true _)]
theorem kit_bt {T : String} (hm : PySem.W.kitMeta T = true) (h : PySem.W.subIn K (.ref C) (.type T) = some b) : PySem.W.kitOne K (.ref C) (.type T) = some b := by
  unfold PySem.W.kitOne
  rw [if_neg (by intro e; cases (beq_iff_eq.mp e))]
  show (if PySem.W.kitMeta T = true then PySem.W.subIn K (.ref C) (.type T) else none) = some b
  rw [if_pos hm]
  exact h
theorem cls_some (hd : PySem.W.hasDictIn K C = true) : (PySem.W.clsIn K C).isSome = true := by
  obtain ⟨cd, hc, _⟩ := PySem.W.any_some hd
  rw [hc]; rfl
end
end Hl
namespace Hl
open PySem L2
open PyProof.Rows hiding St
section
variable {B : Bx} {X : Cx} {e a b c o : Expr} {es rest : List Expr} {st : Stmt} {sts : List Stmt} {δ δ' : Env'} {M : Mem} {Φ : D → Mem → Prop} {Ψ : DEnds} {pos pos' apos cpos pp np : Pos} {d x y : D} {ΦB : Bool → Mem → Prop}
/-! ### dicts -/
theorem look_none {k : Key} : ∀ {ws : List (Key × V)} {kvs : List (Key × D)}, ws.map (·.1) = kvs.map (·.1) → lookD kvs k = none → valV ws k = none
  | [], [], _, _ => rfl
  | [], _ :: _, h, _ => by cases h
  | _ :: _, [], h, _ => by cases h
  | (k1, v) :: ws, (k2, d') :: kvs, h, e => by
    have h1 : k1 = k2 := (List.cons.inj h).1
    have h2 : ws.map (·.1) = kvs.map (·.1) := (List.cons.inj h).2
    subst h1
    unfold lookD at e
    unfold valV
    by_cases hk : k1 = k
    · rw [List.find?_cons_of_pos (by simpa using hk)] at e
      cases e
    · rw [List.find?_cons_of_neg (by simpa using hk)] at e ⊢
      exact look_none h2 e
theorem look_put {kvs : List (Key × D)} {k k' : Key} {d : D} : lookD (putD kvs k d) k' = if k = k' then some d else lookD kvs k' := by
  unfold putD
  split
  · next h =>
    have hmap : ∀ l : List (Key × D), (l.any fun kv => decide (kv.1 = k)) = true ∨ k ≠ k' → lookD (l.map fun kv => if kv.1 = k then (kv.1, d) else kv) k' = if k = k' then some d else lookD l k' := by
      intro l
      induction l with
      | nil =>
        intro hh
        rcases hh with hh | hh
        · cases hh
        · rw [if_neg hh]; rfl
      | cons x l ih =>
        intro hh
        unfold lookD at ih ⊢
        rw [List.map_cons]
        by_cases hx : x.1 = k
        · rw [if_pos hx]
          by_cases hk : k = k'
          · rw [List.find?_cons_of_pos (by simp [hx, hk]), if_pos hk]; rfl
          · rw [List.find?_cons_of_neg (by simp [hx, hk]), if_neg hk, ih (.inr hk), if_neg hk, List.find?_cons_of_neg (by simp [hx, hk])]
        · rw [if_neg hx]
          by_cases hk : k = k'
          · rw [if_pos hk]
            have hl : (l.any fun kv => decide (kv.1 = k)) = true := by
              rcases hh with hh | hh
              · simpa [hx] using hh
              · exact absurd hk hh
            rw [List.find?_cons_of_neg (by rw [← hk]; simpa using hx), ih (.inl hl), if_pos hk]
          · rw [if_neg hk]
            by_cases hx2 : x.1 = k'
            · rw [List.find?_cons_of_pos (by simpa using hx2), List.find?_cons_of_pos (by simpa using hx2)]
            · rw [List.find?_cons_of_neg (by simpa using hx2), List.find?_cons_of_neg (by simpa using hx2)]
              have := ih (.inr hk)
              rw [if_neg hk] at this
              exact this
    exact hmap kvs (.inl h)
  · next h =>
    unfold lookD
    rw [List.find?_append]
    have hno : ∀ kv ∈ kvs, kv.1 ≠ k := fun kv hkv e => h (List.any_eq_true.mpr ⟨kv, hkv, by simpa using e⟩)
    by_cases hk : k = k'
    · subst hk
      rw [if_pos rfl, List.find?_eq_none.mpr (fun kv hkv => by simpa using hno kv hkv)]
      simp
    · rw [if_neg hk, List.find?_cons_of_neg (by simpa using hk)]
      simp
/-- x = {}: a cell at place k -/
theorem de_dnew (k : Nat) (h : ∀ p : Addr, Φ (.raw (.ref p)) (insM k (p, .dct []) M)) : DE B X (.Dict [] [] pos) δ M Φ := .of pe_dnewK fun κ σ H Q hb R kk p hp =>
  kk _ _ _ _ (h p) ((R.dct (kvs := []) (ws := []) hp rfl .nil).perm insM_perm) (.raw _)
/-- a dict, by its cell -/
inductive IsDc (M : Mem) : D → List (Key × D) → Prop
  | cell {p : Addr} {kvs : List (Key × D)} (j : Nat) (h : M[j]? = some (p, .dct kvs)) : IsDc M (.raw (.ref p)) kvs
theorem IsDc.sq {κ : List (V × D)} {σ : St} {H : Hp} {v : V} {x : D} {kvs : List (Key × D)} (h : IsDc M x kvs) (R : Rs κ δ M σ H) (r : Rep M.F H v x) : ∃ p ws, v = .ref p ∧ H p = some (.dK ws) ∧ ws.map (·.1) = kvs.map (·.1) ∧ Reps M.F H (ws.map (·.2)) (kvs.map (·.2)) := by
  cases h with
  | cell j h =>
    cases r
    obtain ⟨ws, e1, e2, r1⟩ := R.at h
    exact ⟨_, ws, rfl, e1, e2, r1⟩
theorem val_rep {F : List Addr} {H : Hp} {k : Key} {ws : List (Key × V)} {kvs : List (Key × D)} (h : ws.map (·.1) = kvs.map (·.1)) (r : Reps F H (ws.map (·.2)) (kvs.map (·.2))) : (lookD kvs k = none ∧ valV ws k = none) ∨ ∃ v d, valV ws k = some v ∧ lookD kvs k = some d ∧ Rep F H v d := by
  cases e : lookD kvs k with
  | none => exact .inl ⟨rfl, look_none h e⟩
  | some d =>
    obtain ⟨v, e1, r1⟩ := look_rep h r e
    exact .inr ⟨v, d, e1, rfl, r1⟩
def GtD (x y w : D) (M : Mem) (Φ : D → Mem → Prop) : Prop := ∃ kvs k, IsDc M x kvs ∧ y = kD k ∧ Φ ((lookD kvs k).getD w) M
/-- d.get(k, x) -/
theorem de_dget2 {n : Nat} (z : Cz X n) (h : DE B X o δ M fun x M1 => (∃ kvs, IsDc M1 x kvs) ∧ DE B X a δ M1 fun y M2 => DE B X b δ M2 fun w M3 => GtD x y w M3 Φ)
    (hbase : attributeBase o "get" X.env (eval o X.env) = eval o X.env := by rfl)
    (hfew : ((backTo cpos (starEach [a, b] X.env)).all (fun x => !x.1) && (backToKw cpos (keywordEach [] X.env)).all (fun x => x.1.isSome)
      && decide (([a, b] : List Expr).length + ([] : List Keyword).length + (if ([] : List Keyword).isEmpty then 0 else 1) < 30)) = true := by rfl)
    (hline : (apos.endLine == cpos.line) = true := by rfl) (htr : backTo cpos (starEach [a, b] X.env) = [(false, eval a X.env), (false, eval b X.env)] := by rfl) : DE B X (.Call (.Attribute o "get" apos) [a, b] [] cpos) δ M Φ :=
  .of (pe_dget2 (un1 z) cE cE cE ⟨hbase, hfew, hline, htr⟩) fun κ σ H Q hb R kk => h κ σ H _ hb R fun v x M1 H1 ⟨⟨kvs0, d0⟩, q1⟩ R1 r1 => by
    obtain ⟨p, ws0, rfl, e0, _⟩ := d0.sq R1 r1
    refine ⟨p, rfl, .inl ⟨ws0, .inl e0⟩, q1 ((.ref p, x) :: κ) σ H1 _ (fun q hq => List.mem_cons_of_mem _ (hb q hq)) (R1.push r1) fun vy y M2 H2 q2 R2 r2 => ?_⟩
    refine q2 ((vy, y) :: (.ref p, x) :: κ) σ H2 _ (fun q hq => List.mem_cons_of_mem _ (List.mem_cons_of_mem _ (hb q hq))) (R2.push r2) fun vw w M3 H3 ⟨kvs, k, hd, ey, q3⟩ R3 r3 => ?_
    obtain ⟨p', ws, ep, e1, e2, rr⟩ := hd.sq R3 R3.pop.top
    cases ep
    have hy := R3.top
    subst ey
    have := rep_k hy
    subst this
    refine ⟨_, .k e1, ?_⟩
    rcases val_rep (k := k) e2 rr with ⟨n1, n2⟩ | ⟨v, d, s1, s2, rv⟩
    · rw [n1] at q3; rw [n2]; exact kk _ _ _ _ q3 R3.pop.pop r3
    · rw [s2] at q3; rw [s1]; exact kk _ _ _ _ q3 R3.pop.pop rv
theorem isd_c {p : Addr} {kvs : List (Key × D)} {P : Prop} (j : Nat) (hm : M[j]? = some (p, .dct kvs)) (k : P) : (∃ kvs, IsDc M (.raw (.ref p)) kvs) ∧ P := ⟨⟨kvs, .cell j hm⟩, k⟩
theorem dg_i {p : Addr} {kvs : List (Key × D)} {i : Int} (j : Nat) (hm : M[j]? = some (p, .dct kvs)) (k : Φ ((lookD kvs (.inl i)).getD d) M) : GtD (.raw (.ref p)) (.int i) d M Φ := ⟨kvs, .inl i, .cell j hm, rfl, k⟩
theorem dg_s {p : Addr} {kvs : List (Key × D)} {i : Str} (j : Nat) (hm : M[j]? = some (p, .dct kvs)) (k : Φ ((lookD kvs (.inr i)).getD d) M) : GtD (.raw (.ref p)) (.str i) d M Φ := ⟨kvs, .inr i, .cell j hm, rfl, k⟩
end
end Hl
namespace Hl
open PySem L2
section
variable {M : Mem} {Φ : D → Mem → Prop} {ΦM : Mem → Prop} {x d : D} {α : Type} {l : List α} {f : α → D} {i : Int} {p : Addr} {K : PySem.W.Frag}
theorem od_ixEC (j : Nat) (hm : M[j]? = some (p, .lst (l.map f))) (h : 0 ≤ i ∧ i < l.length) (k : ∀ y, l[i.toNat]? = some y → Φ (f y) M) : OpD (rIxU K) (.raw (.ref p)) (.int i) M Φ := by
  obtain ⟨y, h1, h2⟩ := at_map (f := f) h.1 h.2
  exact od_ixC hm h2 (k y h1)
theorem cd_lenLM (h : IsL M x (l.map f)) (k : Φ (.int (l.length : Nat)) M) : CallD (rLenU K) [x] M Φ := cd_lenL h (by rw [List.length_map]; exact k)
theorem sd_listE {y : α} (j : Nat) (hm : M[j]? = some (p, .lst (l.map f))) (h : 0 ≤ i ∧ i < l.length) (hd : d = f y) (k : ΦM (M.set j (p, .lst ((l.set i.toNat y).map f)))) : SetD (.raw (.ref p)) (.int i) d M ΦM := by
  refine sd_list (m := i.toNat) hm ?_ (by rw [hd, ← List.map_set]; exact k)
  rw [List.length_map]
  obtain ⟨n, rfl⟩ : ∃ n : Nat, i = (n : Int) := ⟨i.toNat, by omega⟩
  exact ixN_nat' (by omega)
theorem sd_dictI {kvs : List (Key × D)} (j : Nat) (hm : M[j]? = some (p, .dct kvs)) (hl : kvs.length < sizeLine) (k : ΦM (M.set j (p, .dct (putD kvs (.inl i) d)))) : SetD (.raw (.ref p)) (.int i) d M ΦM := sd_dict (k := .inl i) j hm rfl hl k
theorem sd_dictS {kvs : List (Key × D)} {z : Str} (j : Nat) (hm : M[j]? = some (p, .dct kvs)) (hl : kvs.length < sizeLine) (k : ΦM (M.set j (p, .dct (putD kvs (.inr z) d)))) : SetD (.raw (.ref p)) (.str z) d M ΦM := sd_dict (k := .inr z) j hm rfl hl k
theorem od_dI {kvs : List (Key × D)} (j : Nat) (hm : M[j]? = some (p, .dct kvs)) (h : lookD kvs (.inl i) = some d) (k : Φ d M) : OpD (rIxU K) (.raw (.ref p)) (.int i) M Φ := od_ixD (k := .inl i) j hm rfl h k
theorem od_dS {kvs : List (Key × D)} {z : Str} (j : Nat) (hm : M[j]? = some (p, .dct kvs)) (h : lookD kvs (.inr z) = some d) (k : Φ d M) : OpD (rIxU K) (.raw (.ref p)) (.str z) M Φ := od_ixD (k := .inr z) j hm rfl h k
end
end Hl
namespace Lw
open PySem L2 Hl
/-! ### the steps of a walk by data -/
local macro_rules | `(tactic| walk_at "lo") => `(tactic| first | assumption | exact LoP.toNmP (by assumption))
local macro_rules | `(tactic| walk_at "e1") => `(tactic| first
  | (refine idName ?_; first | refine de_name (by walk_at "lo") (by rfl) ?_ | refine de_gint (by assumption) ?_ | refine de_gstr (by assumption) ?_ | walk_at "tyn" | refine de_gcls (by assumption) (by assumption) ?_)
  | (refine idCst ?_; first | refine de_int ?_ | refine de_str ?_ | refine de_bl ?_ | refine de_non ?_)
  | (refine idBin ?_; first | refine de_add ?_ | refine de_sub ?_ | refine de_mul ?_ | refine de_div ?_ | refine de_mod ?_ | refine de_pow ?_)
  | (refine idCmp ?_; first | refine de_lt ?_ | refine de_le ?_ | refine de_gt ?_ | refine de_ge ?_ | refine de_eq (by assumption) ?_ | refine de_ne (by assumption) ?_ | refine de_is ?_ | refine de_isnot ?_ | refine de_in ?_ | refine de_notin ?_ | refine de_le2C ?_ | refine de_le2 ?_)
  | refine de_slice ?_
  | refine de_ix (by assumption) ?_
  | (refine idCallN ?_; first | walk_at "call" | refine de_len (by assumption) ?_ | refine de_min2 (by assumption) (by assumption) ?_ | refine de_max2 (by assumption) (by assumption) ?_ | refine de_isiV (by assumption) ?_ | refine de_sum (by assumption) (by assumption) ?_ | refine de_list (by assumption) ?_ | refine de_tuple (by assumption) ?_ | refine de_maxDef (by assumption) (by assumption) ?_ (un64 (by assumption)) | refine de_minL (by assumption) (by assumption) ?_ | refine de_maxL (by assumption) (by assumption) ?_ | refine de_all (by assumption) (by assumption) ?_)
  | (refine idAttr ?_; refine de_fld ?_)
  | (refine idCallA ?_; first | refine de_append ?_ | refine de_pop ?_ | walk_at "bm" | refine de_mU (by assumption) ?_)
  | refine de_and ?_ | refine de_or ?_ | refine de_not ?_ | refine de_one ?_ | refine de_if ?_ | refine de_neg ?_
  | refine de_tup ?_ | refine de_lst ?_)
open PyProof.Rows in
local macro_rules | `(tactic| walk_at "tyn") => `(tactic| first | refine de_tyN (T := "int") (by assumption) boot_int ?_ | refine de_tyN (T := "ValueError") (by assumption) (by decide +kernel) ?_ | refine de_tyN (T := "str") (by assumption) (by decide +kernel) ?_ | refine de_tyN (T := "bool") (by assumption) boot_bool ?_ | refine de_tyN (T := "list") (by assumption) boot_list ?_ | refine de_tyN (T := "tuple") (by assumption) boot_tuple ?_)
local macro_rules | `(tactic| walk_at "clsv") => `(tactic| first | exact .own _ | exact .ty _)
local macro_rules | `(tactic| walk_at "stf") => `(tactic| fail "no rule")
local macro_rules | `(tactic| walk_at "cl") => `(tactic| fail "no callee")
local macro_rules | `(tactic| walk_at "call") => `(tactic| first | refine de_call (by assumption) (by assumption) (by decide) (by assumption) ?_ | refine de_callK (by assumption) (by assumption) (by decide) (by assumption) ?_ | refine de_fE (by assumption) (by assumption) (by decide) (by assumption) (by walk_at "lets") ?_ (by walk_at "pla") | refine de_kE 0 (by assumption) (by assumption) (by decide) (by assumption) (by walk_at "lets") ?_ (by walk_at "pla"))
local macro_rules | `(tactic| walk_at "lets") => `(tactic| first | exact lets_at (by assumption) | exact lets_no)
local macro_rules | `(tactic| walk_at "pla") => `(tactic| first | exact rfl | exact ⟨rfl, rfl, rfl⟩ | exact ⟨rfl, rfl, rfl, rfl⟩)
local macro_rules | `(tactic| walk_at "bm") => `(tactic| first | refine de_dget2 (by assumption) ?_)
local macro_rules | `(tactic| walk_at "fld") => `(tactic| first | refine fld_v (by assumption) rfl ?_ | refine fld_x (by assumption) rfl ?_ | refine fld_c 0 rfl (by assumption) rfl ?_ | refine fld_c 1 rfl (by assumption) rfl ?_ | refine fld_c 2 rfl (by assumption) rfl ?_ | refine fld_c 3 rfl (by assumption) rfl ?_ | refine fld_c 4 rfl (by assumption) rfl ?_)
local macro_rules | `(tactic| walk_at "mt") => `(tactic| first | refine mt_v (by assumption) (by decide) (by walk_at "lets") (by walk_at "pla") (by rfl) ?_ | refine mt_c 0 rfl (by assumption) (by decide) (by walk_at "lets") (by walk_at "pla") (by rfl) ?_ | refine mt_c 1 rfl (by assumption) (by decide) (by walk_at "lets") (by walk_at "pla") (by rfl) ?_ | refine mt_c 2 rfl (by assumption) (by decide) (by walk_at "lets") (by walk_at "pla") (by rfl) ?_ | refine mt_c 3 rfl (by assumption) (by decide) (by walk_at "lets") (by walk_at "pla") (by rfl) ?_)
local macro_rules | `(tactic| walk_at "ar") => `(tactic| first | refine ar_id rfl ?_ | refine ar_idM rfl ?_ | refine ar_idN rfl (fun _ => ?_) | refine ar_gM rfl rfl ?_ | refine ar_gN rfl rfl (fun _ => ?_) | refine ar_g rfl rfl ?_)
local macro_rules | `(tactic| walk_at "nef") => `(tactic| exact eq_false (by decide))
local macro_rules | `(tactic| walk_at "stf0") => `(tactic| first | refine sf_n0 0 rfl (by assumption) ?_ | refine sf_n1 0 rfl (by assumption) (by walk_at "nef") ?_ | refine sf_n2 0 rfl (by assumption) (by walk_at "nef") (by walk_at "nef") ?_ | refine sf_n3 0 rfl (by assumption) (by walk_at "nef") (by walk_at "nef") (by walk_at "nef") ?_ | refine sf_n4 0 rfl (by assumption) (by walk_at "nef") (by walk_at "nef") (by walk_at "nef") (by walk_at "nef") ?_ | refine sf_n5 0 rfl (by assumption) (by walk_at "nef") (by walk_at "nef") (by walk_at "nef") (by walk_at "nef") (by walk_at "nef") ?_)
local macro_rules | `(tactic| walk_at "pow") => `(tactic| first | refine p10_1 ?_ | refine p10_2 ?_ | refine p10_3 ?_ | refine p10_4 ?_ | refine p10_5 ?_ | refine p10_6 ?_ | refine p10_7 ?_ | refine p10_8 ?_ | refine p10_9 ?_ | refine p10_10 ?_ | refine p10_11 ?_ | refine p10_12 ?_ | refine p10_13 ?_ | refine p10_14 ?_ | refine p10_15 ?_ | refine p10_16 ?_ | refine p10_17 ?_ | refine p10_18 ?_ | refine p10_19 ?_ | refine p10_20 ?_ | refine p10_21 ?_ | refine p10_22 ?_ | refine p10_23 ?_ | refine p10_24 ?_ | refine p10_25 ?_ | refine p10_26 ?_ | refine p10_27 ?_ | refine p10_28 ?_ | refine p10_29 ?_ | refine p10_30 ?_ | refine p10_31 ?_ | refine p10_32 ?_ | refine p10_33 ?_ | refine p10_34 ?_ | refine p10_35 ?_ | refine p10_36 ?_ | refine p10_37 ?_ | refine p10_38 ?_ | refine p10_39 ?_ | refine p10_40 ?_ | refine p10_41 ?_ | refine p10_42 ?_ | refine p10_43 ?_ | refine p10_44 ?_ | refine p10_45 ?_)
local macro_rules | `(tactic| walk_at "lenb") => `(tactic| (refine len_lt ?_; first | omega | (simp only [List.length_map, List.length_append, List.length_cons, List.length_nil]; omega)))
local macro_rules | `(tactic| walk_at "pos") => `(tactic| first | assumption | omega | (refine ⟨?_, ?_⟩ <;> first | assumption | omega) | (refine ⟨?_, ?_, ?_⟩ <;> first | assumption | omega))
local macro_rules | `(tactic| walk_at "neg") => `(tactic| first | assumption | omega | (intro hh; simp_all; done))
local macro_rules | `(tactic| walk_at "ixauto") => `(tactic| first | refine od_ixT rfl ?_ | refine od_ixE (by walk_at "rng") (fun _ _ => ?_) | refine od_ixEC 0 rfl (by walk_at "rng") (fun _ _ => ?_) | refine od_ixEC 1 rfl (by walk_at "rng") (fun _ _ => ?_) | refine od_ixEC 2 rfl (by walk_at "rng") (fun _ _ => ?_) | refine od_ixEC 3 rfl (by walk_at "rng") (fun _ _ => ?_))
local macro_rules | `(tactic| walk_at "islauto") => `(tactic| first
  | refine isl_c 0 rfl ?_ | refine isl_c 1 rfl ?_ | refine isl_c 2 rfl ?_ | refine isl_c 3 rfl ?_ | refine isl_c 4 rfl ?_ | refine isl_c 5 rfl ?_ | (refine idSet ?_; first | refine sd_listE 0 rfl (by walk_at "rng") rfl ?_ | refine sd_listE 1 rfl (by walk_at "rng") rfl ?_ | refine sd_listE 2 rfl (by walk_at "rng") rfl ?_ | refine sd_listE 3 rfl (by walk_at "rng") rfl ?_ | refine sd_dictI 0 rfl (by walk_at "lenb") ?_ | refine sd_dictI 1 rfl (by walk_at "lenb") ?_ | refine sd_dictI 2 rfl (by walk_at "lenb") ?_ | refine sd_dictS 0 rfl (by walk_at "lenb") ?_ | refine sd_dictS 1 rfl (by walk_at "lenb") ?_ | refine sd_dictS 2 rfl (by walk_at "lenb") ?_) | refine isd_c 0 rfl ?_ | refine isd_c 1 rfl ?_ | refine isd_c 2 rfl ?_ | refine isd_c 3 rfl ?_ | refine dg_i 0 rfl ?_ | refine dg_i 1 rfl ?_ | refine dg_i 2 rfl ?_ | refine dg_i 3 rfl ?_ | refine dg_s 0 rfl ?_ | refine dg_s 1 rfl ?_ | refine dg_s 2 rfl ?_ | refine dg_s 3 rfl ?_
  | (refine idApp ?_; first | refine mt_app (j := 0) rfl (by walk_at "lenb") ?_ | refine mt_app (j := 1) rfl (by walk_at "lenb") ?_ | refine mt_app (j := 2) rfl (by walk_at "lenb") ?_ | refine mt_app (j := 3) rfl (by walk_at "lenb") ?_ | refine mt_app (j := 4) rfl (by walk_at "lenb") ?_ | refine mt_app (j := 5) rfl (by walk_at "lenb") ?_))
local macro_rules | `(tactic| walk_at "t") => `(tactic| first | (refine idC ?_; first | refine cd_lenLM (.val _) ?_ | refine cd_lenLM (.cell 0 rfl) ?_ | refine cd_lenLM (.cell 1 rfl) ?_ | refine cd_lenLM (.cell 2 rfl) ?_) | walk_at "s" | (refine idOx ?_; walk_at "ixauto") | walk_at "islauto")
local macro_rules | `(tactic| walk_at "rng") => `(tactic| first | exact ⟨by omega, by omega⟩ | exact ⟨by simp; omega, by simp; omega⟩)
local macro_rules | `(tactic| walk_at "ox") => `(tactic| fail "no rule")
local macro_rules | `(tactic| walk_at "o1") => `(tactic| first
  | (refine idOx ?_; first | refine st_great ?_ | refine st_rest ?_ | refine st_turn ?_ | refine st_seed ?_ | refine st_cells ?_ | walk_at "ox")
  | refine od_addI ?_ | refine od_sub ?_ | refine od_lt ?_ | refine od_le ?_ | refine od_gt ?_ | refine od_ge ?_ | refine od_eqI ?_ | refine od_neI ?_ | refine od_isN ?_ | refine od_notN ?_ | refine oi_addI ?_ | refine od_inS ?_ | refine od_notinS ?_ | refine od_inN (.val _) ?_ | refine od_notinN (.val _) ?_ | refine od_mod (by omega) ?_ | refine od_mulS (by omega) ?_ | refine od_divS (by omega) (by omega) ?_ | walk_at "pow" | walk_at "ox")
local macro_rules | `(tactic| walk_at "set") => `(tactic| first | refine se0 ?_ | refine se1 ?_ | refine se2 ?_ | refine se3 ?_ | refine se4 ?_ | refine se5 ?_ | refine se6 ?_ | refine se7 ?_ | refine se8 ?_ | refine se9 ?_ | refine se10 ?_ | refine se11 ?_ | refine se12 ?_ | refine se13 ?_ | refine se14 ?_ | refine se15 ?_ | refine se16 ?_ | refine se17 ?_ | refine se18 ?_ | refine se19 ?_ | refine se20 ?_ | refine se21 ?_ | refine se22 ?_ | refine se23 ?_ | refine se24 ?_ | refine se25 ?_ | refine se26 ?_ | refine se27 ?_ | refine se28 ?_ | refine se29 ?_ | refine se30 ?_ | refine se31 ?_ | refine se32 ?_ | refine se33 ?_ | refine se34 ?_ | refine se35 ?_)
local macro_rules | `(tactic| walk_at "br") => `(tactic| first | refine Br.yes ?_ | refine Br.no ?_ | refine Br.decT (by omega) ?_ | refine Br.decF (by omega) ?_ | refine Br.ndecT (by omega) ?_ | refine Br.ndecF (by omega) ?_ | refine Br.dec (fun _ => ?_) (fun _ => ?_) | refine Br.ndec (fun _ => ?_) (fun _ => ?_) | refine Br.neg ?_ | refine Br.mk (fun _ => ?_) (fun _ => ?_))
local macro_rules | `(tactic| walk_at "s") => `(tactic| first
  | (refine idE ?_; walk_at "e1")
  | (refine idO ?_; walk_at "o1")
  | (refine idA ?_; first | refine da_cons ?_ | refine da_nil ?_)
  | (refine idSs ?_; first | refine ds_cons ?_ | refine ds_nil ?_)
  | (refine idSl ?_; walk_at "set")
  | (refine idFld ?_; walk_at "fld")
  | refine endA ?_
  | (refine idUns ?_; first | refine ua0 ?_ | refine ua1 ?_ | refine ua2 ?_ | refine ua3 ?_ | refine ua4 ?_ | refine ua5 ?_ | refine ua6 ?_ | refine ua7 ?_ | refine ua8 ?_ | refine ua9 ?_ | refine ua10 ?_ | refine ua11 ?_ | refine ua12 ?_ | refine ua13 ?_ | refine ua14 ?_ | refine ua15 ?_ | refine ua16 ?_ | refine ua17 ?_ | refine ua18 ?_ | refine ua19 ?_ | refine ua20 ?_ | refine ua21 ?_ | refine ua22 ?_ | refine ua23 ?_)
  | refine exh_yes (by assumption) (fun _ _ _ => ?_) | refine exh_no (by assumption) ?_
  | (refine idMt ?_; walk_at "mt")
  | (refine idStF ?_; first | walk_at "stf0" | walk_at "stf")
  | (refine idDAK ?_; first | refine dak_en ?_ | refine dak_nn ?_ | refine dak_nk ?_ | refine dak_ek ?_)
  | walk_at "ar"
  | (refine idS ?_; first
    | (refine idAsg ?_; first | refine ds_set (by assumption) (by assumption) ?_ | refine ds_setN (by assumption) (by assumption) ?_ | refine ds_fldU ?_ | refine ds_asg ?_)
    | (refine idRaise ?_; first | refine ds_raise (by assumption) (by assumption) (by assumption) (by assumption) ?_ | refine ds_raiseI (by assumption) (by decide) (by assumption) (by assumption) (by assumption) ?_ | refine ds_raise0 (by assumption) (by assumption) (by assumption) (by assumption) ?_)
    | refine ds_ret ?_ | refine ds_if ?_ | refine ds_expr ?_
    | refine ds_augAdd (by assumption) (by assumption) (by rfl) ?_ | refine ds_augSub (by assumption) (by assumption) (by rfl) ?_
    | refine ds_pass ?_ | refine ds_retN ?_ | refine ds_break ?_ | refine ds_continue ?_)
  | (refine idBr ?_; walk_at "br")
  | refine toB.mk ?_
  | (refine idTC ?_; first | refine dt_lt ?_ | refine dt_le ?_ | refine dt_gt ?_ | refine dt_ge ?_ | refine dt_eq (by assumption) ?_ | refine dt_ne (by assumption) ?_ | refine dt_is ?_ | refine dt_isnot ?_ | refine dt_in ?_ | refine dt_notin ?_ | refine dt_val ?_)
  | (refine idT ?_; first | refine dt_not ?_ | refine dt_and ?_ | refine dt_or ?_ | refine dt_val ?_)
  | (refine idW ?_; first | refine dw_and1 ?_ | refine dw_or1 ?_ | refine dw_and ?_ | refine dw_or ?_)
  | (refine idC ?_; first | refine cd_min2 ?_ | refine cd_max2 ?_ | (refine CallD.inl (CallD.inl ?_); first | refine isi_ii ?_ | refine isi_ib ?_ | refine isi_bb ?_ | refine isi_bi ?_ | refine isi_ll ?_ | refine isi_tt ?_ | refine isi_ni ?_ | refine isi_nb ?_ | refine isi_nt ?_) | refine CallD.inl (isx_x (by assumption) (by walk_at "clsv") (by assumption) ?_) | refine CallD.inl (isx_o (.val _ _ _) (by assumption) (by walk_at "clsv") (by assumption) ?_) | refine CallD.inl (isx_b rfl (by walk_at "clsv") (by assumption) ?_) | refine isx_t2 (by assumption) (by walk_at "clsv") (by walk_at "clsv") (by assumption) (by assumption) ?_ | refine cd_lenL (.val _) ?_ | refine cd_lenT ?_ | refine cd_lenX ?_ | walk_at "ox")
  | (refine idG ?_; first | refine dg_name (by assumption) (by assumption) ?_ | refine dg_sub (by assumption) ?_ | refine dg_tup (by assumption) (by rfl) ?_)
  | (refine idGs ?_; first | refine dgs_cons ?_ | refine dgs_nil ?_)
  | (refine idK ?_; first | refine dk_cons ?_ | refine dk_nil ?_)
  | refine DPt.no ?_ | refine DPt.so ?_
  | refine len_and (Nat.le_of_ble_eq_true rfl) ?_ | refine len_andI rfl (Nat.le_of_ble_eq_true rfl) ?_
  | walk_at "cl"
  | refine ex_i ?_ | refine ex_l ?_ | refine ex_ii ?_ | refine ex_t ?_ | refine ex_s ?_ | refine ex_x ?_
  | (refine idSet ?_; first | refine set_rest ?_ | refine set_turn ?_ | refine set_seed ?_ | walk_at "ox"))
section
variable {B : Bx} {X : Cx} {e c tg it : Expr} {s1 s2 sts : List Stmt} {δ : Env'} {M : Mem} {Ψ : DEnds} {p p' : Pos}
theorem stIf (h : DSs B X (.If c s1 s2 p :: sts) δ M Ψ) : DSs B X (.If c s1 s2 p :: sts) δ M Ψ := h
theorem stFor (h : DSs B X (.For tg it s1 s2 p :: sts) δ M Ψ) : DSs B X (.For tg it s1 s2 p :: sts) δ M Ψ := h
theorem stWhile (h : DSs B X (.While c s1 s2 p :: sts) δ M Ψ) : DSs B X (.While c s1 s2 p :: sts) δ M Ψ := h
theorem stTry {hs : List ExceptHandler} {s3 : List Stmt} (h : DSs B X (.Try s1 hs s2 s3 p :: sts) δ M Ψ) : DSs B X (.Try s1 hs s2 s3 p :: sts) δ M Ψ := h
theorem stSet (x : Str) (h : DSs B X (.Assign [.Name x p'] e p :: sts) δ M Ψ) : DSs B X (.Assign [.Name x p'] e p :: sts) δ M Ψ := h
end
def top (i : Nat) : Stmt := PySem.Challenge.pw_hourlanes_k13_whole_a_way_or_a_stretch.main.body.getD i (.Pass ⟨0, 0, 0, 0⟩)
local macro_rules | `(tactic| walk_at "cl") => `(tactic| first | refine c_take (by omega) (by omega) (by omega) (fun _ _ _ => ?_) | refine c_begun (by omega) (fun _ _ => ?_))
abbrev s_law_take : Stmt := top 12
def n_law_take : List Str := ["_law_state", "_law_many", "_law_found", "_law_turn", "_law_cell", "_law_seed", "_law_mixed"]
theorem sc_law_take : FnScope n_law_take ["_law_state", "_law_many"] (defScope s_law_take) := ⟨rfl, rfl, rfl, by decide +kernel, rfl, by decide +kernel, by decide +kernel⟩
theorem d_law_take {P : Program} {w : World} {K : PySem.W.Frag} {mg : Str → Option Value} {base : Heap} {f : Addr} {fd : FuncData} (F : Fun K "_law_take" "_law_take" s_law_take f fd)
    (G_len : mg "len" = none) : FnOk P w K mg base CX0 1 f fd ["_law_state", "_law_many"] (lift pTake) := by
  refine fnok_of (N := n_law_take) (k := 0) F sc_law_take (fun ds M Φ h => by obtain ⟨s, g, b, n, M', rfl, rfl, hn, hn2, k⟩ := h; rfl) fun X B I ds M Φ h => ?_
  obtain ⟨s, g, b, n, M', rfl, rfl, hn, hn2, k⟩ := h
  obtain ⟨rfl, rfl, rfl, rfl, rfl, hN, hs, hf, z, xe⟩ := I
  have hp := passes_of xe
  have n0 : Lo X 0 "_law_state" := lo_of hN hs hf (by decide +kernel)
  have n1 : Lo X 1 "_law_many" := lo_of hN hs hf (by decide +kernel)
  have n2 : Lo X 2 "_law_found" := lo_of hN hs hf (by decide +kernel)
  have n3 : Lo X 3 "_law_turn" := lo_of hN hs hf (by decide +kernel)
  have n4 : Lo X 4 "_law_cell" := lo_of hN hs hf (by decide +kernel)
  have n5 : Lo X 5 "_law_seed" := lo_of hN hs hf (by decide +kernel)
  have n6 : Lo X 6 "_law_mixed" := lo_of hN hs hf (by decide +kernel)
  have g_len : Gn X "len" := gn_of hs (by decide +kernel) G_len
  clear F hf
  change DSs _ X (_ :: _) [_, _, _, _, _, _, _] _ _
  refine ws_stOpen fun gs r t e cs ok => ?_
  have hr := ok.hr
  have hn2 : n < 2 ^ 1000 := hn2
  have ht := ok.ht
  have htb := ok.htb
  have he := ok.he
  have he2 := ok.he2
  repeat' walk_at "s"
  · -- rest is 0
    refine od_neNil (.cell 1 rfl) (okE_ints _) ?_
    repeat' walk_at "s"
    · -- no great cells: a number mixed
      rw [List.length_map]
      have hc1 := ok.hc1
      have hc2 := ok.hc2
      repeat' walk_at "s"
      obtain ⟨c, hc, ec⟩ := at_int (cs := cs) (i := t % (cs.length : Nat)) (Int.emod_nonneg _ (by omega)) (Int.emod_lt_of_pos _ (by omega))
      refine od_ixL ec ?_
      obtain ⟨hc0, hc3⟩ := ok.hcs c hc
      have m1 := Int.emod_nonneg (e * 48271 + c * (2 * t + 3) + t ^ (3 : Int).toNat) (show (2147483647 : Int) ≠ 0 by decide)
      have m2 := Int.emod_lt_of_pos (e * 48271 + c * (2 * t + 3) + t ^ (3 : Int).toNat) (show (0 : Int) < 2147483647 by decide)
      have m3 := Int.emod_nonneg (((e * 48271 + c * (2 * t + 3) + t ^ (3 : Int).toNat) % 2147483647) ^ (2 : Int).toNat) (show (2147483629 : Int) ≠ 0 by decide)
      have m4 := Int.emod_lt_of_pos (((e * 48271 + c * (2 * t + 3) + t ^ (3 : Int).toNat) % 2147483647) ^ (2 : Int).toNat) (show (0 : Int) < 2147483629 by decide)
      generalize hS : (e * 48271 + c * (2 * t + 3) + t ^ (3 : Int).toNat) % 2147483647 = S at m1 m2 m3 m4
      generalize hU : S ^ (2 : Int).toNat % 2147483629 = U at m3 m4
      repeat' walk_at "s"
      refine od_pow ⟨by decide, by decide, by omega⟩ ?_
      repeat' walk_at "s"
      rw [hS]
      repeat' walk_at "s"
      refine od_pow ⟨by decide, by decide, by omega⟩ ?_
      repeat' walk_at "s"
      rw [hU]
      repeat' walk_at "s"
      refine od_pow ⟨by decide, by decide, by omega⟩ ?_
      repeat' walk_at "s"
      refine ⟨_, _, .stc (b := b) ⟨ok.hgs, hr, by omega, by omega, m1, m2, ok.hcs, ok.hc1, ok.hc2⟩, k _ (Int.emod_nonneg _ (by omega)) (Int.emod_lt_of_pos _ (by omega))⟩
    · -- the next great cell
      rename_i hg
      cases gs with
      | nil => exact absurd hg (by decide)
      | cons g0 gs =>
        refine ⟨⟨_, .cell 1 rfl⟩, ?_⟩
        repeat' walk_at "s"
        refine mt_popD (j := 1) (m := 0) (d := .int g0) (ds := .int g0 :: gs.map .int) rfl (by decide) (by decide) (seqIndex_of (by decide) (by simp)) rfl ?_
        have h0 : 0 < g0 := ok.hgs g0 List.mem_cons_self
        have ok1 : ∀ r', 0 ≤ r' → StOk b gs r' t e cs := fun r' hr' => ⟨fun x hx => ok.hgs x (List.mem_cons_of_mem _ hx), hr', ok.ht, by omega, ok.he, ok.he2, ok.hcs, ok.hc1, ok.hc2⟩
        repeat' walk_at "s"
        exact ⟨_, _, .stc (ok1 _ (Int.ediv_nonneg (by omega) (by omega))), k _ (Int.emod_nonneg _ (by omega)) (Int.emod_lt_of_pos _ (by omega))⟩
  · exact ⟨_, _, .stc (b := b) ⟨ok.hgs, Int.ediv_nonneg (by omega) (by omega), ht, by omega, he, he2, ok.hcs, ok.hc1, ok.hc2⟩, k _ (Int.emod_nonneg _ (by omega)) (Int.emod_lt_of_pos _ (by omega))⟩
abbrev s_law_begun : Stmt := top 11
def n_law_begun : List Str := ["_law_script", "_law_cell"]
theorem sc_law_begun : FnScope n_law_begun ["_law_script"] (defScope s_law_begun) := ⟨rfl, rfl, rfl, by decide +kernel, rfl, by decide +kernel, by decide +kernel⟩
theorem d_law_begun {P : Program} {w : World} {K : PySem.W.Frag} {mg : Str → Option Value} {base : Heap} {f : Addr} {fd : FuncData} (F : Fun K "_law_begun" "_law_begun" s_law_begun f fd)
     : FnOk P w K mg base CX0 1 f fd ["_law_script"] (lift (pBegun K)) := by
  refine fnok_of (N := n_law_begun) (k := 0) F sc_law_begun (fun ds M Φ h => by obtain ⟨ns, rfl, hl, k⟩ := h; rfl) fun X B I ds M Φ h => ?_
  obtain ⟨ns, rfl, hl, k⟩ := h
  obtain ⟨rfl, rfl, rfl, rfl, rfl, hN, hs, hf, z, xe⟩ := I
  have hp := passes_of xe
  have n0 : Lo X 0 "_law_script" := lo_of hN hs hf (by decide +kernel)
  clear F hf
  change DSs _ X (_ :: _) [_, _] _ _
  refine ds_one (ds_ret (de_disp 0 rfl rfl rfl (by simp) (by decide) fun p => ?_))
  simp only [DPs]
  repeat' walk_at "s"
  refine DE.own 1 (df_lc 0 z hN hs [("_law_cell", 1)] (.one 1) (by decide +kernel) (by decide) (fun X' bk => pg_one bk z (bk.lo hN hs (by decide +kernel))) ?_)
  refine di_scr ?_
  repeat' walk_at "s"
  refine LcH.pure bigF (by rw [List.length_map]; exact Nat.le_trans hl (by decide)) (fun q acc x hx => ?_) ?_
  · obtain ⟨n, hn, rfl⟩ := List.mem_map.mp hx
    refine ⟨_, rfl, fun X' bk => ?_⟩
    have c0 : Lo X' 1 "_law_cell" := bk.lo hN hs (by decide +kernel)
    have z' := bk.z z
    repeat' walk_at "s"
    · rename_i h
      intro X' bk
      have c0 : Lo X' 1 "_law_cell" := bk.lo hN hs (by decide +kernel)
      have z' := bk.z z
      repeat' walk_at "s"
      exact ⟨(if_pos h).symm, rfl⟩
    · rename_i h
      exact ⟨(if_neg h).symm, rfl⟩
  intro g
  rw [big_map]
  repeat' walk_at "s"
  refine DE.f (df_lc 0 z hN hs [("_law_cell", 1)] (.one 1) (by decide +kernel) (by decide) (fun X' bk => pg_one bk z (bk.lo hN hs (by decide +kernel))) ?_)
  refine di_scr ?_
  repeat' walk_at "s"
  refine LcH.pure modF (by rw [List.length_map]; exact Nat.le_trans hl (by decide)) (fun q acc x hx => ?_) ?_
  · obtain ⟨n, hn, rfl⟩ := List.mem_map.mp hx
    refine ⟨_, rfl, fun X' bk => ?_⟩
    have c0 : Lo X' 1 "_law_cell" := bk.lo hN hs (by decide +kernel)
    have z' := bk.z z
    repeat' walk_at "s"
    exact ⟨rfl, rfl⟩
  rw [rest_map]
  repeat' walk_at "s"
  refine od_addL (by simp; exact Nat.le_trans (Nat.succ_le_succ hl) (by decide)) ?_
  refine ⟨0, [(.inr "great", .raw (.ref g)), (.inr "rest", .int 0), (.inr "turn", .int 0), (.inr "seed", .int 7), (.inr "cells", .lst (((ns.map fun n => n % 2147483629) ++ [77]).map .int))], rfl, by rw [List.map_append]; rfl, by show 5 ≤ 15; decide, ?_⟩
  exact ⟨_, _, .stc (begun_ok ns hl), k _ _⟩
/-- what carried tells -/
structure Carr (width : Int) (heap : List (Int × Int)) (gone : List Int) : Prop where
  len : gone.length = heap.length
  bd : ∀ k (h : k < heap.length) (g : k < gone.length), 0 ≤ gone[k] ∧ gone[k] ≤ heap[k].2
  sum : gone.sum = min width (heap.map (·.2)).sum
  turn : ∀ k (h : k < heap.length) (g : k < gone.length), gone[k] ≠ 0 → ∀ j (h' : j < heap.length) (g' : j < gone.length), heap[j].1 < heap[k].1 ∨ (heap[j].1 = heap[k].1 ∧ j < k) → gone[j] = heap[j].2
def hD (heap : List (Int × Int)) (k : Nat) : Int × Int := heap.getD k (0, 0)
def gD (gone : List Int) (k : Nat) : Int := gone.getD k 0
def keysOf (heap : List (Int × Int)) : List (Int × Int) := (List.range heap.length).map fun i => ((hD heap i).1, (i : Int))
/-- behind some of the pairs, in their order -/
structure CI (width : Int) (heap : List (Int × Int)) (done : List (Int × Int)) (gone : List Int) (left : Int) : Prop where
  len : gone.length = heap.length
  nn : 0 ≤ left
  sum : gone.sum + left = width
  zero : ∀ k, k < heap.length → (∀ q ∈ done, q.2 ≠ (k : Int)) → gD gone k = 0
  bd : ∀ k, k < heap.length → 0 ≤ gD gone k ∧ gD gone k ≤ (hD heap k).2
  full : 0 < left → ∀ q ∈ done, gD gone q.2.toNat = (hD heap q.2.toNat).2
  turn : done.Pairwise fun r q => gD gone q.2.toNat ≠ 0 → gD gone r.2.toNat = (hD heap r.2.toNat).2
theorem gD_set {gone : List Int} {k j : Nat} {m : Int} (h : k < gone.length) : gD (gone.set k m) j = if j = k then m else gD gone j := by
  unfold gD
  by_cases e : j = k
  · subst e
    rw [if_pos rfl]
    simp [List.getD, h]
  · rw [if_neg e]
    simp [List.getD, List.getElem?_set_ne (fun z => e z.symm)]
theorem CI.start {width : Int} {heap : List (Int × Int)} (hw : 0 ≤ width) (hm : ∀ p ∈ heap, 0 ≤ p.2) : CI width heap [] (heap.map fun _ => 0) width := by
  have g0 : ∀ k, gD (heap.map fun _ => (0 : Int)) k = 0 := fun k => by
    unfold gD
    by_cases h : k < heap.length <;> simp [List.getD, h]
  refine ⟨by simp, hw, ?_, fun k _ _ => g0 k, fun k hk => ?_, fun _ q hq => by simp at hq, .nil⟩
  · have : ∀ l : List (Int × Int), (l.map fun _ => (0 : Int)).sum = 0 := fun l => by
      induction l with
      | nil => rfl
      | cons a l ih => rw [List.map_cons, List.sum_cons, ih]; rfl
    rw [this]; omega
  · rw [g0]
    refine ⟨Int.le_refl _, ?_⟩
    unfold hD
    rw [List.getD_eq_getElem?_getD, List.getElem?_eq_getElem hk]
    exact hm _ (List.getElem_mem hk)
theorem CI.step {width left : Int} {heap done : List (Int × Int)} {gone : List Int} {q : Int × Int} {k : Nat} (c : CI width heap done gone left) (hq : q.2 = (k : Int)) (hk : k < heap.length) (hn : ∀ r ∈ done, r.2 ≠ (k : Int)) (hr : ∀ r ∈ done, 0 ≤ r.2) :
    CI width heap (done ++ [q]) (gone.set k (min left (hD heap k).2)) (left - min left (hD heap k).2) := by
  have hg : k < gone.length := by rw [c.len]; exact hk
  have hz := c.zero k hk hn
  have hb := c.bd k hk
  have hn' : ∀ r ∈ done, r.2.toNat ≠ k := fun r h e => hn r h (by have := hr r h; omega)
  have hqk : q.2.toNat = k := by omega
  refine ⟨by rw [List.length_set]; exact c.len, by have := c.nn; omega, ?_, fun j hj h => ?_, fun j hj => ?_, fun hl r h => ?_, ?_⟩
  · have hs := sum_set (l := gone) (j := k) (z := 0) (y := min left (hD heap k).2) (by
      unfold gD at hz
      rw [List.getD_eq_getElem?_getD, List.getElem?_eq_getElem hg] at hz
      rw [List.getElem?_eq_getElem hg, show gone[k] = 0 from hz])
    rw [hs]
    have := c.sum
    omega
  · rw [gD_set hg]
    by_cases e : j = k
    · subst e
      exact absurd hq (h q (by simp))
    · rw [if_neg e]
      exact c.zero j hj fun r hr => h r (by simp [hr])
  · rw [gD_set hg]
    by_cases e : j = k
    · subst e
      rw [if_pos rfl]
      have := c.nn
      omega
    · rw [if_neg e]
      exact c.bd j hj
  · have nn := c.nn
    rcases List.mem_append.mp h with h | h
    · rw [gD_set hg, if_neg (hn' r h)]
      refine c.full ?_ r h
      have := hb.1
      have := hb.2
      omega
    · have : r = q := by simpa using h
      subst this
      rw [hqk, gD_set hg, if_pos rfl]
      omega
  · refine List.pairwise_append.mpr ⟨?_, List.pairwise_singleton _ _, fun r h s hs => ?_⟩
    · have ht := c.turn
      have aux : ∀ {l : List (Int × Int)}, (∀ r ∈ l, r.2.toNat ≠ k) → l.Pairwise (fun r q => gD gone q.2.toNat ≠ 0 → gD gone r.2.toNat = (hD heap r.2.toNat).2) → l.Pairwise (fun r q => gD (gone.set k (min left (hD heap k).2)) q.2.toNat ≠ 0 → gD (gone.set k (min left (hD heap k).2)) r.2.toNat = (hD heap r.2.toNat).2) := by
        intro l
        induction l with
        | nil => intro _ _; exact .nil
        | cons a l ih =>
          intro hl hp
          obtain ⟨p1, p2⟩ := List.pairwise_cons.mp hp
          refine List.pairwise_cons.mpr ⟨fun b hb => ?_, ih (fun r hr => hl r (List.mem_cons_of_mem _ hr)) p2⟩
          rw [gD_set hg, if_neg (hl b (List.mem_cons_of_mem _ hb)), gD_set hg, if_neg (hl a List.mem_cons_self)]
          exact p1 b hb
      exact aux hn' ht
    · have : s = q := by simpa using hs
      subst this
      rw [hqk, gD_set hg, if_pos rfl, gD_set hg, if_neg (hn' r h)]
      intro hm
      have := c.nn
      exact c.full (by have := hb.1; have := hb.2; omega) r h
theorem CI.fin {width left : Int} {heap qs : List (Int × Int)} {gone : List Int} (c : CI width heap qs gone left) (hw : 0 ≤ width) (hp : qs.Perm (keysOf heap)) (hs : qs.Pairwise LeP) : Carr width heap gone := by
  have hin : ∀ k, k < heap.length → ((hD heap k).1, (k : Int)) ∈ qs := fun k hk => hp.mem_iff.mpr (List.mem_map.mpr ⟨k, List.mem_range.mpr hk, rfl⟩)
  have gE : ∀ k (g : k < gone.length), gD gone k = gone[k] := fun k g => by unfold gD; rw [List.getD_eq_getElem?_getD, List.getElem?_eq_getElem g]; rfl
  have hE : ∀ k (h : k < heap.length), hD heap k = heap[k] := fun k h => by unfold hD; rw [List.getD_eq_getElem?_getD, List.getElem?_eq_getElem h]; rfl
  refine ⟨c.len, fun k h g => ?_, ?_, fun k h g hne j h' g' hlt => ?_⟩
  · have := c.bd k h
    rw [gE k g, hE k h] at this
    exact this
  · have le : ∀ {l : List Int} {h : List (Int × Int)}, l.length = h.length → (∀ k (a : k < l.length) (b : k < h.length), l[k] ≤ h[k].2) → l.sum ≤ (h.map (·.2)).sum := by
      intro l
      induction l with
      | nil => intro h e _; cases h with | nil => exact Int.le_refl _ | cons _ _ => cases e
      | cons a l ih =>
        intro h e hh
        cases h with
        | nil => cases e
        | cons b h =>
          rw [List.sum_cons, List.map_cons, List.sum_cons]
          have h0 := hh 0 (by simp) (by simp)
          have := ih (h := h) (by simpa using e) fun k a b => hh (k + 1) (by simpa using a) (by simpa using b)
          simp at h0
          omega
    have eq : (∀ k (a : k < gone.length) (b : k < heap.length), gone[k] = heap[k].2) → gone = heap.map (·.2) := fun hh => by
      apply List.ext_getElem
      · rw [List.length_map]; exact c.len
      · intro k a b
        rw [List.getElem_map]
        exact hh k a (by simpa using b)
    have sm := c.sum
    have nn := c.nn
    have le1 := le c.len fun k a b => by
      have := (c.bd k b).2
      rw [gE k a, hE k b] at this
      exact this
    by_cases hl : 0 < left
    · have e := eq fun k a b => by
        have := c.full hl _ (hin k b)
        simp only [Int.toNat_natCast] at this
        rw [gE k a, hE k b] at this
        exact this
      rw [← e]
      omega
    · omega
  · have hk := hin k h
    have hj := hin j h'
    obtain ⟨a, ha, ea⟩ := List.getElem_of_mem hk
    obtain ⟨b, hb, eb⟩ := List.getElem_of_mem hj
    have key : gD gone k ≠ 0 → gD gone j = (hD heap j).2 := by
      rcases Nat.lt_trichotomy a b with z | z | z
      · have := List.pairwise_iff_getElem.mp hs a b ha hb z
        rw [ea, eb] at this
        simp only [LeP, hE k h, hE j h'] at this
        exfalso
        omega
      · subst z
        rw [ea] at eb
        have e1 := congrArg Prod.fst eb
        have := congrArg Prod.snd eb
        dsimp only at this e1
        rw [hE k h, hE j h'] at e1
        exfalso
        omega
      · have := List.pairwise_iff_getElem.mp c.turn b a hb ha z
        rw [ea, eb] at this
        simp only [Int.toNat_natCast] at this
        exact this
    rw [gE k g, gE j g', hE j h'] at key
    exact key hne
theorem keys_apart {heap qs : List (Int × Int)} (hp : qs.Perm (keysOf heap)) : (qs.map (·.2)).Nodup := by
  have : (qs.map (·.2)).Perm ((keysOf heap).map (·.2)) := hp.map _
  refine this.nodup_iff.mpr ?_
  unfold keysOf
  rw [List.map_map]
  have : ((fun x : Int × Int => x.2) ∘ fun i : Nat => ((hD heap i).1, (i : Int))) = fun i : Nat => (i : Int) := rfl
  rw [this]
  exact List.Pairwise.map _ (fun a b h e => h (by omega)) List.nodup_range
theorem keys_mem {heap qs : List (Int × Int)} (hp : qs.Perm (keysOf heap)) {q : Int × Int} (h : q ∈ qs) : ∃ k, k < heap.length ∧ q = ((hD heap k).1, (k : Int)) := by
  obtain ⟨k, hk, e⟩ := List.mem_map.mp (hp.mem_iff.mp h)
  exact ⟨k, List.mem_range.mp hk, e.symm⟩
theorem nd_before {qs : List (Int × Int)} (h : (qs.map (·.2)).Nodup) {i : Nat} {q : Int × Int} (e : qs[i]? = some q) : ∀ r ∈ qs.take i, r.2 ≠ q.2 := fun r hr z => by
  obtain ⟨j, hj, ej⟩ := List.getElem_of_mem hr
  have hj' : j < i := by rw [List.length_take] at hj; omega
  have hi : i < qs.length := (List.getElem?_eq_some_iff.mp e).1
  rw [List.getElem_take] at ej
  have e2 : qs[i] = q := (List.getElem?_eq_some_iff.mp e).2
  have := List.pairwise_iff_getElem.mp h j i (by rw [List.length_map]; omega) (by rw [List.length_map]; exact hi) hj'
  rw [List.getElem_map, List.getElem_map, ej, e2] at this
  exact this z
def pCarried : DSp := fun ds M Φ => ∃ width heap, ds = [.int width, .lst (heap.map pD)] ∧ 0 ≤ width ∧ (∀ p ∈ heap, 0 ≤ p.2) ∧ heap.length ≤ 1000 ∧ ∀ gone, Carr width heap gone → Φ (.lst (gone.map .int)) M
theorem c_carried {width : Int} {heap : List (Int × Int)} {M : Mem} {Φ : D → Mem → Prop} (h0 : 0 ≤ width) (h1 : ∀ p ∈ heap, 0 ≤ p.2) (h2 : heap.length ≤ 1000) (k : ∀ gone, Carr width heap gone → Φ (.lst (gone.map .int)) M) : pCarried [.int width, .lst (heap.map pD)] M Φ := ⟨width, heap, rfl, h0, h1, h2, k⟩
abbrev s_carried : Stmt := top 4
def n_carried : List Str := ["width", "heap", "gone", "left", "hour", "at", "many", "pair", "k"]
theorem sc_carried : FnScope n_carried ["width", "heap"] (defScope s_carried) := ⟨rfl, rfl, rfl, by decide +kernel, rfl, by decide +kernel, by decide +kernel⟩
theorem d_carried {P : Program} {w : World} {K : PySem.W.Frag} {mg : Str → Option Value} {base : Heap} {f : Addr} {fd : FuncData} (F : Fun K "carried" "carried" s_carried f fd)
    (G_sorted : mg "sorted" = none) (G_range : mg "range" = none) (G_len : mg "len" = none) (G_min : mg "min" = none) : FnOk P w K mg base CX0 1 f fd ["width", "heap"] (lift pCarried) := by
  refine fnok_of (N := n_carried) (k := 0) F sc_carried (fun ds M Φ h => by obtain ⟨width, heap, rfl, hw, hm, hl, k⟩ := h; rfl) fun X B I ds M Φ h => ?_
  obtain ⟨width, heap, rfl, hw, hm, hl, k⟩ := h
  obtain ⟨rfl, rfl, rfl, rfl, rfl, hN, hs, hf, z, xe⟩ := I
  have hp := passes_of xe
  have n0 : Lo X 0 "width" := lo_of hN hs hf (by decide +kernel)
  have n1 : Lo X 1 "heap" := lo_of hN hs hf (by decide +kernel)
  have n2 : Lo X 2 "gone" := lo_of hN hs hf (by decide +kernel)
  have n3 : Lo X 3 "left" := lo_of hN hs hf (by decide +kernel)
  have n4 : Lo X 4 "hour" := lo_of hN hs hf (by decide +kernel)
  have n5 : Lo X 5 "at" := lo_of hN hs hf (by decide +kernel)
  have n6 : Lo X 6 "many" := lo_of hN hs hf (by decide +kernel)
  have g_sorted : Gn X "sorted" := gn_of hs (by decide +kernel) G_sorted
  have g_range : Gn X "range" := gn_of hs (by decide +kernel) G_range
  have g_len : Gn X "len" := gn_of hs (by decide +kernel) G_len
  have g_min : Gn X "min" := gn_of hs (by decide +kernel) G_min
  clear F hf
  change DSs _ X (_ :: _) [_, _, _, _, _, _, _, _, _] _ _
  have hsz : heap.length ≤ sizeLine := Nat.le_trans hl (by decide)
  refine ds_cons (ds_lcOwn 0 z n2 hN hs [("pair", 7)] (.one 7) (by decide +kernel) (by decide) (fun X' bk => pg_one bk z (bk.lo hN hs (by decide +kernel))) (by decide +kernel) rfl rfl (by decide +kernel) ?_)
  refine di_list ?_
  repeat' walk_at "s"
  refine LcH.mapT heap pD (fun _ => 0) .int hsz (fun q acc a ha => ?_) fun l => ?_
  · refine ⟨_, rfl, fun X' bk => ?_⟩
    repeat' walk_at "s"
    exact ⟨rfl, rfl⟩
  repeat' walk_at "s"
  refine ds_for z hp (di_list (de_sortedP g_sorted (da_cons (DE.f (df_lc 0 z hN hs [("k", 8)] (.one 8) (by decide +kernel) (by decide) (fun X' bk => pg_one bk z (bk.lo hN hs (by decide +kernel))) ?_)))))
  refine di_range1 g_range ?_
  repeat' walk_at "s"
  simp only [List.length_map]
  refine ⟨by omega, by omega, ?_⟩
  refine LcH.mapT (List.range heap.length) (fun i : Nat => D.int (0 + (i : Nat))) (fun i => ((hD heap i).1, (i : Int))) pD (by rw [List.length_range]; exact hsz) (fun q acc i hi => ?_) ?_
  · have hi := List.mem_range.mp hi
    refine ⟨_, rfl, fun X' bk => ?_⟩
    have c8 : Lo X' 8 "k" := bk.lo hN hs (by decide +kernel)
    have c1 : Nm X' 1 "heap" := bk.nm hN hs (by decide +kernel)
    have z' := bk.z z
    repeat' walk_at "s"
    refine od_ixL (d := pD (hD heap i)) (by rw [show (0 : Int) + (i : Nat) = (i : Nat) by omega]; exact at_mapN (by unfold hD; simp [hi])) ?_
    repeat' walk_at "s"
    refine od_ixT (d := .int (hD heap i).1) rfl ?_
    repeat' walk_at "s"
    exact ⟨by rw [show (0 : Int) + (i : Nat) = (i : Nat) by omega], rfl⟩
  repeat' walk_at "s"
  refine cd_sortedP (.val _) fun qs hperm hsort => ?_
  have hperm : qs.Perm (keysOf heap) := hperm
  have hnd := keys_apart hperm
  repeat' walk_at "s"
  refine ⟨fun i δ M1 => ∃ (gone : List Int) (left : Int) (o1 o2 o3 : Option D), M1 = (l, .lst (gone.map .int)) :: M ∧ CI width heap (qs.take i) gone left ∧ δ = [some (.int width), some (.lst (heap.map pD)), some (.raw (.ref l)), some (.int left), o1, o2, o3, none, none], ⟨_, width, none, none, none, rfl, CI.start hw hm, rfl⟩, ?_, ?_⟩
  · rintro i x δ M1 hx ⟨gone, left, o1, o2, o3, rfl, ci, rfl⟩
    obtain ⟨q, hq, rfl⟩ := map_get hx
    obtain ⟨kk, hk, rfl⟩ := keys_mem hperm (List.mem_of_getElem? hq)
    repeat' walk_at "s"
    refine od_ixL (d := pD (hD heap kk)) (at_mapN (by unfold hD; simp [hk])) ?_
    repeat' walk_at "s"
    refine od_ixT (d := .int (hD heap kk).2) rfl ?_
    repeat' walk_at "s"
    refine sd_list (j := 0) (m := kk) (ds := gone.map .int) rfl (ixN_nat' (by rw [List.length_map, ci.len]; exact hk)) ?_
    repeat' walk_at "s"
    refine ⟨gone.set kk (min left (hD heap kk).2), _, _, _, _, ?_, ?_, rfl⟩
    · rw [List.map_set]; rfl
    · rw [List.take_add_one, hq]
      exact ci.step rfl hk (nd_before hnd hq) fun r hr => by
        obtain ⟨j, _, rfl⟩ := keys_mem hperm (List.mem_of_mem_take hr)
        exact Int.natCast_nonneg j
  · rintro δ M1 ⟨gone, left, o1, o2, o3, rfl, ci, rfl⟩
    rw [List.length_map, List.take_length] at ci
    repeat' walk_at "s"
    exact ⟨_, _, .frz 0 rfl, k gone (ci.fin hw hperm hsort)⟩
abbrev Lot := Int × Int × Int
def lotD (lots : List Lot) (k : Nat) : Lot := lots.getD k (0, 0, 0)
def lf (left : List Int) (k : Nat) : Int := left.getD k 0
/-- lot j goes ahead of lot k -/
def Bf (lots : List Lot) (j k : Nat) : Prop := (lotD lots j).2.1 < (lotD lots k).2.1 ∨ ((lotD lots j).2.1 = (lotD lots k).2.1 ∧ j < k)
/-- lot k is there in tick t, and not gone wholly -/
def Av (lots : List Lot) (left : List Int) (t : Int) (k : Nat) : Prop := k < lots.length ∧ (lotD lots k).1 ≤ t ∧ 0 < lf left k
def sumR (R : List (Nat × Int)) : Int := (R.map (·.2)).sum
theorem sumR_cons (p : Nat × Int) (R : List (Nat × Int)) : sumR (p :: R) = p.2 + sumR R := by simp [sumR]
/-- the rows of one tick -/
structure Tick (lots : List Lot) (left : List Int) (t w : Int) (R : List (Nat × Int)) : Prop where
  ord : R.Pairwise fun a b => Bf lots a.1 b.1
  av : ∀ p ∈ R, Av lots left t p.1 ∧ 0 < p.2 ∧ p.2 ≤ lf left p.1
  sum : sumR R ≤ w
  full : ∀ j, Av lots left t j → (j, lf left j) ∈ R ∨ (sumR R = w ∧ ∀ p ∈ R, ¬ Bf lots j p.1)
theorem Bf.irr {lots : List Lot} {k : Nat} : ¬ Bf lots k k := by unfold Bf; omega
theorem Bf.total {lots : List Lot} {j k : Nat} (h : j ≠ k) : Bf lots j k ∨ Bf lots k j := by unfold Bf; omega
theorem Bf.asym {lots : List Lot} {j k : Nat} (h : Bf lots j k) : ¬ Bf lots k j := by unfold Bf at *; omega
theorem sumR_pos : ∀ {R : List (Nat × Int)}, (∀ p ∈ R, 0 < p.2) → 0 ≤ sumR R ∧ (R ≠ [] → 0 < sumR R)
  | [], _ => ⟨Int.le_refl 0, fun h => absurd rfl h⟩
  | p :: R, h => by
    have h1 := (sumR_pos (R := R) fun q hq => h q (List.mem_cons_of_mem _ hq)).1
    have h2 := h p List.mem_cons_self
    rw [sumR_cons]
    exact ⟨by omega, fun _ => by omega⟩
def app1 (left : List Int) (p : Nat × Int) : List Int := left.set p.1 (lf left p.1 - p.2)
def appR (left : List Int) (R : List (Nat × Int)) : List Int := R.foldl app1 left
theorem lf_set {left : List Int} {k j : Nat} {x : Int} (h : k < left.length) : lf (left.set k x) j = if k = j then x else lf left j := by
  unfold lf
  by_cases e : k = j
  · subst e; simp [h]
  · simp [List.getD, List.getElem?_set, e]
theorem lf_out {left : List Int} {j : Nat} (h : left.length ≤ j) : lf left j = 0 := by unfold lf; simp [List.getD, List.getElem?_eq_none h]
theorem lf_app1 {left : List Int} {p : Nat × Int} {j : Nat} (h : p.1 < left.length) : lf (app1 left p) j = if p.1 = j then lf left p.1 - p.2 else lf left j := lf_set h
theorem len_app1 {left : List Int} {p : Nat × Int} : (app1 left p).length = left.length := by simp [app1]
theorem len_app : ∀ {R : List (Nat × Int)} {left : List Int}, (appR left R).length = left.length
  | [], _ => rfl
  | p :: R, left => by
    show (appR (app1 left p) R).length = _
    rw [len_app, len_app1]
theorem sum_set : ∀ {left : List Int} {k : Nat} {x : Int}, k < left.length → (left.set k x).sum = left.sum - lf left k + x
  | a :: left, 0, x, _ => by simp [lf]; omega
  | a :: left, k + 1, x, h => by
    have := sum_set (left := left) (k := k) (x := x) (by simpa using h)
    have e : lf (a :: left) (k + 1) = lf left k := by simp [lf]
    rw [List.set_cons_succ, List.sum_cons, List.sum_cons, this, e]
    omega
theorem sum_app1 {left : List Int} {p : Nat × Int} (h : p.1 < left.length) : (app1 left p).sum = left.sum - p.2 := by
  unfold app1
  rw [sum_set h]; omega
theorem sum_app : ∀ {R : List (Nat × Int)} {left : List Int}, (∀ p ∈ R, p.1 < left.length) → (appR left R).sum = left.sum - sumR R
  | [], left, _ => by show left.sum = left.sum - 0; omega
  | p :: R, left, h => by
    show (appR (app1 left p) R).sum = _
    rw [sum_app fun q hq => by rw [len_app1]; exact h q (List.mem_cons_of_mem _ hq), sum_app1 (h p List.mem_cons_self), sumR_cons]
    omega
theorem nn_app {lots : List Lot} : ∀ {R : List (Nat × Int)} {left : List Int}, (∀ p ∈ R, p.1 < left.length) → (R.Pairwise fun a b => Bf lots a.1 b.1) → (∀ p ∈ R, p.2 ≤ lf left p.1) → (∀ k, 0 ≤ lf left k) → ∀ k, 0 ≤ lf (appR left R) k
  | [], _, _, _, _, h => h
  | p :: R, left, h1, h2, h3, h4 => by
    have hp := h1 p List.mem_cons_self
    have ne : ∀ q ∈ R, p.1 ≠ q.1 := fun q hq e => by
      have := (List.pairwise_cons.mp h2).1 q hq
      rw [e] at this
      exact Bf.irr this
    refine nn_app (R := R) (left := app1 left p) (fun q hq => by rw [len_app1]; exact h1 q (List.mem_cons_of_mem _ hq)) (List.pairwise_cons.mp h2).2 (fun q hq => ?_) (fun k => ?_)
    · rw [lf_app1 hp, if_neg (ne q hq)]; exact h3 q (List.mem_cons_of_mem _ hq)
    · rw [lf_app1 hp]
      split
      · have := h3 p List.mem_cons_self; omega
      · exact h4 k
theorem Tick.lt {lots : List Lot} {left : List Int} {t w : Int} {R : List (Nat × Int)} (T : Tick lots left t w R) (hl : left.length = lots.length) : ∀ p ∈ R, p.1 < left.length := fun p hp => by rw [hl]; exact (T.av p hp).1.1
theorem Tick.none {lots : List Lot} {left : List Int} {t w : Int} {R : List (Nat × Int)} (T : Tick lots left t w R) (h : w ≤ 0 ∨ ∀ k, ¬ Av lots left t k) : R = [] := by
  rcases h with h | h
  · rcases Decidable.em (R = []) with e | e
    · exact e
    · have := (sumR_pos (R := R) fun p hp => (T.av p hp).2.1).2 e
      have := T.sum
      omega
  · cases R with
    | nil => rfl
    | cons p R => exact absurd (T.av p List.mem_cons_self).1 (h p.1)
theorem Tick.empty {lots : List Lot} {left : List Int} {t w : Int} (hw : 0 ≤ w) (h : ∀ k, ¬ Av lots left t k) : Tick lots left t w [] := ⟨.nil, by simp, hw, fun j hj => absurd hj (h j)⟩
/-- the first row, and the rest -/
theorem Tick.head {lots : List Lot} {left : List Int} {t w : Int} {R : List (Nat × Int)} {k : Nat} (T : Tick lots left t w R) (hl : left.length = lots.length) (hw : 0 < w) (ha : Av lots left t k) (hk : ∀ j, Av lots left t j → ¬ Bf lots j k) :
    ∃ T', R = (k, min w (lf left k)) :: T' ∧ Tick lots (app1 left (k, min w (lf left k))) t (w - min w (lf left k)) T' := by
  cases R with
  | nil =>
    rcases T.full k ha with h | ⟨h, _⟩
    · cases h
    · have : (0 : Int) = w := h
      omega
  | cons p T' =>
    obtain ⟨kp, m⟩ := p
    obtain ⟨av1, m0, m1⟩ := T.av _ List.mem_cons_self
    have hlt : kp < left.length := by rw [hl]; exact av1.1
    have hrest : ∀ q ∈ T', Bf lots kp q.1 := (List.pairwise_cons.mp T.ord).1
    have hpos := sumR_pos (R := T') fun q hq => (T.av q (List.mem_cons_of_mem _ hq)).2.1
    have hs := T.sum
    rw [sumR_cons] at hs
    dsimp only at *
    -- the first is the least one
    obtain rfl : kp = k := by
      rcases Decidable.em (kp = k) with e | e
      · exact e
      · exfalso
        rcases Bf.total (lots := lots) e with g | g
        · exact hk kp av1 g
        · rcases T.full k ha with h | ⟨_, h⟩
          · rcases List.mem_cons.mp h with h | h
            · cases h; exact e rfl
            · exact (hrest _ h).asym g
          · exact h _ List.mem_cons_self g
    have hm : m = min w (lf left kp) ∧ (m < lf left kp → T' = []) := by
      rcases Int.lt_or_le m (lf left kp) with g | g
      · rcases T.full kp ha with h | ⟨h, h'⟩
        · rcases List.mem_cons.mp h with h | h
          · cases h; omega
          · exact absurd (hrest _ h) Bf.irr
        · have e : T' = [] := by
            cases T' with
            | nil => rfl
            | cons q T' => exact absurd (hrest q List.mem_cons_self) (h' q (List.mem_cons_of_mem _ List.mem_cons_self))
          subst e
          rw [sumR_cons] at h
          have h : m + 0 = w := h
          exact ⟨by omega, fun _ => rfl⟩
      · exact ⟨by omega, fun h => by omega⟩
    obtain ⟨hm, he⟩ := hm
    rw [← hm]
    refine ⟨T', rfl, ?_⟩
    have hsum : sumR T' ≤ w - m := by omega
    have ne : ∀ q ∈ T', kp ≠ q.1 := fun q hq e => by
      have := hrest q hq
      rw [e] at this
      exact Bf.irr this
    refine ⟨(List.pairwise_cons.mp T.ord).2, fun q hq => ?_, hsum, fun j hj => ?_⟩
    · obtain ⟨a1, a2, a3⟩ := T.av q (List.mem_cons_of_mem _ hq)
      have e : lf (app1 left (kp, m)) q.1 = lf left q.1 := by rw [lf_app1 hlt, if_neg (ne q hq)]
      exact ⟨⟨a1.1, a1.2.1, by rw [e]; exact a1.2.2⟩, a2, by rw [e]; exact a3⟩
    · rcases Int.lt_or_le m (lf left kp) with g | g
      · have e := he g
        subst e
        refine .inr ⟨?_, by simp⟩
        show (0 : Int) = w - m
        omega
      · have hne : kp ≠ j := fun e => by
          subst e
          have := hj.2.2
          rw [lf_app1 hlt, if_pos rfl] at this
          dsimp only at this
          omega
        have e : lf (app1 left (kp, m)) j = lf left j := by rw [lf_app1 hlt, if_neg hne]
        have hj' : Av lots left t j := ⟨hj.1, hj.2.1, by rw [← e]; exact hj.2.2⟩
        rw [e]
        rcases T.full j hj' with h | ⟨h, h'⟩
        · rcases List.mem_cons.mp h with h | h
          · cases h; exact absurd rfl hne
          · exact .inl h
        · rw [sumR_cons] at h
          exact .inr ⟨by dsimp only at h; omega, fun q hq => h' q (List.mem_cons_of_mem _ hq)⟩
def rowsAt (t : Int) (R : List (Nat × Int)) : List (Int × Int × Int) := R.map fun p => (t, (p.1 : Int), p.2)
/-- n ticks from t on -/
inductive Runs (lots : List Lot) (w : Int) : Nat → List Int → Int → List (Int × Int × Int) → Prop
  | done {left t} : left.length = lots.length → (∀ k, lf left k = 0) → Runs lots w 0 left t []
  | tick {n left t R rows} : left.length = lots.length → (∀ k, 0 ≤ lf left k) → (∃ k, 0 < lf left k) → Tick lots left t w R → Runs lots w n (appR left R) (t + 1) rows → Runs lots w (n + 1) left t (rowsAt t R ++ rows)
theorem Runs.skip {lots : List Lot} {w : Int} (hw : 0 ≤ w) {left : List Int} (hl : left.length = lots.length) (h0 : ∀ k, 0 ≤ lf left k) (hp : ∃ k, 0 < lf left k) : ∀ (d : Nat) {n : Nat} {t : Int} {rows}, (∀ s, t ≤ s → s < t + d → ∀ k, ¬ Av lots left s k) → Runs lots w n left (t + d) rows → ∃ n', Runs lots w n' left t rows
  | 0, n, t, rows, _, h => ⟨n, by simpa using h⟩
  | d + 1, n, t, rows, g, h => by
    obtain ⟨n', h'⟩ := Runs.skip hw hl h0 hp d (t := t + 1) (fun s h1 h2 => g s (by omega) (by omega)) (by rw [show t + 1 + (d : Int) = t + ((d + 1 : Nat) : Int) by omega]; exact h)
    exact ⟨n' + 1, .tick (R := []) hl h0 hp (Tick.empty hw (g t (by omega) (by omega))) h'⟩
theorem sum_nn : ∀ {left : List Int}, (∀ k, 0 ≤ lf left k) → 0 ≤ left.sum ∧ (left.sum ≤ 0 → ∀ k, lf left k = 0)
  | [], _ => ⟨by simp, fun _ k => by simp [lf]⟩
  | a :: left, h => by
    have h1 : ∀ k, 0 ≤ lf left k := fun k => by have := h (k + 1); simpa [lf] using this
    have h2 : 0 ≤ a := by have := h 0; simpa [lf] using this
    obtain ⟨i1, i2⟩ := sum_nn h1
    rw [List.sum_cons]
    refine ⟨by omega, fun h k => ?_⟩
    cases k with
    | zero => show a = 0; omega
    | succ k => have := i2 (by omega) k; simpa [lf] using this
theorem Tick.pos {lots : List Lot} {left : List Int} {t w : Int} {R : List (Nat × Int)} (T : Tick lots left t w R) (hw : 0 < w) (h : ∃ k, Av lots left t k) : 0 < sumR R := by
  have hp := sumR_pos (R := R) fun p hp => (T.av p hp).2.1
  obtain ⟨k, hk⟩ := h
  rcases T.full k hk with h | ⟨h, _⟩
  · exact hp.2 (fun e => by rw [e] at h; cases h)
  · omega
def hereOf (lots : List Lot) (left : List Int) (t : Int) : List Nat := (List.range lots.length).filter fun k => decide ((lotD lots k).1 ≤ t ∧ 0 < lf left k)
theorem here_mem {lots : List Lot} {left : List Int} {t : Int} {k : Nat} : k ∈ hereOf lots left t ↔ Av lots left t k := by
  unfold hereOf Av
  simp
theorem here_ord {lots : List Lot} {left : List Int} {t : Int} : (hereOf lots left t).Pairwise (· < ·) := List.Pairwise.filter _ List.pairwise_lt_range
def doneZ (lots : List Lot) : List Nat → List Int → List (Int × Int × Int)
  | a :: here, g :: gone => (if 0 < g then [((lotD lots a).2.1, (a : Int), g)] else []) ++ doneZ lots here gone
  | _, _ => []
theorem doneZ_snoc {lots : List Lot} : ∀ {here : List Nat} {gone : List Int} {a : Nat} {g : Int}, here.length = gone.length → doneZ lots (here ++ [a]) (gone ++ [g]) = doneZ lots here gone ++ (if 0 < g then [((lotD lots a).2.1, (a : Int), g)] else [])
  | [], [], a, g, _ => by simp [doneZ]
  | b :: here, c :: gone, a, g, h => by
    show _ ++ doneZ lots (here ++ [a]) (gone ++ [g]) = (_ ++ doneZ lots here gone) ++ _
    rw [doneZ_snoc (by simpa using h), List.append_assoc]
  | [], _ :: _, _, _, h => by simp at h
  | _ :: _, [], _, _, h => by simp at h
theorem doneZ_mem {lots : List Lot} {q : Int × Int × Int} : ∀ {here : List Nat} {gone : List Int}, q ∈ doneZ lots here gone ↔ ∃ (i a : Nat) (g : Int), here[i]? = some a ∧ gone[i]? = some g ∧ 0 < g ∧ q = ((lotD lots a).2.1, (a : Int), g)
  | [], gone => by simp [doneZ]
  | _ :: _, [] => by simp [doneZ]
  | b :: here, c :: gone => by
    show q ∈ _ ++ doneZ lots here gone ↔ _
    rw [List.mem_append, doneZ_mem]
    constructor
    · rintro (h | ⟨i, a, g, h1, h2, h3, h4⟩)
      · split at h
        · next hc => exact ⟨0, b, c, rfl, rfl, hc, by simpa using h⟩
        · cases h
      · exact ⟨i + 1, a, g, by simpa using h1, by simpa using h2, h3, h4⟩
    · rintro ⟨i, a, g, h1, h2, h3, h4⟩
      cases i with
      | zero =>
        have e1 : b = a := by simpa using h1
        have e2 : c = g := by simpa using h2
        subst e1 e2
        exact .inl (by rw [if_pos h3, h4]; simp)
      | succ i => exact .inr ⟨i, a, g, by simpa using h1, by simpa using h2, h3, h4⟩
theorem doneZ_len {lots : List Lot} : ∀ {here : List Nat} {gone : List Int}, (doneZ lots here gone).length ≤ here.length
  | [], _ => by simp [doneZ]
  | _ :: _, [] => by simp [doneZ]
  | b :: here, c :: gone => by
    show (_ ++ doneZ lots here gone).length ≤ here.length + 1
    have := doneZ_len (lots := lots) (here := here) (gone := gone)
    rw [List.length_append]
    split <;> simp <;> omega
theorem doneZ_sum {lots : List Lot} : ∀ {here : List Nat} {gone : List Int}, here.length = gone.length → (∀ g ∈ gone, 0 ≤ g) → ((doneZ lots here gone).map (·.2.2)).sum = gone.sum
  | [], [], _, _ => rfl
  | b :: here, c :: gone, h, h0 => by
    have ih := doneZ_sum (lots := lots) (here := here) (gone := gone) (by simpa using h) fun g hg => h0 g (List.mem_cons_of_mem _ hg)
    have hc := h0 c List.mem_cons_self
    show ((_ ++ doneZ lots here gone).map _).sum = _
    rw [List.map_append, List.sum_append, ih, List.sum_cons]
    split
    · simp
    · have : c = 0 := by omega
      simp [this]
  | [], _ :: _, h, _ => by simp at h
  | _ :: _, [], h, _ => by simp at h
theorem doneZ_ord {lots : List Lot} : ∀ {here : List Nat} {gone : List Int}, here.Pairwise (· < ·) → (doneZ lots here gone).Pairwise fun a b => a.2.1 ≠ b.2.1
  | [], _, _ => by simp [doneZ]
  | _ :: _, [], _ => by simp [doneZ]
  | b :: here, c :: gone, h => by
    obtain ⟨h1, h2⟩ := List.pairwise_cons.mp h
    have ih := doneZ_ord (lots := lots) (gone := gone) h2
    show (_ ++ doneZ lots here gone).Pairwise _
    split
    · refine List.pairwise_cons.mpr ⟨fun q hq => ?_, ih⟩
      obtain ⟨i, a, g, e1, _, _, rfl⟩ := doneZ_mem.mp hq
      have := h1 a (List.mem_of_getElem? e1)
      show (b : Int) ≠ (a : Int)
      omega
    · exact ih
theorem perm_sum {l1 l2 : List Int} (h : l1.Perm l2) : l1.sum = l2.sum := by
  induction h with
  | nil => rfl
  | cons x _ ih => rw [List.sum_cons, List.sum_cons, ih]
  | swap x y l => rw [List.sum_cons, List.sum_cons, List.sum_cons, List.sum_cons]; omega
  | trans _ _ i1 i2 => rw [i1, i2]
theorem sum_lt : ∀ {xs ys : List Int} (i : Nat), xs.length = ys.length → (∀ (k : Nat) (x y : Int), xs[k]? = some x → ys[k]? = some y → x ≤ y) → (∀ x y, xs[i]? = some x → ys[i]? = some y → x < y) → i < xs.length → xs.sum < ys.sum
  | x :: xs, y :: ys, i, hl, h1, h2, hi => by
    have hxy := h1 0 x y rfl rfl
    rw [List.sum_cons, List.sum_cons]
    have hle : ∀ {xs ys : List Int}, xs.length = ys.length → (∀ (k : Nat) (x y : Int), xs[k]? = some x → ys[k]? = some y → x ≤ y) → xs.sum ≤ ys.sum := by
      intro xs
      induction xs with
      | nil => intro ys hl _; cases ys with
        | nil => exact Int.le_refl _
        | cons => simp at hl
      | cons a xs ih =>
        intro ys hl h
        cases ys with
        | nil => simp at hl
        | cons b ys =>
          have := h 0 a b rfl rfl
          have := ih (by simpa using hl) fun k x y e1 e2 => h (k + 1) x y (by simpa using e1) (by simpa using e2)
          rw [List.sum_cons, List.sum_cons]; omega
    cases i with
    | zero =>
      have := h2 x y rfl rfl
      have := hle (xs := xs) (ys := ys) (by simpa using hl) fun k x y e1 e2 => h1 (k + 1) x y (by simpa using e1) (by simpa using e2)
      omega
    | succ i =>
      have := sum_lt (xs := xs) (ys := ys) i (by simpa using hl) (fun k x y e1 e2 => h1 (k + 1) x y (by simpa using e1) (by simpa using e2)) (fun x y e1 e2 => h2 x y (by simpa using e1) (by simpa using e2)) (by simpa using hi)
      omega
  | [], _, _, _, _, _, hi => by simp at hi
  | _ :: _, [], _, hl, _, _, _ => by simp at hl
def heapOf (lots : List Lot) (left : List Int) (here : List Nat) : List (Int × Int) := here.map fun a => ((lotD lots a).2.1, lf left a)
/-- what one tick of the program does -/
theorem tick_of {lots : List Lot} {left gone : List Int} {t w : Int} {qs : List (Int × Int × Int)} (C : Carr w (heapOf lots left (hereOf lots left t)) gone) (hp : qs.Perm (doneZ lots (hereOf lots left t) gone)) (hs : qs.Pairwise LeT) : Tick lots left t w (qs.map fun q => (q.2.1.toNat, q.2.2)) := by
  generalize hh : hereOf lots left t = here at *
  have hmem : ∀ k, k ∈ here ↔ Av lots left t k := fun k => by rw [← hh]; exact here_mem
  have hord : here.Pairwise (· < ·) := by rw [← hh]; exact here_ord
  have hlen : here.length = gone.length := by rw [C.len]; simp [heapOf]
  have hhl : (heapOf lots left here).length = here.length := by simp [heapOf]
  have bd : ∀ i a g, here[i]? = some a → gone[i]? = some g → 0 ≤ g ∧ g ≤ lf left a := fun i a g e1 e2 => by
    have hi := (List.getElem?_eq_some_iff.mp e1).1
    have hg := (List.getElem?_eq_some_iff.mp e2).1
    have := C.bd i (by rw [hhl]; exact hi) hg
    rw [(List.getElem?_eq_some_iff.mp e2).2] at this
    simp only [heapOf, List.getElem_map] at this
    rw [(List.getElem?_eq_some_iff.mp e1).2] at this
    exact this
  have gpos : ∀ g ∈ gone, 0 ≤ g := fun g hg => by
    obtain ⟨i, hi, rfl⟩ := List.getElem_of_mem hg
    exact (bd i here[i] gone[i] (by simp [show i < here.length by omega]) (by simp [hi])).1
  have qm : ∀ q ∈ qs, ∃ (i a : Nat) (g : Int), here[i]? = some a ∧ gone[i]? = some g ∧ 0 < g ∧ q = ((lotD lots a).2.1, (a : Int), g) := fun q hq => doneZ_mem.mp (hp.mem_iff.mp hq)
  have hsum : sumR (qs.map fun q => (q.2.1.toNat, q.2.2)) = gone.sum := by
    unfold sumR
    rw [List.map_map, ← doneZ_sum (lots := lots) hlen gpos]
    exact perm_sum (hp.map _)
  have hne : qs.Pairwise fun a b => a.2.1 ≠ b.2.1 := (hp.pairwise_iff (fun h => h.symm)).mpr (doneZ_ord hord)
  refine ⟨?_, fun p hp' => ?_, by rw [hsum, C.sum]; omega, fun j hj => ?_⟩
  · rw [List.pairwise_map]
    refine List.Pairwise.imp_of_mem (fun {a b} ha hb h => ?_) (hs.and hne)
    obtain ⟨i, x, g, _, _, _, rfl⟩ := qm a ha
    obtain ⟨i', x', g', _, _, _, rfl⟩ := qm b hb
    obtain ⟨h1, h2⟩ := h
    unfold LeT at h1
    dsimp only at h1 h2 ⊢
    unfold Bf
    simp only [Int.toNat_natCast]
    omega
  · obtain ⟨q, hq, rfl⟩ := List.mem_map.mp hp'
    obtain ⟨i, x, g, e1, e2, h0, rfl⟩ := qm q hq
    simp only [Int.toNat_natCast]
    exact ⟨(hmem x).mp (List.mem_of_getElem? e1), h0, (bd i x g e1 e2).2⟩
  · obtain ⟨i, hi, ei⟩ := List.getElem_of_mem ((hmem j).mpr hj)
    have e1 : here[i]? = some j := by rw [← ei]; simp [hi]
    have e2 : gone[i]? = some gone[i] := by simp [show i < gone.length by omega]
    obtain ⟨b1, b2⟩ := bd i j _ e1 e2
    rcases Int.lt_or_le gone[i] (lf left j) with g | g
    · refine .inr ⟨?_, fun p hp' hB => ?_⟩
      · have hlt : gone.sum < ((heapOf lots left here).map (·.2)).sum := by
          refine sum_lt i (by simp [heapOf]; omega) (fun k x y ex ey => ?_) (fun x y ex ey => ?_) (by omega)
          · have hk : k < here.length := by have := (List.getElem?_eq_some_iff.mp ex).1; omega
            have := (bd k here[k] x (by simp [hk]) ex).2
            simp [heapOf, hk] at ey
            omega
          · simp [heapOf, hi, ei] at ey
            rw [e2] at ex
            have := Option.some.inj ex
            omega
        rw [hsum, C.sum]
        have := C.sum
        omega
      · obtain ⟨q, hq, rfl⟩ := List.mem_map.mp hp'
        obtain ⟨i', x, g', f1, f2, h0, rfl⟩ := qm q hq
        have hi' : i' < here.length := (List.getElem?_eq_some_iff.mp f1).1
        have ex : here[i'] = x := (List.getElem?_eq_some_iff.mp f1).2
        have eg : gone[i'] = g' := (List.getElem?_eq_some_iff.mp f2).2
        simp only [Int.toNat_natCast] at hB
        have := C.turn i' (by rw [hhl]; exact hi') (by omega) (by rw [eg]; omega) i (by rw [hhl]; exact hi) (by omega) (by
          simp only [heapOf, List.getElem_map, ei, ex]
          rcases hB with hB | ⟨hB, hjk⟩
          · exact .inl hB
          · refine .inr ⟨hB, ?_⟩
            rcases Nat.lt_or_ge i i' with q | q
            · exact q
            · exfalso
              rcases Nat.lt_or_ge i' i with q' | q'
              · have := List.pairwise_iff_getElem.mp hord i' i hi' hi q'
                omega
              · obtain rfl : i = i' := by omega
                omega)
        simp only [heapOf, List.getElem_map, ei] at this
        omega
    · refine .inl (List.mem_map.mpr ⟨((lotD lots j).2.1, (j : Int), gone[i]), hp.mem_iff.mpr (doneZ_mem.mpr ⟨i, j, _, e1, e2, by have := hj.2.2; omega, rfl⟩), ?_⟩)
      simp only [Int.toNat_natCast]
      rw [show gone[i] = lf left j by omega]
theorem rows_at {lots : List Lot} {here : List Nat} {gone : List Int} {t : Int} {qs : List (Int × Int × Int)} (hp : qs.Perm (doneZ lots here gone)) : rowsAt t (qs.map fun q => (q.2.1.toNat, q.2.2)) = qs.map fun q => (t, q.2.1, q.2.2) := by
  unfold rowsAt
  rw [List.map_map]
  refine List.map_congr_left fun q hq => ?_
  obtain ⟨i, a, g, _, _, _, rfl⟩ := doneZ_mem.mp (hp.mem_iff.mp hq)
  simp
theorem le_app : ∀ {R : List (Nat × Int)} {left : List Int}, (∀ p ∈ R, p.1 < left.length) → (∀ p ∈ R, 0 < p.2) → ∀ k, lf (appR left R) k ≤ lf left k
  | [], _, _, _, k => Int.le_refl _
  | p :: R, left, h1, h2, k => by
    have hp := h1 p List.mem_cons_self
    have h0 := h2 p List.mem_cons_self
    have := le_app (R := R) (left := app1 left p) (fun q hq => by rw [len_app1]; exact h1 q (List.mem_cons_of_mem _ hq)) (fun q hq => h2 q (List.mem_cons_of_mem _ hq)) k
    rw [lf_app1 hp] at this
    show lf (appR (app1 left p) R) k ≤ _
    split at this
    · next e => subst e; omega
    · exact this
theorem lf_map {lots : List Lot} {k : Nat} (h : k < lots.length) : lf (lots.map (·.2.2)) k = (lotD lots k).2.2 := by
  unfold lf lotD
  simp [h]
theorem sum_bd : ∀ {left : List Int}, (∀ k, 0 ≤ lf left k ∧ lf left k < 1000) → left.sum ≤ 1000 * left.length
  | [], _ => by simp
  | a :: left, h => by
    have h1 : ∀ k, 0 ≤ lf left k ∧ lf left k < 1000 := fun k => by have := h (k + 1); simpa [lf] using this
    have h2 : a < 1000 := by have := (h 0).2; simpa [lf] using this
    have := sum_bd h1
    rw [List.sum_cons, List.length_cons]
    omega
theorem appR_take {left : List Int} {R : List (Nat × Int)} {i : Nat} {p : Nat × Int} (h : R[i]? = some p) : appR left (R.take (i + 1)) = app1 (appR left (R.take i)) p := by
  rw [List.take_add_one, h]
  unfold appR
  rw [List.foldl_append]; rfl
theorem len_sumR : ∀ {R : List (Nat × Int)}, (∀ p ∈ R, 0 < p.2) → (R.length : Int) ≤ sumR R
  | [], _ => Int.le_refl _
  | p :: R, h => by
    have := len_sumR (R := R) fun q hq => h q (List.mem_cons_of_mem _ hq)
    have := h p List.mem_cons_self
    rw [sumR_cons, List.length_cons]
    omega
theorem swaps_cell {X : Cx} {elt : Expr} {gens : List Comprehension} {scope sc : Scope} {p pos' : Pos} {x : Str} {line : Nat} (hs : X.env.scope = sc) (h : (sc.names.lookup x == some NameKind.local) = false) : swapsWith (.ListComp elt gens scope p) (some (.Name x pos')) line X.env = pure false := by
  have e : (X.env.kindOf x == some NameKind.local) = false := by unfold Env.kindOf; rw [hs]; exact h
  unfold swapsWith
  simp only [e, Bool.and_false, Bool.false_and]
def LotOk (l : Lot) : Prop := 0 ≤ l.1 ∧ l.1 < l.2.1 ∧ 1 ≤ l.2.2 ∧ l.2.1 < 1000000 ∧ l.2.2 < 1000
def pOne : DSp := fun ds M Φ => ∃ w t, ∃ lots : List Lot, ∃ left : List Int, ∃ y, ds = [.int w, .int t, .lst (lots.map tD), y] ∧ IsL M y (left.map .int) ∧ left.length = lots.length ∧ (∀ l ∈ lots, LotOk l) ∧ lots.length ≤ 60 ∧ 0 ≤ w ∧ (∀ k, 0 ≤ lf left k ∧ lf left k < 1000) ∧ ∀ R, Tick lots left t w R → Φ (.lst ((rowsAt t R).map tD)) M
theorem IsL.cons {M : Mem} {q : Addr × Cell} {y : D} {ds : List D} (h : IsL M y ds) : IsL (q :: M) y ds := by
  cases h with
  | val ds => exact .val ds
  | cell j h => exact .cell (j + 1) h
theorem at_lot {lots : List Lot} {i : Nat} (h : i < lots.length) : atI (lots.map tD) (0 + (i : Nat)) = some (tD (lotD lots i)) := by
  rw [show (0 : Int) + (i : Nat) = (i : Nat) by omega]
  exact at_mapN (by unfold lotD; simp [h])
theorem at_lotN {lots : List Lot} {i : Nat} (h : i < lots.length) : atI (lots.map tD) (i : Nat) = some (tD (lotD lots i)) := at_mapN (by unfold lotD; simp [h])
theorem at_left {left : List Int} {i : Nat} (h : i < left.length) : atI (left.map D.int) (i : Nat) = some (.int (lf left i)) := at_mapN (by unfold lf; simp [h])
theorem od_ixI {K : PySem.W.Frag} {M : Mem} {Φ : D → Mem → Prop} {y d : D} {ds : List D} {i : Int} (hy : IsL M y ds) (e : atI ds i = some d) (k : Φ d M) : OpD (rIxU K) y (.int i) M Φ := by
  cases hy with
  | val ds => exact od_ixL e k
  | cell j h => exact od_ixC h e k
theorem lotD_mem {lots : List Lot} {i : Nat} (h : i < lots.length) : lotD lots i ∈ lots := by
  unfold lotD
  rw [List.getD, List.getElem?_eq_getElem h]
  exact List.getElem_mem h
theorem filterMap_filter {α : Type} (p : α → Bool) : ∀ l : List α, l.filterMap (fun a => if p a then some a else none) = l.filter p
  | [] => rfl
  | a :: l => by
    rw [List.filterMap_cons, List.filter_cons, filterMap_filter p l]
    cases p a <;> simp
/-- a lot that is none -/
def BadLot (l : Lot) : Prop := l.1 < 0 ∨ l.2.1 ≤ l.1 ∨ l.2.2 < 1
instance (l : Lot) : Decidable (BadLot l) := by unfold BadLot; exact inferInstance
def firstBad (lots : List Lot) : Option Nat := lots.findIdx? fun l => decide (BadLot l)
theorem firstBad_none {lots : List Lot} (h : firstBad lots = none) : ∀ l ∈ lots, ¬ BadLot l := fun l hl => by
  have := List.findIdx?_eq_none_iff.mp h l hl
  simpa using this
theorem firstBad_at {lots : List Lot} {i : Nat} {l : Lot} (h : ∀ j l, j < i → lots[j]? = some l → ¬ BadLot l) (hl : lots[i]? = some l) (hb : BadLot l) : firstBad lots = some i := by
  unfold firstBad
  rw [List.findIdx?_eq_some_iff_getElem]
  obtain ⟨h1, h2⟩ := List.getElem?_eq_some_iff.mp hl
  refine ⟨h1, by rw [h2]; simpa using hb, fun j hj => ?_⟩
  have := h j lots[j] hj (by simp)
  simpa using this
theorem firstBad_no {lots : List Lot} (h : ∀ l ∈ lots, ¬ BadLot l) : firstBad lots = none := List.findIdx?_eq_none_iff.mpr fun l hl => by simpa using h l hl
def pLookE (c : Addr) : DSpE := fun ds M Φ Ξ => ∃ lots : List Lot, ds = [.lst (lots.map tD)] ∧ (firstBad lots = none → Φ .non M) ∧ ∀ i : Nat, firstBad lots = some i → Ξ c ["place"] [.int i] M
theorem c_lookE {c : Addr} {lots : List Lot} {M : Mem} {Φ : D → Mem → Prop} {Ξ : XPost} (h : firstBad lots = none) (k : Φ .non M) : pLookE c [.lst (lots.map tD)] M Φ Ξ := ⟨lots, rfl, fun _ => k, fun i e => by rw [h] at e; cases e⟩
def pRanE (c : Addr) : DSpE := fun ds M Φ Ξ => ∃ w, ∃ lots : List Lot, ds = [.int w, .lst (lots.map tD)] ∧ lots.length ≤ 60 ∧ 1 ≤ w ∧ (firstBad lots = none → (∀ l ∈ lots, LotOk l) ∧ ∀ n rows, Runs lots w n (lots.map (·.2.2)) 0 rows → Φ (.lst (rows.map tD)) M) ∧ ∀ i : Nat, firstBad lots = some i → Ξ c ["place"] [.int i] M
local macro_rules | `(tactic| walk_at "cl") => `(tactic| first | refine c_take (by omega) (by omega) (by omega) (fun _ _ _ => ?_) | refine c_begun (by omega) (fun _ _ => ?_) | refine c_whole ?_ | refine c_far (by omega) (fun _ _ _ => ?_) | refine c_lookE (by assumption) ?_)
abbrev s_look_at : Stmt := top 5
def n_look_at : List Str := ["lots", "at", "come", "hour", "many"]
theorem sc_look_at : FnScope n_look_at ["lots"] (defScope s_look_at) := ⟨rfl, rfl, rfl, by decide +kernel, rfl, by decide +kernel, by decide +kernel⟩
theorem d_look_at {P : Program} {w : World} {K : PySem.W.Frag} {mg : Str → Option Value} {base : Heap} {c_NoLot : Addr} {f : Addr} {fd : FuncData} (F : FunG K "look_at" "look_at" s_look_at f fd)
    (G_enumerate : mg "enumerate" = none) (X_NoLot : ExI P w K mg base "NoLot" c_NoLot ["place"]) : FnOk P w K mg base (L2.CX P w) 3 f fd ["lots"] (liftE (pLookE c_NoLot)) := by
  refine fnokG_of (N := n_look_at) (k := 2) F sc_look_at (fun ds M Φ Ξ h => by obtain ⟨lots, rfl, k, kx⟩ := h; rfl) fun X kp ds M Φ Ξ h I => ?_
  obtain ⟨lots, rfl, k, kx⟩ := h
  obtain ⟨rfl, rfl, rfl, rfl, rfl, hN, hs, hf, z, hp, tk, hst, hfr⟩ := I
  have nd := z.nd
  have n0 : Lo X 0 "lots" := lo_of hN hs hf (by decide +kernel)
  have n1 : Lo X 1 "at" := lo_of hN hs hf (by decide +kernel)
  have n2 : Lo X 2 "come" := lo_of hN hs hf (by decide +kernel)
  have n3 : Lo X 3 "hour" := lo_of hN hs hf (by decide +kernel)
  have n4 : Lo X 4 "many" := lo_of hN hs hf (by decide +kernel)
  have g_enumerate : Gn X "enumerate" := gn_of hs (by decide +kernel) G_enumerate
  have l_NoLot : Gl X "NoLot" := gl_of hs (by decide +kernel)
  clear F hf
  change DSs _ X (_ :: _) [_, _, _, _, _] _ _
  repeat' ((fail_if_success refine stFor ?_); walk_at "t")
  first | refine ds_cons (ds_forC [1, 2, 3, 4] z (by assumption) (di_enum (by assumption) ?_)) | refine ds_forC [1, 2, 3, 4] z (by assumption) (di_enum (by assumption) ?_)
  repeat' walk_at "t"
  refine ⟨fun i vs M1 => (∃  (o1 o2 o3 o4 : Option D), [o1, o2, o3, o4] = vs ∧ M = M1 ∧ (∀ j l, j < i → lots[j]? = some l → ¬ BadLot l)), ⟨_, _, _, _, rfl, rfl, (by omega)⟩, ?_, ?_⟩
  · rintro i x vs δ M1 hx ⟨o1, o2, o3, o4, rfl, rfl, h0⟩ hδ
    obtain rfl : δ = [_, o1, o2, o3, o4] := hδ
    obtain ⟨y, hy, rfl⟩ := enum_get hx
    obtain ⟨l, hl1, rfl⟩ := map_get hy
    repeat' walk_at "t"
    · rename_i hc
      exact ⟨_, _, .refl, kx i (firstBad_at h0 hl1 (by unfold BadLot; omega))⟩
    · rename_i hc
      exact ⟨_, _, .refl, kx i (firstBad_at h0 hl1 (by unfold BadLot; omega))⟩
    · rename_i hc
      exact ⟨_, _, .refl, kx i (firstBad_at h0 hl1 (by unfold BadLot; omega))⟩
    · refine ⟨[_, _, _, _], rfl, _, _, _, _, rfl, rfl, fun j l' hj hl' => ?_⟩
      rcases Nat.lt_or_ge j i with g | g
      · exact h0 j l' g hl'
      · obtain rfl : j = i := by omega
        rw [hl1] at hl'
        obtain rfl := Option.some.inj hl'
        unfold BadLot
        omega
  · rintro vs δ M1 ⟨o1, o2, o3, o4, rfl, rfl, h0⟩ hδ
    obtain rfl : δ = [_, o1, o2, o3, o4] := hδ
    try simp only [range_len, List.length_map, enum_len] at h0
    repeat' walk_at "t"
    refine ⟨_, _, .refl, k (firstBad_no fun l hl => ?_)⟩
    obtain ⟨i, hi, rfl⟩ := List.getElem_of_mem hl
    exact h0 i _ (by simpa using hi) (by simp)
abbrev s_one_tick : Stmt := top 6
def n_one_tick : List Str := ["width", "tick", "lots", "left", "here", "gone", "done", "k", "at", "row"]
theorem sc_one_tick : FnScope n_one_tick ["width", "tick", "lots", "left"] (defScope s_one_tick) := ⟨rfl, rfl, rfl, by decide +kernel, rfl, by decide +kernel, by decide +kernel⟩
theorem d_one_tick {P : Program} {w : World} {K : PySem.W.Frag} {mg : Str → Option Value} {base : Heap} {f : Addr} {fd : FuncData} (F : Fun K "one_tick" "one_tick" s_one_tick f fd)
    (G_range : mg "range" = none) (G_len : mg "len" = none) (D_carried : Def P w K mg base 1 "carried" ["width", "heap"] pCarried) (G_enumerate : mg "enumerate" = none) (G_sorted : mg "sorted" = none) : FnOk P w K mg base CX0 2 f fd ["width", "tick", "lots", "left"] (lift pOne) := by
  refine fnok_of (N := n_one_tick) (k := 1) F sc_one_tick (fun ds M Φ h => by obtain ⟨w, t, lots, left, y, rfl, hy, hll, hok, hl, hw, hlf, k⟩ := h; rfl) fun X B I ds M Φ h => ?_
  obtain ⟨w, t, lots, left, y, rfl, hy, hll, hok, hl, hw, hlf, k⟩ := h
  obtain ⟨rfl, rfl, rfl, rfl, rfl, hN, hs, hf, z, xe⟩ := I
  have hp := passes_of xe
  have n0 : Lo X 0 "width" := lo_of hN hs hf (by decide +kernel)
  have n1 : Lo X 1 "tick" := lo_of hN hs hf (by decide +kernel)
  have n2 : Lo X 2 "lots" := lo_of hN hs hf (by decide +kernel)
  have n3 : Lo X 3 "left" := lo_of hN hs hf (by decide +kernel)
  have n4 : Lo X 4 "here" := lo_of hN hs hf (by decide +kernel)
  have n5 : Lo X 5 "gone" := lo_of hN hs hf (by decide +kernel)
  have n6 : Lo X 6 "done" := lo_of hN hs hf (by decide +kernel)
  have n7 : Lo X 7 "k" := lo_of hN hs hf (by decide +kernel)
  have n8 : Lo X 8 "at" := lo_of hN hs hf (by decide +kernel)
  have g_range : Gn X "range" := gn_of hs (by decide +kernel) G_range
  have g_len : Gn X "len" := gn_of hs (by decide +kernel) G_len
  have l_carried : Gl X "carried" := gl_of hs (by decide +kernel)
  have g_enumerate : Gn X "enumerate" := gn_of hs (by decide +kernel) G_enumerate
  have g_sorted : Gn X "sorted" := gn_of hs (by decide +kernel) G_sorted
  clear F hf
  change DSs _ X (_ :: _) [_, _, _, _, _, _, _, _, _, _] _ _
  refine ds_cons (ds_lc 0 z n4 hN hs [("at", 8)] (.one 8) (by decide +kernel) (by decide) (fun X' bk => pg_one bk z (bk.lo hN hs (by decide +kernel))) (by decide +kernel) rfl rfl (by decide +kernel) ?_)
  refine di_range1 g_range ?_
  repeat' walk_at "s"
  simp only [List.length_map]
  refine ⟨by omega, by omega, ?_⟩
  refine LcH.pureT (List.range lots.length) (fun i : Nat => D.int (0 + (i : Nat))) (fun i => if decide ((lotD lots i).1 ≤ t ∧ 0 < lf left i) then some i else none) (fun i : Nat => D.int (i : Nat)) (by rw [List.length_range]; exact Nat.le_trans hl (by decide)) (fun q acc i hi => ?_) ?_
  · have hi := List.mem_range.mp hi
    refine ⟨_, rfl, fun X' bk => ?_⟩
    have c8 : Lo X' 8 "at" := bk.lo hN hs (by decide +kernel)
    have c1 : Nm X' 1 "tick" := bk.nm hN hs (by decide +kernel)
    have c2 : Nm X' 2 "lots" := bk.nm hN hs (by decide +kernel)
    have c3 : Nm X' 3 "left" := bk.nm hN hs (by decide +kernel)
    have z' := bk.z z
    repeat' walk_at "s"
    refine od_ixL (at_lot hi) ?_
    repeat' walk_at "s"
    refine od_ixT (d := .int (lotD lots i).1) rfl ?_
    repeat' walk_at "s"
    · rename_i hc
      refine od_ixI (d := .int (lf left i)) (IsL.cons hy) (by rw [show (0 : Int) + (i : Nat) = (i : Nat) by omega]; exact at_left (by omega)) ?_
      repeat' walk_at "s"
      · rename_i hp0
        intro X' bk
        have c8 : Lo X' 8 "at" := bk.lo hN hs (by decide +kernel)
        repeat' walk_at "s"
        exact ⟨by rw [if_pos (decide_eq_true ⟨hc, hp0⟩)]; show some (D.int (0 + (i : Nat))) = some (D.int (i : Nat)); rw [show (0 : Int) + (i : Nat) = (i : Nat) by omega], rfl⟩
      · rename_i hp0
        exact ⟨by rw [if_neg (by simp [hc]; omega)]; rfl, rfl⟩
    · rename_i hc
      exact ⟨by rw [if_neg (by simp [hc])]; rfl, rfl⟩
  rw [filterMap_filter]
  change Sets _ _ (.lst ((hereOf lots left t).map fun i : Nat => D.int (i : Nat))) _
  have hmem : ∀ k ∈ hereOf lots left t, k < lots.length ∧ 0 < lf left k := fun k hk => by
    have := here_mem.mp hk
    exact ⟨this.1, this.2.2⟩
  have hhl : (hereOf lots left t).length ≤ 60 := Nat.le_trans (List.length_filter_le _ _) (by simpa using hl)
  generalize hh : hereOf lots left t = here at hmem hhl
  repeat' walk_at "s"
  refine DE.f (df_lc 0 z hN hs [("at", 8)] (.one 8) (by decide +kernel) (by decide) (fun X' bk => pg_one bk z (bk.lo hN hs (by decide +kernel))) ?_)
  refine di_list ?_
  repeat' walk_at "s"
  refine LcH.mapT here (fun i : Nat => D.int (i : Nat)) (fun a => ((lotD lots a).2.1, lf left a)) pD (Nat.le_trans hhl (by decide)) (fun q acc i hi => ?_) ?_
  · have hi := (hmem i hi).1
    refine ⟨_, rfl, fun X' bk => ?_⟩
    have c8 : Lo X' 8 "at" := bk.lo hN hs (by decide +kernel)
    have c2 : Nm X' 2 "lots" := bk.nm hN hs (by decide +kernel)
    have c3 : Nm X' 3 "left" := bk.nm hN hs (by decide +kernel)
    have z' := bk.z z
    repeat' walk_at "s"
    refine od_ixL (at_lotN hi) ?_
    repeat' walk_at "s"
    refine od_ixT (d := .int (lotD lots i).2.1) rfl ?_
    repeat' walk_at "s"
    refine od_ixI (d := .int (lf left i)) (IsL.cons hy) (at_left (by omega)) ?_
    repeat' walk_at "s"
    exact ⟨rfl, rfl⟩
  repeat' walk_at "s"
  refine c_carried (heap := heapOf lots left here) hw (fun p hp' => by
    obtain ⟨a, ha, rfl⟩ := List.mem_map.mp hp'
    exact (hlf a).1) (by simp [heapOf]; omega) fun gone C => ?_
  have hgl : here.length = gone.length := by rw [C.len]; simp [heapOf]
  have hgb : ∀ g ∈ gone, 0 ≤ g ∧ g < 1000000 := fun g hg => by
    obtain ⟨i, hi, rfl⟩ := List.getElem_of_mem hg
    have hh' : i < (heapOf lots left here).length := by rw [← C.len]; exact hi
    have := C.bd i hh' hi
    have h2 := hlf here[i]
    simp only [heapOf, List.getElem_map] at this
    omega
  repeat' ((fail_if_success refine stSet "done" ?_); walk_at "s")
  refine ds_cons (ds_own 0 z n6 (df_lst (da_nil ⟨by decide, fun l => ?_⟩)))
  repeat' ((fail_if_success refine stFor ?_); walk_at "s")
  refine ds_cons (ds_for z hp (di_enum g_enumerate ?_))
  repeat' walk_at "s"
  refine ⟨fun i δ M1 => ∃ o1 o2, M1 = (l, .lst ((doneZ lots (here.take i) (gone.take i)).map tD)) :: M ∧ δ = [some (.int w), some (.int t), some (.lst (lots.map tD)), some y, some (.lst (here.map fun i : Nat => D.int (i : Nat))), some (.lst (gone.map .int)), some (.raw (.ref l)), o1, o2, none], ⟨none, none, rfl, rfl⟩, ?_, ?_⟩
  · rintro i x δ M1 hx ⟨o1, o2, rfl, rfl⟩
    obtain ⟨d, hd, rfl⟩ := enum_get hx
    obtain ⟨a, ha, rfl⟩ := map_get hd
    have hi : i < here.length := (List.getElem?_eq_some_iff.mp ha).1
    have hal := (hmem a (List.mem_of_getElem? ha)).1
    have hg : gone[i]? = some gone[i] := by simp [show i < gone.length by omega]
    have hsn := doneZ_snoc (lots := lots) (here := here.take i) (gone := gone.take i) (a := a) (g := gone[i]) (by simp; omega)
    repeat' walk_at "s"
    refine od_ixL (d := .int gone[i]) (at_mapN hg) ?_
    repeat' walk_at "s"
    · rename_i hp0
      refine ⟨⟨_, .cell 0 rfl⟩, ?_⟩
      repeat' walk_at "s"
      refine od_ixL (at_lotN hal) ?_
      repeat' walk_at "s"
      refine od_ixT (d := .int (lotD lots a).2.1) rfl ?_
      repeat' walk_at "s"
      refine od_ixL (d := .int gone[i]) (at_mapN hg) ?_
      repeat' walk_at "s"
      refine mt_app (j := 0) (ds := (doneZ lots (here.take i) (gone.take i)).map tD) rfl (by
        rw [List.length_map]
        exact Nat.lt_of_le_of_lt (Nat.le_trans doneZ_len (show (here.take i).length ≤ 60 by simp; omega)) (by decide)) ?_
      repeat' walk_at "s"
      refine ⟨_, _, ?_, rfl⟩
      rw [List.take_add_one, ha, List.take_add_one, hg]
      simp only [Option.toList]
      rw [hsn, if_pos hp0, List.map_append]; rfl
    · rename_i hp0
      refine ⟨_, _, ?_, rfl⟩
      rw [List.take_add_one, ha, List.take_add_one, hg]
      simp only [Option.toList]
      rw [hsn, if_neg hp0, List.append_nil]
  · rintro δ M1 ⟨o1, o2, rfl, rfl⟩
    rw [enum_len, List.length_map, List.take_length, hgl, List.take_length]
    refine ds_one (ds_ret (DE.f (df_lc 0 z hN hs [("row", 9)] (.one 9) (by decide +kernel) (by decide) (fun X' bk => pg_one bk z (bk.lo hN hs (by decide +kernel))) ?_)))
    refine di_list (de_sortedT 1000000 g_sorted ?_)
    repeat' walk_at "s"
    refine cd_sortedT (ps := doneZ lots here gone) (.cell 0 rfl) (fun p hp' => ?_) (Nat.lt_of_le_of_lt doneZ_len (by omega)) fun qs hperm hsort => ?_
    · obtain ⟨i, a, g, e1, e2, h0, rfl⟩ := doneZ_mem.mp hp'
      have h1 := hmem a (List.mem_of_getElem? e1)
      obtain ⟨b1, b2, b3, b4, b5⟩ := hok _ (lotD_mem h1.1)
      have h2 := hgb g (List.mem_of_getElem? e2)
      intro v hv
      simp only [List.mem_cons, List.not_mem_nil, or_false] at hv
      rcases hv with rfl | rfl | rfl <;> omega
    repeat' walk_at "s"
    have hql : qs.length ≤ 60 := by rw [hperm.length_eq]; exact Nat.le_trans doneZ_len hhl
    refine LcH.mapT qs tD (fun q => (t, q.2.1, q.2.2)) tD (Nat.le_trans hql (by decide)) (fun q acc i hi => ?_) ?_
    · refine ⟨_, rfl, fun X' bk => ?_⟩
      have c9 : Lo X' 9 "row" := bk.lo hN hs (by decide +kernel)
      have c1 : Nm X' 1 "tick" := bk.nm hN hs (by decide +kernel)
      have z' := bk.z z
      repeat' walk_at "s"
      refine od_ixT (d := .int i.2.1) rfl ?_
      repeat' walk_at "s"
      refine od_ixT (d := .int i.2.2) rfl ?_
      repeat' walk_at "s"
      exact ⟨rfl, rfl⟩
    refine ⟨_, _, .sub (List.sublist_cons_self _ _), ?_⟩
    have := k _ (tick_of (by rw [hh]; exact C) (by rw [hh]; exact hperm) hsort)
    rw [rows_at hperm] at this
    exact this
abbrev s_ran : Stmt := top 7
def n_ran : List Str := ["width", "lots", "left", "rows", "tick", "row", "lot", "at"]
theorem sc_ran : FnScope n_ran ["width", "lots"] (defScope s_ran) := ⟨rfl, rfl, rfl, by decide +kernel, rfl, by decide +kernel, by decide +kernel⟩
theorem d_ran {P : Program} {w : World} {K : PySem.W.Frag} {mg : Str → Option Value} {base : Heap} {c_NoLot : Addr} {f : Addr} {fd : FuncData} (F : FunG K "ran" "ran" s_ran f fd)
    (E_look_at_1 : DefE P w K mg base 3 "look_at" 1 [] (selN 1) (pLookE c_NoLot)) (G_max : mg "max" = none) (G_min : mg "min" = none) (G_range : mg "range" = none) (G_len : mg "len" = none) (D_one_tick : Def P w K mg base 2 "one_tick" ["width", "tick", "lots", "left"] pOne) : FnOk P w K mg base (L2.CX P w) 4 f fd ["width", "lots"] (liftE (pRanE c_NoLot)) := by
  refine fnokG_of (N := n_ran) (k := 3) F sc_ran (fun ds M Φ Ξ h => by obtain ⟨w, lots, rfl, hl, hw, kg, kx⟩ := h; rfl) fun X kp ds M Φ Ξ h I => ?_
  obtain ⟨w, lots, rfl, hl, hw, kg, kx⟩ := h
  obtain ⟨rfl, rfl, rfl, rfl, rfl, hN, hs, hf, z, hp, tk, hst, hfr⟩ := I
  have nd := z.nd
  have n0 : Lo X 0 "width" := lo_of hN hs hf (by decide +kernel)
  have n1 : Lo X 1 "lots" := lo_of hN hs hf (by decide +kernel)
  have n2 : Lo X 2 "left" := lo_of hN hs hf (by decide +kernel)
  have n3 : Lo X 3 "rows" := lo_of hN hs hf (by decide +kernel)
  have n4 : Lo X 4 "tick" := lo_of hN hs hf (by decide +kernel)
  have n5 : Lo X 5 "row" := lo_of hN hs hf (by decide +kernel)
  have l_look_at : Gl X "look_at" := gl_of hs (by decide +kernel)
  have g_max : Gn X "max" := gn_of hs (by decide +kernel) G_max
  have g_min : Gn X "min" := gn_of hs (by decide +kernel) G_min
  have g_range : Gn X "range" := gn_of hs (by decide +kernel) G_range
  have g_len : Gn X "len" := gn_of hs (by decide +kernel) G_len
  have l_one_tick : Gl X "one_tick" := gl_of hs (by decide +kernel)
  clear F hf
  change DSs _ X (_ :: _) [_, _, _, _, _, _, _, _] _ _
  cases hfb : firstBad lots with
  | some i =>
    repeat' walk_at "s"
    refine ⟨lots, rfl, fun e => ?_, fun j e => ?_⟩
    · rw [hfb] at e; cases e
    · exact ⟨_, _, .refl, kx j e⟩
  | none =>
    obtain ⟨hok, k⟩ := kg hfb
    repeat' ((fail_if_success refine stSet "left" ?_); walk_at "s")
    refine ds_cons (ds_own 0 z n2 (df_lc 0 z hN hs [("lot", 6)] (.one 6) (by decide +kernel) (by decide) (fun X' bk => pg_one bk z (bk.lo hN hs (by decide +kernel))) ?_) ?_)
    rotate_left
    · exact swaps_cell hs (by decide +kernel)
    refine di_list ?_
    repeat' walk_at "s"
    refine LcH.mapT lots tD (fun l => l.2.2) .int (Nat.le_trans hl (by decide)) (fun q acc a ha => ?_) fun l => ?_
    · refine ⟨_, rfl, fun X' bk => ?_⟩
      have c6 : Lo X' 6 "lot" := bk.lo hN hs (by decide +kernel)
      have z' := bk.z z
      repeat' walk_at "s"
      refine od_ixT (d := .int a.2.2) rfl ?_
      exact ⟨rfl, rfl⟩
    repeat' ((fail_if_success refine stSet "rows" ?_); walk_at "s")
    refine ds_cons (ds_own 1 z n3 (df_lst (da_nil ⟨by decide, fun r => ?_⟩)))
    repeat' ((fail_if_success refine stWhile ?_); walk_at "s")
    have hlf0 : ∀ k, 0 ≤ lf (lots.map (·.2.2)) k ∧ lf (lots.map (·.2.2)) k < 1000 := fun k => by
      rcases Nat.lt_or_ge k lots.length with q | q
      · rw [lf_map q]
        obtain ⟨b1, b2, b3, b4, b5⟩ := hok _ (lotD_mem q)
        omega
      · rw [lf_out (by simpa using q)]; omega
    refine ds_cons (ds_while hp (fun m δ M1 => ∃ (left : List Int) (rows : List (Int × Int × Int)) (tick : Int) (o5 : Option D), M1 = (l, .lst (left.map .int)) :: (r, .lst (rows.map tD)) :: M ∧ left.length = lots.length ∧ (∀ k, 0 ≤ lf left k ∧ lf left k < 1000) ∧ m = left.sum.toNat ∧ (∀ n rest, Runs lots w n left tick rest → ∃ n', Runs lots w n' (lots.map (·.2.2)) 0 (rows ++ rest)) ∧ (rows.length : Int) + left.sum ≤ 60000 ∧ δ = [some (.int w), some (.lst (lots.map tD)), some (.raw (.ref l)), some (.raw (.ref r)), some (.int tick), o5, none, none]) ⟨_, lots.map (·.2.2), [], 0, none, rfl, by simp, hlf0, rfl, fun n rest h => ⟨n, by simpa using h⟩, by have := sum_bd hlf0; simp at this ⊢; omega, rfl⟩ ?_)
    rintro m δ M1 ⟨left, rows, tick, o5, rfl, hll, hlf, hm, hrun, hlen, rfl⟩
    have hnn : ∀ k, 0 ≤ lf left k := fun k => (hlf k).1
    have out : (∀ k, lf left k = 0) → ∃ d2 M2, Vw (.raw (.ref r)) ((l, .lst (left.map .int)) :: (r, .lst (rows.map tD)) :: M) d2 M2 ∧ Φ d2 M2 := fun h0 => by
      obtain ⟨n', h⟩ := hrun 0 [] (.done hll h0)
      rw [List.append_nil] at h
      exact ⟨_, _, (Vw.frz 1 rfl).trans (.sub (List.sublist_cons_self _ _)), k n' rows h⟩
    repeat' walk_at "s"
    refine ⟨left, 0, .cell 0 rfl, rfl, fun e => ?_, fun mx hmx hmax => ?_⟩
    · repeat' walk_at "s"
      exact out fun k => by rw [e]; simp [lf]
    walk_at "s"
    walk_at "s"
    walk_at "s"
    refine Br.dec (fun hpos => ?_) fun hpos => ?_
    rotate_left
    · repeat' walk_at "s"
      refine out fun k => ?_
      rcases Nat.lt_or_ge k left.length with q | q
      · have h1 := hmax (lf left k) (by unfold lf; rw [List.getD, List.getElem?_eq_getElem q]; exact List.getElem_mem q)
        have := hnn k
        omega
      · exact lf_out q
    have hex : ∃ k, 0 < lf left k := by
      obtain ⟨i, hi, rfl⟩ := List.getElem_of_mem hmx
      exact ⟨i, by unfold lf; rw [List.getD, List.getElem?_eq_getElem hi]; exact hpos⟩
    repeat' walk_at "s"
    refine DE.f (df_lc 0 z hN hs [("at", 7)] (.one 7) (by decide +kernel) (by decide) (fun X' bk => pg_one bk z (bk.lo hN hs (by decide +kernel))) ?_)
    refine di_range1 g_range ?_
    repeat' walk_at "s"
    simp only [List.length_map]
    refine ⟨by omega, by omega, ?_⟩
    refine LcH.pureT (List.range lots.length) (fun i : Nat => D.int (0 + (i : Nat))) (fun i => if 0 < lf left i then some (lotD lots i).1 else none) .int (by rw [List.length_range]; exact Nat.le_trans hl (by decide)) (fun q acc i hi => ?_) ?_
    · have hi := List.mem_range.mp hi
      refine ⟨_, rfl, fun X' bk => ?_⟩
      have c7 : Lo X' 7 "at" := bk.lo hN hs (by decide +kernel)
      have c1 : Nm X' 1 "lots" := bk.nm hN hs (by decide +kernel)
      have c2 : Nm X' 2 "left" := bk.nm hN hs (by decide +kernel)
      have z' := bk.z z
      repeat' walk_at "s"
      refine od_ixI (d := .int (lf left i)) (.cell 1 rfl) (by rw [show (0 : Int) + (i : Nat) = (i : Nat) by omega]; exact at_left (by omega)) ?_
      repeat' walk_at "s"
      · rename_i hc
        intro X' bk
        have c7 : Lo X' 7 "at" := bk.lo hN hs (by decide +kernel)
        have c1 : Nm X' 1 "lots" := bk.nm hN hs (by decide +kernel)
        have z' := bk.z z
        repeat' walk_at "s"
        refine od_ixL (at_lot hi) ?_
        repeat' walk_at "s"
        refine od_ixT (d := .int (lotD lots i).1) rfl ?_
        repeat' walk_at "s"
        exact ⟨by rw [if_pos hc]; rfl, rfl⟩
      · rename_i hc
        exact ⟨by rw [if_neg hc]; rfl, rfl⟩
    repeat' walk_at "s"
    have cmem : ∀ c, c ∈ (List.range lots.length).filterMap (fun i => if 0 < lf left i then some (lotD lots i).1 else none) ↔ ∃ i, i < lots.length ∧ 0 < lf left i ∧ c = (lotD lots i).1 := fun c => by
      rw [List.mem_filterMap]
      constructor
      · rintro ⟨i, hi, h⟩
        split at h
        · next hc => exact ⟨i, List.mem_range.mp hi, hc, (Option.some.inj h).symm⟩
        · cases h
      · rintro ⟨i, hi, hc, rfl⟩
        exact ⟨i, List.mem_range.mpr hi, if_pos hc⟩
    refine cd_minL (.val _) (fun e => ?_) fun c hc hmin => ?_
    · obtain ⟨i, hi⟩ := hex
      have hil : i < lots.length := by
        rcases Nat.lt_or_ge i lots.length with q | q
        · exact q
        · rw [lf_out (by omega)] at hi; omega
      have := (cmem (lotD lots i).1).mpr ⟨i, hil, hi, rfl⟩
      rw [e] at this
      cases this
    obtain ⟨ic, hic, hic0, rfl⟩ := (cmem c).mp hc
    have hmin : ∀ i, i < lots.length → 0 < lf left i → (lotD lots ic).1 ≤ (lotD lots i).1 := fun i h1 h2 => hmin _ ((cmem _).mpr ⟨i, h1, h2, rfl⟩)
    repeat' ((fail_if_success refine stFor ?_); walk_at "s")
    generalize htk : max tick (lotD lots ic).1 = tk
    refine ds_cut (fun δ M1 => ∃ (R : List (Nat × Int)) (o5 : Option D), Tick lots left tk w R ∧ M1 = (l, .lst ((appR left R).map .int)) :: (r, .lst ((rows ++ rowsAt tk R).map tD)) :: M ∧ δ = [some (.int w), some (.lst (lots.map tD)), some (.raw (.ref l)), some (.raw (.ref r)), some (.int tk), o5, none, none]) ?_ ?_
    · refine ds_for z hp (di_list ?_)
      repeat' walk_at "s"
      refine ⟨w, tk, lots, left, _, rfl, .cell 0 rfl, hll, hok, hl, by omega, hlf, fun R T => ?_⟩
      have hRl := T.lt hll
      have hRs := len_sumR (R := R) fun p hp' => (T.av p hp').2.1
      have hsum := sum_app hRl
      have hnn2 := nn_app hRl T.ord (fun p hp' => (T.av p hp').2.2) hnn
      have hs0 := (sum_nn hnn2).1
      repeat' walk_at "s"
      refine ⟨fun i δ M1 => ∃ o5, M1 = (l, .lst ((appR left (R.take i)).map .int)) :: (r, .lst ((rows ++ rowsAt tk (R.take i)).map tD)) :: M ∧ δ = [some (.int w), some (.lst (lots.map tD)), some (.raw (.ref l)), some (.raw (.ref r)), some (.int tk), o5, none, none], ⟨o5, by simp [rowsAt, appR], rfl⟩, ?_, ?_⟩
      · rintro i x δ M1 hx ⟨o5, rfl, rfl⟩
        obtain ⟨y, hy, rfl⟩ := map_get hx
        unfold rowsAt at hy
        obtain ⟨p, hp1, rfl⟩ : ∃ p, R[i]? = some p ∧ y = (tk, (p.1 : Int), p.2) := by
          rw [List.getElem?_map] at hy
          cases e : R[i]? with
          | none => rw [e] at hy; cases hy
          | some p => rw [e] at hy; exact ⟨p, rfl, (Option.some.inj hy).symm⟩
        have hpm := List.mem_of_getElem? hp1
        have hpl := hRl p hpm
        have hil : i < R.length := (List.getElem?_eq_some_iff.mp hp1).1
        have hal : p.1 < (appR left (R.take i)).length := by rw [len_app]; exact hpl
        repeat' walk_at "s"
        refine od_ixT (d := .int (p.1 : Int)) rfl ?_
        repeat' walk_at "s"
        refine od_ixI (d := .int (lf (appR left (R.take i)) p.1)) (.cell 0 rfl) (at_left hal) ?_
        repeat' walk_at "s"
        refine od_ixT (d := .int p.2) rfl ?_
        repeat' walk_at "s"
        refine od_ixT (d := .int (p.1 : Int)) rfl ?_
        repeat' walk_at "s"
        refine sd_list (j := 0) (m := p.1) (ds := (appR left (R.take i)).map .int) rfl (ixN_nat' (by rw [List.length_map]; exact hal)) ?_
        repeat' walk_at "s"
        refine ⟨⟨_, .cell 1 rfl⟩, ?_⟩
        repeat' walk_at "s"
        refine mt_app (j := 1) (ds := (rows ++ rowsAt tk (R.take i)).map tD) rfl (by
          simp only [List.length_map, List.length_append, rowsAt, List.length_take]
          exact Nat.lt_of_le_of_lt (show rows.length + min i R.length ≤ 60000 by omega) (by decide)) ?_
        repeat' walk_at "s"
        refine ⟨_, ?_, rfl⟩
        rw [appR_take hp1]
        unfold app1 rowsAt
        rw [List.take_add_one, hp1, List.map_set, List.map_append, List.map_append, List.map_append, List.map_append, List.append_assoc]
        rfl
      · rintro δ M1 ⟨o5, rfl, rfl⟩
        rw [show ((rowsAt tk R).map tD).length = R.length by simp [rowsAt], List.take_length]
        exact ⟨R, o5, T, rfl, rfl⟩
    rintro δ M1 ⟨R, o5, T, rfl, rfl⟩
    have hRl := T.lt hll
    have hRs := len_sumR (R := R) fun p hp' => (T.av p hp').2.1
    have hsum := sum_app hRl
    have hnn2 := nn_app hRl T.ord (fun p hp' => (T.av p hp').2.2) hnn
    have hs0 := (sum_nn hnn2).1
    have hle := le_app hRl fun p hp' => (T.av p hp').2.1
    have hpos2 := T.pos (by omega) ⟨ic, hic, by omega, hic0⟩
    repeat' walk_at "s"
    refine ⟨(appR left R).sum.toNat, by omega, appR left R, rows ++ rowsAt tk R, tk + 1, _, rfl, by rw [len_app]; exact hll, fun k => ⟨hnn2 k, by have := hle k; have := (hlf k).2; omega⟩, rfl, fun n rest h => ?_, by simp only [List.length_append, rowsAt, List.length_map]; omega, rfl⟩
    have h1 : Runs lots w (n + 1) left tk (rowsAt tk R ++ rest) := .tick hll hnn hex T h
    obtain ⟨d, hd⟩ : ∃ d : Nat, tk = tick + d := ⟨(tk - tick).toNat, by omega⟩
    rw [hd] at h1
    obtain ⟨n2, h2⟩ := Runs.skip (by omega) hll hnn hex d (fun s hs1 hs2 k hk => by
      have := hmin k hk.1 hk.2.2
      have := hk.2.1
      omega) h1
    obtain ⟨n3, h3⟩ := hrun n2 _ h2
    rw [← hd] at h3
    exact ⟨n3, by rw [List.append_assoc]; exact h3⟩
/-- pieces of lots that come ahead of s, with hours up to h -/
def inC (lots : List Lot) (h : Int) (k : Nat) : Bool := decide ((lotD lots k).2.1 ≤ h)
def aheadOf (lots : List Lot) (h : Int) (left : List Int) (s : Int) : Int := ((List.range lots.length).map fun k => if (lotD lots k).1 < s ∧ (lotD lots k).2.1 ≤ h then lf left k else 0).sum
def goneBy (lots : List Lot) (h : Int) (t : Int) (rows : List (Int × Int × Int)) : Int := (rows.map fun r => if r.1 ≤ t ∧ (lotD lots r.2.1.toNat).2.1 ≤ h then r.2.2 else 0).sum
def sumC (lots : List Lot) (h : Int) (R : List (Nat × Int)) : Int := (R.map fun p => if (lotD lots p.1).2.1 ≤ h then p.2 else 0).sum
theorem sum_congr {α : Type} {l : List α} {f g : α → Int} (h : ∀ a ∈ l, f a = g a) : (l.map f).sum = (l.map g).sum := by rw [List.map_congr_left h]
theorem sum_le {α : Type} : ∀ {l : List α} {f g : α → Int}, (∀ a ∈ l, f a ≤ g a) → (l.map f).sum ≤ (l.map g).sum
  | [], _, _, _ => Int.le_refl _
  | a :: l, f, g, h => by
    have := sum_le (l := l) (f := f) (g := g) fun b hb => h b (List.mem_cons_of_mem _ hb)
    have := h a List.mem_cons_self
    simp only [List.map_cons, List.sum_cons]
    omega
theorem sum_sub {α : Type} : ∀ {l : List α} {f g : α → Int}, (l.map fun a => f a - g a).sum = (l.map f).sum - (l.map g).sum
  | [], _, _ => rfl
  | a :: l, f, g => by
    have := sum_sub (l := l) (f := f) (g := g)
    simp only [List.map_cons, List.sum_cons, this]
    omega
theorem sum_single {n k : Nat} (hk : k < n) (x : Int) : ((List.range n).map fun j => if k = j then x else 0).sum = x := by
  induction n with
  | zero => omega
  | succ n ih =>
    rw [List.range_succ, List.map_append, List.sum_append]
    by_cases e : k = n
    · subst e
      have : ((List.range k).map fun j => if k = j then x else 0).sum = 0 := by
        rw [sum_congr (g := fun _ => (0 : Int)) fun j hj => if_neg (by have := List.mem_range.mp hj; omega)]
        clear ih hk
        induction k with
        | zero => rfl
        | succ k ih => rw [List.range_succ, List.map_append, List.sum_append, ih]; rfl
      rw [this]; simp
    · rw [ih (by omega)]; simp [e]
/-- what is ahead of s, behind a tick's rows -/
theorem ahead_app1 {lots : List Lot} {h s : Int} {left : List Int} {p : Nat × Int} (hl : left.length = lots.length) (hp : p.1 < left.length) : aheadOf lots h (app1 left p) s = aheadOf lots h left s - if (lotD lots p.1).1 < s ∧ (lotD lots p.1).2.1 ≤ h then p.2 else 0 := by
  unfold aheadOf
  rw [← sum_single (n := lots.length) (k := p.1) (by omega) (if (lotD lots p.1).1 < s ∧ (lotD lots p.1).2.1 ≤ h then p.2 else 0), ← sum_sub]
  refine sum_congr fun k hk => ?_
  rw [lf_app1 hp]
  by_cases e : p.1 = k
  · subst e
    rw [if_pos rfl, if_pos rfl]
    split <;> omega
  · rw [if_neg e, if_neg e]; omega
theorem ahead_app {lots : List Lot} {h s : Int} : ∀ {R : List (Nat × Int)} {left : List Int}, left.length = lots.length → (∀ p ∈ R, p.1 < left.length) → (∀ p ∈ R, (lotD lots p.1).1 < s) → aheadOf lots h (appR left R) s = aheadOf lots h left s - sumC lots h R
  | [], left, _, _, _ => by show aheadOf lots h left s = aheadOf lots h left s - 0; omega
  | p :: R, left, hl, h1, h2 => by
    show aheadOf lots h (appR (app1 left p) R) s = _
    have hp := h1 p List.mem_cons_self
    rw [ahead_app (by rw [len_app1]; exact hl) (fun q hq => by rw [len_app1]; exact h1 q (List.mem_cons_of_mem _ hq)) (fun q hq => h2 q (List.mem_cons_of_mem _ hq)), ahead_app1 hl hp]
    have e : sumC lots h (p :: R) = (if (lotD lots p.1).2.1 ≤ h then p.2 else 0) + sumC lots h R := by simp [sumC]
    rw [e]
    have := h2 p List.mem_cons_self
    simp only [this, true_and]
    omega
theorem sumC_le {lots : List Lot} {h : Int} {R : List (Nat × Int)} (h0 : ∀ p ∈ R, 0 < p.2) : 0 ≤ sumC lots h R ∧ sumC lots h R ≤ sumR R := by
  constructor
  · have := sum_le (l := R) (f := fun _ => 0) (g := fun p => if (lotD lots p.1).2.1 ≤ h then p.2 else 0) fun p hp => by
      have := h0 p hp
      split <;> omega
    have e : (R.map fun _ => (0 : Int)).sum = 0 := by
      clear this h0
      induction R with
      | nil => rfl
      | cons _ _ ih => simp only [List.map_cons, List.sum_cons, ih]; rfl
    rw [e] at this
    exact this
  · exact sum_le fun p hp => by
      have := h0 p hp
      split <;> omega
theorem app_other {lots : List Lot} : ∀ {R : List (Nat × Int)} {left : List Int} {j : Nat}, (∀ p ∈ R, p.1 < left.length) → (∀ p ∈ R, p.1 ≠ j) → lf (appR left R) j = lf left j
  | [], _, _, _, _ => rfl
  | p :: R, left, j, h1, h2 => by
    show lf (appR (app1 left p) R) j = _
    rw [app_other (lots := lots) (fun q hq => by rw [len_app1]; exact h1 q (List.mem_cons_of_mem _ hq)) (fun q hq => h2 q (List.mem_cons_of_mem _ hq)), lf_app1 (h1 p List.mem_cons_self), if_neg (h2 p List.mem_cons_self)]
theorem app_in {lots : List Lot} : ∀ {R : List (Nat × Int)} {left : List Int} {q : Nat × Int}, (∀ p ∈ R, p.1 < left.length) → (R.Pairwise fun a b => Bf lots a.1 b.1) → q ∈ R → lf (appR left R) q.1 = lf left q.1 - q.2
  | p :: R, left, q, h1, h2, hq => by
    obtain ⟨g1, g2⟩ := List.pairwise_cons.mp h2
    have hp := h1 p List.mem_cons_self
    have h1' : ∀ r ∈ R, r.1 < (app1 left p).length := fun r hr => by rw [len_app1]; exact h1 r (List.mem_cons_of_mem _ hr)
    have ne : ∀ r ∈ R, r.1 ≠ p.1 := fun r hr e => by
      have := g1 r hr
      rw [e] at this
      exact Bf.irr this
    show lf (appR (app1 left p) R) q.1 = _
    rcases List.mem_cons.mp hq with rfl | hq
    · rw [app_other (lots := lots) h1' ne, lf_app1 hp, if_pos rfl]
    · rw [app_in h1' g2 hq, lf_app1 hp, if_neg (ne q hq).symm]
  | [], _, _, _, _, hq => by cases hq
theorem sum_zero' {α : Type} {l : List α} {f : α → Int} (h : ∀ a ∈ l, f a = 0) : (l.map f).sum = 0 := by
  rw [sum_congr h]
  clear h
  induction l with
  | nil => rfl
  | cons _ _ ih => simp only [List.map_cons, List.sum_cons, ih]; rfl
/-- of the lots with hours up to h a tick carries as many as may -/
theorem Tick.some {lots : List Lot} {left : List Int} {t w h : Int} {R : List (Nat × Int)} (T : Tick lots left t w R) (hl : left.length = lots.length) (hnn : ∀ k, 0 ≤ lf left k) : sumC lots h R = min w (aheadOf lots h left (t + 1)) := by
  have hRl := T.lt hl
  have hc := sumC_le (lots := lots) (h := h) fun p hp => (T.av p hp).2.1
  have hs := T.sum
  have ha := ahead_app (h := h) (s := t + 1) hl hRl fun p hp => by have := (T.av p hp).1.2.1; omega
  have hnn2 := nn_app hRl T.ord (fun p hp => (T.av p hp).2.2) hnn
  have h0 : 0 ≤ aheadOf lots h (appR left R) (t + 1) := by
    have := sum_le (l := List.range lots.length) (f := fun _ => 0) (g := fun k => if (lotD lots k).1 < t + 1 ∧ (lotD lots k).2.1 ≤ h then lf (appR left R) k else 0) fun k hk => by
      have := hnn2 k
      split <;> omega
    rw [sum_zero' (f := fun _ => 0) fun _ _ => rfl] at this
    exact this
  rcases Classical.em (∃ j, Av lots left t j ∧ (lotD lots j).2.1 ≤ h ∧ (j, lf left j) ∉ R) with ⟨j, hj, hjh, hno⟩ | hall
  · rcases T.full j hj with q | ⟨q1, q2⟩
    · exact absurd q hno
    · have : sumC lots h R = sumR R := sum_congr fun p hp => by
        have := q2 p hp
        unfold Bf at this
        rw [if_pos (by omega)]
      omega
  · have : aheadOf lots h (appR left R) (t + 1) = 0 := sum_zero' fun k hk => by
      have hk := List.mem_range.mp hk
      by_cases hc : (lotD lots k).1 < t + 1 ∧ (lotD lots k).2.1 ≤ h
      · rw [if_pos hc]
        rcases Int.lt_or_eq_of_le (hnn k) with q | q
        · have hav : Av lots left t k := ⟨hk, by omega, q⟩
          have hin : (k, lf left k) ∈ R := by
            rcases Decidable.em ((k, lf left k) ∈ R) with e | e
            · exact e
            · exact absurd ⟨k, hav, hc.2, e⟩ hall
          have := app_in hRl T.ord hin
          dsimp only at this
          omega
        · rw [app_other (lots := lots) hRl fun p hp e => by
            have := (T.av p hp).1.2.2
            rw [e] at this
            omega]
          omega
      · rw [if_neg hc]
    omega
theorem gone_rows {lots : List Lot} {h t t' : Int} {R : List (Nat × Int)} : goneBy lots h t (rowsAt t' R) = if t' ≤ t then sumC lots h R else 0 := by
  unfold goneBy rowsAt sumC
  rw [List.map_map]
  by_cases e : t' ≤ t
  · rw [if_pos e]
    exact sum_congr fun p hp => by simp [e]
  · rw [if_neg e]
    exact sum_zero' fun p hp => by simp [e]
theorem gone_app {lots : List Lot} {h t : Int} {r1 r2 : List (Int × Int × Int)} : goneBy lots h t (r1 ++ r2) = goneBy lots h t r1 + goneBy lots h t r2 := by
  unfold goneBy
  rw [List.map_append, List.sum_append]
theorem Runs.early {lots : List Lot} {w h : Int} {n : Nat} {left : List Int} {t0 t : Int} {rows : List (Int × Int × Int)} (H : Runs lots w n left t0 rows) (ht : t < t0) : goneBy lots h t rows = 0 := by
  induction H with
  | done _ _ => rfl
  | tick _ _ _ _ _ ih => rw [gone_app, gone_rows, if_neg (by omega), ih (by omega)]; rfl
/-- what is gone by the end of tick t -/
theorem Runs.by_ {lots : List Lot} {w h : Int} (hw : 0 ≤ w) {n : Nat} {left : List Int} {t0 t : Int} {rows : List (Int × Int × Int)} (H : Runs lots w n left t0 rows) (ht : t0 ≤ t) :
    goneBy lots h t rows ≤ w * (t + 1 - t0) ∧ (∀ s, t0 + 1 ≤ s → s ≤ t + 1 → goneBy lots h t rows ≤ aheadOf lots h left s + w * (t + 1 - s)) ∧
    (goneBy lots h t rows = w * (t + 1 - t0) ∨ ∃ s, t0 + 1 ≤ s ∧ s ≤ t + 1 ∧ goneBy lots h t rows = aheadOf lots h left s + w * (t + 1 - s)) := by
  induction H with
  | @done left t0 h1 h2 =>
    have ha : ∀ s, aheadOf lots h left s = 0 := fun s => sum_zero' fun k _ => by rw [h2 k]; split <;> rfl
    have hg : goneBy lots h t [] = 0 := rfl
    refine ⟨by rw [hg]; exact Int.mul_nonneg hw (by omega), fun s s1 s2 => ?_, .inr ⟨t + 1, by omega, by omega, ?_⟩⟩
    · rw [hg, ha]
      have := Int.mul_nonneg hw (show 0 ≤ t + 1 - s by omega)
      omega
    · rw [hg, ha, show t + 1 - (t + 1) = 0 by omega, Int.mul_zero]; rfl
  | @tick n left t0 R rows hl hnn hex T H ih =>
    have hc := T.some (h := h) hl hnn
    have hRl := T.lt hl
    have hA : ∀ s, t0 + 1 ≤ s → aheadOf lots h (appR left R) s = aheadOf lots h left s - sumC lots h R := fun s hs => ahead_app hl hRl fun p hp => by have := (T.av p hp).1.2.1; omega
    rw [gone_app, gone_rows, if_pos ht]
    generalize hC : sumC lots h R = C at hc hA
    rcases Int.lt_or_le t0 t with q | q
    · obtain ⟨i1, i2, i3⟩ := ih (by omega)
      generalize goneBy lots h t rows = G at i1 i2 i3 ⊢
      have e1 : w * (t + 1 - t0) = w + w * (t + 1 - (t0 + 1)) := by rw [show t + 1 - t0 = 1 + (t + 1 - (t0 + 1)) by omega, Int.mul_add, Int.mul_one]
      refine ⟨by omega, fun s s1 s2 => ?_, ?_⟩
      · rcases Int.lt_or_le (t0 + 1) s with g | g
        · have := i2 s (by omega) s2
          rw [hA s s1] at this
          omega
        · obtain rfl : s = t0 + 1 := by omega
          omega
      · rcases i3 with e | ⟨s, s1, s2, e⟩
        · rcases Int.le_total w (aheadOf lots h left (t0 + 1)) with g | g
          · exact .inl (by omega)
          · exact .inr ⟨t0 + 1, by omega, by omega, by omega⟩
        · rw [hA s (by omega)] at e
          exact .inr ⟨s, by omega, s2, by omega⟩
    · obtain rfl : t = t0 := by omega
      rw [H.early (h := h) (by omega)]
      have e1 : w * (t + 1 - t) = w := by rw [show t + 1 - t = 1 by omega, Int.mul_one]
      have e2 : w * (t + 1 - (t + 1)) = 0 := by rw [show t + 1 - (t + 1) = 0 by omega, Int.mul_zero]
      refine ⟨by omega, fun s s1 s2 => ?_, ?_⟩
      · obtain rfl : s = t + 1 := by omega
        omega
      · rcases Int.le_total w (aheadOf lots h left (t + 1)) with g | g
        · exact .inl (by omega)
        · exact .inr ⟨t + 1, by omega, by omega, by omega⟩
theorem sum_zero : ∀ {left : List Int}, (∀ k, lf left k = 0) → left.sum = 0
  | [], _ => rfl
  | a :: left, h => by
    have h1 : ∀ k, lf left k = 0 := fun k => by have := h (k + 1); simpa [lf] using this
    have h2 : a = 0 := by have := h 0; simpa [lf] using this
    rw [List.sum_cons, sum_zero h1, h2]; rfl
theorem Runs.len {lots : List Lot} {w : Int} {n : Nat} {left : List Int} {t : Int} {rows : List (Int × Int × Int)} (h : Runs lots w n left t rows) : (rows.length : Int) ≤ left.sum := by
  induction h with
  | done h1 h2 => rw [sum_zero h2]; exact Int.le_refl _
  | tick hll hnn hex T hR ih =>
    have h1 := sum_app (T.lt hll)
    have h2 := len_sumR fun p hp' => (T.av p hp').2.1
    rw [List.length_append]
    simp only [rowsAt, List.length_map]
    omega
theorem Runs.few {lots : List Lot} {w : Int} {n : Nat} {t : Int} {rows : List (Int × Int × Int)} (h : Runs lots w n (lots.map (·.2.2)) t rows) (hok : ∀ l ∈ lots, LotOk l) (hl : lots.length ≤ 60) : rows.length ≤ 60000 := by
  have h1 := h.len
  have h2 := sum_bd (left := lots.map (·.2.2)) fun k => by
    rcases Nat.lt_or_ge k lots.length with q | q
    · rw [lf_map q]
      obtain ⟨b1, b2, b3, b4, b5⟩ := hok _ (lotD_mem q)
      omega
    · rw [lf_out (by simpa using q)]; omega
  rw [List.length_map] at h2
  omega
theorem sum_fm {α : Type} {p : α → Prop} [DecidablePred p] {f : α → Int} : ∀ {l : List α}, (l.filterMap fun a => if p a then some (f a) else none).sum = (l.map fun a => if p a then f a else 0).sum
  | [] => rfl
  | a :: l => by
    have ih := sum_fm (p := p) (f := f) (l := l)
    rw [List.map_cons, List.sum_cons, List.filterMap_cons]
    by_cases h : p a
    · simp only [if_pos h, List.sum_cons, ih]
    · simp only [if_neg h, ih]; omega
theorem ahead_lots {lots : List Lot} {h s : Int} : aheadOf lots h (lots.map (·.2.2)) s = (lots.map fun l => if l.1 < s ∧ l.2.1 ≤ h then l.2.2 else 0).sum := by
  unfold aheadOf
  congr 1
  refine List.ext_getElem (by simp) fun i h1 h2 => ?_
  have hi : i < lots.length := by simpa using h2
  simp only [List.getElem_map, List.getElem_range, lf_map hi]
  unfold lotD
  simp [hi]
structure IsMost (lots : List Lot) (w h t m : Int) : Prop where
  one : m ≤ w * (t + 1)
  all : ∀ s, (∃ l ∈ lots, l.1 = s ∧ s ≤ t) ∨ s = t + 1 → m ≤ aheadOf lots h (lots.map (·.2.2)) s + w * (t + 1 - s)
  at_ : m = w * (t + 1) ∨ ∃ s, ((∃ l ∈ lots, l.1 = s ∧ s ≤ t) ∨ s = t + 1) ∧ m = aheadOf lots h (lots.map (·.2.2)) s + w * (t + 1 - s)
theorem most_eq {lots : List Lot} {w h t m : Int} {n : Nat} {rows : List (Int × Int × Int)} (H : Runs lots w n (lots.map (·.2.2)) 0 rows) (hok : ∀ l ∈ lots, LotOk l) (hw : 0 ≤ w) (ht : 0 ≤ t) (I : IsMost lots w h t m) : goneBy lots h t rows = m := by
  obtain ⟨b1, b2, b3⟩ := H.by_ (h := h) hw ht
  rw [Int.sub_zero] at b1 b3
  have nn : ∀ s, 0 ≤ aheadOf lots h (lots.map (·.2.2)) s := fun s => by
    rw [ahead_lots]
    have := sum_le (l := lots) (f := fun _ => 0) (g := fun l => if l.1 < s ∧ l.2.1 ≤ h then l.2.2 else 0) fun l hl => by
      have := (hok l hl).2.2.1
      split <;> omega
    rw [sum_zero' (f := fun _ => 0) fun _ _ => rfl] at this
    exact this
  have up : goneBy lots h t rows ≤ m := by
    rcases I.at_ with e | ⟨s, hs, e⟩
    · omega
    · rcases Int.lt_or_le 0 s with q | q
      · have := b2 s (by omega) (by rcases hs with ⟨l, _, _, h2⟩ | h2 <;> omega)
        omega
      · obtain rfl : s = 0 := by
          rcases hs with ⟨l, hl, rfl, h2⟩ | h2
          · have := (hok l hl).1; omega
          · omega
        have := nn 0
        rw [Int.sub_zero] at e
        omega
  have down : ∀ (d : Nat) (s : Int), s + d = t + 1 → m ≤ aheadOf lots h (lots.map (·.2.2)) s + w * (t + 1 - s) := by
    intro d
    induction d with
    | zero => intro s hs; exact I.all s (.inr (by omega))
    | succ d ih =>
      intro s hs
      rcases Classical.em (∃ l ∈ lots, l.1 = s) with ⟨l, hl, e⟩ | hno
      · exact I.all s (.inl ⟨l, hl, e, by omega⟩)
      · have h1 := ih (s + 1) (by omega)
        have h2 : aheadOf lots h (lots.map (·.2.2)) (s + 1) = aheadOf lots h (lots.map (·.2.2)) s := by
          rw [ahead_lots, ahead_lots]
          refine sum_congr fun l hl => ?_
          have : l.1 ≠ s := fun e => hno ⟨l, hl, e⟩
          have e : l.1 < s + 1 ↔ l.1 < s := by omega
          simp only [e]
        have h3 : w * (t + 1 - s) = w + w * (t + 1 - (s + 1)) := by rw [show t + 1 - s = 1 + (t + 1 - (s + 1)) by omega, Int.mul_add, Int.mul_one]
        omega
  have lo : m ≤ goneBy lots h t rows := by
    rcases b3 with e | ⟨s, h1, h2, e⟩
    · have := I.one; omega
    · have := down (t + 1 - s).toNat s (by omega)
      omega
  omega
theorem Runs.total {lots : List Lot} {w : Int} {n : Nat} {left : List Int} {t : Int} {rows : List (Int × Int × Int)} (h : Runs lots w n left t rows) : (rows.map (·.2.2)).sum = left.sum := by
  induction h with
  | done h1 h2 => rw [sum_zero h2]; rfl
  | tick hll hnn hex T hR ih =>
    rw [List.map_append, List.sum_append, ih, sum_app (T.lt hll)]
    have : ∀ {t : Int} {R : List (Nat × Int)}, ((rowsAt t R).map (·.2.2)).sum = sumR R := by
      intro t R
      unfold rowsAt sumR
      rw [List.map_map]; rfl
    rw [this]; omega
theorem Runs.mem {lots : List Lot} {w : Int} {n : Nat} {left : List Int} {t : Int} {rows : List (Int × Int × Int)} (h : Runs lots w n left t rows) : ∀ r ∈ rows, ∃ k : Nat, k < lots.length ∧ r.2.1 = (k : Int) := by
  induction h with
  | done h1 h2 => intro r hr; cases hr
  | tick hll hnn hex T hR ih =>
    intro r hr
    rcases List.mem_append.mp hr with q | q
    · unfold rowsAt at q
      obtain ⟨p, hp, rfl⟩ := List.mem_map.mp q
      exact ⟨p.1, (T.av p hp).1.1, rfl⟩
    · exact ih r q
/-- pieces of lots that come from f on, with hours up to e -/
def need (lots : List Lot) (f e : Int) : Int := (lots.map fun l => if f ≤ l.1 ∧ l.2.1 ≤ e then l.2.2 else 0).sum
structure LotB (l : Lot) : Prop where
  c0 : 0 ≤ l.1
  ch : l.1 < l.2.1
  m1 : 1 ≤ l.2.2
  hb : l.2.1 < 10 ^ 40
  mb : l.2.2 < 10 ^ 40
/-- by a list in the order of the hours (key) the part up to e is a beginning of it -/
theorem prefix_sum {α : Type} {key val : α → Int} : ∀ {qs : List α}, (qs.Pairwise fun a b => key a ≤ key b) → (∀ a ∈ qs, 0 ≤ val a) → ∀ e, ∃ c, c ≤ qs.length ∧ (qs.map fun a => if key a ≤ e then val a else 0).sum = ((qs.take c).map val).sum ∧ (∀ a ∈ qs.take c, key a ≤ e)
  | [], _, _, e => ⟨0, Nat.le_refl _, rfl, by simp⟩
  | a :: qs, hp, h0, e => by
    obtain ⟨h1, h2⟩ := List.pairwise_cons.mp hp
    by_cases hc : key a ≤ e
    · obtain ⟨c, c1, c2, c3⟩ := prefix_sum h2 (fun b hb => h0 b (List.mem_cons_of_mem _ hb)) e
      refine ⟨c + 1, by simpa using c1, ?_, fun b hb => ?_⟩
      · rw [List.map_cons, List.sum_cons, if_pos hc, c2, List.take_succ_cons, List.map_cons, List.sum_cons]
      · rw [List.take_succ_cons] at hb
        rcases List.mem_cons.mp hb with rfl | hb
        · exact hc
        · exact c3 b hb
    · refine ⟨0, Nat.zero_le _, ?_, by simp⟩
      rw [List.take_zero]
      refine sum_zero' fun b hb => ?_
      rcases List.mem_cons.mp hb with rfl | hb
      · exact if_neg hc
      · have := h1 b hb
        exact if_neg (by omega)
/-- a beginning of the list is no more than all up to its last hour -/
theorem prefix_le {α : Type} {key val : α → Int} {qs : List α} (hp : qs.Pairwise fun a b => key a ≤ key b) (h0 : ∀ a ∈ qs, 0 ≤ val a) {i : Nat} {a : α} (ha : qs[i]? = some a) : ((qs.take (i + 1)).map val).sum ≤ (qs.map fun b => if key b ≤ key a then val b else 0).sum := by
  have e : (qs.map fun b => if key b ≤ key a then val b else 0).sum = ((qs.take (i + 1)).map fun b => if key b ≤ key a then val b else 0).sum + ((qs.drop (i + 1)).map fun b => if key b ≤ key a then val b else 0).sum := by
    rw [← List.sum_append, ← List.map_append, List.take_append_drop]
  have h1 : ((qs.take (i + 1)).map fun b => if key b ≤ key a then val b else 0).sum = ((qs.take (i + 1)).map val).sum := sum_congr fun b hb => by
    refine if_pos ?_
    obtain ⟨j, hj, rfl⟩ := List.getElem_of_mem hb
    have hj' : j < i + 1 := by simp at hj; omega
    have hil := (List.getElem?_eq_some_iff.mp ha).1
    have ea := (List.getElem?_eq_some_iff.mp ha).2
    rw [List.getElem_take]
    rcases Nat.lt_or_ge j i with q | q
    · have := List.pairwise_iff_getElem.mp hp j i (by omega) hil q
      rw [ea] at this; exact this
    · have : j = i := by omega
      subst this
      rw [ea]; exact Int.le_refl _
  have h2 := sum_le (l := qs.drop (i + 1)) (f := fun _ => 0) (g := fun b => if key b ≤ key a then val b else 0) fun b hb => by
    have := h0 b (List.mem_of_mem_drop hb)
    split <;> omega
  rw [sum_zero' (f := fun _ => 0) fun _ _ => rfl] at h2
  omega
theorem fm_sum {α β : Type} {p : α → Prop} [DecidablePred p] {g : α → β} {f : β → Int} : ∀ {l : List α}, ((l.filterMap fun a => if p a then some (g a) else none).map f).sum = (l.map fun a => if p a then f (g a) else 0).sum
  | [] => rfl
  | a :: l => by
    have ih := fm_sum (p := p) (f := f) (g := g) (l := l)
    rw [List.map_cons, List.sum_cons, List.filterMap_cons]
    by_cases h : p a
    · simp only [if_pos h, List.map_cons, List.sum_cons, ih]
    · simp only [if_neg h, ih]; omega
def pairsFrom (lots : List Lot) (f : Int) : List (Int × Int) := lots.filterMap fun l => if f ≤ l.1 then some (l.2.1, l.2.2) else none
theorem need_qs {lots : List Lot} {f e : Int} {qs : List (Int × Int)} (hp : qs.Perm (pairsFrom lots f)) : (qs.map fun q => if q.1 ≤ e then q.2 else 0).sum = need lots f e := by
  rw [perm_sum (hp.map _)]
  unfold pairsFrom need
  rw [fm_sum]
  refine sum_congr fun l hl => ?_
  by_cases h1 : f ≤ l.1
  · by_cases h2 : l.2.1 ≤ e
    · simp [h1, h2]
    · simp [h1, h2]
  · simp [h1]
theorem pairs_mem {lots : List Lot} {f : Int} {q : Int × Int} (h : q ∈ pairsFrom lots f) : ∃ l ∈ lots, f ≤ l.1 ∧ q = (l.2.1, l.2.2) := by
  obtain ⟨l, hl, e⟩ := List.mem_filterMap.mp h
  split at e
  · next hc => exact ⟨l, hl, hc, (Option.some.inj e).symm⟩
  · cases e
/-- what tight tells -/
inductive IsTight (lots : List Lot) (w : Int) : Option (Int × Int) → Prop
  | no (h : ∀ l ∈ lots, ∀ e, l.1 < e → need lots l.1 e ≤ w * (e - l.1)) : IsTight lots w none
  | at_ (f e : Int) (hf : ∃ l ∈ lots, l.1 = f) (h1 : f < e) (h2 : w * (e - f) < need lots f e) : IsTight lots w (some (f, e))
theorem all_within' {lots : List Lot} {w f : Int} {qs : List (Int × Int)} (hw : 0 ≤ w) (hok : ∀ l ∈ lots, LotB l) (hp : qs.Perm (pairsFrom lots f)) (hs : qs.Pairwise fun a b => a.1 ≤ b.1) (hall : ∀ i q, qs[i]? = some q → ((qs.take (i + 1)).map (·.2)).sum ≤ w * (q.1 - f)) {e : Int} (he : f < e) : need lots f e ≤ w * (e - f) := by
  have hv : ∀ q ∈ qs, 0 ≤ q.2 := fun q hq => by
    obtain ⟨l, hl, _, rfl⟩ := pairs_mem (hp.mem_iff.mp hq)
    have := (hok l hl).m1
    dsimp only; omega
  obtain ⟨c, hc, h1, h2⟩ := prefix_sum (α := Int × Int) (key := (·.1)) (val := (·.2)) hs hv e
  rw [← need_qs hp, h1]
  cases c with
  | zero =>
    simp
    exact Int.mul_nonneg hw (by omega)
  | succ c =>
    have hlt : c < qs.length := by omega
    have e1 : qs[c]? = some qs[c] := by simp [hlt]
    refine Int.le_trans (hall c _ e1) (Int.mul_le_mul_of_nonneg_left ?_ hw)
    have := h2 qs[c] (List.mem_of_getElem? (i := c) (by rw [List.getElem?_take]; simp [hlt]))
    omega
/-- all beginnings are within the width: so is every stretch from f on -/
theorem all_within {lots : List Lot} {w f : Int} {qs : List (Int × Int)} (hw : 0 ≤ w) (hok : ∀ l ∈ lots, LotB l) (hp : qs.Perm (pairsFrom lots f)) (hs : qs.Pairwise LeP) (hall : ∀ i q, qs[i]? = some q → ((qs.take (i + 1)).map (·.2)).sum ≤ w * (q.1 - f)) {e : Int} (he : f < e) : need lots f e ≤ w * (e - f) := by
  have hv : ∀ q ∈ qs, 0 ≤ q.2 := fun q hq => by
    obtain ⟨l, hl, _, rfl⟩ := pairs_mem (hp.mem_iff.mp hq)
    have := (hok l hl).m1
    dsimp only
    omega
  obtain ⟨c, c1, c2, c3⟩ := prefix_sum (key := (·.1)) (val := (·.2)) (hs.imp fun {a b} h => by unfold LeP at h; omega) hv e
  rw [need_qs hp] at c2
  rw [c2]
  cases c with
  | zero =>
    rw [List.take_zero]
    exact Int.mul_nonneg hw (by omega)
  | succ i =>
    have hi : i < qs.length := by omega
    have h1 := hall i qs[i] (by simp [hi])
    have h2 := c3 qs[i] (List.mem_of_getElem? (i := i) (by rw [List.getElem?_take_of_lt (Nat.lt_succ_self i)]; simp [hi]))
    have h3 : w * (qs[i].1 - f) ≤ w * (e - f) := Int.mul_le_mul_of_nonneg_left (by omega) hw
    omega
theorem one_above {lots : List Lot} {w f : Int} {qs : List (Int × Int)} (hok : ∀ l ∈ lots, LotB l) (hp : qs.Perm (pairsFrom lots f)) (hs : qs.Pairwise LeP) {i : Nat} {q : Int × Int} (hq : qs[i]? = some q) (hf : ∃ l ∈ lots, l.1 = f) (h : w * (q.1 - f) < ((qs.take (i + 1)).map (·.2)).sum) : IsTight lots w (some (f, q.1)) := by
  have hv : ∀ q ∈ qs, 0 ≤ q.2 := fun q hq => by
    obtain ⟨l, hl, _, rfl⟩ := pairs_mem (hp.mem_iff.mp hq)
    have := (hok l hl).m1
    dsimp only
    omega
  have h1 := prefix_le (key := (·.1)) (val := (·.2)) (hs.imp fun {a b} h => by unfold LeP at h; omega) hv hq
  rw [need_qs hp] at h1
  obtain ⟨l, hl, h2, rfl⟩ := pairs_mem (hp.mem_iff.mp (List.mem_of_getElem? hq))
  have := (hok l hl).ch
  exact .at_ f _ hf (by dsimp only; omega) (by dsimp only at h h1 ⊢; omega)
def tiD : Option (Int × Int) → D
  | none => .non
  | some p => pD p
/-- the least width -/
structure Least (lots : List Lot) (L : Int) : Prop where
  one : 1 ≤ L
  up : ∀ l ∈ lots, ∀ e, l.1 < e → need lots l.1 e ≤ L * (e - l.1)
  lo : L = 1 ∨ ∃ l ∈ lots, ∃ e, l.1 < e ∧ (L - 1) * (e - l.1) < need lots l.1 e
theorem ceil_up {n d : Int} (hd : 0 < d) : n ≤ (n + d - 1) / d * d := by
  have h1 := Int.mul_ediv_add_emod (n + d - 1) d
  have h2 := Int.emod_lt_of_pos (n + d - 1) hd
  have h3 := Int.mul_comm d ((n + d - 1) / d)
  omega
theorem ceil_lo {n d : Int} (hd : 0 < d) : ((n + d - 1) / d - 1) * d < n := by
  have h1 := Int.mul_ediv_add_emod (n + d - 1) d
  have h2 := Int.emod_nonneg (n + d - 1) (Int.ne_of_gt hd)
  have h3 := Int.mul_comm d ((n + d - 1) / d)
  rw [Int.sub_mul, Int.one_mul]
  omega
def gF (f : Int) (r : Int × Int × Int) : Option (Int × Int) := if f ≤ r.2.1 then some (r.1, r.2.2) else none
theorem gF_perm {lots : List Lot} {rs : List (Int × Int × Int)} (h : rs.Perm (lots.map fun l => (l.2.1, l.1, l.2.2))) (f : Int) : (rs.filterMap (gF f)).Perm (pairsFrom lots f) := by
  have := h.filterMap (gF f)
  rw [List.filterMap_map] at this
  exact this
theorem gF_sorted {rs : List (Int × Int × Int)} (h : rs.Pairwise LeT) (f : Int) : (rs.filterMap (gF f)).Pairwise (fun a b => a.1 ≤ b.1) := by
  rw [List.pairwise_filterMap]
  refine h.imp fun {a b} hab x hx y hy => ?_
  unfold gF at hx hy
  unfold LeT at hab
  split at hx <;> split at hy <;> cases hx <;> cases hy
  dsimp only
  omega
structure Part (lots : List Lot) (f : Int) (pq : List (Int × Int)) (lo : Int) : Prop where
  one : 1 ≤ lo
  all : ∀ i q, pq[i]? = some q → ((pq.take (i + 1)).map (·.2)).sum ≤ lo * (q.1 - f)
  low : lo = 1 ∨ ∃ l ∈ lots, ∃ e, l.1 < e ∧ (lo - 1) * (e - l.1) < need lots l.1 e
theorem Part.mono {lots : List Lot} {f : Int} {pq : List (Int × Int)} {lo : Int} (h : Part lots f pq lo) (hq : ∀ q ∈ pq, f < q.1) {lo' : Int} (hl : lo ≤ lo') (low : lo' = 1 ∨ ∃ l ∈ lots, ∃ e, l.1 < e ∧ (lo' - 1) * (e - l.1) < need lots l.1 e) : Part lots f pq lo' :=
  ⟨Int.le_trans h.one hl, fun i q e => Int.le_trans (h.all i q e) (Int.mul_le_mul_of_nonneg_right hl (by have := hq q (List.mem_of_getElem? e); omega)), low⟩
theorem Part.step {lots : List Lot} {rs : List (Int × Int × Int)} {f lo : Int} {j : Nat} {r : Int × Int × Int} (hok : ∀ l ∈ lots, LotB l) (hf : ∃ l ∈ lots, l.1 = f) (hperm : rs.Perm (lots.map fun l => (l.2.1, l.1, l.2.2))) (hs : rs.Pairwise LeT) (hr : rs[j]? = some r) (hc : f ≤ r.2.1)
    (P : Part lots f ((rs.take j).filterMap (gF f)) lo) : Part lots f ((rs.take (j + 1)).filterMap (gF f)) (max lo (((((rs.take j).filterMap (gF f)).map (·.2)).sum + r.2.2 + r.1 - f - 1) / (r.1 - f))) := by
  have hmem : ∀ {r : Int × Int × Int}, r ∈ rs → ∃ l ∈ lots, r = (l.2.1, l.1, l.2.2) := fun h => by
    obtain ⟨l, hl, e⟩ := List.mem_map.mp (hperm.mem_iff.mp h)
    exact ⟨l, hl, e.symm⟩
  have hd : f < r.1 := by
    obtain ⟨l, hl, rfl⟩ := hmem (List.mem_of_getElem? hr)
    have := (hok l hl).ch
    dsimp only at hc ⊢
    omega
  have e1 : (rs.take (j + 1)).filterMap (gF f) = (rs.take j).filterMap (gF f) ++ [(r.1, r.2.2)] := by
    rw [List.take_add_one, hr, List.filterMap_append]
    simp [gF, hc]
  have hq : ∀ q ∈ (rs.take j).filterMap (gF f), f < q.1 := fun q hq => by
    obtain ⟨x, hx, e⟩ := List.mem_filterMap.mp hq
    obtain ⟨l, hl, rfl⟩ := hmem (List.mem_of_mem_take hx)
    have := (hok l hl).ch
    unfold gF at e
    split at e <;> cases e
    dsimp only at *
    omega
  generalize hpq : (rs.take j).filterMap (gF f) = pq at *
  have hsum : ((pq ++ [(r.1, r.2.2)]).map (·.2)).sum = (pq.map (·.2)).sum + r.2.2 := by rw [List.map_append, List.sum_append]; simp
  have hup := ceil_up (n := (pq.map (·.2)).sum + r.2.2) (d := r.1 - f) (by omega)
  have hlo := ceil_lo (n := (pq.map (·.2)).sum + r.2.2) (d := r.1 - f) (by omega)
  have ee : (pq.map (·.2)).sum + r.2.2 + r.1 - f - 1 = (pq.map (·.2)).sum + r.2.2 + (r.1 - f) - 1 := by omega
  rw [ee]
  generalize hcc : ((pq.map (·.2)).sum + r.2.2 + (r.1 - f) - 1) / (r.1 - f) = c at *
  have low : max lo c = 1 ∨ ∃ l ∈ lots, ∃ e, l.1 < e ∧ (max lo c - 1) * (e - l.1) < need lots l.1 e := by
    rcases Int.le_total c lo with g | g
    · rw [Int.max_eq_left g]; exact P.low
    · rw [Int.max_eq_right g]
      refine .inr ?_
      obtain ⟨l, hl, rfl⟩ := hf
      refine ⟨l, hl, r.1, hd, Int.lt_of_lt_of_le hlo ?_⟩
      have hp2 := gF_perm hperm l.1
      have key := prefix_le (key := (·.1)) (val := (·.2)) (qs := rs.filterMap (gF l.1)) (gF_sorted hs l.1) (fun q hq => by
        obtain ⟨l', hl', _, rfl⟩ := pairs_mem (hp2.mem_iff.mp hq)
        have := (hok l' hl').m1
        dsimp only; omega) (i := pq.length) (a := (r.1, r.2.2)) (by
        have : rs.filterMap (gF l.1) = pq ++ [(r.1, r.2.2)] ++ (rs.drop (j + 1)).filterMap (gF l.1) := by
          rw [← e1, ← List.filterMap_append, List.take_append_drop]
        rw [this]; simp)
      rw [need_qs hp2] at key
      refine Int.le_trans ?_ key
      have : (rs.filterMap (gF l.1)).take (pq.length + 1) = pq ++ [(r.1, r.2.2)] := by
        have : rs.filterMap (gF l.1) = pq ++ [(r.1, r.2.2)] ++ (rs.drop (j + 1)).filterMap (gF l.1) := by
          rw [← e1, ← List.filterMap_append, List.take_append_drop]
        rw [this, List.take_append_of_le_length (by simp), List.take_of_length_le (by simp)]
      rw [this, hsum]
      exact Int.le_refl _
  have P2 := P.mono hq (Int.le_max_left lo c) low
  rw [e1]
  refine ⟨P2.one, fun i q e => ?_, P2.low⟩
  rcases Nat.lt_or_ge i pq.length with g | g
  · rw [List.getElem?_append_left g] at e
    rw [List.take_append_of_le_length (by omega)]
    exact P2.all i q e
  · have hi : i = pq.length := by
      have := (List.getElem?_eq_some_iff.mp e).1
      simp at this; omega
    subst hi
    have : q = (r.1, r.2.2) := by simpa using e.symm
    subst this
    rw [List.take_of_length_le (by simp), hsum]
    refine Int.le_trans hup (Int.mul_le_mul_of_nonneg_right (Int.le_max_right lo c) (by omega))
theorem Part.skip {lots : List Lot} {rs : List (Int × Int × Int)} {f lo : Int} {j : Nat} {r : Int × Int × Int} (hr : rs[j]? = some r) (hc : ¬ f ≤ r.2.1) : (rs.take (j + 1)).filterMap (gF f) = (rs.take j).filterMap (gF f) := by
  rw [List.take_add_one, hr, List.filterMap_append]
  simp [gF, hc]
theorem Part.done {lots : List Lot} {rs : List (Int × Int × Int)} {f lo : Int} (hok : ∀ l ∈ lots, LotB l) (hperm : rs.Perm (lots.map fun l => (l.2.1, l.1, l.2.2))) (hs : rs.Pairwise LeT) (P : Part lots f (rs.filterMap (gF f)) lo) {e : Int} (he : f < e) : need lots f e ≤ lo * (e - f) := by
  have hp2 := gF_perm hperm f
  exact all_within' (by have := P.one; omega) hok hp2 (gF_sorted hs f) P.all he
theorem LotOk.b {l : Lot} (h : LotOk l) : LotB l := by
  obtain ⟨h1, h2, h3, h4, h5⟩ := h
  exact ⟨h1, h2, h3, by omega, by omega⟩
def pTightE (c : Addr) : DSpE := fun ds M Φ Ξ => ∃ w, ∃ lots : List Lot, ds = [.int w, .lst (lots.map tD)] ∧ lots.length ≤ 60 ∧ 1 ≤ w ∧ w ≤ 1000000000 ∧ (firstBad lots = none → (∀ l ∈ lots, LotB l) ∧ ∀ r, IsTight lots w r → Φ (tiD r) M) ∧ ∀ i : Nat, firstBad lots = some i → Ξ c ["place"] [.int i] M
abbrev s_tight : Stmt := top 8
def n_tight : List Str := ["width", "lots", "first", "need", "end", "many", "lot"]
theorem sc_tight : FnScope n_tight ["width", "lots"] (defScope s_tight) := ⟨rfl, rfl, rfl, by decide +kernel, rfl, by decide +kernel, by decide +kernel⟩
theorem d_tight {P : Program} {w : World} {K : PySem.W.Frag} {mg : Str → Option Value} {base : Heap} {c_NoLot : Addr} {f : Addr} {fd : FuncData} (F : FunG K "tight" "tight" s_tight f fd)
    (E_look_at_1 : DefE P w K mg base 3 "look_at" 1 [] (selN 1) (pLookE c_NoLot)) (G_sorted : mg "sorted" = none) (G_set : mg "set" = none) : FnOk P w K mg base (L2.CX P w) 4 f fd ["width", "lots"] (liftE (pTightE c_NoLot)) := by
  refine fnokG_of (N := n_tight) (k := 3) F sc_tight (fun ds M Φ Ξ h => by obtain ⟨w, lots, rfl, hl, hw, hw2, kg, kx⟩ := h; rfl) fun X kp ds M Φ Ξ h I => ?_
  obtain ⟨w, lots, rfl, hl, hw, hw2, kg, kx⟩ := h
  obtain ⟨rfl, rfl, rfl, rfl, rfl, hN, hs, hf, z, hp, tk, hst, hfr⟩ := I
  have nd := z.nd
  have n0 : Lo X 0 "width" := lo_of hN hs hf (by decide +kernel)
  have n1 : Lo X 1 "lots" := lo_of hN hs hf (by decide +kernel)
  have n2 : Lo X 2 "first" := lo_of hN hs hf (by decide +kernel)
  have n3 : Lo X 3 "need" := lo_of hN hs hf (by decide +kernel)
  have n4 : Lo X 4 "end" := lo_of hN hs hf (by decide +kernel)
  have n5 : Lo X 5 "many" := lo_of hN hs hf (by decide +kernel)
  have l_look_at : Gl X "look_at" := gl_of hs (by decide +kernel)
  have g_sorted : Gn X "sorted" := gn_of hs (by decide +kernel) G_sorted
  have g_set : Gn X "set" := gn_of hs (by decide +kernel) G_set
  clear F hf
  change DSs _ X (_ :: _) [_, _, _, _, _, _, _] _ _
  cases hfb : firstBad lots with
  | some i =>
    repeat' walk_at "t"
    refine ⟨lots, rfl, fun e => ?_, fun j e => ?_⟩
    · rw [hfb] at e; cases e
    · exact ⟨_, _, .refl, kx j e⟩
  | none =>
    obtain ⟨hok, k⟩ := kg hfb
    repeat' ((fail_if_success refine stFor ?_); walk_at "t")
    refine ds_cons (ds_forC [2, 3, 4, 5] z hp (di_list (de_sortedSet z g_sorted g_set (DE.f (df_lc 0 z hN hs [("lot", 6)] (.one 6) (by decide +kernel) (by decide) (fun X' bk => pg_one bk z (bk.lo hN hs (by decide +kernel))) (di_list ?_))))))
    repeat' walk_at "t"
    refine LcH.mapT (lots) (tD) (fun l => l.1) (.int) (Nat.le_trans (show List.length _ ≤ 1000 by first | omega | (simp; done) | (simp; omega)) (by decide)) (fun q acc a ha => ?_) ?_
    · refine ⟨_, rfl, fun X' bk => ?_⟩
      have c6 : Lo X' 6 "lot" := bk.lo hN hs (by decide +kernel)
      have z' := bk.z z
      repeat' walk_at "t"
      exact ⟨rfl, rfl⟩
    refine ⟨lots.map (fun l => l.1), .val _, by rw [List.length_map]; omega, fun fs hfs hmem => ?_⟩
    refine ⟨_, rfl, ?_⟩
    refine ⟨fun i vs M1 => (∃  (o2 o3 o4 o5 : Option D), [o2, o3, o4, o5] = vs ∧ M = M1 ∧ (∀ f ∈ fs.take i, ∀ e, f < e → need lots f e ≤ w * (e - f))), ⟨_, _, _, _, rfl, rfl, (by first | rfl | omega | (simp; done) | (simp; omega))⟩, ?_, ?_⟩
    · rintro i x vs δ M1 hx ⟨o2, o3, o4, o5, rfl, rfl, hdone⟩ hδ
      obtain rfl : δ = [_, _, o2, o3, o4, o5, _] := hδ
      obtain ⟨f, hf, rfl⟩ := map_get hx
      have hfl : ∃ l ∈ lots, l.1 = f := List.mem_map.mp ((hmem f).mp (List.mem_of_getElem? hf))
      repeat' ((fail_if_success refine stFor ?_); walk_at "t")
      refine ds_cons (ds_forC [3, 4, 5] z hp (di_list (de_sortedP g_sorted (da_cons (DE.f (df_lc 0 z hN hs [("lot", 6)] (.one 6) (by decide +kernel) (by decide) (fun X' bk => pg_one bk z (bk.lo hN hs (by decide +kernel))) (di_list ?_)))))))
      repeat' walk_at "t"
      refine LcH.pureT (lots) (tD) (fun a => if f ≤ a.1 then some ((a.2.1, a.2.2)) else none) (pD) (Nat.le_trans (show List.length _ ≤ 1000 by first | omega | (simp; done) | (simp; omega)) (by decide)) (fun q acc a ha => ?_) ?_
      · refine ⟨_, rfl, fun X' bk => ?_⟩
        have c6 : Lo X' 6 "lot" := bk.lo hN hs (by decide +kernel)
        have c2 : Nm X' 2 "first" := bk.nm hN hs (by decide +kernel)
        have z' := bk.z z
        repeat' walk_at "t"
        all_goals first
          | (intro X' bk; (have c6 : Lo X' 6 "lot" := bk.lo hN hs (by decide +kernel)); (have c2 : Nm X' 2 "first" := bk.nm hN hs (by decide +kernel)); (have z' := bk.z z); (repeat' walk_at "t"); exact ⟨by rw [if_pos (by walk_at "pos")]; rfl, rfl⟩)
          | exact ⟨by rw [if_neg (by walk_at "neg")]; rfl, rfl⟩
      repeat' walk_at "t"
      refine cd_sortedP (.val _) fun qs hperm hsort => ?_
      have hperm : qs.Perm (pairsFrom lots f) := hperm
      repeat' walk_at "t"
      refine ⟨fun j vs M1 => (∃  (o4 o5 : Option D), [some (.int ((qs.take j).map (·.2)).sum), o4, o5] = vs ∧ M = M1 ∧ (∀ m q, m < j → qs[m]? = some q → ((qs.take (m + 1)).map (·.2)).sum ≤ w * (q.1 - f))), ⟨_, _, rfl, rfl, (by first | rfl | omega | (simp; done) | (simp; omega))⟩, ?_, ?_⟩
      · rintro j x vs δ M1 hx ⟨o4, o5, rfl, rfl, hall⟩ hδ
        obtain rfl : δ = [_, _, _, _, o4, o5, _] := hδ
        obtain ⟨q, hq, rfl⟩ := map_get hx
        have hsum : ((qs.take (j + 1)).map (·.2)).sum = ((qs.take j).map (·.2)).sum + q.2 := by
          rw [List.take_add_one, hq, List.map_append, List.sum_append]; simp
        repeat' walk_at "t"
        · rename_i hc
          rw [← hsum] at hc
          exact ⟨_, _, .refl, k (some (f, q.1)) (one_above hok hperm hsort hq hfl hc)⟩
        · rename_i hc
          rw [← hsum] at hc
          refine ⟨[_, _, _], rfl, _, _, by rw [hsum], rfl, fun m q' hm hq' => ?_⟩
          rcases Nat.lt_or_ge m j with g | g
          · exact hall m q' g hq'
          · obtain rfl : m = j := by omega
            rw [hq] at hq'
            obtain rfl := Option.some.inj hq'
            omega
      · rintro vs δ M1 ⟨o4, o5, rfl, rfl, hall⟩ hδ
        obtain rfl : δ = [_, _, _, _, o4, o5, _] := hδ
        try simp only [range_len, List.length_map, enum_len] at hall
        try simp only [List.length_map] at hall
        repeat' walk_at "t"
        refine ⟨[_, _, _, _], rfl, _, _, _, _, rfl, rfl, fun f' hf' e he => ?_⟩
        rw [List.take_add_one, hf] at hf'
        rcases List.mem_append.mp hf' with g | g
        · exact hdone f' g e he
        · have : f' = f := by simpa using g
          subst this
          exact all_within (by omega) hok hperm hsort (fun m q hm => hall m q (List.getElem?_eq_some_iff.mp hm).1 hm) he
    · rintro vs δ M1 ⟨o2, o3, o4, o5, rfl, rfl, hdone⟩ hδ
      obtain rfl : δ = [_, _, o2, o3, o4, o5, _] := hδ
      try simp only [range_len, List.length_map, enum_len] at hdone
      rw [List.take_length] at hdone
      repeat' walk_at "t"
      exact ⟨_, _, .refl, k none (.no fun l hl1 e he => hdone l.1 ((hmem l.1).mpr (List.mem_map.mpr ⟨l, hl1, rfl⟩)) e he)⟩
def pWhole : DSp := fun ds M Φ => ∃ i, ds = [.int i] ∧ Φ (.bl true) M
theorem c_whole {i : Int} {M : Mem} {Φ : D → Mem → Prop} (k : Φ (.bl true) M) : pWhole [.int i] M Φ := ⟨i, rfl, k⟩
def pGiven (K : PySem.W.Frag) : DSp := fun ds M Φ => ∃ ns : List Int, ds = [.scr K ns] ∧ ns.length ≤ 63 ∧ ∀ (w : Int) (lots : List Lot) (s g : Addr) (b : Nat), (∀ l ∈ lots, LotOk l) → lots.length ≤ 16 → 1 ≤ w → w ≤ 1000 → Φ (.tup [.int w, .lst (lots.map tD)]) ((s, .st g b) :: M)
theorem sum_add {α : Type} {f g : α → Int} : ∀ {l : List α}, (l.map f).sum + (l.map g).sum = (l.map fun a => f a + g a).sum
  | [] => rfl
  | a :: l => by
    have := sum_add (f := f) (g := g) (l := l)
    simp only [List.map_cons, List.sum_cons]
    omega
def totalOf (lots : List Lot) (h : Int) : Int := (lots.map fun l => if l.2.1 ≤ h then l.2.2 else 0).sum
theorem part_of {lots : List Lot} {h s : Int} : aheadOf lots h (lots.map (·.2.2)) s + need lots s h = totalOf lots h := by
  rw [ahead_lots]
  unfold need totalOf
  rw [sum_add]
  refine sum_congr fun l _ => ?_
  split <;> split <;> split <;> omega
theorem exists_min : ∀ {c : List Lot}, c ≠ [] → ∃ l0 ∈ c, ∀ l ∈ c, l0.1 ≤ l.1
  | [], h => absurd rfl h
  | a :: c, _ => by
    by_cases hc : c = []
    · subst hc
      exact ⟨a, by simp, fun l hl => by have : l = a := by simpa using hl
                                        subst this; exact Int.le_refl _⟩
    · obtain ⟨l0, h1, h2⟩ := exists_min hc
      rcases Int.le_total a.1 l0.1 with g | g
      · refine ⟨a, by simp, fun l hl => ?_⟩
        rcases List.mem_cons.mp hl with rfl | hl
        · exact Int.le_refl _
        · exact Int.le_trans g (h2 l hl)
      · refine ⟨l0, List.mem_cons_of_mem _ h1, fun l hl => ?_⟩
        rcases List.mem_cons.mp hl with rfl | hl
        · exact g
        · exact h2 l hl
theorem no_any {lots : List Lot} {w : Int} (hok : ∀ l ∈ lots, LotOk l) (hw : 0 ≤ w) (h : ∀ l ∈ lots, ∀ e, l.1 < e → need lots l.1 e ≤ w * (e - l.1)) {s e : Int} (hs : s ≤ e) : need lots s e ≤ w * (e - s) := by
  by_cases hc : (lots.filter fun l => decide (s ≤ l.1 ∧ l.2.1 ≤ e)) = []
  · have : need lots s e = 0 := by
      unfold need
      refine sum_zero' fun l hl => ?_
      have := List.filter_eq_nil_iff.mp hc l hl
      rw [if_neg (by simpa using this)]
    rw [this]
    exact Int.mul_nonneg hw (by omega)
  · obtain ⟨l0, h1, h2⟩ := exists_min hc
    obtain ⟨m1, m2⟩ := List.mem_filter.mp h1
    have m2 := of_decide_eq_true m2
    have hlt := (hok l0 m1).2.1
    have e1 : need lots s e = need lots l0.1 e := by
      unfold need
      refine sum_congr fun l hl => ?_
      by_cases hc : s ≤ l.1 ∧ l.2.1 ≤ e
      · have := h2 l (List.mem_filter.mpr ⟨hl, by simpa using hc⟩)
        rw [if_pos hc, if_pos ⟨this, hc.2⟩]
      · rw [if_neg hc, if_neg (by omega)]
    rw [e1]
    exact Int.le_trans (h l0 m1 e (by omega)) (Int.mul_le_mul_of_nonneg_left (by omega) hw)
def hourOf (lots : List Lot) (r : Int × Int × Int) : Int := (lotD lots r.2.1.toNat).2.1
def clsSum (lots : List Lot) (h : Int) (rows : List (Int × Int × Int)) : Int := (rows.map fun r => if hourOf lots r ≤ h then r.2.2 else 0).sum
def restSum (lots : List Lot) (h t : Int) (rows : List (Int × Int × Int)) : Int := (rows.map fun r => if t < r.1 ∧ hourOf lots r ≤ h then r.2.2 else 0).sum
theorem gone_rest {lots : List Lot} {h t : Int} {rows : List (Int × Int × Int)} : goneBy lots h t rows + restSum lots h t rows = clsSum lots h rows := by
  unfold goneBy restSum clsSum
  rw [sum_add]
  refine sum_congr fun r _ => ?_
  unfold hourOf
  split <;> split <;> split <;> omega
theorem Runs.cls {lots : List Lot} {w h S : Int} {n : Nat} {left : List Int} {t : Int} {rows : List (Int × Int × Int)} (H : Runs lots w n left t rows) (hS : ∀ k, k < lots.length → (lotD lots k).1 < S) : clsSum lots h rows = aheadOf lots h left S := by
  induction H with
  | done h1 h2 =>
    unfold aheadOf
    rw [sum_zero' fun k _ => by rw [h2 k]; split <;> rfl]
    rfl
  | @tick n left t R rows hll hnn hex T hR ih =>
    rw [ahead_app hll (T.lt hll) fun p hp => hS p.1 (T.av p hp).1.1] at ih
    have : clsSum lots h (rowsAt t R ++ rows) = sumC lots h R + clsSum lots h rows := by
      unfold clsSum
      rw [List.map_append, List.sum_append]
      congr 1
      unfold rowsAt sumC
      rw [List.map_map]
      refine sum_congr fun p _ => ?_
      by_cases hh : (lotD lots p.1).2.1 ≤ h <;> simp [hourOf, hh]
    rw [this, ih]
    omega
theorem Runs.row {lots : List Lot} {w : Int} {n : Nat} {left : List Int} {t : Int} {rows : List (Int × Int × Int)} (H : Runs lots w n left t rows) : ∀ r ∈ rows, t ≤ r.1 ∧ ∃ k : Nat, r.2.1 = (k : Int) ∧ k < lots.length ∧ (lotD lots k).1 ≤ r.1 ∧ 0 < r.2.2 := by
  induction H with
  | done h1 h2 => intro r hr; cases hr
  | @tick n left t R rows hll hnn hex T hR ih =>
    intro r hr
    rcases List.mem_append.mp hr with q | q
    · unfold rowsAt at q
      obtain ⟨p, hp, rfl⟩ := List.mem_map.mp q
      obtain ⟨a1, a2, a3⟩ := T.av p hp
      exact ⟨Int.le_refl _, p.1, rfl, a1.1, a1.2.1, a2⟩
    · obtain ⟨h1, h2⟩ := ih r q
      exact ⟨by omega, h2⟩
def loadOf (rows : List (Int × Int × Int)) (t : Int) : Int := (rows.map fun r => if r.1 = t then r.2.2 else 0).sum
theorem Runs.load {lots : List Lot} {w : Int} (hw : 0 ≤ w) {n : Nat} {left : List Int} {t : Int} {rows : List (Int × Int × Int)} (H : Runs lots w n left t rows) (t' : Int) : loadOf rows t' ≤ w := by
  induction H with
  | done h1 h2 => exact hw
  | @tick n left t R rows hll hnn hex T hR ih =>
    have e : loadOf (rowsAt t R ++ rows) t' = (if t = t' then sumR R else 0) + loadOf rows t' := by
      unfold loadOf
      rw [List.map_append, List.sum_append]
      congr 1
      unfold rowsAt sumR
      rw [List.map_map]
      by_cases ht : t = t'
      · rw [if_pos ht]
        refine sum_congr fun p _ => ?_
        simp [ht]
      · rw [if_neg ht]
        refine sum_zero' fun p _ => ?_
        simp [ht]
    rw [e]
    by_cases ht : t = t'
    · rw [if_pos ht]
      have : loadOf rows t' = 0 := by
        unfold loadOf
        refine sum_zero' fun r hr => ?_
        have := (hR.row r hr).1
        rw [if_neg (by omega)]
      have := T.sum
      omega
    · rw [if_neg ht]; omega
def lotSum (rows : List (Int × Int × Int)) (k : Int) : Int := (rows.map fun r => if r.2.1 = k then r.2.2 else 0).sum
theorem lf_appR {k : Nat} : ∀ {R : List (Nat × Int)} {left : List Int}, (∀ p ∈ R, p.1 < left.length) → lf (appR left R) k = lf left k - (R.map fun p => if p.1 = k then p.2 else 0).sum
  | [], left, _ => by simp [appR]
  | p :: R, left, h => by
    have h1 := lf_appR (k := k) (R := R) (left := app1 left p) fun q hq => by rw [len_app1]; exact h q (List.mem_cons_of_mem _ hq)
    show lf (appR (app1 left p) R) k = _
    rw [h1, lf_app1 (h p List.mem_cons_self), List.map_cons, List.sum_cons]
    by_cases hk : p.1 = k
    · subst hk; simp; omega
    · simp [hk, Ne.symm hk]
theorem Runs.lot {lots : List Lot} {w : Int} {n : Nat} {left : List Int} {t : Int} {rows : List (Int × Int × Int)} (H : Runs lots w n left t rows) (k : Nat) : lotSum rows k = lf left k := by
  induction H with
  | done h1 h2 => rw [h2 k]; rfl
  | @tick n left t R rows hll hnn hex T hR ih =>
    rw [lf_appR (T.lt hll)] at ih
    have : lotSum (rowsAt t R ++ rows) k = (R.map fun p => if p.1 = k then p.2 else 0).sum + lotSum rows k := by
      unfold lotSum
      rw [List.map_append, List.sum_append]
      congr 1
      unfold rowsAt
      rw [List.map_map]
      refine sum_congr fun p _ => ?_
      by_cases hk : p.1 = k
      · subst hk; simp
      · have : ((p.1 : Int) ≠ (k : Int)) := by omega
        simp [hk, this]
    rw [this, ih]
    omega
theorem Runs.total_h {lots : List Lot} {w h : Int} {n : Nat} {rows : List (Int × Int × Int)} (H : Runs lots w n (lots.map (·.2.2)) 0 rows) (hok : ∀ l ∈ lots, LotOk l) : clsSum lots h rows = totalOf lots h := by
  have hS : ∀ l ∈ lots, l.1 < 10000000 := fun l hl => by obtain ⟨b1, b2, b3, b4, b5⟩ := hok l hl; omega
  rw [H.cls (S := 10000000) fun k hk => hS _ (lotD_mem hk), ahead_lots]
  unfold totalOf
  refine sum_congr fun l hl => ?_
  have := hS l hl
  by_cases hh : l.2.1 ≤ h
  · rw [if_pos ⟨this, hh⟩, if_pos hh]
  · rw [if_neg (by omega), if_neg hh]
theorem rest_nn {lots : List Lot} {h t : Int} {rows : List (Int × Int × Int)} (hp : ∀ r ∈ rows, 0 < r.2.2) {r : Int × Int × Int} (hr : r ∈ rows) (h1 : t < r.1) (h2 : hourOf lots r ≤ h) : 0 < restSum lots h t rows := by
  unfold restSum
  induction rows with
  | nil => cases hr
  | cons a rows ih =>
    rw [List.map_cons, List.sum_cons]
    have hnn : 0 ≤ (rows.map fun r => if t < r.1 ∧ hourOf lots r ≤ h then r.2.2 else 0).sum := by
      have := sum_le (l := rows) (f := fun _ => 0) (g := fun r => if t < r.1 ∧ hourOf lots r ≤ h then r.2.2 else 0) fun r hr => by
        have := hp r (List.mem_cons_of_mem _ hr)
        split <;> omega
      rw [sum_zero' (f := fun _ => 0) fun _ _ => rfl] at this
      exact this
    have ha := hp a List.mem_cons_self
    rcases List.mem_cons.mp hr with rfl | hr
    · rw [if_pos ⟨h1, h2⟩]; omega
    · have := ih (fun r hr => hp r (List.mem_cons_of_mem _ hr)) hr
      split <;> omega
/-- nothing is late where no stretch is tight -/
theorem in_time {lots : List Lot} {w : Int} {n : Nat} {rows : List (Int × Int × Int)} (H : Runs lots w n (lots.map (·.2.2)) 0 rows) (hok : ∀ l ∈ lots, LotOk l) (hw : 1 ≤ w) (hno : ∀ l ∈ lots, ∀ e, l.1 < e → need lots l.1 e ≤ w * (e - l.1)) :
    ∀ r ∈ rows, r.1 < hourOf lots r := by
  intro r hr
  rcases Int.lt_or_le r.1 (hourOf lots r) with q | q
  · exact q
  · exfalso
    obtain ⟨_, k, e1, hk, hc, hm⟩ := H.row r hr
    have hl := hok _ (lotD_mem hk)
    have eh : hourOf lots r = (lotD lots k).2.1 := by unfold hourOf; rw [e1]; rfl
    have h1 : 1 ≤ hourOf lots r := by rw [eh]; have := hl.1; have := hl.2.1; omega
    generalize hD : hourOf lots r = Dh at *
    obtain ⟨_, _, b3⟩ := H.by_ (h := Dh) (t := Dh - 1) (by omega) (by omega)
    have hp : ∀ r ∈ rows, 0 < r.2.2 := fun r hr => by obtain ⟨_, _, _, _, _, h⟩ := H.row r hr; exact h
    have hrest := rest_nn (lots := lots) (h := Dh) (t := Dh - 1) hp hr (by omega) (by omega)
    have htot := H.total_h (h := Dh) hok
    have hg := gone_rest (lots := lots) (h := Dh) (t := Dh - 1) (rows := rows)
    rcases b3 with e | ⟨s, s1, s2, e⟩
    · have := no_any hok (by omega) hno (s := 0) (e := Dh) (by omega)
      have hp0 := part_of (lots := lots) (h := Dh) (s := 0)
      have ha : aheadOf lots Dh (lots.map (·.2.2)) 0 = 0 := by
        rw [ahead_lots]
        refine sum_zero' fun l hl => ?_
        have := (hok l hl).1
        rw [if_neg (by omega)]
      have e2 : w * (Dh - 1 + 1 - 0) = w * (Dh - 0) := by rw [show Dh - 1 + 1 - 0 = Dh - 0 by omega]
      omega
    · have := no_any hok (by omega) hno (s := s) (e := Dh) (by omega)
      have hp0 := part_of (lots := lots) (h := Dh) (s := s)
      have e2 : w * (Dh - 1 + 1 - s) = w * (Dh - s) := by rw [show Dh - 1 + 1 - s = Dh - s by omega]
      omega
/-- something is late where a stretch is -/
theorem some_late {lots : List Lot} {w f e : Int} {n : Nat} {rows : List (Int × Int × Int)} (H : Runs lots w n (lots.map (·.2.2)) 0 rows) (hok : ∀ l ∈ lots, LotOk l) (hw : 1 ≤ w) (hf : ∃ l ∈ lots, l.1 = f) (h1 : f < e) (h2 : w * (e - f) < need lots f e) :
    ∃ r ∈ rows, hourOf lots r ≤ r.1 := by
  refine Classical.byContradiction fun hno => ?_
  have hno : ∀ r ∈ rows, r.1 < hourOf lots r := fun r hr => Int.lt_of_not_ge fun hh => hno ⟨r, hr, hh⟩
  obtain ⟨l0, hl0, rfl⟩ := hf
  have hf0 := (hok l0 hl0).1
  obtain ⟨b1, b2, _⟩ := H.by_ (h := e) (t := e - 1) (by omega) (by omega)
  have htot := H.total_h (h := e) hok
  have hg := gone_rest (lots := lots) (h := e) (t := e - 1) (rows := rows)
  have hr0 : restSum lots e (e - 1) rows = 0 := by
    unfold restSum
    refine sum_zero' fun r hr => ?_
    have := hno r hr
    rw [if_neg (by omega)]
  have hp0 := part_of (lots := lots) (h := e) (s := l0.1)
  rcases Int.lt_or_le 0 l0.1 with q | q
  · have := b2 l0.1 (by omega) (by omega)
    have e2 : w * (e - 1 + 1 - l0.1) = w * (e - l0.1) := by rw [show e - 1 + 1 - l0.1 = e - l0.1 by omega]
    omega
  · have hz : l0.1 = 0 := by omega
    rw [hz] at h2 hp0
    have ha : aheadOf lots e (lots.map (·.2.2)) 0 = 0 := by
      rw [ahead_lots]
      refine sum_zero' fun l hl => ?_
      have := (hok l hl).1
      rw [if_neg (by omega)]
    have e2 : w * (e - 1 + 1 - 0) = w * (e - 0) := by rw [show e - 1 + 1 - 0 = e - 0 by omega]
    omega
def lateOf (lots : List Lot) (rows : List (Int × Int × Int)) : Bool := rows.any fun r => decide (hourOf lots r ≤ r.1)
theorem late_no {lots : List Lot} {rows : List (Int × Int × Int)} (h : ∀ r ∈ rows, r.1 < hourOf lots r) : lateOf lots rows = false := by
  unfold lateOf
  rw [List.any_eq_false]
  intro r hr
  have := h r hr
  simp; omega
theorem late_yes {lots : List Lot} {rows : List (Int × Int × Int)} (h : ∃ r ∈ rows, hourOf lots r ≤ r.1) : lateOf lots rows = true := by
  obtain ⟨r, hr, h⟩ := h
  exact List.any_eq_true.mpr ⟨r, hr, by simpa using h⟩
def pWalked : DSp := fun ds M Φ => ∃ w, ∃ lots : List Lot, ∃ n rows, ds = [.int w, .lst (lots.map tD), .lst (rows.map tD)] ∧ (∀ l ∈ lots, LotOk l) ∧ lots.length ≤ 60 ∧ 1 ≤ w ∧ Runs lots w n (lots.map (·.2.2)) 0 rows ∧ rows.length ≤ 60000 ∧ Φ (.tup [.bl true, .bl (lateOf lots rows)]) M
theorem load_snoc {rows : List (Int × Int × Int)} {i : Nat} {r : Int × Int × Int} (h : rows[i]? = some r) (t : Int) : loadOf (rows.take (i + 1)) t = loadOf (rows.take i) t + if r.1 = t then r.2.2 else 0 := by
  unfold loadOf
  rw [List.take_add_one, h, List.map_append, List.sum_append]; simp
theorem lot_snoc {rows : List (Int × Int × Int)} {i : Nat} {r : Int × Int × Int} (h : rows[i]? = some r) (t : Int) : lotSum (rows.take (i + 1)) t = lotSum (rows.take i) t + if r.2.1 = t then r.2.2 else 0 := by
  unfold lotSum
  rw [List.take_add_one, h, List.map_append, List.sum_append]; simp
theorem late_snoc {lots : List Lot} {rows : List (Int × Int × Int)} {i : Nat} {r : Int × Int × Int} (h : rows[i]? = some r) : lateOf lots (rows.take (i + 1)) = (lateOf lots (rows.take i) || decide (hourOf lots r ≤ r.1)) := by
  unfold lateOf
  rw [List.take_add_one, h, List.any_append]; simp
theorem load_take {rows : List (Int × Int × Int)} (hp : ∀ r ∈ rows, 0 < r.2.2) (i : Nat) (t : Int) : loadOf (rows.take i) t ≤ loadOf rows t := by
  have e : loadOf rows t = loadOf (rows.take i) t + loadOf (rows.drop i) t := by
    unfold loadOf
    rw [← List.sum_append, ← List.map_append, List.take_append_drop]
  have : 0 ≤ loadOf (rows.drop i) t := by
    unfold loadOf
    have := sum_le (l := rows.drop i) (f := fun _ => 0) (g := fun r => if r.1 = t then r.2.2 else 0) fun r hr => by
      have := hp r (List.mem_of_mem_drop hr)
      split <;> omega
    rw [sum_zero' (f := fun _ => 0) fun _ _ => rfl] at this
    exact this
  omega
theorem left_zero {lots : List Lot} {left : List Int} (hl : left.length = lots.length) (h : ∀ k, k < lots.length → lf left k = 0) : left = lots.map fun _ => (0 : Int) := by
  apply List.ext_getElem
  · simp [hl]
  · intro i h1 h2
    have := h i (by omega)
    unfold lf at this
    rw [List.getD, List.getElem?_eq_getElem h1] at this
    simpa using this
local macro_rules | `(tactic| walk_at "cl") => `(tactic| first | refine c_take (by omega) (by omega) (by omega) (fun _ _ _ => ?_) | refine c_begun (by omega) (fun _ _ => ?_) | refine c_whole ?_)
abbrev s_law_whole : Stmt := top 10
def n_law_whole : List Str := ["_law_found"]
theorem sc_law_whole : FnScope n_law_whole ["_law_found"] (defScope s_law_whole) := ⟨rfl, rfl, rfl, by decide +kernel, rfl, by decide +kernel, by decide +kernel⟩
theorem d_law_whole {P : Program} {w : World} {K : PySem.W.Frag} {mg : Str → Option Value} {base : Heap} {f : Addr} {fd : FuncData} (F : Fun K "_law_whole" "_law_whole" s_law_whole f fd)
    (G_isinstance : mg "isinstance" = none) (G_int : mg "int" = none) (G_bool : mg "bool" = none) : FnOk P w K mg base CX0 1 f fd ["_law_found"] (lift pWhole) := by
  refine fnok_of (N := n_law_whole) (k := 0) F sc_law_whole (fun ds M Φ h => by obtain ⟨i, rfl, k⟩ := h; rfl) fun X B I ds M Φ h => ?_
  obtain ⟨i, rfl, k⟩ := h
  obtain ⟨rfl, rfl, rfl, rfl, rfl, hN, hs, hf, z, xe⟩ := I
  have hp := passes_of xe
  have n0 : Lo X 0 "_law_found" := lo_of hN hs hf (by decide +kernel)
  have g_isinstance : Gn X "isinstance" := gn_of hs (by decide +kernel) G_isinstance
  have g_int : Gn X "int" := gn_of hs (by decide +kernel) G_int
  have g_bool : Gn X "bool" := gn_of hs (by decide +kernel) G_bool
  clear F hf
  change DSs _ X (_ :: _) [_] _ _
  repeat' walk_at "t"
  exact ⟨_, _, .refl, k⟩
abbrev s_law_given : Stmt := top 14
def n_law_given : List Str := ["_law_script", "_law_state", "_law_far", "_law_width", "_law_lots", "_law_k", "_law_come", "_law_hour"]
theorem sc_law_given : FnScope n_law_given ["_law_script"] (defScope s_law_given) := ⟨rfl, rfl, rfl, by decide +kernel, rfl, by decide +kernel, by decide +kernel⟩
theorem d_law_given {P : Program} {w : World} {K : PySem.W.Frag} {mg : Str → Option Value} {base : Heap} {f : Addr} {fd : FuncData} (F : Fun K "_law_given" "_law_given" s_law_given f fd)
    (D_law_begun : Def P w K mg base 1 "_law_begun" ["_law_script"] (pBegun K)) (D_law_take : Def P w K mg base 1 "_law_take" ["_law_state", "_law_many"] pTake) (G_range : mg "range" = none) : FnOk P w K mg base CX0 2 f fd ["_law_script"] (lift (pGiven K)) := by
  refine fnok_of (N := n_law_given) (k := 1) F sc_law_given (fun ds M Φ h => by obtain ⟨ns, rfl, hl, k⟩ := h; rfl) fun X B I ds M Φ h => ?_
  obtain ⟨ns, rfl, hl, k⟩ := h
  obtain ⟨rfl, rfl, rfl, rfl, rfl, hN, hs, hf, z, xe⟩ := I
  have hp := passes_of xe
  have n0 : Lo X 0 "_law_script" := lo_of hN hs hf (by decide +kernel)
  have n1 : Lo X 1 "_law_state" := lo_of hN hs hf (by decide +kernel)
  have n2 : Lo X 2 "_law_far" := lo_of hN hs hf (by decide +kernel)
  have n3 : Lo X 3 "_law_width" := lo_of hN hs hf (by decide +kernel)
  have n4 : Lo X 4 "_law_lots" := lo_of hN hs hf (by decide +kernel)
  have n5 : Lo X 5 "_law_k" := lo_of hN hs hf (by decide +kernel)
  have n6 : Lo X 6 "_law_come" := lo_of hN hs hf (by decide +kernel)
  have n7 : Lo X 7 "_law_hour" := lo_of hN hs hf (by decide +kernel)
  have l_law_begun : Gl X "_law_begun" := gl_of hs (by decide +kernel)
  have l_law_take : Gl X "_law_take" := gl_of hs (by decide +kernel)
  have g_range : Gn X "range" := gn_of hs (by decide +kernel) G_range
  clear F hf
  change DSs _ X (_ :: _) [_, _, _, _, _, _, _, _] _ _
  repeat' walk_at "t"
  rename_i s g r0 hr0 hr1
  refine od_ixM [0, 1, 1, 2] hr0 (by simp; omega) fun far hfar => ?_
  have hfar : far = 0 ∨ far = 1 ∨ far = 2 := by simp at hfar; omega
  repeat' walk_at "t"
  refine od_ixM [3, 6, 40] (by omega) (by simp; omega) fun mw hmw => ?_
  have hmw : mw = 3 ∨ mw = 6 ∨ mw = 40 := by simpa using hmw
  repeat' ((fail_if_success refine (stSet "_law_lots") ?_); walk_at "t")
  first | refine ds_cons (ds_own 1 z n4 (df_lst (da_nil ⟨by decide, fun l => ?_⟩))) | refine ds_own 1 z n4 (df_lst (da_nil ⟨by decide, fun l => ?_⟩))
  walk_at "t"
  rename_i wd hwd0 hwd1
  repeat' ((fail_if_success refine stFor ?_); walk_at "t")
  first | refine ds_cons (ds_forC [5, 6, 7] z (by assumption) (di_range1 (by assumption) ?_)) | refine ds_forC [5, 6, 7] z (by assumption) (di_range1 (by assumption) ?_)
  repeat' walk_at "t"
  refine od_ixM [13, 17, 5] (by omega) (by simp; omega) fun mn hmn => ?_
  have hmn : mn = 13 ∨ mn = 17 ∨ mn = 5 := by simpa using hmn
  repeat' walk_at "t"
  rename_i many hm0 hm1
  refine ⟨by omega, by omega, ?_⟩
  refine ⟨fun i vs M1 => (∃ (b : Nat) (lots : List Lot) (o5 o6 o7 : Option D), [o5, o6, o7] = vs ∧ (s, .st g b) :: (l, .lst (lots.map tD)) :: M = M1 ∧ (999999999900 ≤ b + 3 * i) ∧ (∀ l ∈ lots, LotOk l) ∧ (lots.length = i)), ⟨_, [], _, _, _, rfl, rfl, (by first | rfl | omega | (simp; done) | (simp; omega)), (by first | rfl | omega | (simp; done) | (simp; omega)), (by first | rfl | omega | (simp; done) | (simp; omega))⟩, ?_, ?_⟩
  · rintro i x vs δ M1 hx ⟨b, lots, o5, o6, o7, rfl, rfl, hb, hok, hll⟩ hδ
    obtain rfl : δ = [_, _, _, _, _, o5, o6, o7] := hδ
    obtain ⟨hi, rfl⟩ := range_get hx
    repeat' walk_at "t"
    refine od_ixM [4, 21, 240] (by omega) (by simp; omega) fun m1 hm1 => ?_
    have hm1 : m1 = 4 ∨ m1 = 21 ∨ m1 = 240 := by simpa using hm1
    repeat' walk_at "t"
    refine od_ixM [3, 9, 60] (by omega) (by simp; omega) fun m2 hm2 => ?_
    have hm2 : m2 = 3 ∨ m2 = 9 ∨ m2 = 60 := by simpa using hm2
    repeat' walk_at "t"
    refine od_ixM [3, 6, 150] (by omega) (by simp; omega) fun m3 hm3 => ?_
    have hm3 : m3 = 3 ∨ m3 = 6 ∨ m3 = 150 := by simpa using hm3
    repeat' walk_at "t"
    rename_i come hc0 hc1 _ hr hh0 hh1 _ mny hn0 hn1
    refine ⟨[_, _, _], rfl, _, lots ++ [(come, come + 1 + hr, 1 + mny)], _, _, _, rfl, (by rw [List.map_append]; rfl), (by omega), ?_, (by simp [hll])⟩
    intro p hp'
    rcases List.mem_append.mp hp' with q | q
    · exact hok p q
    · have : p = (come, come + 1 + hr, 1 + mny) := by simpa using q
      subst this
      unfold LotOk
      dsimp only
      omega
  · rintro vs δ M1 ⟨b, lots, o5, o6, o7, rfl, rfl, hb, hok, hll⟩ hδ
    obtain rfl : δ = [_, _, _, _, _, o5, o6, o7] := hδ
    try simp only [range_len, List.length_map, enum_len] at hb hok hll
    refine ws_frz 4 1 rfl rfl ?_
    change DSs B X (_ :: _) [some (.scr X.K ns), some (.raw (.ref s)), some (.int far), some (.int (1 + wd)), some (.lst (lots.map tD)), _, _, _] ((s, .st g b) :: M) _
    repeat' walk_at "t"
    exact ⟨_, _, .refl, k _ lots s g b hok (by omega) (by omega) (by omega)⟩
abbrev s_law_walked : Stmt := top 15
def n_law_walked : List Str := ["_law_width", "_law_lots", "_law_rows", "_law_left", "_law_loads", "_law_late", "_law_row", "_law_tick", "_law_k", "_law_many", "_law_lot", "_law_part"]
theorem sc_law_walked : FnScope n_law_walked ["_law_width", "_law_lots", "_law_rows"] (defScope s_law_walked) := ⟨rfl, rfl, rfl, by decide +kernel, rfl, by decide +kernel, by decide +kernel⟩
theorem d_law_walked {P : Program} {w : World} {K : PySem.W.Frag} {mg : Str → Option Value} {base : Heap} {f : Addr} {fd : FuncData} (F : Fun K "_law_walked" "_law_walked" s_law_walked f fd)
    (G_isinstance : mg "isinstance" = none) (G_tuple : mg "tuple" = none) (G_len : mg "len" = none) (G_all : mg "all" = none) (D_law_whole : Def P w K mg base 1 "_law_whole" ["_law_found"] pWhole) : FnOk P w K mg base CX0 2 f fd ["_law_width", "_law_lots", "_law_rows"] (lift pWalked) := by
  refine fnok_of (N := n_law_walked) (k := 1) F sc_law_walked (fun ds M Φ h => by obtain ⟨w, lots, n, rows, rfl, hok, hl, hw, hrun, hrl, k⟩ := h; rfl) fun X B I ds M Φ h => ?_
  obtain ⟨w, lots, n, rows, rfl, hok, hl, hw, hrun, hrl, k⟩ := h
  obtain ⟨rfl, rfl, rfl, rfl, rfl, hN, hs, hf, z, xe⟩ := I
  have hp := passes_of xe
  have n0 : Lo X 0 "_law_width" := lo_of hN hs hf (by decide +kernel)
  have n1 : Lo X 1 "_law_lots" := lo_of hN hs hf (by decide +kernel)
  have n2 : Lo X 2 "_law_rows" := lo_of hN hs hf (by decide +kernel)
  have n3 : Lo X 3 "_law_left" := lo_of hN hs hf (by decide +kernel)
  have n4 : Lo X 4 "_law_loads" := lo_of hN hs hf (by decide +kernel)
  have n5 : Lo X 5 "_law_late" := lo_of hN hs hf (by decide +kernel)
  have n6 : Lo X 6 "_law_row" := lo_of hN hs hf (by decide +kernel)
  have n7 : Lo X 7 "_law_tick" := lo_of hN hs hf (by decide +kernel)
  have n8 : Lo X 8 "_law_k" := lo_of hN hs hf (by decide +kernel)
  have n9 : Lo X 9 "_law_many" := lo_of hN hs hf (by decide +kernel)
  have g_isinstance : Gn X "isinstance" := gn_of hs (by decide +kernel) G_isinstance
  have g_tuple : Gn X "tuple" := gn_of hs (by decide +kernel) G_tuple
  have g_len : Gn X "len" := gn_of hs (by decide +kernel) G_len
  have g_all : Gn X "all" := gn_of hs (by decide +kernel) G_all
  clear F hf
  change DSs _ X (_ :: _) [_, _, _, _, _, _, _, _, _, _, _, _] _ _
  have hpos : ∀ r ∈ rows, 0 < r.2.2 := fun r hr => by obtain ⟨_, _, _, _, _, h⟩ := hrun.row r hr; exact h
  repeat' ((fail_if_success refine (stSet "_law_left") ?_); walk_at "t")
  first | refine ds_cons (ds_lcOwn 0 z n3 hN hs [("_law_lot", 10)] (.one 10) (by decide +kernel) (by decide) (fun X' bk => pg_one bk z (bk.lo hN hs (by decide +kernel))) (by decide +kernel) (by decide +kernel) (by decide +kernel) (by decide +kernel) (di_list ?_)) | refine ds_lcOwn 0 z n3 hN hs [("_law_lot", 10)] (.one 10) (by decide +kernel) (by decide) (fun X' bk => pg_one bk z (bk.lo hN hs (by decide +kernel))) (by decide +kernel) (by decide +kernel) (by decide +kernel) (by decide +kernel) (di_list ?_)
  repeat' walk_at "t"
  refine LcH.mapT (lots) (tD) (fun l => l.2.2) (.int) (Nat.le_trans (show List.length _ ≤ 1000 by first | omega | (simp; done) | (simp; omega)) (by decide)) (fun q acc a ha => ?_) ?_
  · refine ⟨_, rfl, fun X' bk => ?_⟩
    have c10 : Lo X' 10 "_law_lot" := bk.lo hN hs (by decide +kernel)
    have z' := bk.z z
    repeat' walk_at "t"
    exact ⟨rfl, rfl⟩
  intro p
  repeat' ((fail_if_success refine (stSet "_law_loads") ?_); walk_at "t")
  refine ds_cons (ds_set z n4 (de_dnew 1 fun pd => ?_))
  repeat' ((fail_if_success refine stFor ?_); walk_at "t")
  first | refine ds_cons (ds_forC [5, 6, 7, 8, 9] z (by assumption) (di_list ?_)) | refine ds_forC [5, 6, 7, 8, 9] z (by assumption) (di_list ?_)
  repeat' walk_at "t"
  refine ⟨fun i vs M1 => (∃ (left : List Int) (kvs : List (Key × D)) (o6 o7 o8 o9 : Option D), [some (.bl (lateOf lots (rows.take i))), o6, o7, o8, o9] = vs ∧ (p, .lst (left.map .int)) :: (pd, .dct kvs) :: M = M1 ∧ (left.length = lots.length) ∧ (∀ k, k < lots.length → lf left k = (lotD lots k).2.2 - lotSum (rows.take i) k) ∧ (∀ t, (lookD kvs (.inl t)).getD (.int 0) = .int (loadOf (rows.take i) t)) ∧ (kvs.length ≤ i)), ⟨lots.map (·.2.2), [], _, _, _, _, rfl, rfl, (by simp), (fun k hk => by rw [lf_map hk]; simp [lotSum]), (fun t => rfl), (Nat.le_refl _)⟩, ?_, ?_⟩
  · rintro i x vs δ M1 hx ⟨left, kvs, o6, o7, o8, o9, rfl, rfl, hll, hlf, hld, hkl⟩ hδ
    obtain rfl : δ = [_, _, _, _, _, _, o6, o7, o8, o9, _, _] := hδ
    obtain ⟨r, hr, rfl⟩ := map_get hx
    have hi : i < rows.length := (List.getElem?_eq_some_iff.mp hr).1
    obtain ⟨ht0, kk, ek, hk, hc, hm⟩ := hrun.row r (List.mem_of_getElem? hr)
    have hlot : ∀ {y : Lot}, lots[r.2.1.toNat]? = some y → y = lotD lots kk := fun h => by
      rw [ek] at h
      unfold lotD
      rw [List.getD, show lots[kk]? = some _ from h]
      rfl
    repeat' walk_at "t"
    refine DE.f (df_lc 0 z hN hs [("_law_part", 11)] (.one 11) (by decide +kernel) (by decide) (fun X' bk => pg_one bk z (bk.lo hN hs (by decide +kernel))) (di_tup ?_))
    repeat' walk_at "t"
    refine LcH.mapT ([r.1, r.2.1, r.2.2]) (.int) (fun _ => true) (.bl) (Nat.le_trans (show List.length _ ≤ 1000 by first | omega | (simp; done) | (simp; omega)) (by decide)) (fun q acc a ha => ?_) ?_
    · refine ⟨_, rfl, fun X' bk => ?_⟩
      have c11 : Lo X' 11 "_law_part" := bk.lo hN hs (by decide +kernel)
      have z' := bk.z z
      have D_law_whole' := bk.df D_law_whole
      have l_law_whole' : Gl X' "_law_whole" := bk.gl hs (by decide +kernel)
      repeat' walk_at "t"
      exact ⟨rfl, rfl⟩
    repeat' walk_at "t"
    refine cd_all (.val _) ?_
    repeat' walk_at "t"
    · rename_i y hy hlt
      have := hlot hy
      subst this
      omega
    rename_i y hy hlt v hv
    have hv2 : lf left kk = v := by
      rw [ek] at hv
      unfold lf
      rw [List.getD, show left[kk]? = some _ from hv]
      rfl
    rw [hld]
    repeat' walk_at "t"
    refine od_dI 1 rfl (by rw [look_put, if_pos rfl]) ?_
    have hload := hrun.load (by omega) r.1
    have hlt2 := load_take hpos (i + 1) r.1
    rw [load_snoc hr, if_pos rfl] at hlt2
    have ek2 : r.2.1.toNat = kk := by omega
    have hkl2 : kk < left.length := by omega
    have c1 : (left.set r.2.1.toNat (v - r.2.2)).length = lots.length := by simp [hll]
    have c2 : ∀ k, k < lots.length → lf (left.set r.2.1.toNat (v - r.2.2)) k = (lotD lots k).2.2 - lotSum (rows.take (i + 1)) k := fun k hk => by
      rw [lot_snoc hr, ek2, lf_set hkl2, ek]
      have := hlf k hk
      by_cases e : k = kk
      · subst e; simp; omega
      · have : ((kk : Int) = (k : Int)) = False := eq_false (by omega)
        simp [e, this]; omega
    have c3 : ∀ t, (lookD (putD kvs (.inl r.1) (.int (loadOf (rows.take i) r.1 + r.2.2))) (.inl t)).getD (.int 0) = .int (loadOf (rows.take (i + 1)) t) := fun t => by
      rw [look_put, load_snoc hr]
      by_cases e : r.1 = t
      · subst e; simp
      · have : ((Sum.inl r.1 : Key) = .inl t) = False := eq_false (by intro h; cases h; exact e rfl)
        simp only [this, if_false, if_neg e]
        rw [hld t]; simp
    have c4 : (putD kvs (.inl r.1) (.int (loadOf (rows.take i) r.1 + r.2.2))).length ≤ i + 1 := Nat.le_trans put_len (by omega)
    have hh : hourOf lots r = (lotD lots kk).2.1 := by unfold hourOf; rw [ek2]
    repeat' walk_at "t"
    · rename_i hlate
      exact ⟨[_, _, _, _, _], rfl, _, _, _, _, _, _, (by rw [late_snoc hr, hlate]; rfl), rfl, (c1), (c2), (c3), (c4)⟩
    · rename_i hlate y2 hy2
      have := hlot hy2
      subst this
      exact ⟨[_, _, _, _, _], rfl, _, _, _, _, _, _, (by rw [late_snoc hr, hlate, hh]; rfl), rfl, (c1), (c2), (c3), (c4)⟩
  · rintro vs δ M1 ⟨left, kvs, o6, o7, o8, o9, rfl, rfl, hll, hlf, hld, hkl⟩ hδ
    obtain rfl : δ = [_, _, _, _, _, _, o6, o7, o8, o9, _, _] := hδ
    try simp only [range_len, List.length_map, enum_len] at hll hlf hld hkl
    rw [List.take_length] at hlf
    rw [List.length_map, List.take_length]
    repeat' walk_at "t"
    refine DE.f (df_lc 0 z hN hs [("_law_lot", 10)] (.one 10) (by decide +kernel) (by decide) (fun X' bk => pg_one bk z (bk.lo hN hs (by decide +kernel))) (di_list ?_))
    repeat' walk_at "t"
    refine LcH.mapT (lots) (tD) (fun _ => (0 : Int)) (.int) (Nat.le_trans (show List.length _ ≤ 1000 by first | omega | (simp; done) | (simp; omega)) (by decide)) (fun q acc a ha => ?_) ?_
    · refine ⟨_, rfl, fun X' bk => ?_⟩
      have c10 : Lo X' 10 "_law_lot" := bk.lo hN hs (by decide +kernel)
      have z' := bk.z z
      repeat' walk_at "t"
      exact ⟨rfl, rfl⟩
    refine od_eqIs (.cell 0 rfl) (.val _) ?_
    rw [decide_eq_true (left_zero hll fun k hk => by
      rw [hlf k hk, hrun.lot k, lf_map hk]; omega)]
    repeat' walk_at "t"
    exact ⟨_, _, .sub (.cons _ (.cons _ (.refl _))), k⟩
abbrev s_law : Stmt := top 16
def n_law : List Str := ["_law_script", "_law_width", "_law_lots", "_law_stretch", "_law_rows", "_law_good", "_law_late", "_law_first", "_law_end", "_law_need", "_law_part", "_law_come", "_law_hour", "_law_many"]
theorem sc_law : FnScope n_law ["_law_script"] (defScope s_law) := ⟨rfl, rfl, rfl, by decide +kernel, rfl, by decide +kernel, by decide +kernel⟩
theorem d_law {P : Program} {w : World} {K : PySem.W.Frag} {mg : Str → Option Value} {base : Heap} {f : Addr} {fd : FuncData} (F : FunG K "law" "law" s_law f fd)
    (D_law_given : Def P w K mg base 2 "_law_given" ["_law_script"] (pGiven K)) (E_tight_2 : DefE P w K mg base 4 "tight" 2 [] (selN 2) (pTightE c_NoLot)) (G_list : mg "list" = none) (E_ran_2 : DefE P w K mg base 4 "ran" 2 [] (selN 2) (pRanE c_NoLot)) (G_isinstance : mg "isinstance" = none) (D_law_walked : Def P w K mg base 2 "_law_walked" ["_law_width", "_law_lots", "_law_rows"] pWalked) (G_tuple : mg "tuple" = none) (G_len : mg "len" = none) (G_all : mg "all" = none) (D_law_whole : Def P w K mg base 1 "_law_whole" ["_law_found"] pWhole) (G_sum : mg "sum" = none) : FnOk P w K mg base (L2.CX P w) 5 f fd ["_law_script"] (liftE (pLawE K)) := by
  refine fnokG_of (N := n_law) (k := 4) F sc_law (fun ds M Φ Ξ h => by obtain ⟨ns, rfl, hl, k⟩ := h; rfl) fun X kp ds M Φ Ξ h I => ?_
  obtain ⟨ns, rfl, hl, k⟩ := h
  obtain ⟨rfl, rfl, rfl, rfl, rfl, hN, hs, hf, z, hp, tk, hst, hfr⟩ := I
  have nd := z.nd
  have n0 : Lo X 0 "_law_script" := lo_of hN hs hf (by decide +kernel)
  have n1 : Lo X 1 "_law_width" := lo_of hN hs hf (by decide +kernel)
  have n2 : Lo X 2 "_law_lots" := lo_of hN hs hf (by decide +kernel)
  have n3 : Lo X 3 "_law_stretch" := lo_of hN hs hf (by decide +kernel)
  have n4 : Lo X 4 "_law_rows" := lo_of hN hs hf (by decide +kernel)
  have n5 : Lo X 5 "_law_good" := lo_of hN hs hf (by decide +kernel)
  have n6 : Lo X 6 "_law_late" := lo_of hN hs hf (by decide +kernel)
  have n7 : Lo X 7 "_law_first" := lo_of hN hs hf (by decide +kernel)
  have n8 : Lo X 8 "_law_end" := lo_of hN hs hf (by decide +kernel)
  have n9 : Lo X 9 "_law_need" := lo_of hN hs hf (by decide +kernel)
  have l_law_given : Gl X "_law_given" := gl_of hs (by decide +kernel)
  have l_tight : Gl X "tight" := gl_of hs (by decide +kernel)
  have g_list : Gn X "list" := gn_of hs (by decide +kernel) G_list
  have l_ran : Gl X "ran" := gl_of hs (by decide +kernel)
  have g_isinstance : Gn X "isinstance" := gn_of hs (by decide +kernel) G_isinstance
  have l_law_walked : Gl X "_law_walked" := gl_of hs (by decide +kernel)
  have g_tuple : Gn X "tuple" := gn_of hs (by decide +kernel) G_tuple
  have g_len : Gn X "len" := gn_of hs (by decide +kernel) G_len
  have g_all : Gn X "all" := gn_of hs (by decide +kernel) G_all
  have g_sum : Gn X "sum" := gn_of hs (by decide +kernel) G_sum
  clear F hf
  change DSs _ X (_ :: _) [_, _, _, _, _, _, _, _, _, _, _, _, _, _] _ _
  repeat' walk_at "t"
  refine ⟨ns, rfl, hl, fun w lots s g b hok hlen hw hw2 => ?_⟩
  have hfb : firstBad lots = none := firstBad_no fun l hl => by
    obtain ⟨b1, b2, b3, b4, b5⟩ := hok l hl
    unfold BadLot; omega
  repeat' walk_at "t"
  refine ⟨_, .val _, ?_⟩
  repeat' walk_at "t"
  refine ⟨w, lots, rfl, by omega, hw, by omega, fun _ => ⟨fun l hl => (hok l hl).b, fun r hr => ?_⟩, fun i e => by rw [hfb] at e; cases e⟩
  repeat' walk_at "t"
  refine ⟨_, .val _, ?_⟩
  repeat' walk_at "t"
  refine ⟨w, lots, rfl, by omega, hw, fun _ => ⟨hok, fun n rows hrun => ?_⟩, fun i e => by rw [hfb] at e; cases e⟩
  repeat' walk_at "t"
  refine ⟨w, lots, n, rows, rfl, hok, by omega, hw, hrun, hrun.few hok (by omega), ?_⟩
  cases hr with
  | no h =>
    rw [late_no (in_time hrun hok hw h)]
    repeat' walk_at "t"
    exact ⟨_, _, .sub (List.sublist_cons_self _ _), k⟩
  | at_ f e hf h1 h2 =>
    rw [late_yes (some_late hrun hok hw hf h1 h2)]
    repeat' walk_at "t"
    refine DE.f (df_lc 0 z hN hs [("_law_part", 10)] (.one 10) (by decide +kernel) (by decide) (fun X' bk => pg_one bk z (bk.lo hN hs (by decide +kernel))) (di_tup ?_))
    repeat' walk_at "t"
    refine LcH.mapT ([f, e]) (.int) (fun _ => true) (.bl) (Nat.le_trans (show List.length _ ≤ 1000 by first | omega | (simp; done) | (simp; omega)) (by decide)) (fun q acc a ha => ?_) ?_
    · refine ⟨_, rfl, fun X' bk => ?_⟩
      have c10 : Lo X' 10 "_law_part" := bk.lo hN hs (by decide +kernel)
      have z' := bk.z z
      have D_law_whole' := bk.df D_law_whole
      have l_law_whole' : Gl X' "_law_whole" := bk.gl hs (by decide +kernel)
      repeat' walk_at "t"
      exact ⟨rfl, rfl⟩
    repeat' walk_at "t"
    refine cd_all (.val _) ?_
    repeat' walk_at "t"
    refine DE.f (df_lc 0 z hN hs [("_law_come", 11), ("_law_hour", 12), ("_law_many", 13)] (.tup [11, 12, 13]) (by decide +kernel) (by decide) (fun X' bk => pg_many bk z (pgs_1 (bk.z z).nd (bk.lo hN hs (by decide +kernel)) (pgs_1 (bk.z z).nd (bk.lo hN hs (by decide +kernel)) (pgs_1 (bk.z z).nd (bk.lo hN hs (by decide +kernel)) pgs_0)))) (di_list ?_))
    repeat' walk_at "t"
    refine LcH.pureT (lots) (tD) (fun a => if f ≤ a.1 ∧ a.2.1 ≤ e then some (a.2.2) else none) (.int) (Nat.le_trans (show List.length _ ≤ 1000 by first | omega | (simp; done) | (simp; omega)) (by decide)) (fun q acc a ha => ?_) ?_
    · refine ⟨_, rfl, fun X' bk => ?_⟩
      have c11 : Lo X' 11 "_law_come" := bk.lo hN hs (by decide +kernel)
      have c12 : Lo X' 12 "_law_hour" := bk.lo hN hs (by decide +kernel)
      have c13 : Lo X' 13 "_law_many" := bk.lo hN hs (by decide +kernel)
      have c7 : Nm X' 7 "_law_first" := bk.nm hN hs (by decide +kernel)
      have c8 : Nm X' 8 "_law_end" := bk.nm hN hs (by decide +kernel)
      have z' := bk.z z
      repeat' walk_at "t"
      all_goals first
        | (intro X' bk; (have c11 : Lo X' 11 "_law_come" := bk.lo hN hs (by decide +kernel)); (have c12 : Lo X' 12 "_law_hour" := bk.lo hN hs (by decide +kernel)); (have c13 : Lo X' 13 "_law_many" := bk.lo hN hs (by decide +kernel)); (have c7 : Nm X' 7 "_law_first" := bk.nm hN hs (by decide +kernel)); (have c8 : Nm X' 8 "_law_end" := bk.nm hN hs (by decide +kernel)); (have z' := bk.z z); (repeat' walk_at "t"); exact ⟨by rw [if_pos (by walk_at "pos")]; rfl, rfl⟩)
        | exact ⟨by rw [if_neg (by walk_at "neg")]; rfl, rfl⟩
    repeat' walk_at "t"
    refine cd_sum (.val _) ?_
    have hn : (lots.filterMap fun a => if f ≤ a.1 ∧ a.2.1 ≤ e then some a.2.2 else none).sum = need lots f e := by
      unfold need
      exact sum_fm (p := fun a : Lot => f ≤ a.1 ∧ a.2.1 ≤ e) (f := fun a => a.2.2)
    rw [hn]
    repeat' walk_at "t"
    exact ⟨_, _, .sub (List.sublist_cons_self _ _), k⟩
abbrev s_NoLot__init : Stmt := inClass (top 2) 0
def n_NoLot__init : List Str := ["self", "place"]
theorem sc_NoLot__init : FnScope n_NoLot__init ["self", "place"] (defScope s_NoLot__init) := ⟨rfl, rfl, rfl, by decide +kernel, rfl, by decide +kernel, by decide +kernel⟩
theorem x_NoLot__init {P : Program} {w : World} {K : PySem.W.Frag} {mg : Str → Option Value} {base : Heap} {C f : Addr} {fd : FuncData} (F : Fun K "__init__" "NoLot.__init__" s_NoLot__init f fd) (T : OexC K C) (N_place : PySem.W.findIn K (.ref C) "place" = some none) : FnOk P w K mg base CX0 1 f fd ["self", "place"] (spXI C ["place"]) := by
  refine F.ok sc_NoLot__init (fun vs H Q E hl => ?_) fun cdv A outer s H vs Q E hr hl => ?_
  · obtain ⟨a, args, rfl, hl, _⟩ := hl
    simpa using hl
  · obtain ⟨a, args, rfl, hl, ha, kk⟩ := hl
    match args, hl with
    | [v0], _ =>
      refine ⟨_, pss_one (ps_ost (pv 0) (pv 1)), ?_⟩
      refine ⟨_, rfl, _, rfl, a, C, rfl, T, N_place, .inl ⟨ha, fun dx n1 n2 => ?_⟩⟩
      exact kk dx _ n1 n2 (by repeat (first | exact upd_same | rw [upd_ne n2] | rw [upd_ne (Ne.symm n2)])) (by repeat (first | exact upd_same | rw [upd_ne n2] | rw [upd_ne (Ne.symm n2)])) (fun b h1 h2 => by simp only [upd_ne h1, upd_ne h2])
theorem all_mk {l : PySem.W.OpenLaw} {w : World} {K : PySem.W.Frag} {h : Heap} {mg : Str → Option Value} {fa f1 f2 f3 f4 f5 f6 f7 f8 f9 f10 f11 c_NoLot : Addr} (X : K.In h) (G : h.Ns mainGlobals mg) (hfa : mg "law" = some (.ref fa))
    (ac_NoLot : PySem.W.nsIn K mainGlobals "NoLot" = some (some (.ref c_NoLot)))
    {od1 an1 : Option Addr} {sl1 : Array (Option Value)} {oc1 kV1 dc1 pm1 cd1 ct1 : Value}
    (a1 : PySem.W.nsIn K mainGlobals "_law_begun" = some (some (.ref f1)))
    (l1 : K.lookup f1 = some ⟨oc1, od1, .func (PySem.W.fnOf "_law_begun" "_law_begun" (defArgs s_law_begun) (defBody s_law_begun) (defScope s_law_begun) .none kV1 dc1 pm1 an1 cd1 ct1), sl1⟩)
    (c1 : PySem.W.codeIn K cd1 "_law_begun" = true)
    (k1 : PySem.W.keepIn K (.ref f1) = true)
    {od2 an2 : Option Addr} {sl2 : Array (Option Value)} {oc2 kV2 dc2 pm2 cd2 ct2 : Value}
    (a2 : PySem.W.nsIn K mainGlobals "_law_take" = some (some (.ref f2)))
    (l2 : K.lookup f2 = some ⟨oc2, od2, .func (PySem.W.fnOf "_law_take" "_law_take" (defArgs s_law_take) (defBody s_law_take) (defScope s_law_take) .none kV2 dc2 pm2 an2 cd2 ct2), sl2⟩)
    (c2 : PySem.W.codeIn K cd2 "_law_take" = true)
    (k2 : PySem.W.keepIn K (.ref f2) = true)
    {od3 an3 : Option Addr} {sl3 : Array (Option Value)} {oc3 kV3 dc3 pm3 cd3 ct3 : Value}
    (a3 : PySem.W.nsIn K mainGlobals "_law_given" = some (some (.ref f3)))
    (l3 : K.lookup f3 = some ⟨oc3, od3, .func (PySem.W.fnOf "_law_given" "_law_given" (defArgs s_law_given) (defBody s_law_given) (defScope s_law_given) .none kV3 dc3 pm3 an3 cd3 ct3), sl3⟩)
    (c3 : PySem.W.codeIn K cd3 "_law_given" = true)
    (k3 : PySem.W.keepIn K (.ref f3) = true)
    {od4 an4 : Option Addr} {sl4 : Array (Option Value)} {oc4 kV4 dc4 pm4 cd4 ct4 : Value}
    (a4 : PySem.W.nsIn K mainGlobals "look_at" = some (some (.ref f4)))
    (l4 : K.lookup f4 = some ⟨oc4, od4, .func (PySem.W.fnOf "look_at" "look_at" (defArgs s_look_at) (defBody s_look_at) (defScope s_look_at) .none kV4 dc4 pm4 an4 cd4 ct4), sl4⟩)
    (c4 : PySem.W.codeIn K cd4 "look_at" = true)
    (k4 : PySem.W.keepIn K (.ref f4) = true)
    {od5 an5 : Option Addr} {sl5 : Array (Option Value)} {oc5 kV5 dc5 pm5 cd5 ct5 : Value}
    (a5 : PySem.W.nsIn K mainGlobals "tight" = some (some (.ref f5)))
    (l5 : K.lookup f5 = some ⟨oc5, od5, .func (PySem.W.fnOf "tight" "tight" (defArgs s_tight) (defBody s_tight) (defScope s_tight) .none kV5 dc5 pm5 an5 cd5 ct5), sl5⟩)
    (c5 : PySem.W.codeIn K cd5 "tight" = true)
    (k5 : PySem.W.keepIn K (.ref f5) = true)
    {od6 an6 : Option Addr} {sl6 : Array (Option Value)} {oc6 kV6 dc6 pm6 cd6 ct6 : Value}
    (a6 : PySem.W.nsIn K mainGlobals "carried" = some (some (.ref f6)))
    (l6 : K.lookup f6 = some ⟨oc6, od6, .func (PySem.W.fnOf "carried" "carried" (defArgs s_carried) (defBody s_carried) (defScope s_carried) .none kV6 dc6 pm6 an6 cd6 ct6), sl6⟩)
    (c6 : PySem.W.codeIn K cd6 "carried" = true)
    (k6 : PySem.W.keepIn K (.ref f6) = true)
    {od7 an7 : Option Addr} {sl7 : Array (Option Value)} {oc7 kV7 dc7 pm7 cd7 ct7 : Value}
    (a7 : PySem.W.nsIn K mainGlobals "one_tick" = some (some (.ref f7)))
    (l7 : K.lookup f7 = some ⟨oc7, od7, .func (PySem.W.fnOf "one_tick" "one_tick" (defArgs s_one_tick) (defBody s_one_tick) (defScope s_one_tick) .none kV7 dc7 pm7 an7 cd7 ct7), sl7⟩)
    (c7 : PySem.W.codeIn K cd7 "one_tick" = true)
    (k7 : PySem.W.keepIn K (.ref f7) = true)
    {od8 an8 : Option Addr} {sl8 : Array (Option Value)} {oc8 kV8 dc8 pm8 cd8 ct8 : Value}
    (a8 : PySem.W.nsIn K mainGlobals "ran" = some (some (.ref f8)))
    (l8 : K.lookup f8 = some ⟨oc8, od8, .func (PySem.W.fnOf "ran" "ran" (defArgs s_ran) (defBody s_ran) (defScope s_ran) .none kV8 dc8 pm8 an8 cd8 ct8), sl8⟩)
    (c8 : PySem.W.codeIn K cd8 "ran" = true)
    (k8 : PySem.W.keepIn K (.ref f8) = true)
    {od9 an9 : Option Addr} {sl9 : Array (Option Value)} {oc9 kV9 dc9 pm9 cd9 ct9 : Value}
    (a9 : PySem.W.nsIn K mainGlobals "_law_whole" = some (some (.ref f9)))
    (l9 : K.lookup f9 = some ⟨oc9, od9, .func (PySem.W.fnOf "_law_whole" "_law_whole" (defArgs s_law_whole) (defBody s_law_whole) (defScope s_law_whole) .none kV9 dc9 pm9 an9 cd9 ct9), sl9⟩)
    (c9 : PySem.W.codeIn K cd9 "_law_whole" = true)
    (k9 : PySem.W.keepIn K (.ref f9) = true)
    {od10 an10 : Option Addr} {sl10 : Array (Option Value)} {oc10 kV10 dc10 pm10 cd10 ct10 : Value}
    (a10 : PySem.W.nsIn K mainGlobals "_law_walked" = some (some (.ref f10)))
    (l10 : K.lookup f10 = some ⟨oc10, od10, .func (PySem.W.fnOf "_law_walked" "_law_walked" (defArgs s_law_walked) (defBody s_law_walked) (defScope s_law_walked) .none kV10 dc10 pm10 an10 cd10 ct10), sl10⟩)
    (c10 : PySem.W.codeIn K cd10 "_law_walked" = true)
    (k10 : PySem.W.keepIn K (.ref f10) = true)
    {od11 an11 : Option Addr} {sl11 : Array (Option Value)} {oc11 kV11 dc11 pm11 cd11 ct11 : Value}
    (a11 : PySem.W.nsIn K mainGlobals "law" = some (some (.ref f11)))
    (l11 : K.lookup f11 = some ⟨oc11, od11, .func (PySem.W.fnOf "law" "law" (defArgs s_law) (defBody s_law) (defScope s_law) .none kV11 dc11 pm11 an11 cd11 ct11), sl11⟩)
    (c11 : PySem.W.codeIn K cd11 "law" = true)
    (k11 : PySem.W.keepIn K (.ref f11) = true)
    (z_len : PySem.W.nsIn K mainGlobals "len" = some none)
    (z_range : PySem.W.nsIn K mainGlobals "range" = some none)
    (z_enumerate : PySem.W.nsIn K mainGlobals "enumerate" = some none)
    (xk_NoLot : PySem.W.keepIn K (.ref c_NoLot) = true)
    (xs_NoLot : PySem.W.subIn K (.ref c_NoLot) (.type "BaseException") = some true)
    (xt_NoLot : PySem.W.typeIn K (.ref c_NoLot) = some (.type "type"))
    {nm_NoLot q_NoLot : Str} {N_NoLot : Addr} {bs_NoLot bm_NoLot sub_NoLot : List Value} {sn_NoLot : List Str} {ab_NoLot : Bool} {col_NoLot : Option Bool} {dd_NoLot : Option Addr} {m0_NoLot m1_NoLot m2_NoLot m3_NoLot m5_NoLot : Option Value} {fI_NoLot : Addr}
    (xL_NoLot : K.lookup c_NoLot = some (excClassObj nm_NoLot q_NoLot c_NoLot N_NoLot bs_NoLot bm_NoLot true sn_NoLot sub_NoLot ab_NoLot col_NoLot dd_NoLot m0_NoLot m1_NoLot m2_NoLot m3_NoLot m5_NoLot "ValueError.__new__"))
    (xr_NoLot : PySem.HandSPX.refsVE bm_NoLot = true)
    (xsa_NoLot : PySem.W.findIn K (.ref c_NoLot) "__setattr__" = some (some (.builtin "object.__setattr__")))
    (xi_NoLot : PySem.W.findIn K (.ref c_NoLot) "__init__" = some (some (.ref fI_NoLot)))
    (xti_NoLot : PySem.W.typeIn K (.ref fI_NoLot) = some (.type "function"))
    (xki_NoLot : PySem.W.keepIn K (.ref fI_NoLot) = true)
    {odI_NoLot anI_NoLot : Option Addr} {slI_NoLot : Array (Option Value)} {ocI_NoLot kVI_NoLot dcI_NoLot pmI_NoLot cdI_NoLot ctI_NoLot : Value}
    (xl_NoLot : K.lookup fI_NoLot = some ⟨ocI_NoLot, odI_NoLot, .func (PySem.W.fnOf "__init__" "NoLot.__init__" (defArgs s_NoLot__init) (defBody s_NoLot__init) (defScope s_NoLot__init) .none kVI_NoLot dcI_NoLot pmI_NoLot anI_NoLot cdI_NoLot ctI_NoLot), slI_NoLot⟩)
    (xc_NoLot : PySem.W.codeIn K cdI_NoLot "NoLot.__init__" = true)
    (xn_NoLot_place : PySem.W.findIn K (.ref c_NoLot) "place" = some none)
    (z_sorted : PySem.W.nsIn K mainGlobals "sorted" = some none)
    (z_set : PySem.W.nsIn K mainGlobals "set" = some none)
    (z_min : PySem.W.nsIn K mainGlobals "min" = some none)
    (z_max : PySem.W.nsIn K mainGlobals "max" = some none)
    (z_isinstance : PySem.W.nsIn K mainGlobals "isinstance" = some none)
    (z_int : PySem.W.nsIn K mainGlobals "int" = some none)
    (z_bool : PySem.W.nsIn K mainGlobals "bool" = some none)
    (z_tuple : PySem.W.nsIn K mainGlobals "tuple" = some none)
    (z_all : PySem.W.nsIn K mainGlobals "all" = some none)
    (z_list : PySem.W.nsIn K mainGlobals "list" = some none)
    (z_sum : PySem.W.nsIn K mainGlobals "sum" = some none)
    : ∃ fd : FuncData, (∀ (s : Shared) (v : Value), BindsTo s fd ⟨[v], []⟩ [("_law_script", v)]) ∧ ∀ base : Heap, K.In base → base.Ns mainGlobals mg → FnOk l.prog w K mg base (L2.CX l.prog w) 5 fa fd ["_law_script"] (liftE (pLawE K)) := by
  have e := hfa.symm.trans (PySem.W.mg_of X G a11)
  cases e
  have G_len : mg "len" = none := PySem.W.mg_none_of X G z_len
  have G_range : mg "range" = none := PySem.W.mg_none_of X G z_range
  have G_enumerate : mg "enumerate" = none := PySem.W.mg_none_of X G z_enumerate
  have T_NoLot : OexC K c_NoLot := ⟨⟨_, _, _, _, _, _, _, _, _, _, _, _, _, _, _, xL_NoLot, xr_NoLot⟩, xsa_NoLot, xs_NoLot, xt_NoLot, xk_NoLot⟩
  have FI_NoLot := fun_mk (st := s_NoLot__init) xl_NoLot xc_NoLot xki_NoLot
  have G_sorted : mg "sorted" = none := PySem.W.mg_none_of X G z_sorted
  have G_set : mg "set" = none := PySem.W.mg_none_of X G z_set
  have G_min : mg "min" = none := PySem.W.mg_none_of X G z_min
  have G_max : mg "max" = none := PySem.W.mg_none_of X G z_max
  have G_isinstance : mg "isinstance" = none := PySem.W.mg_none_of X G z_isinstance
  have G_int : mg "int" = none := PySem.W.mg_none_of X G z_int
  have G_bool : mg "bool" = none := PySem.W.mg_none_of X G z_bool
  have G_tuple : mg "tuple" = none := PySem.W.mg_none_of X G z_tuple
  have G_all : mg "all" = none := PySem.W.mg_none_of X G z_all
  have G_list : mg "list" = none := PySem.W.mg_none_of X G z_list
  have G_sum : mg "sum" = none := PySem.W.mg_none_of X G z_sum
  have F1 := fun_mk (st := s_law_begun) l1 c1 k1
  have b1 := F1.binds (ps := ["_law_script"]) fun _ _ _ _ _ _ us hl => match us, hl with | [_], _ => rfl
  have F2 := fun_mk (st := s_law_take) l2 c2 k2
  have b2 := F2.binds (ps := ["_law_state", "_law_many"]) fun _ _ _ _ _ _ us hl => match us, hl with | [_, _], _ => rfl
  have F3 := fun_mk (st := s_law_given) l3 c3 k3
  have b3 := F3.binds (ps := ["_law_script"]) fun _ _ _ _ _ _ us hl => match us, hl with | [_], _ => rfl
  have F4 := fung_mk (st := s_look_at) l4 c4
  have F5 := fung_mk (st := s_tight) l5 c5
  have F6 := fun_mk (st := s_carried) l6 c6 k6
  have b6 := F6.binds (ps := ["width", "heap"]) fun _ _ _ _ _ _ us hl => match us, hl with | [_, _], _ => rfl
  have F7 := fun_mk (st := s_one_tick) l7 c7 k7
  have b7 := F7.binds (ps := ["width", "tick", "lots", "left"]) fun _ _ _ _ _ _ us hl => match us, hl with | [_, _, _, _], _ => rfl
  have F8 := fung_mk (st := s_ran) l8 c8
  have F9 := fun_mk (st := s_law_whole) l9 c9 k9
  have b9 := F9.binds (ps := ["_law_found"]) fun _ _ _ _ _ _ us hl => match us, hl with | [_], _ => rfl
  have F10 := fun_mk (st := s_law_walked) l10 c10 k10
  have b10 := F10.binds (ps := ["_law_width", "_law_lots", "_law_rows"]) fun _ _ _ _ _ _ us hl => match us, hl with | [_, _, _], _ => rfl
  have F11 := fung_mk (st := s_law) l11 c11
  refine ⟨PySem.W.fnOf "law" "law" (defArgs s_law) (defBody s_law) (defScope s_law) .none kV11 dc11 pm11 an11 cd11 ct11, fun s v => .of_eq rfl, fun base _ _ => ?_⟩
  have X_NoLot : ExI l.prog w K mg base "NoLot" c_NoLot ["place"] := ⟨PySem.W.mg_of X G ac_NoLot, T_NoLot, ⟨fI_NoLot, _, ["self", "place"], xi_NoLot, xti_NoLot, FI_NoLot.binds (ps := ["self", "place"]) fun _ _ _ _ _ _ us hl => (match us, hl with | [_, _], _ => rfl), x_NoLot__init FI_NoLot T_NoLot xn_NoLot_place⟩⟩
  have O_law_begun : FnOk l.prog w K mg base CX0 1 f1 _ ["_law_script"] (lift (pBegun K)) := d_law_begun F1 
  have O_law_take : FnOk l.prog w K mg base CX0 1 f2 _ ["_law_state", "_law_many"] (lift pTake) := d_law_take F2 G_len
  have D_law_begun : Def l.prog w K mg base 1 "_law_begun" ["_law_script"] (pBegun K) := ⟨_, _, PySem.W.mg_of X G a1, k1, b1, O_law_begun⟩
  have D_law_take : Def l.prog w K mg base 1 "_law_take" ["_law_state", "_law_many"] pTake := ⟨_, _, PySem.W.mg_of X G a2, k2, b2, O_law_take⟩
  have O_law_given : FnOk l.prog w K mg base CX0 2 f3 _ ["_law_script"] (lift (pGiven K)) := d_law_given F3 D_law_begun D_law_take G_range
  have O_look_at : FnOk l.prog w K mg base (L2.CX l.prog w) 3 f4 _ ["lots"] (liftE (pLookE c_NoLot)) := d_look_at F4 G_enumerate X_NoLot
  have E_look_at_1 : DefE l.prog w K mg base 3 "look_at" 1 [] (selN 1) (pLookE c_NoLot) := ⟨⟨f4, PySem.W.mg_of X G a4, k4, ⟨⟨_, ["lots"], ⟨fun s us ws hK h1 h2 => match us, ws, h1, h2 with | [u0], [], _, _ => ⟨[u0], (.at rfl .nil), .of_eq rfl⟩⟩, O_look_at⟩⟩⟩⟩
  have O_tight : FnOk l.prog w K mg base (L2.CX l.prog w) 4 f5 _ ["width", "lots"] (liftE (pTightE c_NoLot)) := d_tight F5 E_look_at_1 G_sorted G_set
  have O_carried : FnOk l.prog w K mg base CX0 1 f6 _ ["width", "heap"] (lift pCarried) := d_carried F6 G_sorted G_range G_len G_min
  have D_carried : Def l.prog w K mg base 1 "carried" ["width", "heap"] pCarried := ⟨_, _, PySem.W.mg_of X G a6, k6, b6, O_carried⟩
  have O_one_tick : FnOk l.prog w K mg base CX0 2 f7 _ ["width", "tick", "lots", "left"] (lift pOne) := d_one_tick F7 G_range G_len D_carried G_enumerate G_sorted
  have D_one_tick : Def l.prog w K mg base 2 "one_tick" ["width", "tick", "lots", "left"] pOne := ⟨_, _, PySem.W.mg_of X G a7, k7, b7, O_one_tick⟩
  have O_ran : FnOk l.prog w K mg base (L2.CX l.prog w) 4 f8 _ ["width", "lots"] (liftE (pRanE c_NoLot)) := d_ran F8 E_look_at_1 G_max G_min G_range G_len D_one_tick
  have O_law_whole : FnOk l.prog w K mg base CX0 1 f9 _ ["_law_found"] (lift pWhole) := d_law_whole F9 G_isinstance G_int G_bool
  have D_law_whole : Def l.prog w K mg base 1 "_law_whole" ["_law_found"] pWhole := ⟨_, _, PySem.W.mg_of X G a9, k9, b9, O_law_whole⟩
  have O_law_walked : FnOk l.prog w K mg base CX0 2 f10 _ ["_law_width", "_law_lots", "_law_rows"] (lift pWalked) := d_law_walked F10 G_isinstance G_tuple G_len G_all D_law_whole
  have D_law_given : Def l.prog w K mg base 2 "_law_given" ["_law_script"] (pGiven K) := ⟨_, _, PySem.W.mg_of X G a3, k3, b3, O_law_given⟩
  have E_tight_2 : DefE l.prog w K mg base 4 "tight" 2 [] (selN 2) (pTightE c_NoLot) := ⟨⟨f5, PySem.W.mg_of X G a5, k5, ⟨⟨_, ["width", "lots"], ⟨fun s us ws hK h1 h2 => match us, ws, h1, h2 with | [u0, u1], [], _, _ => ⟨[u0, u1], (.at rfl (.at rfl .nil)), .of_eq rfl⟩⟩, O_tight⟩⟩⟩⟩
  have E_ran_2 : DefE l.prog w K mg base 4 "ran" 2 [] (selN 2) (pRanE c_NoLot) := ⟨⟨f8, PySem.W.mg_of X G a8, k8, ⟨⟨_, ["width", "lots"], ⟨fun s us ws hK h1 h2 => match us, ws, h1, h2 with | [u0, u1], [], _, _ => ⟨[u0, u1], (.at rfl (.at rfl .nil)), .of_eq rfl⟩⟩, O_ran⟩⟩⟩⟩
  have D_law_walked : Def l.prog w K mg base 2 "_law_walked" ["_law_width", "_law_lots", "_law_rows"] pWalked := ⟨_, _, PySem.W.mg_of X G a10, k10, b10, O_law_walked⟩
  exact d_law F11 D_law_given E_tight_2 G_list E_ran_2 G_isinstance D_law_walked G_tuple G_len G_all D_law_whole G_sum
theorem walk {l : PySem.W.OpenLaw} {qq : Program} {loose : List Str} {XP : (Str → Option Value) → Heap → Prop} {YP : World → Heap → Prop} {d : DefRec} {K : Params → PySem.W.Frag} (hn : l.most = some 63) (hdf : d.params.defaults = [])
    (hY : ∀ (w : World) (h : Heap), YP w h → (K w.params).In h)
    (F : ∀ (w : World) (mg : Str → Option Value) (fa : Addr) (h : Heap), (K w.params).In h → h.Ns mainGlobals mg → mg d.name = some (.ref fa) →
      ∃ fd : FuncData, (∀ (s : Shared) (u : Value), BindsTo s fd ⟨[u], []⟩ [("_law_script", u)]) ∧ ∀ base : Heap, (K w.params).In base → base.Ns mainGlobals mg → FnOk l.prog w (K w.params) mg base (L2.CX l.prog w) 5 fa fd ["_law_script"] (liftE (pLawE (K w.params)))) :
    PySem.W.WalkO qq loose XP YP l.row.toRowW d [] (fun f vs => PySem.call f vs) :=
  L2.walk_of (n := 63) (k := 5) (x := "_law_script") (CX := fun w => L2.CX l.prog w) (sp := fun w => (liftE (pLawE (K w.params)))) hn (by decide) hdf ⟨rfl, by decide, by decide⟩ hY F (fun _ _ a ns hl _ hS => law_startE hl hS) fun _ _ _ _ _ z => law_out z
end Lw
open PySem PySem.W PyProof.Rows in
set_option maxRecDepth 100000 in
set_option maxHeartbeats 0 in
theorem PySem.Challenge.cw_hourlanes_k13_whole_a_way_or_a_stretch_holds : PySem.Challenge.rw_hourlanes_k13_whole_a_way_or_a_stretch.Holds := by
  w_on; o_law; k_head; (case hw => w_witness2)
  k_fill
  refine Lw.walk (l := PySem.Challenge.rw_hourlanes_k13_whole_a_way_or_a_stretch) rfl rfl (fun w h Y => PySem.W.kIn_of Y) ?F
  case F =>
    intro w mg fa h KX G hmg
    refine' Lw.all_mk KX G hmg ?ac_NoLot ?a1 ?l1 ?c1 ?k1 ?a2 ?l2 ?c2 ?k2 ?a3 ?l3 ?c3 ?k3 ?a4 ?l4 ?c4 ?k4 ?a5 ?l5 ?c5 ?k5 ?a6 ?l6 ?c6 ?k6 ?a7 ?l7 ?c7 ?k7 ?a8 ?l8 ?c8 ?k8 ?a9 ?l9 ?c9 ?k9 ?a10 ?l10 ?c10 ?k10 ?a11 ?l11 ?c11 ?k11 ?z_len ?z_range ?z_enumerate ?xk_NoLot ?xs_NoLot ?xt_NoLot ?xL_NoLot ?xr_NoLot ?xsa_NoLot ?xi_NoLot ?xti_NoLot ?xki_NoLot ?xl_NoLot ?xc_NoLot ?xn_NoLot_place ?z_sorted ?z_set ?z_min ?z_max ?z_isinstance ?z_int ?z_bool ?z_tuple ?z_all ?z_list ?z_sum
    (case ac_NoLot => k_is)
    (case a1 => k_is)
    (case l1 => k_is)
    (case c1 => k_is)
    (case k1 => k_is)
    (case a2 => k_is)
    (case l2 => k_is)
    (case c2 => k_is)
    (case k2 => k_is)
    (case a3 => k_is)
    (case l3 => k_is)
    (case c3 => k_is)
    (case k3 => k_is)
    (case a4 => k_is)
    (case l4 => k_is)
    (case c4 => k_is)
    (case k4 => k_is)
    (case a5 => k_is)
    (case l5 => k_is)
    (case c5 => k_is)
    (case k5 => k_is)
    (case a6 => k_is)
    (case l6 => k_is)
    (case c6 => k_is)
    (case k6 => k_is)
    (case a7 => k_is)
    (case l7 => k_is)
    (case c7 => k_is)
    (case k7 => k_is)
    (case a8 => k_is)
    (case l8 => k_is)
    (case c8 => k_is)
    (case k8 => k_is)
    (case a9 => k_is)
    (case l9 => k_is)
    (case c9 => k_is)
    (case k9 => k_is)
    (case a10 => k_is)
    (case l10 => k_is)
    (case c10 => k_is)
    (case k10 => k_is)
    (case a11 => k_is)
    (case l11 => k_is)
    (case c11 => k_is)
    (case k11 => k_is)
    (case z_len => k_is)
    (case z_range => k_is)
    (case z_enumerate => k_is)
    (case xk_NoLot => k_is)
    (case xs_NoLot => k_is)
    (case xt_NoLot => k_is)
    (case xL_NoLot => k_is)
    (case xr_NoLot => first | rfl | decide +kernel | k_is)
    (case xsa_NoLot => k_is)
    (case xi_NoLot => k_is)
    (case xti_NoLot => k_is)
    (case xki_NoLot => k_is)
    (case xl_NoLot => k_is)
    (case xc_NoLot => k_is)
    (case xn_NoLot_place => k_is)
    (case z_sorted => k_is)
    (case z_set => k_is)
    (case z_min => k_is)
    (case z_max => k_is)
    (case z_isinstance => k_is)
    (case z_int => k_is)
    (case z_bool => k_is)
    (case z_tuple => k_is)
    (case z_all => k_is)
    (case z_list => k_is)
    (case z_sum => k_is)

