import PyProof.Rows.All
import Wide.All
import OpenK.AllK
import Wide.FinOn
import HandS.ForMost
import HandS.ForExc
import HandS.Wide
import HandS.IsInst
import HandS.Defaults
import HandS.Walk
import HandS.Small
import HandS.SortInts
import HandS.SortRule
import HandS.TupAny
import KE.GoesMore
import HandS.Conv
import KE.DataMinMax
import HandS.SortKw
import HandS.TupSets
import HandS.SetFor
import HandS.Strs
import HandS.ExcInit
import HandS.TryMany
import HandS.ExcValue
import HandS.CallSlots
import KE.KExcIs
import HandS.Style
import HandS.Flt
import HandS.TupLe
import HandS.More
import HandS.Text
import HandS.OwnEq
import PySem.Challenge.RW_hourlanes_k09_refusals_apart
set_option Elab.async false
set_option linter.all false
set_option maxRecDepth 100000
set_option maxHeartbeats 4000000
namespace Hl
open PySem L2
/-! ### data: what a value is worth, by its content -/
inductive D where
  | non | bl (b : Bool) | int (i : Int) | str (x : Str) | lst (ds : List D) | tup (ds : List D) | obj (C : Addr) (ns : List Str) (ds : List D) | raw (v : V) | scr (K : PySem.W.Frag) (ns : List Int) | exn (C : Addr) (ns : List Str) (ds : List D) | fd (ks : List Key) (ds : List D) | hp (a : Addr) (o : HO)
/-- an exception's object, held -/
def XO (cls : Value) (d : Option Addr) (a : Addr) : HO := .ext fun h => ∃ (oe : Obj) (vs : Array Value), h.get? a = some oe ∧ Zc cls d oe ∧ oe.data = .fields vs
mutual
inductive Rep (F : List Addr) (H : Hp) : V → D → Prop
  | non : Rep F H .non .non
  | bl (b : Bool) : Rep F H (.bl b) (.bl b)
  | int (i : Int) : Rep F H (.int i) (.int i)
  | str (x : Str) : Rep F H (.str x) (.str x)
  | lst {a : Addr} {vs : List V} {ds : List D} : a ∉ F → H a = some (.lst vs) → Reps F H vs ds → Rep F H (.ref a) (.lst ds)
  | tup {a : Addr} {vs : List V} {ds : List D} : a ∉ F → H a = some (.tup vs) → Reps F H vs ds → Rep F H (.ref a) (.tup ds)
  | obj {a C dx : Addr} {ns : List Str} {vs : List V} {ds : List D} : a ∉ F → H a = some (.ins C dx (ns.zip vs)) → ns.length = vs.length → Reps F H vs ds → Rep F H (.ref a) (.obj C ns ds)
  | raw (v : V) : Rep F H v (.raw v)
  | scrH {a : Addr} {K : PySem.W.Frag} {ns : List Int} : a ∉ F → Rd H a (.lst (ns.map V.int)) → Rep F H (.ref a) (.scr K ns)
  | scrK {a : Addr} {K : PySem.W.Frag} {ns : List Int} : (∀ H', SqL K H' a (ns.map V.int)) → Rep F H (.ref a) (.scr K ns)
  | exn0 {a C : Addr} : a ∉ F → H a = some (XO (.ref C) none a) → Rep F H (.ref a) (.exn C [] [])
  | exn {a C d : Addr} {ns : List Str} {vs : List V} {ds : List D} : a ∉ F → H a = some (XO (.ref C) (some d) a) → d ∉ F → H d = some (.xd (ns.zip vs)) → ns.length = vs.length → Reps F H vs ds → Rep F H (.ref a) (.exn C ns ds)
  | fd {a : Addr} {o : Obj} {ws : List (Key × V)} {ks : List Key} {vs : List V} {ds : List D} : a ∉ F → H a = some (.frz o (.dK ws)) → ws.map (·.1) = ks → ws.map (·.2) = vs → Reps F H vs ds → Rep F H (.ref a) (.fd ks ds)
  | hp {a : Addr} {o : HO} : a ∉ F → H a = some o → Rep F H (.ref a) (.hp a o)
inductive Reps (F : List Addr) (H : Hp) : List V → List D → Prop
  | nil : Reps F H [] []
  | cons {v : V} {d : D} {vs : List V} {ds : List D} : Rep F H v d → Reps F H vs ds → Reps F H (v :: vs) (d :: ds)
end
/-- from F, H to F', H': what is read beside F stays -/
def Fwd (F : List Addr) (H : Hp) (F' : List Addr) (H' : Hp) : Prop := ∀ a o, a ∉ F → H a = some o → a ∉ F' ∧ H' a = some o
theorem Fwd.refl {F : List Addr} {H : Hp} : Fwd F H F H := fun _ _ h e => ⟨h, e⟩
theorem Fwd.trans {F F1 F2 : List Addr} {H H1 H2 : Hp} (x : Fwd F H F1 H1) (y : Fwd F1 H1 F2 H2) : Fwd F H F2 H2 := fun a o h e => let ⟨h1, e1⟩ := x a o h e; y a o h1 e1
theorem Fwd.new {F : List Addr} {H : Hp} {p : Addr} {o : HO} (h : H p = none) : Fwd F H F (upd H p o) := fun a u ha e => ⟨ha, by rw [upd_ne (ne_of_none e h)]; exact e⟩
theorem Fwd.less {F F' : List Addr} {H : Hp} (h : ∀ a ∈ F', a ∈ F) : Fwd F H F' H := fun a o ha e => ⟨fun z => ha (h a z), e⟩
theorem Fwd.same {F : List Addr} {H H' : Hp} (h : ∀ a, a ∉ F → H' a = H a) : Fwd F H F H' := fun a o ha e => ⟨ha, by rw [h a ha]; exact e⟩
mutual
theorem Rep.fwd {F F' : List Addr} {H H' : Hp} (k : Fwd F H F' H') : ∀ {v : V} {d : D}, Rep F H v d → Rep F' H' v d
  | _, _, .non => .non
  | _, _, .bl b => .bl b
  | _, _, .int i => .int i
  | _, _, .str x => .str x
  | _, _, .lst h e r => .lst (k _ _ h e).1 (k _ _ h e).2 (Reps.fwd k r)
  | _, _, .tup h e r => .tup (k _ _ h e).1 (k _ _ h e).2 (Reps.fwd k r)
  | _, _, .obj h e l r => .obj (k _ _ h e).1 (k _ _ h e).2 l (Reps.fwd k r)
  | _, _, .raw v => .raw v
  | _, _, .scrH h (.inl e) => .scrH (k _ _ h e).1 (.inl (k _ _ h e).2)
  | _, _, .scrH h (.inr ⟨o, e⟩) => .scrH (k _ _ h e).1 (.inr ⟨o, (k _ _ h e).2⟩)
  | _, _, .scrK h => .scrK h
  | _, _, .exn0 h e => .exn0 (k _ _ h e).1 (k _ _ h e).2
  | _, _, .exn h e h2 e2 l r => .exn (k _ _ h e).1 (k _ _ h e).2 (k _ _ h2 e2).1 (k _ _ h2 e2).2 l (Reps.fwd k r)
  | _, _, .fd h e e1 e2 r => .fd (k _ _ h e).1 (k _ _ h e).2 e1 e2 (Reps.fwd k r)
  | _, _, .hp h e => .hp (k _ _ h e).1 (k _ _ h e).2
theorem Reps.fwd {F F' : List Addr} {H H' : Hp} (k : Fwd F H F' H') : ∀ {vs : List V} {ds : List D}, Reps F H vs ds → Reps F' H' vs ds
  | _, _, .nil => .nil
  | _, _, .cons a b => .cons (Rep.fwd k a) (Reps.fwd k b)
end
theorem Reps.length {F : List Addr} {H : Hp} : ∀ {vs : List V} {ds : List D}, Reps F H vs ds → vs.length = ds.length
  | _, _, .nil => rfl
  | _, _, .cons _ b => by simp [Reps.length b]
theorem Reps.get {F : List Addr} {H : Hp} : ∀ {vs : List V} {ds : List D} {i : Nat} {v : V}, Reps F H vs ds → vs[i]? = some v → ∃ d, ds[i]? = some d ∧ Rep F H v d
  | _, _, _, _, .nil, e => by simp at e
  | _, _, 0, _, .cons r _, e => by simp at e; subst e; exact ⟨_, rfl, r⟩
  | _, _, i + 1, v, .cons _ t, e => by
    obtain ⟨u, h1, h2⟩ := Reps.get (i := i) (v := v) t (by simpa using e)
    exact ⟨u, by simpa using h1, h2⟩
theorem Reps.get' {F : List Addr} {H : Hp} : ∀ {vs : List V} {ds : List D} {i : Nat} {d : D}, Reps F H vs ds → ds[i]? = some d → ∃ v, vs[i]? = some v ∧ Rep F H v d
  | _, _, _, _, .nil, e => by simp at e
  | _, _, 0, _, .cons r _, e => by simp at e; subst e; exact ⟨_, rfl, r⟩
  | _, _, i + 1, v, .cons _ t, e => by
    obtain ⟨u, h1, h2⟩ := Reps.get' (i := i) (d := v) t (by simpa using e)
    exact ⟨u, by simpa using h1, h2⟩
theorem Reps.append {F : List Addr} {H : Hp} : ∀ {vs ws : List V} {ds es : List D}, Reps F H vs ds → Reps F H ws es → Reps F H (vs ++ ws) (ds ++ es)
  | _, _, _, _, .nil, s => s
  | _, _, _, _, .cons r t, s => .cons r (Reps.append t s)
theorem Reps.set {F : List Addr} {H : Hp} {v : V} {d : D} (r : Rep F H v d) : ∀ {vs : List V} {ds : List D} (i : Nat), Reps F H vs ds → Reps F H (vs.set i v) (ds.set i d)
  | _, _, _, .nil => .nil
  | _, _, 0, .cons _ t => .cons r t
  | _, _, i + 1, .cons q t => .cons q (Reps.set r i t)
theorem Reps.take {F : List Addr} {H : Hp} : ∀ {vs : List V} {ds : List D} (n : Nat), Reps F H vs ds → Reps F H (vs.take n) (ds.take n)
  | _, _, 0, _ => .nil
  | _, _, _ + 1, .nil => .nil
  | _, _, n + 1, .cons r t => .cons r (Reps.take n t)
theorem Reps.drop {F : List Addr} {H : Hp} : ∀ {vs : List V} {ds : List D} (n : Nat), Reps F H vs ds → Reps F H (vs.drop n) (ds.drop n)
  | _, _, 0, r => r
  | _, _, _ + 1, .nil => .nil
  | _, _, n + 1, .cons _ t => Reps.drop n t
theorem Reps.erase {F : List Addr} {H : Hp} : ∀ {vs : List V} {ds : List D} (n : Nat), Reps F H vs ds → Reps F H (vs.eraseIdx n) (ds.eraseIdx n)
  | _, _, _, .nil => .nil
  | _, _, 0, .cons _ t => t
  | _, _, n + 1, .cons r t => .cons r (Reps.erase n t)
theorem Reps.ints {F : List Addr} {H : Hp} : ∀ {vs : List V} {ns : List Int}, Reps F H vs (ns.map D.int) → vs = ns.map V.int
  | _, [], .nil => rfl
  | _, n :: ns, .cons r t => by cases r; rw [Reps.ints t]; rfl
theorem Reps.ofInts {F : List Addr} {H : Hp} : ∀ (ns : List Int), Reps F H (ns.map V.int) (ns.map D.int)
  | [] => .nil
  | n :: ns => .cons (.int n) (Reps.ofInts ns)
theorem Reps.strs {F : List Addr} {H : Hp} : ∀ {vs : List V} {ns : List Str}, Reps F H vs (ns.map D.str) → vs = ns.map V.str
  | _, [], .nil => rfl
  | _, n :: ns, .cons r t => by cases r; rw [Reps.strs t]; rfl
/-! ### what may change: cells -/
inductive SC where
  | lst (ds : List D) | obj (C : Addr) (ns : List Str) (ds : List D) | dct (kvs : List (Key × D)) | fdc (o : Obj) (ws : List (Key × V)) (kvs : List (Key × D))
/-- a cell: a list, an object, a dict, the draws' state, or a thing with its parts -/
inductive Cell where
  | lst (ds : List D) | obj (C : Addr) (ns : List Str) (ds : List D) | dct (kvs : List (Key × D)) | fdc (o : Obj) (ws : List (Key × V)) (kvs : List (Key × D)) | st (g : Addr) (b : Nat) | grp (c : SC) (N : List (Addr × SC))
def SC.up : SC → Cell
  | .lst ds => .lst ds
  | .obj C ns ds => .obj C ns ds
  | .dct kvs => .dct kvs
  | .fdc o ws kvs => .fdc o ws kvs
def own (a : Addr) : Cell → List Addr
  | .st g _ => [a, g]
  | .grp _ N => a :: N.map (·.1)
  | _ => [a]
abbrev Mem := List (Addr × Cell)
def Mem.F (M : Mem) : List Addr := M.flatMap fun p => own p.1 p.2
/-- the draws' state -/
def StAt (F : List Addr) (H : Hp) (s g : Addr) (b : Nat) : Prop :=
  ∃ (c : Addr) (r t e : Int) (gs cs : List Int), c ∉ F ∧
    H s = some (.dK [(.inr "great", .ref g), (.inr "rest", .int r), (.inr "turn", .int t), (.inr "seed", .int e), (.inr "cells", .ref c)]) ∧
    H g = some (.lst (gs.map V.int)) ∧ H c = some (.lst (cs.map V.int)) ∧ (∀ x ∈ gs, 0 < x) ∧ 0 ≤ r ∧ 0 ≤ t ∧ t + (b : Int) ≤ 1000000000000 ∧ 0 ≤ e ∧ e < 2147483647 ∧ (∀ x ∈ cs, 0 ≤ x ∧ x < 2147483629) ∧ 0 < cs.length ∧ cs.length ≤ 100
def SOk (F : List Addr) (H : Hp) (a : Addr) : SC → Prop
  | .lst ds => ∃ vs, H a = some (.lst vs) ∧ Reps F H vs ds
  | .obj C ns ds => ∃ dx vs, H a = some (.ins C dx (ns.zip vs)) ∧ ns.length = vs.length ∧ Reps F H vs ds
  | .dct kvs => ∃ ws : List (Key × V), H a = some (.dK ws) ∧ ws.map (·.1) = kvs.map (·.1) ∧ Reps F H (ws.map (·.2)) (kvs.map (·.2))
  | .fdc o ws kvs => H a = some (.frz o (.dK ws)) ∧ ws.map (·.1) = kvs.map (·.1) ∧ Reps F H (ws.map (·.2)) (kvs.map (·.2))
theorem SOk.some {F : List Addr} {H : Hp} {a : Addr} {c : SC} (h : SOk F H a c) : ∃ o, H a = some o := by
  cases c with
  | lst ds => obtain ⟨vs, e, _⟩ := h; exact ⟨_, e⟩
  | obj C ns ds => obtain ⟨dx, vs, e, _⟩ := h; exact ⟨_, e⟩
  | dct kvs => obtain ⟨ws, e, _⟩ := h; exact ⟨_, e⟩
  | fdc o ws kvs => exact ⟨_, h.1⟩
theorem SOk.fwd {F F' : List Addr} {H H' : Hp} {a : Addr} {c : SC} (h : SOk F H a c) (k : Fwd F H F' H') (e : H' a = H a) : SOk F' H' a c := by
  cases c with
  | lst ds => obtain ⟨vs, e1, r⟩ := h; exact ⟨vs, by rw [e]; exact e1, r.fwd k⟩
  | obj C ns ds => obtain ⟨dx, vs, e1, l, r⟩ := h; exact ⟨dx, vs, by rw [e]; exact e1, l, r.fwd k⟩
  | dct kvs => obtain ⟨ws, e1, l, r⟩ := h; exact ⟨ws, by rw [e]; exact e1, l, r.fwd k⟩
  | fdc o ws kvs => obtain ⟨e1, l, r⟩ := h; exact ⟨by rw [e]; exact e1, l, r.fwd k⟩
def CellOk (F : List Addr) (H : Hp) (a : Addr) : Cell → Prop
  | .grp c N => SOk F H a c ∧ ∀ p ∈ N, SOk F H p.1 p.2
  | .lst ds => ∃ vs, H a = some (.lst vs) ∧ Reps F H vs ds
  | .obj C ns ds => ∃ dx vs, H a = some (.ins C dx (ns.zip vs)) ∧ ns.length = vs.length ∧ Reps F H vs ds
  | .dct kvs => ∃ ws : List (Key × V), H a = some (.dK ws) ∧ ws.map (·.1) = kvs.map (·.1) ∧ Reps F H (ws.map (·.2)) (kvs.map (·.2))
  | .fdc o ws kvs => H a = some (.frz o (.dK ws)) ∧ ws.map (·.1) = kvs.map (·.1) ∧ Reps F H (ws.map (·.2)) (kvs.map (·.2))
  | .st g b => StAt F H a g b
theorem CellOk.some {F : List Addr} {H : Hp} {a : Addr} {c : Cell} (h : CellOk F H a c) : ∀ x ∈ own a c, ∃ o, H x = some o := by
  cases c with
  | lst ds => obtain ⟨vs, e, _⟩ := h; intro x hx; simp [own] at hx; subst hx; exact ⟨_, e⟩
  | obj C ns ds => obtain ⟨dx, vs, e, _⟩ := h; intro x hx; simp [own] at hx; subst hx; exact ⟨_, e⟩
  | dct kvs => obtain ⟨ws, e, _⟩ := h; intro x hx; simp [own] at hx; subst hx; exact ⟨_, e⟩
  | fdc o ws kvs => intro x hx; simp [own] at hx; subst hx; exact ⟨_, h.1⟩
  | grp c N =>
    intro x hx
    rcases List.mem_cons.mp hx with rfl | hx
    · exact h.1.some
    · obtain ⟨p, hp, rfl⟩ := List.mem_map.mp hx; exact (h.2 p hp).some
  | st g b =>
    obtain ⟨c, r, t, e, gs, cs, _, h1, h2, _⟩ := h
    intro x hx; simp [own] at hx
    rcases hx with rfl | rfl
    · exact ⟨_, h1⟩
    · exact ⟨_, h2⟩
theorem CellOk.fwd {F F' : List Addr} {H H' : Hp} {a : Addr} {c : Cell} (h : CellOk F H a c) (k : Fwd F H F' H') (e : ∀ x ∈ own a c, H' x = H x) : CellOk F' H' a c := by
  cases c with
  | lst ds => obtain ⟨vs, e1, r⟩ := h; exact ⟨vs, by rw [e a (by simp [own])]; exact e1, r.fwd k⟩
  | obj C ns ds => obtain ⟨dx, vs, e1, l, r⟩ := h; exact ⟨dx, vs, by rw [e a (by simp [own])]; exact e1, l, r.fwd k⟩
  | dct kvs => obtain ⟨ws, e1, l, r⟩ := h; exact ⟨ws, by rw [e a (by simp [own])]; exact e1, l, r.fwd k⟩
  | fdc o ws kvs => obtain ⟨e1, l, r⟩ := h; exact ⟨by rw [e a (by simp [own])]; exact e1, l, r.fwd k⟩
  | grp c N => exact ⟨h.1.fwd k (e a List.mem_cons_self), fun p hp => (h.2 p hp).fwd k (e p.1 (List.mem_cons_of_mem _ (List.mem_map.mpr ⟨p, hp, rfl⟩)))⟩
  | st g b =>
    obtain ⟨c, r, t, z, gs, cs, h0, h1, h2, h3, h4⟩ := h
    exact ⟨c, r, t, z, gs, cs, (k _ _ h0 h3).1, by rw [e a (by simp [own])]; exact h1, by rw [e g (by simp [own])]; exact h2, (k _ _ h0 h3).2, h4⟩
def SlotOk (F : List Addr) (H : Hp) (ov : Option V) (od : Option D) : Prop := ∀ d, od = some d → ∃ v, ov = some v ∧ Rep F H v d
structure Rs (κ : List (V × D)) (δ : List (Option D)) (M : Mem) (σ : St) (H : Hp) : Prop where
  kp : ∀ p ∈ κ, Rep M.F H p.1 p.2
  sl : Paired (SlotOk M.F H) σ δ
  cl : ∀ p ∈ M, CellOk M.F H p.1 p.2
  nd : M.F.Nodup
section
variable {κ κ' : List (V × D)} {δ : List (Option D)} {M M' : Mem} {σ : St} {H H' : Hp} {p : Addr} {o : HO} {v : V} {d : D}
theorem SlotOk.fwd {F F' : List Addr} {ov : Option V} {od : Option D} (k : Fwd F H F' H') (h : SlotOk F H ov od) : SlotOk F' H' ov od := fun d e => let ⟨v, e1, r⟩ := h d e; ⟨v, e1, r.fwd k⟩
theorem Rs.inF (R : Rs κ δ M σ H) {a : Addr} (h : a ∈ M.F) : ∃ o, H a = some o := by
  obtain ⟨q, hq, hx⟩ := List.mem_flatMap.mp h
  exact (R.cl q hq).some a hx
theorem Rs.fresh (R : Rs κ δ M σ H) (h : H p = none) : p ∉ M.F := fun z => by
  obtain ⟨o, e⟩ := R.inF z
  rw [h] at e; cases e
theorem Rs.go (R : Rs κ δ M σ H) (k : Fwd M.F H M.F H') (e : ∀ x ∈ M.F, H' x = H x) : Rs κ δ M σ H' :=
  ⟨fun q hq => (R.kp q hq).fwd k, Paired.mono (fun _ _ h => h.fwd k) R.sl, fun q hq => (R.cl q hq).fwd k fun x hx => e x (List.mem_flatMap.mpr ⟨q, hq, hx⟩), R.nd⟩
theorem Rs.new (R : Rs κ δ M σ H) (h : H p = none) : Rs κ δ M σ (upd H p o) := R.go (Fwd.new h) fun x hx => upd_ne fun z => R.fresh h (z ▸ hx)
theorem Rs.same (R : Rs κ δ M σ H) (h : Same H H') : Rs κ δ M σ H' := R.go (fun a o ha e => ⟨ha, h a o e⟩) fun x hx => by
  obtain ⟨o, e⟩ := R.inF hx
  rw [e]; exact h _ _ e
theorem Rs.push (R : Rs κ δ M σ H) (r : Rep M.F H v d) : Rs ((v, d) :: κ) δ M σ H := ⟨fun q hq => by
  rcases List.mem_cons.mp hq with rfl | hq
  · exact r
  · exact R.kp q hq, R.sl, R.cl, R.nd⟩
theorem Rs.sub (R : Rs κ δ M σ H) (h : ∀ q ∈ κ', q ∈ κ) : Rs κ' δ M σ H := ⟨fun q hq => R.kp q (h q hq), R.sl, R.cl, R.nd⟩
theorem Rs.pop {q : V × D} (R : Rs (q :: κ) δ M σ H) : Rs κ δ M σ H := R.sub fun _ h => List.mem_cons_of_mem _ h
theorem Rs.top {v : V} {d : D} (R : Rs ((v, d) :: κ) δ M σ H) : Rep M.F H v d := R.kp _ List.mem_cons_self
theorem paired_get {α β : Type} {G : α → β → Prop} : ∀ {l₁ : List α} {l₂ : List β} {i : Nat} {b : β}, Paired G l₁ l₂ → l₂[i]? = some b → ∃ a, l₁[i]? = some a ∧ G a b
  | _, _, _, _, .nil, e => by simp at e
  | _, _, 0, _, .cons r _, e => by simp at e; subst e; exact ⟨_, rfl, r⟩
  | _, _, i + 1, b, .cons _ t, e => by
    obtain ⟨u, h1, h2⟩ := paired_get (i := i) (b := b) t (by simpa using e)
    exact ⟨u, by simpa using h1, h2⟩
theorem paired_set {α β : Type} {G : α → β → Prop} {a : α} {b : β} (r : G a b) : ∀ {l₁ : List α} {l₂ : List β} (i : Nat), Paired G l₁ l₂ → Paired G (l₁.set i a) (l₂.set i b)
  | _, _, _, .nil => .nil
  | _, _, 0, .cons _ t => .cons r t
  | _, _, i + 1, .cons q t => .cons q (paired_set r i t)
theorem Rs.get {i : Nat} (R : Rs κ δ M σ H) (e : δ[i]? = some (some d)) : ∃ v, σ[i]? = some (some v) ∧ Rep M.F H v d := by
  obtain ⟨a, e1, h⟩ := paired_get R.sl e
  obtain ⟨v, rfl, r⟩ := h d rfl
  exact ⟨v, e1, r⟩
theorem Rs.put (R : Rs κ δ M σ H) (i : Nat) (r : Rep M.F H v d) : Rs κ (δ.set i (some d)) M (σ.set i (some v)) H :=
  ⟨R.kp, paired_set (fun d' e => by cases e; exact ⟨v, rfl, r⟩) i R.sl, R.cl, R.nd⟩
theorem Rs.wipe1 (R : Rs κ δ M σ H) (i : Nat) (ov : Option V) : Rs κ (δ.set i none) M (σ.set i ov) H :=
  ⟨R.kp, paired_set (fun d' e => by cases e) i R.sl, R.cl, R.nd⟩
/-- fewer cells -/
theorem F_sub : ∀ {M M' : Mem}, M'.Sublist M → M'.F.Sublist M.F
  | _, _, .slnil => .slnil
  | _, _, .cons a h => by
    show List.Sublist _ (own a.1 a.2 ++ _)
    exact (F_sub h).trans (List.sublist_append_right _ _)
  | _, _, .cons_cons a h => by
    show List.Sublist (own a.1 a.2 ++ _) (own a.1 a.2 ++ _)
    exact (F_sub h).append_left _
theorem Rs.less (R : Rs κ δ M σ H) (h : M'.Sublist M) : Rs κ δ M' σ H := by
  have k : Fwd M.F H M'.F H := Fwd.less fun a ha => (F_sub h).subset ha
  exact ⟨fun q hq => (R.kp q hq).fwd k, Paired.mono (fun _ _ h => h.fwd k) R.sl, fun q hq => (R.cl q (h.subset hq)).fwd k fun _ _ => rfl, R.nd.sublist (F_sub h)⟩
/-- one cell more -/
theorem Fwd.newC {F : List Addr} {H : Hp} {p : Addr} {o : HO} (h : H p = none) : Fwd F H (p :: F) (upd H p o) := fun a u ha e => ⟨by
  simp only [List.mem_cons, not_or]
  exact ⟨ne_of_none e h, ha⟩, by rw [upd_ne (ne_of_none e h)]; exact e⟩
theorem Rs.add (R : Rs κ δ M σ H) {c : Cell} (h : H p = none) (hc : own p c = [p]) (ok : CellOk (p :: M.F) (upd H p o) p c) : Rs κ δ ((p, c) :: M) σ (upd H p o) := by
  have e : Mem.F ((p, c) :: M) = p :: M.F := by show own p c ++ M.F = _; rw [hc]; rfl
  have k : Fwd M.F H (Mem.F ((p, c) :: M)) (upd H p o) := by rw [e]; exact Fwd.newC h
  refine ⟨fun q hq => (R.kp q hq).fwd k, Paired.mono (fun _ _ h => h.fwd k) R.sl, fun q hq => ?_, ?_⟩
  · rcases List.mem_cons.mp hq with rfl | hq
    · rw [e]; exact ok
    · refine (R.cl q hq).fwd k fun x hx => upd_ne fun z => R.fresh h (z ▸ List.mem_flatMap.mpr ⟨q, hq, hx⟩)
  · rw [e]
    exact List.nodup_cons.mpr ⟨R.fresh h, R.nd⟩
theorem F_perm {M M' : Mem} (h : M.Perm M') : (Mem.F M).Perm (Mem.F M') := by
  induction h with
  | nil => exact .nil
  | cons x _ ih => exact ih.append_left _
  | swap x y l =>
    show (own y.1 y.2 ++ (own x.1 x.2 ++ Mem.F l)).Perm (own x.1 x.2 ++ (own y.1 y.2 ++ Mem.F l))
    rw [← List.append_assoc, ← List.append_assoc]
    exact List.perm_append_comm.append_right _
  | trans _ _ h1 h2 => exact h1.trans h2
theorem Rs.perm (R : Rs κ δ M σ H) (h : M.Perm M') : Rs κ δ M' σ H := by
  have k : Fwd M.F H M'.F H := Fwd.less fun a ha => (F_perm h).mem_iff.mpr ha
  exact ⟨fun q hq => (R.kp q hq).fwd k, Paired.mono (fun _ _ h => h.fwd k) R.sl, fun q hq => (R.cl q (h.mem_iff.mpr hq)).fwd k fun _ _ => rfl, (F_perm h).nodup_iff.mp R.nd⟩
/-- a cell at place k -/
def insM : Nat → Addr × Cell → Mem → Mem
  | 0, c, M => c :: M
  | k + 1, c, x :: M => x :: insM k c M
  | _ + 1, c, [] => [c]
theorem insM_perm {c : Addr × Cell} : ∀ {k : Nat} {M : Mem}, (c :: M).Perm (insM k c M)
  | 0, _ => .refl _
  | k + 1, x :: M => (List.Perm.swap x c M).trans (insM_perm.cons x)
  | _ + 1, [] => .refl _
theorem F_set : ∀ {M : Mem} {i : Nat} {a : Addr} {c c' : Cell}, M[i]? = some (a, c) → own a c' = own a c → Mem.F (M.set i (a, c')) = M.F
  | [], _, _, _, _, e, _ => by simp at e
  | q :: M, 0, a, c, c', e, h => by
    have : q = (a, c) := by simpa using e
    subst this
    show own a c' ++ _ = own a c ++ _
    rw [h]
  | q :: M, i + 1, a, c, c', e, h => by
    show own q.1 q.2 ++ Mem.F (M.set i (a, c')) = own q.1 q.2 ++ Mem.F M
    rw [F_set (by simpa using e) h]
theorem F_apart : ∀ {M : Mem} {i j : Nat} {a b : Addr} {c d : Cell}, M.F.Nodup → M[i]? = some (a, c) → M[j]? = some (b, d) → i ≠ j → ∀ x ∈ own a c, x ∉ own b d
  | [], _, _, _, _, _, _, _, e, _, _ => by simp at e
  | q :: M, 0, 0, _, _, _, _, _, _, _, h => absurd rfl h
  | q :: M, 0, j + 1, a, b, c, d, n, e, e', _ => fun x hx hy => by
    have : q = (a, c) := by simpa using e
    subst this
    have n : (own a c ++ Mem.F M).Nodup := n
    exact (List.nodup_append.mp n).2.2 x hx x (List.mem_flatMap.mpr ⟨(b, d), List.mem_of_getElem? (by simpa using e'), hy⟩) rfl
  | q :: M, i + 1, 0, a, b, c, d, n, e, e', _ => fun x hx hy => by
    have : q = (b, d) := by simpa using e'
    subst this
    have n : (own b d ++ Mem.F M).Nodup := n
    exact (List.nodup_append.mp n).2.2 x hy x (List.mem_flatMap.mpr ⟨(a, c), List.mem_of_getElem? (by simpa using e), hx⟩) rfl
  | q :: M, i + 1, j + 1, a, b, c, d, n, e, e', h => by
    have n : (own q.1 q.2 ++ Mem.F M).Nodup := n
    exact F_apart (List.nodup_append.mp n).2.1 (by simpa using e) (by simpa using e') (by omega)
/-- another content of a cell -/
theorem Rs.cell (R : Rs κ δ M σ H) {i : Nat} {a : Addr} {c c' : Cell} (e : M[i]? = some (a, c)) (hc : own a c' = own a c) (k : ∀ x, x ∉ own a c → H' x = H x) (ok : CellOk M.F H' a c') : Rs κ δ (M.set i (a, c')) σ H' := by
  have eF : Mem.F (M.set i (a, c')) = M.F := F_set e hc
  have inF : ∀ x ∈ own a c, x ∈ M.F := fun x hx => List.mem_flatMap.mpr ⟨_, List.mem_of_getElem? e, hx⟩
  have k' : Fwd M.F H M.F H' := Fwd.same fun x hx => k x fun z => hx (inF x z)
  refine ⟨fun q hq => by rw [eF]; exact (R.kp q hq).fwd k', by rw [eF]; exact Paired.mono (fun _ _ h => h.fwd k') R.sl, fun q hq => ?_, by rw [eF]; exact R.nd⟩
  rw [eF]
  obtain ⟨j, hj⟩ := List.getElem?_of_mem hq
  by_cases hij : i = j
  · subst hij
    rw [List.getElem?_set_self (List.getElem?_eq_some_iff.mp e).1] at hj
    cases hj
    exact ok
  · rw [List.getElem?_set_ne hij] at hj
    obtain ⟨b, d⟩ := q
    exact (R.cl _ (List.mem_of_getElem? hj)).fwd k' fun x hx => k x (F_apart R.nd hj e (fun z => hij z.symm) x hx)
theorem Rs.at (R : Rs κ δ M σ H) {i : Nat} {a : Addr} {c : Cell} (e : M[i]? = some (a, c)) : CellOk M.F H a c := R.cl _ (List.mem_of_getElem? e)
theorem Rs.mem (R : Rs κ δ M σ H) {i : Nat} {a : Addr} {c : Cell} (e : M[i]? = some (a, c)) : ∀ x ∈ own a c, x ∈ M.F := fun x hx => List.mem_flatMap.mpr ⟨_, List.mem_of_getElem? e, hx⟩
end
section
variable {M : Mem} {a : Addr} {c : SC} {N : List (Addr × SC)}
theorem own_up {a : Addr} {c : SC} : own a c.up = [a] := by cases c <;> rfl
theorem ok_up {F : List Addr} {H : Hp} {a : Addr} {c : SC} : CellOk F H a c.up ↔ SOk F H a c := by cases c <;> exact Iff.rfl
theorem F_app (M M' : Mem) : Mem.F (M ++ M') = M.F ++ M'.F := List.flatMap_append
end
/-! ### memory, things opened -/
/-- a cell of a memory, maybe part of a thing -/
def InM (M : Mem) (p : Addr) (c : SC) : Prop := (p, c.up) ∈ M ∨ (∃ N, (p, Cell.grp c N) ∈ M) ∨ ∃ b c0 N, (b, Cell.grp c0 N) ∈ M ∧ (p, c) ∈ N
section
variable {κ : List (V × D)} {δ : List (Option D)} {M M' : Mem} {σ : St} {H H' : Hp} {d : D} {p : Addr} {c c' : SC}
theorem InM.ok (h : InM M p c) (R : Rs κ δ M σ H) : SOk M.F H p c := by
  rcases h with h | ⟨N, h⟩ | ⟨b, c0, N, h, hp⟩
  · exact ok_up.mp (R.cl _ h)
  · exact (R.cl _ h).1
  · exact (R.cl _ h).2 _ hp
theorem InM.mono (h : InM M p c) (k : ∀ x ∈ M, x ∈ M') : InM M' p c := by
  rcases h with h | ⟨N, h⟩ | ⟨b, c0, N, h, hp⟩
  · exact .inl (k _ h)
  · exact .inr (.inl ⟨N, k _ h⟩)
  · exact .inr (.inr ⟨b, c0, N, k _ h, hp⟩)
theorem InM.mem (h : InM M p c) : p ∈ M.F := by
  rcases h with h | ⟨N, h⟩ | ⟨b, c0, N, h, hp⟩
  · exact List.mem_flatMap.mpr ⟨_, h, by show p ∈ own p c.up; rw [own_up]; exact List.mem_singleton.mpr rfl⟩
  · exact List.mem_flatMap.mpr ⟨_, h, List.mem_cons_self⟩
  · exact List.mem_flatMap.mpr ⟨_, h, List.mem_cons_of_mem _ (List.mem_map.mpr ⟨_, hp, rfl⟩)⟩
/-- a cell of a memory with another content -/
inductive Rpl (p : Addr) (c c' : SC) : Mem → Mem → Prop
  | cell {M : Mem} (j : Nat) : M[j]? = some (p, c.up) → Rpl p c c' M (M.set j (p, c'.up))
  | head {M : Mem} {N : List (Addr × SC)} (j : Nat) : M[j]? = some (p, .grp c N) → Rpl p c c' M (M.set j (p, .grp c' N))
  | part {M : Mem} {N : List (Addr × SC)} {b : Addr} {c0 : SC} (j i : Nat) : M[j]? = some (b, .grp c0 N) → N[i]? = some (p, c) → Rpl p c c' M (M.set j (b, .grp c0 (N.set i (p, c'))))
theorem Rpl.inM (h : Rpl p c c' M M') : InM M p c := by
  cases h with
  | cell j h => exact .inl (List.mem_of_getElem? h)
  | head j h => exact .inr (.inl ⟨_, List.mem_of_getElem? h⟩)
  | part j i h h2 => exact .inr (.inr ⟨_, _, _, List.mem_of_getElem? h, List.mem_of_getElem? h2⟩)
theorem map_set_fst {N : List (Addr × SC)} {i : Nat} (h : N[i]? = some (p, c)) : (N.set i (p, c')).map (·.1) = N.map (·.1) := by
  induction N generalizing i with
  | nil => simp at h
  | cons q N ih =>
    cases i with
    | zero =>
      have : q = (p, c) := by simpa using h
      subst this; rfl
    | succ i => show q.1 :: _ = q.1 :: _; rw [ih (by simpa using h)]
theorem nd_own {x : Addr × Cell} (R : Rs κ δ M σ H) (h : x ∈ M) : (own x.1 x.2).Nodup := by
  have : (own x.1 x.2).Sublist M.F := by
    obtain ⟨l1, l2, rfl⟩ := List.append_of_mem h
    rw [F_app]
    exact (List.sublist_append_left _ _).trans (List.sublist_append_right _ _)
  exact R.nd.sublist this
theorem Rs.rpl (R : Rs κ δ M σ H) (r : Rpl p c c' M M') (k : ∀ x, x ≠ p → H' x = H x) (ok : SOk M.F H' p c') : Rs κ δ M' σ H' := by
  have hpF := r.inM.mem
  have fw : Fwd M.F H M.F H' := Fwd.same fun x hx => k x fun z => hx (by rw [z]; exact hpF)
  cases r with
  | cell j h => exact R.cell h (by rw [own_up, own_up]) (fun x hx => k x (by rw [own_up] at hx; simpa using hx)) (ok_up.mpr ok)
  | head j h =>
    have nd := nd_own R (List.mem_of_getElem? h)
    refine R.cell h rfl (fun x hx => k x fun z => hx (by rw [z]; exact List.mem_cons_self)) ⟨ok, fun q hq => ?_⟩
    have hne : q.1 ≠ p := fun z => (List.nodup_cons.mp nd).1 (by rw [← z]; exact List.mem_map.mpr ⟨q, hq, rfl⟩)
    exact ((R.cl _ (List.mem_of_getElem? h)).2 q hq).fwd fw (k _ hne)
  | @part N b c0 j i h h2 =>
    have nd := nd_own R (List.mem_of_getElem? h)
    have hpN : p ∈ N.map (·.1) := List.mem_map.mpr ⟨_, List.mem_of_getElem? h2, rfl⟩
    have hbp : b ≠ p := fun z => (List.nodup_cons.mp nd).1 (by rw [z]; exact hpN)
    have hown : own b (.grp c0 (N.set i (p, c'))) = own b (.grp c0 N) := by
      show b :: _ = b :: _
      rw [map_set_fst h2]
    refine R.cell h hown (fun x hx => k x fun z => hx (by rw [z]; exact List.mem_cons_of_mem _ hpN)) ⟨(R.cl _ (List.mem_of_getElem? h)).1.fwd fw (k _ hbp), fun q hq => ?_⟩
    obtain ⟨j', hj'⟩ := List.getElem?_of_mem hq
    by_cases hij : i = j'
    · subst hij
      rw [List.getElem?_set_self (List.getElem?_eq_some_iff.mp h2).1] at hj'
      cases hj'
      exact ok
    · rw [List.getElem?_set_ne hij] at hj'
      have hq' : q ∈ N := List.mem_of_getElem? hj'
      have hne : q.1 ≠ p := fun z => by
        have n2 := (List.nodup_cons.mp nd).2
        have e1 : (N.map (·.1))[i]? = some p := by rw [List.getElem?_map, h2]; rfl
        have e2 : (N.map (·.1))[j']? = some p := by rw [List.getElem?_map, hj', ← z]; rfl
        exact hij ((List.getElem?_inj (List.getElem?_eq_some_iff.mp e1).1 n2).mp (e1.trans e2.symm))
      exact ((R.cl _ (List.mem_of_getElem? h)).2 q hq').fwd fw (k _ hne)
end
end Hl
namespace Hl
open PySem L2
/-! ### the readings as such -/
@[irreducible] def tE (X : Cx) (e : Expr) : TE := fun σ H Q => ∀ pins s, Inv X pins σ H s → wpAny (model X.prog X.w) X.A (eval e X.env) (EP X pins σ Q) X.xe s
@[irreducible] def tT (X : Cx) (e : Expr) : TT := fun σ H Q => ∀ pins s, Inv X pins σ H s → wpAny (model X.prog X.w) X.A (isTrue e X.env (eval e X.env)) (TP X pins σ Q) X.xe s
@[irreducible] def tA (X : Cx) (es : List Expr) : TA := fun σ H Q => ∀ (pos : Pos) pins s, Inv X pins σ H s → wpAny (model X.prog X.w) X.A (spliced (backTo pos (starEach es X.env))) (AP X pins σ Q) X.xe s
@[irreducible] def tS (X : Cx) (st : Stmt) : TS := fun D σ H => ∀ pins s, Inv X pins σ H s → wpAny (model X.prog X.w) X.A (exec st X.env) (SP X pins D) X.xe s
@[irreducible] def tSs (X : Cx) (st : List Stmt) : TS := fun D σ H => ∀ pins s, Inv X pins σ H s → wpAny (model X.prog X.w) X.A (execs st X.env) (SP X pins D) X.xe s
@[irreducible] def tG (X : Cx) (tg : Expr) : TG := fun v σ H Q => ∀ pins s u, Inv X pins σ H s → RelV v u → wpAny (model X.prog X.w) X.A (assign tg X.env u) (fun _ s' => ∃ σ' H', Inv X pins σ' H' s' ∧ Q σ' H') X.xe s
@[irreducible] def tGs (X : Cx) (ts : List Expr) : TGs := fun vs σ H Q => ∀ pins s us, Inv X pins σ H s → Vals vs us → wpAny (model X.prog X.w) X.A (assignInOrder ((assignEach ts X.env).map (·.2)) us) (fun _ s' => ∃ σ' H', Inv X pins σ' H' s' ∧ Q σ' H') X.xe s
section
variable {X : Cx} {e : Expr} {es : List Expr} {st : Stmt} {sts : List Stmt}
theorem cE : PE X e (tE X e) := ⟨fun pins s _ _ _ I h => by unfold tE at h; exact h pins s I⟩
theorem cT : PT X e (tT X e) := ⟨fun pins s _ _ _ I h => by unfold tT at h; exact h pins s I⟩
theorem cA : PA X es (tA X es) := ⟨fun pos pins s _ _ _ I h => by unfold tA at h; exact h pos pins s I⟩
theorem cS : PS X st (tS X st) := ⟨fun pins s _ _ _ I h => by unfold tS at h; exact h pins s I⟩
theorem cSs : PSs X sts (tSs X sts) := ⟨fun pins s _ _ _ I h => by unfold tSs at h; exact h pins s I⟩
theorem cG : PG X e (tG X e) := ⟨fun pins s _ _ _ u _ I r h => by unfold tG at h; exact h pins s u I r⟩
theorem cGs : PGs X es (tGs X es) := ⟨fun pins s _ _ _ us _ I r h => by unfold tGs at h; exact h pins s us I r⟩
end
/-! ### by data -/
/-- what a body keeps for its caller, and what it may raise -/
structure Bx where
  ps : List (V × D)
  ex : Addr → List Str → List D → List (Option D) → Mem → Prop
def B0 (ps : List (V × D)) : Bx := ⟨ps, fun _ _ _ _ _ => False⟩
abbrev Env' := List (Option D)
def WE (B : Bx) (te : TE) (δ : Env') (M : Mem) (Φ : D → Mem → Prop) : Prop := ∀ κ σ H Q, (∀ q ∈ B.ps, q ∈ κ) → Rs κ δ M σ H → (∀ v d M' H', Φ d M' → Rs κ δ M' σ H' → Rep M'.F H' v d → Q v H') → te σ H Q
/-- a new list, nobody else's -/
def WF (B : Bx) (te : TE) (δ : Env') (M : Mem) (Φ : List D → Mem → Prop) : Prop := ∀ κ σ H Q, (∀ q ∈ B.ps, q ∈ κ) → Rs κ δ M σ H → (∀ p ds M' H', Φ ds M' → Rs κ δ ((p, .lst ds) :: M') σ H' → Q (.ref p) H') → te σ H Q
def WT (B : Bx) (tt : TT) (δ : Env') (M : Mem) (Φ : Bool → Mem → Prop) : Prop := ∀ κ σ H Q, (∀ q ∈ B.ps, q ∈ κ) → Rs κ δ M σ H → (∀ b M' H', Φ b M' → Rs κ δ M' σ H' → Q b H') → tt σ H Q
def WA (B : Bx) (ta : TA) (δ : Env') (M : Mem) (Φ : List D → Mem → Prop) : Prop := ∀ κ σ H Q, (∀ q ∈ B.ps, q ∈ κ) → Rs κ δ M σ H → (∀ vs ds M' H', Φ ds M' → Rs κ δ M' σ H' → Reps M'.F H' vs ds → Q vs H') → ta σ H Q
structure DEnds where
  nx : Env' → Mem → Prop
  rt : D → Mem → Prop
  bk : Env' → Mem → Prop := fun _ _ => False
  ct : Env' → Mem → Prop := fun _ _ => False
structure EndsOk (κ : List (V × D)) (Φ : DEnds) (E : Ends) : Prop where
  nx : ∀ δ M σ H, Φ.nx δ M → Rs κ δ M σ H → E.nx σ H
  rt : ∀ v d M δ σ H, Φ.rt d M → Rs κ δ M σ H → Rep M.F H v d → E.rt v H
  bk : ∀ δ M σ H, Φ.bk δ M → Rs κ δ M σ H → E.bk σ H
  ct : ∀ δ M σ H, Φ.ct δ M → Rs κ δ M σ H → E.ct σ H
def WS (B : Bx) (ts : TS) (δ : Env') (M : Mem) (Φ : DEnds) : Prop := ∀ κ σ H E, (∀ q ∈ B.ps, q ∈ κ) → Rs κ δ M σ H → EndsOk κ Φ E → ts E σ H
def WG (B : Bx) (tg : TG) (d : D) (δ : Env') (M : Mem) (Φ : Env' → Mem → Prop) : Prop := ∀ κ σ H v Q, (∀ q ∈ B.ps, q ∈ κ) → Rs κ δ M σ H → Rep M.F H v d → (∀ δ' M' σ' H', Φ δ' M' → Rs κ δ' M' σ' H' → Q σ' H') → tg v σ H Q
def WGs (B : Bx) (tg : TGs) (ds : List D) (δ : Env') (M : Mem) (Φ : Env' → Mem → Prop) : Prop := ∀ κ σ H vs Q, (∀ q ∈ B.ps, q ∈ κ) → Rs κ δ M σ H → Reps M.F H vs ds → (∀ δ' M' σ' H', Φ δ' M' → Rs κ δ' M' σ' H' → Q σ' H') → tg vs σ H Q
abbrev DE (B : Bx) (X : Cx) (e : Expr) := WE B (tE X e)
abbrev DF (B : Bx) (X : Cx) (e : Expr) := WF B (tE X e)
abbrev DT (B : Bx) (X : Cx) (e : Expr) := WT B (tT X e)
abbrev DA (B : Bx) (X : Cx) (es : List Expr) := WA B (tA X es)
abbrev DS (B : Bx) (X : Cx) (st : Stmt) := WS B (tS X st)
abbrev DSs (B : Bx) (X : Cx) (st : List Stmt) := WS B (tSs X st)
abbrev DG (B : Bx) (X : Cx) (tg : Expr) := WG B (tG X tg)
abbrev DGs (B : Bx) (X : Cx) (tg : List Expr) := WGs B (tGs X tg)
section
variable {B : Bx} {X : Cx} {e a b c : Expr} {es rest : List Expr} {st : Stmt} {sts : List Stmt} {δ δ' : Env'} {M : Mem} {Φ : D → Mem → Prop} {Ψ : DEnds} {te ta tb : TE} {tt : TT} {pos : Pos} {d : D}
theorem DE.of (h : PE X e te) (w : WE B te δ M Φ) : DE B X e δ M Φ := fun κ σ H Q hb R k => by unfold tE; exact fun pins s I => h.run pins s σ H Q I (w κ σ H Q hb R k)
theorem DF.of {Φ : List D → Mem → Prop} (h : PE X e te) (w : WF B te δ M Φ) : DF B X e δ M Φ := fun κ σ H Q hb R k => by unfold tE; exact fun pins s I => h.run pins s σ H Q I (w κ σ H Q hb R k)
theorem DT.of {Φ : Bool → Mem → Prop} (h : PT X e tt) (w : WT B tt δ M Φ) : DT B X e δ M Φ := fun κ σ H Q hb R k => by unfold tT; exact fun pins s I => h.run pins s σ H Q I (w κ σ H Q hb R k)
theorem DA.of {Φ : List D → Mem → Prop} {t : TA} (h : PA X es t) (w : WA B t δ M Φ) : DA B X es δ M Φ := fun κ σ H Q hb R k => by unfold tA; exact fun pos pins s I => h.run pos pins s σ H Q I (w κ σ H Q hb R k)
theorem DS.of {t : TS} (h : PS X st t) (w : WS B t δ M Ψ) : DS B X st δ M Ψ := fun κ σ H E hb R k => by unfold tS; exact fun pins s I => h.run pins s σ H E I (w κ σ H E hb R k)
theorem DSs.of {t : TS} (h : PSs X sts t) (w : WS B t δ M Ψ) : DSs B X sts δ M Ψ := fun κ σ H E hb R k => by unfold tSs; exact fun pins s I => h.run pins s σ H E I (w κ σ H E hb R k)
theorem DG.of {t : TG} {Φ : Env' → Mem → Prop} (h : PG X e t) (w : WG B t d δ M Φ) : DG B X e d δ M Φ := fun κ σ H v Q hb R r k => by unfold tG; exact fun pins s u I ru => h.run pins s σ H v u Q I ru (w κ σ H v Q hb R r k)
theorem DGs.of {t : TGs} {ds : List D} {Φ : Env' → Mem → Prop} (h : PGs X es t) (w : WGs B t ds δ M Φ) : DGs B X es ds δ M Φ := fun κ σ H v Q hb R r k => by unfold tGs; exact fun pins s u I ru => h.run pins s σ H v u Q I ru (w κ σ H v Q hb R r k)
/-- a list nobody else's, as a plain one -/
theorem cons_sub {M : Mem} {q : Addr × Cell} : M.Sublist (q :: M) := .cons _ (.refl _)
theorem WE.ofF (w : WF B te δ M fun ds M' => Φ (.lst ds) M') : WE B te δ M Φ := fun κ σ H Q hb R k => w κ σ H Q hb R fun p ds M' H' q R' => by
  refine k (.ref p) (.lst ds) M' H' q (R'.less cons_sub) ?_
  obtain ⟨vs, e, r⟩ := R'.cl (p, .lst ds) (by simp)
  have nd : (p :: Mem.F M').Nodup := R'.nd
  refine .lst (List.nodup_cons.mp nd).1 e (r.fwd ?_)
  exact Fwd.less fun x hx => (F_sub cons_sub).subset hx
theorem WE.mono {Φ' : D → Mem → Prop} (w : WE B te δ M Φ) (h : ∀ d M', Φ d M' → Φ' d M') : WE B te δ M Φ' := fun κ σ H Q hb R k => w κ σ H Q hb R fun v d M' H' q R' r => k v d M' H' (h d M' q) R' r
theorem WT.mono {Φ Φ' : Bool → Mem → Prop} (w : WT B tt δ M Φ) (h : ∀ d M', Φ d M' → Φ' d M') : WT B tt δ M Φ' := fun κ σ H Q hb R k => w κ σ H Q hb R fun b M' H' q R' => k b M' H' (h b M' q) R'
theorem EndsOk.mono {κ : List (V × D)} {Φ Φ' : DEnds} {E : Ends} (k : EndsOk κ Φ' E) (h1 : ∀ δ M, Φ.nx δ M → Φ'.nx δ M) (h2 : ∀ d M, Φ.rt d M → Φ'.rt d M) (h3 : ∀ δ M, Φ.bk δ M → Φ'.bk δ M) (h4 : ∀ δ M, Φ.ct δ M → Φ'.ct δ M) : EndsOk κ Φ E :=
  ⟨fun δ M σ H q R => k.nx δ M σ H (h1 δ M q) R, fun v d M δ σ H q R r => k.rt v d M δ σ H (h2 d M q) R r, fun δ M σ H q R => k.bk δ M σ H (h3 δ M q) R, fun δ M σ H q R => k.ct δ M σ H (h4 δ M q) R⟩
theorem EndsOk.sub {κ κ' : List (V × D)} {Φ : DEnds} {E : Ends} (k : EndsOk κ Φ E) (h : ∀ q ∈ κ, q ∈ κ') : EndsOk κ' Φ E :=
  ⟨fun δ M σ H q R => k.nx δ M σ H q (R.sub h), fun v d M δ σ H q R r => k.rt v d M δ σ H q (R.sub h) r, fun δ M σ H q R => k.bk δ M σ H q (R.sub h), fun δ M σ H q R => k.ct δ M σ H q (R.sub h)⟩
theorem WS.mono {ts : TS} {Ψ' : DEnds} (w : WS B ts δ M Ψ) (h1 : ∀ δ M, Ψ.nx δ M → Ψ'.nx δ M) (h2 : ∀ d M, Ψ.rt d M → Ψ'.rt d M) (h3 : ∀ δ M, Ψ.bk δ M → Ψ'.bk δ M) (h4 : ∀ δ M, Ψ.ct δ M → Ψ'.ct δ M) : WS B ts δ M Ψ' := fun κ σ H E hb R k =>
  w κ σ H E hb R (k.mono h1 h2 h3 h4)
/-! ### names -/
structure NmP (N : List Str) (sc : Scope) (i : Nat) (x : Str) : Prop where
  at_ : N[i]? = some x
  vis : Vis sc x
  dbg : (x == ("__debug__" : Str)) = false
  cdc : (x == ("__classdict__" : Str)) = false
abbrev Nm (X : Cx) := NmP X.N X.env.scope
structure LoP (N : List Str) (sc : Scope) (fu : Str → Bool) (i : Nat) (x : Str) : Prop extends NmP N sc i x where
  loc : Loc sc x
  fn : fu x = true ∨ sc.names.lookup x = some .local
abbrev Lo (X : Cx) := LoP X.N X.env.scope X.fn
/-- a built-in's name -/
structure GnP (env : Env) (mg : Str → Option Value) (x : Str) : Prop where
  gl : env.kindOf x = some .globalImplicit
  no : mg x = none
abbrev Gn (X : Cx) := GnP X.env X.mg
structure CzP (N : List Str) (calm_ : Bool) (A : Around) (k : Nat) : Prop where
  nd : N.Nodup
  calm : calm_ = true
  room : Room k A
abbrev Cz (X : Cx) := CzP X.N X.calm X.A
theorem WE.val {v : V} (hv : ∀ F H, Rep F H v d) (k : Φ d M) : WE B (tC v) δ M Φ := fun κ σ H Q hb R h => h v d M H k R (hv _ _)
theorem de_name {i : Nat} {x : Str} (n : Nm X i x) (hd : δ[i]? = some (some d)) (k : Φ d M) : DE B X (.Name x pos) δ M Φ :=
  .of (pe_var n.at_ n.vis n.dbg n.cdc) fun κ σ H Q hb R h => let ⟨v, e, r⟩ := R.get hd; ⟨v, e, h v d M H k R r⟩
theorem de_int {i : Int} {j} (k : Φ (.int i) M) : DE B X (.Constant (.int i) j pos) δ M Φ := .of pe_int (.val (fun _ _ => .int i) k)
theorem de_str {x : Str} {j} (k : Φ (.str x) M) : DE B X (.Constant (.str x) j pos) δ M Φ := .of pe_str (.val (fun _ _ => .str x) k)
theorem de_bl {b : Bool} {j} (k : Φ (.bl b) M) : DE B X (.Constant (.bool b) j pos) δ M Φ := .of pe_bl (.val (fun _ _ => .bl b) k)
theorem de_non {j} (k : Φ .non M) : DE B X (.Constant .none j pos) δ M Φ := .of pe_non (.val (fun _ _ => .non) k)
/-- a constant of the module -/
structure GcP (env : Env) (mg : Str → Option Value) (x : Str) (v : V) : Prop where
  gl : env.kindOf x = some .globalImplicit
  is : ∃ u, mg x = some u ∧ RelV v u
  dbg : (x == ("__debug__" : Str)) = false
abbrev Gc (X : Cx) := GcP X.env X.mg
theorem de_glob {x : Str} {v : V} (g : Gc X x v) (hv : ∀ F H, Rep F H v d) (k : Φ d M) : DE B X (.Name x pos) δ M Φ := by
  obtain ⟨gl, ⟨u, e, r⟩, dbg⟩ := g
  exact .of (pe_glob gl e r dbg) (.val hv k)
/-! ### operators -/
/-- what an operator on values gives of data -/
def OpD (r : R2) (x y : D) (M : Mem) (Φ : D → Mem → Prop) : Prop := ∀ κ (δ : Env') σ H v w Q, Rs κ δ M σ H → Rep M.F H v x → Rep M.F H w y → (∀ z d M' H', Φ d M' → Rs κ δ M' σ H' → Rep M'.F H' z d → Q z H') → r v w H Q
theorem WE.op {r : R2} (ha : WE B ta δ M fun x M1 => WE B tb δ M1 fun y M2 => OpD r x y M2 Φ) : WE B (tOp r ta tb) δ M Φ := fun κ σ H Q hb R k =>
  ha κ σ H _ hb R fun v x M1 H1 q1 R1 r1 => q1 ((v, x) :: κ) σ H1 _ (fun q hq => List.mem_cons_of_mem _ (hb q hq)) (R1.push r1) fun w y M2 H2 q2 R2 r2 =>
    q2 κ δ σ H2 v w Q R2.pop R2.top r2 k
theorem de_bin {op : Operator} {r : R2} (ho : OpR X (binaryOp op) r) (h : DE B X a δ M fun x M1 => DE B X b δ M1 fun y M2 => OpD r x y M2 Φ) : DE B X (.BinOp a op b pos) δ M Φ := .of (pe_op ho cE cE) (.op h)
theorem od_I {C : Int → Int → Prop} {g : Int → Int → V} {gd : Int → Int → D} {i j : Int} (hc : C i j) (hg : ∀ F H, Rep F H (g i j) (gd i j)) (k : Φ (gd i j) M) : OpD (rI C g) (.int i) (.int j) M Φ := fun κ δ σ H v w Q R rv rw' h => by
  cases rv; cases rw'
  exact ⟨i, j, rfl, rfl, hc, h _ _ M H k R (hg _ _)⟩
theorem od_I0 {g : Int → Int → V} {gd : Int → Int → D} {i j : Int} (hg : ∀ F H, Rep F H (g i j) (gd i j)) (k : Φ (gd i j) M) : OpD (rI0 g) (.int i) (.int j) M Φ := fun κ δ σ H v w Q R rv rw' h => by
  cases rv; cases rw'
  exact ⟨i, j, rfl, rfl, h _ _ M H k R (hg _ _)⟩
theorem OpD.inl {r r' : R2} {x y : D} (h : OpD r x y M Φ) : OpD (fun a b H Q => r a b H Q ∨ r' a b H Q) x y M Φ := fun κ δ σ H v w Q R rv rw' k => .inl (h κ δ σ H v w Q R rv rw' k)
theorem OpD.inr {r r' : R2} {x y : D} (h : OpD r' x y M Φ) : OpD (fun a b H Q => r a b H Q ∨ r' a b H Q) x y M Φ := fun κ δ σ H v w Q R rv rw' k => .inr (h κ δ σ H v w Q R rv rw' k)
def rAddS : R2 := fun x y H Q => ∃ i j, x = .str i ∧ y = .str j ∧ i.length + j.length ≤ sizeLine ∧ Q (.str (i ++ j)) H
def rCatH : R2 := fun x y H Q => ∃ a b xs ys, x = .ref a ∧ y = .ref b ∧ H a = some (.tup xs) ∧ H b = some (.tup ys) ∧ xs.length + ys.length ≤ sizeLine ∧ (xs = [] → Q (.ref b) H) ∧ (xs ≠ [] → ys = [] → Q (.ref a) H) ∧ (xs ≠ [] → ys ≠ [] → ∀ p, H p = none → Q (.ref p) (upd H p (.tup (xs ++ ys))))
theorem op_catH : OpR X (binaryOp .Add) rCatH := fun pins s σ H x y v u Q I rx ry ⟨a, b, xs, ys, e1, e2, h1, h2, hz, q0, q1, q2⟩ => op_catA pins s σ H x y v u Q I rx ry ⟨a, b, xs, ys, e1, e2, SqT.of h1, SqT.of h2, hz, q0, q1, q2⟩
def rAddU : R2 := fun x y H Q => (rI0 fun i j => .int (i + j)) x y H Q ∨ (fun x y H Q => rAddS x y H Q ∨ (fun x y H Q => rCat x y H Q ∨ rCatH x y H Q) x y H Q) x y H Q
theorem op_addU : OpR X (binaryOp .Add) rAddU := op_add.or ((op_add_str (X := X)).or (op_cat.or op_catH))
theorem od_addI {i j : Int} (k : Φ (.int (i + j)) M) : OpD rAddU (.int i) (.int j) M Φ := (od_I0 (gd := fun i j => .int (i + j)) (fun _ _ => .int _) k).inl
theorem od_addS {i j : Str} (hl : i.length + j.length ≤ sizeLine) (k : Φ (.str (i ++ j)) M) : OpD rAddU (.str i) (.str j) M Φ := .inr (.inl fun κ δ σ H v w Q R rv rw' h => by
  cases rv; cases rw'
  exact ⟨i, j, rfl, rfl, hl, h _ _ M H k R (.str _)⟩)
/-- a new list at p -/
theorem Rs.lst {κ : List (V × D)} {σ : St} {H : Hp} {p : Addr} {vs : List V} {ds : List D} (R : Rs κ δ M σ H) (r : Reps M.F H vs ds) (hp : H p = none) : Rs κ δ ((p, .lst ds) :: M) σ (upd H p (.lst vs)) :=
  R.add hp rfl ⟨vs, upd_same, r.fwd (Fwd.newC hp)⟩
theorem Rs.lstV {κ : List (V × D)} {σ : St} {H : Hp} {p : Addr} {vs : List V} {ds : List D} (R : Rs κ δ M σ H) (r : Reps M.F H vs ds) (hp : H p = none) : Rs κ δ M σ (upd H p (.lst vs)) ∧ Rep M.F (upd H p (.lst vs)) (.ref p) (.lst ds) :=
  ⟨R.new hp, .lst (R.fresh hp) upd_same (r.fwd (Fwd.new hp))⟩
theorem Rs.tupV {κ : List (V × D)} {σ : St} {H : Hp} {p : Addr} {vs : List V} {ds : List D} (R : Rs κ δ M σ H) (r : Reps M.F H vs ds) (hp : H p = none) : Rs κ δ M σ (upd H p (.tup vs)) ∧ Rep M.F (upd H p (.tup vs)) (.ref p) (.tup ds) :=
  ⟨R.new hp, .tup (R.fresh hp) upd_same (r.fwd (Fwd.new hp))⟩
theorem od_addL {xs ys : List D} (hl : xs.length + ys.length ≤ sizeLine) (k : Φ (.lst (xs ++ ys)) M) : OpD rAddU (.lst xs) (.lst ys) M Φ := .inr (.inr (.inl fun κ δ σ H v w Q R rv rw' h => by
  cases rv with
  | lst h1 e1 r1 =>
    cases rw' with
    | lst h2 e2 r2 =>
      refine ⟨_, _, _, _, rfl, rfl, e1, e2, by rw [r1.length, r2.length]; exact hl, fun p hp => ?_⟩
      obtain ⟨R', r'⟩ := R.lstV (r1.append r2) hp
      exact h _ _ M _ k R' r'))
theorem od_addT {xs ys : List D} (hl : xs.length + ys.length ≤ sizeLine) (k : Φ (.tup (xs ++ ys)) M) : OpD rAddU (.tup xs) (.tup ys) M Φ := .inr (.inr (.inr fun κ δ σ H v w Q R rv rw' h => by
  cases rv with
  | tup h1 e1 r1 =>
    cases rw' with
    | tup h2 e2 r2 =>
      refine ⟨_, _, _, _, rfl, rfl, e1, e2, by rw [r1.length, r2.length]; exact hl, fun z => ?_, fun z1 z => ?_, fun _ _ p hp => ?_⟩
      · subst z
        cases r1
        exact h _ _ M _ k R (.tup h2 e2 r2)
      · subst z
        cases r2
        rw [List.append_nil] at k
        exact h _ _ M _ k R (.tup h1 e1 r1)
      · obtain ⟨R', r'⟩ := R.tupV (r1.append r2) hp
        exact h _ _ M _ k R' r'))
theorem de_add (h : DE B X a δ M fun x M1 => DE B X b δ M1 fun y M2 => OpD rAddU x y M2 Φ) : DE B X (.BinOp a .Add b pos) δ M Φ := de_bin op_addU h
def rSubU : R2 := rI0 fun i j => .int (i - j)
theorem de_sub (h : DE B X a δ M fun x M1 => DE B X b δ M1 fun y M2 => OpD rSubU x y M2 Φ) : DE B X (.BinOp a .Sub b pos) δ M Φ := de_bin op_sub h
theorem od_sub {i j : Int} (k : Φ (.int (i - j)) M) : OpD rSubU (.int i) (.int j) M Φ := od_I0 (gd := fun i j => .int (i - j)) (fun _ _ => .int _) k
def rMulStr : R2 := fun x y H Q => ∃ (z : Str) (n : Int), x = .str z ∧ y = .int n ∧ MulOk z n ∧ Q (.str (Txt.mul z n)) H
theorem op_mulStr : OpR X (binaryOp .Mult) rMulStr := by
  intro pins s σ H x y v u Q I rx ry h
  obtain ⟨z, n, rfl, rfl, hok, q⟩ := h
  obtain ⟨t, rfl⟩ := rx
  obtain ⟨t', rfl⟩ := ry
  exact SB.mul hok fun t' k => ⟨.str _, H, I.tok k, ⟨t', rfl⟩, q⟩
def rMulU : R2 := fun x y H Q => (rI CMul fun i j => .int (i * j)) x y H Q ∨ ((rI CMulW fun i j => .int (i * j)) x y H Q ∨ rMulStr x y H Q)
theorem de_mul (h : DE B X a δ M fun x M1 => DE B X b δ M1 fun y M2 => OpD rMulU x y M2 Φ) : DE B X (.BinOp a .Mult b pos) δ M Φ := de_bin (op_mul.or (op_mulW.or op_mulStr)) h
theorem od_mul {i j : Int} (hc : CMul i j) (k : Φ (.int (i * j)) M) : OpD rMulU (.int i) (.int j) M Φ := (od_I (gd := fun i j => .int (i * j)) hc (fun _ _ => .int _) k).inl
def rDivU : R2 := rI CDivW fun i j => .int (i / j)
theorem de_div (h : DE B X a δ M fun x M1 => DE B X b δ M1 fun y M2 => OpD rDivU x y M2 Φ) : DE B X (.BinOp a .FloorDiv b pos) δ M Φ := de_bin op_fdivW h
theorem od_div {i j : Int} (hc : CDivW i j) (k : Φ (.int (i / j)) M) : OpD rDivU (.int i) (.int j) M Φ := od_I (gd := fun i j => .int (i / j)) hc (fun _ _ => .int _) k
def rModU : R2 := rI (fun _ j => 0 < j) fun i j => .int (i % j)
theorem de_mod (h : DE B X a δ M fun x M1 => DE B X b δ M1 fun y M2 => OpD rModU x y M2 Φ) : DE B X (.BinOp a .Mod b pos) δ M Φ := de_bin op_mod h
theorem od_mod {i j : Int} (hc : 0 < j) (k : Φ (.int (i % j)) M) : OpD rModU (.int i) (.int j) M Φ := od_I (gd := fun i j => .int (i % j)) hc (fun _ _ => .int _) k
def rPowU : R2 := rI CPow fun i j => .int (i ^ j.toNat)
theorem de_pow (h : DE B X a δ M fun x M1 => DE B X b δ M1 fun y M2 => OpD rPowU x y M2 Φ) : DE B X (.BinOp a .Pow b pos) δ M Φ := de_bin op_pow h
theorem od_pow {i j : Int} (hc : CPow i j) (k : Φ (.int (i ^ j.toNat)) M) : OpD rPowU (.int i) (.int j) M Φ := od_I (gd := fun i j => .int (i ^ j.toNat)) hc (fun _ _ => .int _) k
theorem de_neg (h : DE B X a δ M fun x M1 => ∃ i, x = .int i ∧ Φ (.int (-i)) M1) : DE B X (.UnaryOp .USub a pos) δ M Φ := .of (pe_un un_neg cE) fun κ σ H Q hb R k => h κ σ H _ hb R fun v x M1 H1 ⟨i, e, q⟩ R1 r1 => by
  subst e; cases r1
  exact ⟨i, rfl, k _ _ _ _ q R1 (.int _)⟩
end
end Hl
namespace Hl
open PySem L2
@[irreducible] def tW (X : Cx) (e : Expr) : TT := fun σ H Q => ∀ whole pins s, Inv X pins σ H s → wpAny (model X.prog X.w) X.A (isTrue e X.env whole) (TP X pins σ Q) X.xe s
theorem cW {X : Cx} {e : Expr} : PW X e (tW X e) := ⟨fun whole pins s _ _ _ I h => by unfold tW at h; exact h whole pins s I⟩
abbrev DW (B : Bx) (X : Cx) (e : Expr) := WT B (tW X e)
section
variable {B : Bx} {X : Cx} {e a b c : Expr} {es rest : List Expr} {st : Stmt} {sts : List Stmt} {δ δ' : Env'} {M : Mem} {Φ : D → Mem → Prop} {Ψ : DEnds} {te ta tb : TE} {tt : TT} {pos : Pos} {d x y : D} {ΦB : Bool → Mem → Prop}
theorem DW.of (h : PW X e tt) (w : WT B tt δ M ΦB) : DW B X e δ M ΦB := fun κ σ H Q hb R k => by unfold tW; exact fun whole pins s I => h.run whole pins s σ H Q I (w κ σ H Q hb R k)
theorem DT.w (h : DW B X e δ M ΦB) : DT B X e δ M ΦB := .of cW.pt h
/-- both ways of a truth -/
def Br (b : Bool) (P Q : Prop) : Prop := (b = true → P) ∧ (b = false → Q)
theorem Br.mk {b : Bool} {P Q : Prop} (h1 : b = true → P) (h2 : b = false → Q) : Br b P Q := ⟨h1, h2⟩
theorem Br.yes {P Q : Prop} (h : P) : Br true P Q := ⟨fun _ => h, fun e => (nomatch e)⟩
theorem Br.no {P Q : Prop} (h : Q) : Br false P Q := ⟨fun e => (nomatch e), fun _ => h⟩
theorem Br.ite {b : Bool} {P Q : Prop} (h : Br b P Q) : if b = true then P else Q := by
  cases b with
  | true => exact iteT (h.1 rfl)
  | false => exact iteF (h.2 rfl)
theorem Br.dec {p : Prop} [Decidable p] {P Q : Prop} (h1 : p → P) (h2 : ¬ p → Q) : Br (decide p) P Q := ⟨fun e => h1 (of_decide_eq_true e), fun e => h2 (of_decide_eq_false e)⟩
theorem Br.ndec {p : Prop} [Decidable p] {P Q : Prop} (h1 : ¬ p → P) (h2 : p → Q) : Br (!decide p) P Q := ⟨fun e => h1 (of_decide_eq_false (by simpa using e)), fun e => h2 (of_decide_eq_true (by simpa using e))⟩
theorem Br.decT {p : Prop} [Decidable p] {P Q : Prop} (h : p) (h1 : P) : Br (decide p) P Q := ⟨fun _ => h1, fun e => absurd h (of_decide_eq_false e)⟩
theorem Br.decF {p : Prop} [Decidable p] {P Q : Prop} (h : ¬ p) (h1 : Q) : Br (decide p) P Q := ⟨fun e => absurd (of_decide_eq_true e) h, fun _ => h1⟩
theorem Br.ndecT {p : Prop} [Decidable p] {P Q : Prop} (h : ¬ p) (h1 : P) : Br (!decide p) P Q := ⟨fun _ => h1, fun e => absurd (of_decide_eq_true (by simpa using e)) h⟩
theorem Br.ndecF {p : Prop} [Decidable p] {P Q : Prop} (h : p) (h1 : Q) : Br (!decide p) P Q := ⟨fun e => absurd h (of_decide_eq_false (by simpa using e)), fun _ => h1⟩
theorem Br.neg {b : Bool} {P Q : Prop} (h : Br b Q P) : Br (!b) P Q := by
  cases b with
  | true => exact ⟨fun e => (nomatch e), fun _ => h.1 rfl⟩
  | false => exact ⟨fun _ => h.2 rfl, fun e => (nomatch e)⟩
def toB (Φ : Bool → Mem → Prop) : D → Mem → Prop := fun d M => ∃ b, d = .bl b ∧ Φ b M
theorem toB.mk {b : Bool} (k : ΦB b M) : toB ΦB (.bl b) M := ⟨b, rfl, k⟩
theorem WT.test {t : TE} (h : WE B t δ M (toB ΦB)) : WT B (tTest t) δ M ΦB := fun κ σ H Q hb R k => h κ σ H _ hb R fun v d M' H' ⟨b, e, q⟩ R' r => by
  subst e; cases r
  exact ⟨b, rfl, k b M' H' q R'⟩
theorem de_cmp {op : CmpOp} {r : R2} (ho : OpR X (compareOp op) r) (hm : behindInMarks op b = false) (h : DE B X a δ M fun x M1 => DE B X b δ M1 fun y M2 => OpD r x y M2 Φ) : DE B X (.Compare a [op] [b] pos) δ M Φ := .of (pe_cmpR ho cE cE hm) (.op h)
theorem dt_cmp {op : CmpOp} {r : R2} (ho : OpR X (compareOp op) r) (hm : behindInMarks op b = false) (h : DE B X a δ M fun x M1 => DE B X b δ M1 fun y M2 => OpD r x y M2 (toB ΦB)) : DT B X (.Compare a [op] [b] pos) δ M ΦB := .of (pt_cmpR ho cE cE hm) (.test (.op h))
/-! comparisons of ints -/
def rLtU : R2 := rI0 fun i j => .bl (decide (i < j))
def rLeU : R2 := rI0 fun i j => .bl (decide (i ≤ j))
def rGtU : R2 := rI0 fun i j => .bl (decide (j < i))
def rGeU : R2 := rI0 fun i j => .bl (decide (j ≤ i))
theorem od_lt {i j : Int} (k : Φ (.bl (decide (i < j))) M) : OpD rLtU (.int i) (.int j) M Φ := od_I0 (gd := fun i j => .bl (decide (i < j))) (fun _ _ => .bl _) k
theorem od_le {i j : Int} (k : Φ (.bl (decide (i ≤ j))) M) : OpD rLeU (.int i) (.int j) M Φ := od_I0 (gd := fun i j => .bl (decide (i ≤ j))) (fun _ _ => .bl _) k
theorem od_gt {i j : Int} (k : Φ (.bl (decide (j < i))) M) : OpD rGtU (.int i) (.int j) M Φ := od_I0 (gd := fun i j => .bl (decide (j < i))) (fun _ _ => .bl _) k
theorem od_ge {i j : Int} (k : Φ (.bl (decide (j ≤ i))) M) : OpD rGeU (.int i) (.int j) M Φ := od_I0 (gd := fun i j => .bl (decide (j ≤ i))) (fun _ _ => .bl _) k
theorem de_lt (h : DE B X a δ M fun x M1 => DE B X b δ M1 fun y M2 => OpD rLtU x y M2 Φ) : DE B X (.Compare a [.Lt] [b] pos) δ M Φ := de_cmp op_lt (nomark _) h
theorem de_le (h : DE B X a δ M fun x M1 => DE B X b δ M1 fun y M2 => OpD rLeU x y M2 Φ) : DE B X (.Compare a [.LtE] [b] pos) δ M Φ := de_cmp op_le (nomark _) h
theorem de_gt (h : DE B X a δ M fun x M1 => DE B X b δ M1 fun y M2 => OpD rGtU x y M2 Φ) : DE B X (.Compare a [.Gt] [b] pos) δ M Φ := de_cmp op_gt (nomark _) h
theorem de_ge (h : DE B X a δ M fun x M1 => DE B X b δ M1 fun y M2 => OpD rGeU x y M2 Φ) : DE B X (.Compare a [.GtE] [b] pos) δ M Φ := de_cmp op_ge (nomark _) h
theorem dt_lt (h : DE B X a δ M fun x M1 => DE B X b δ M1 fun y M2 => OpD rLtU x y M2 (toB ΦB)) : DT B X (.Compare a [.Lt] [b] pos) δ M ΦB := dt_cmp op_lt (nomark _) h
theorem dt_le (h : DE B X a δ M fun x M1 => DE B X b δ M1 fun y M2 => OpD rLeU x y M2 (toB ΦB)) : DT B X (.Compare a [.LtE] [b] pos) δ M ΦB := dt_cmp op_le (nomark _) h
theorem dt_gt (h : DE B X a δ M fun x M1 => DE B X b δ M1 fun y M2 => OpD rGtU x y M2 (toB ΦB)) : DT B X (.Compare a [.Gt] [b] pos) δ M ΦB := dt_cmp op_gt (nomark _) h
theorem dt_ge (h : DE B X a δ M fun x M1 => DE B X b δ M1 fun y M2 => OpD rGeU x y M2 (toB ΦB)) : DT B X (.Compare a [.GtE] [b] pos) δ M ΦB := dt_cmp op_ge (nomark _) h
/-! == and != -/
def rEqU (K : PySem.W.Frag) : R2 := fun x y H Q => rEq x y H Q ∨ rEqD K x y H Q
def rNeU (K : PySem.W.Frag) : R2 := fun x y H Q => rNe x y H Q ∨ rNeD K x y H Q
theorem un64 {k : Nat} (z : Cz X k) : X.A.units + 64 < cLine := by have := z.room.un; omega
theorem un1 {k : Nat} (z : Cz X k) : X.A.units + 1 < cLine := by have := z.room.un; omega
theorem de_eq {k : Nat} (z : Cz X k) (h : DE B X a δ M fun x M1 => DE B X b δ M1 fun y M2 => OpD (rEqU X.K) x y M2 Φ) : DE B X (.Compare a [.Eq] [b] pos) δ M Φ := de_cmp (op_eq.or (op_eqD (un64 z))) (nomark _) h
theorem de_ne {k : Nat} (z : Cz X k) (h : DE B X a δ M fun x M1 => DE B X b δ M1 fun y M2 => OpD (rNeU X.K) x y M2 Φ) : DE B X (.Compare a [.NotEq] [b] pos) δ M Φ := de_cmp (op_ne.or (op_neD (un64 z))) (nomark _) h
theorem dt_eq {k : Nat} (z : Cz X k) (h : DE B X a δ M fun x M1 => DE B X b δ M1 fun y M2 => OpD (rEqU X.K) x y M2 (toB ΦB)) : DT B X (.Compare a [.Eq] [b] pos) δ M ΦB := dt_cmp (op_eq.or (op_eqD (un64 z))) (nomark _) h
theorem dt_ne {k : Nat} (z : Cz X k) (h : DE B X a δ M fun x M1 => DE B X b δ M1 fun y M2 => OpD (rNeU X.K) x y M2 (toB ΦB)) : DT B X (.Compare a [.NotEq] [b] pos) δ M ΦB := dt_cmp (op_ne.or (op_neD (un64 z))) (nomark _) h
theorem od_eqI {K : PySem.W.Frag} {i j : Int} (k : Φ (.bl (decide (i = j))) M) : OpD (rEqU K) (.int i) (.int j) M Φ := .inl fun κ δ σ H v w Q R rv rw' h => by
  cases rv; cases rw'
  refine ⟨rfl, ?_⟩
  rw [show decide (V.int i = V.int j) = decide (i = j) by simp]
  exact h _ _ M H k R (.bl _)
theorem od_neI {K : PySem.W.Frag} {i j : Int} (k : Φ (.bl (!decide (i = j))) M) : OpD (rNeU K) (.int i) (.int j) M Φ := .inl fun κ δ σ H v w Q R rv rw' h => by
  cases rv; cases rw'
  refine ⟨rfl, ?_⟩
  rw [show decide (V.int i = V.int j) = decide (i = j) by simp]
  exact h _ _ M H k R (.bl _)
/-! is None -/
def isN : D → Bool
  | .non => true
  | .raw v => decide (v = .non)
  | _ => false
def rIsNU : R2 := fun x y H Q => y = .non ∧ Q (.bl (decide (x = .non))) H
def rNotNU : R2 := fun x y H Q => y = .non ∧ Q (.bl (!decide (x = .non))) H
theorem rep_isN {F : List Addr} {H : Hp} {v : V} {x : D} (r : Rep F H v x) : decide (v = .non) = isN x := by cases r <;> simp [isN]
theorem od_isN {x : D} (k : Φ (.bl (isN x)) M) : OpD rIsNU x .non M Φ := fun κ δ σ H v w Q R rv rw' h => by
  cases rw'
  refine ⟨rfl, ?_⟩
  rw [rep_isN rv]
  exact h _ _ M H k R (.bl _)
theorem od_notN {x : D} (k : Φ (.bl (!isN x)) M) : OpD rNotNU x .non M Φ := fun κ δ σ H v w Q R rv rw' h => by
  cases rw'
  refine ⟨rfl, ?_⟩
  rw [rep_isN rv]
  exact h _ _ M H k R (.bl _)
theorem de_is (h : DE B X a δ M fun x M1 => DE B X b δ M1 fun y M2 => OpD rIsNU x y M2 Φ) : DE B X (.Compare a [.Is] [b] pos) δ M Φ := de_cmp op_isN (nomark _) h
theorem de_isnot (h : DE B X a δ M fun x M1 => DE B X b δ M1 fun y M2 => OpD rNotNU x y M2 Φ) : DE B X (.Compare a [.IsNot] [b] pos) δ M Φ := de_cmp op_notN (nomark _) h
theorem dt_is (h : DE B X a δ M fun x M1 => DE B X b δ M1 fun y M2 => OpD rIsNU x y M2 (toB ΦB)) : DT B X (.Compare a [.Is] [b] pos) δ M ΦB := dt_cmp op_isN (nomark _) h
theorem dt_isnot (h : DE B X a δ M fun x M1 => DE B X b δ M1 fun y M2 => OpD rNotNU x y M2 (toB ΦB)) : DT B X (.Compare a [.IsNot] [b] pos) δ M ΦB := dt_cmp op_notN (nomark _) h
/-! tests -/
theorem dt_not (h : DT B X a δ M fun b M1 => ΦB (!b) M1) : DT B X (.UnaryOp .Not a pos) δ M ΦB := .of (pt_not cT) fun κ σ H Q hb R k => h κ σ H _ hb R fun b M1 H1 q R1 => k _ _ _ q R1
theorem dw_and1 (h : DT B X a δ M ΦB) : DW B X (.BoolOp .And [a] pos) δ M ΦB := .of (pw_and1 cT) h
theorem dw_or1 (h : DT B X a δ M ΦB) : DW B X (.BoolOp .Or [a] pos) δ M ΦB := .of (pw_or1 cT) h
theorem dw_and (h : DT B X a δ M fun t M1 => Br t (DW B X (.BoolOp .And (b :: rest) pos) δ M1 ΦB) (ΦB false M1)) : DW B X (.BoolOp .And (a :: b :: rest) pos) δ M ΦB := .of (pw_and cT cW) fun κ σ H Q hb R k => h κ σ H _ hb R fun t M1 H1 q R1 =>
  Br.ite ⟨fun e => q.1 e κ σ H1 Q hb R1 k, fun e => k _ _ _ (q.2 e) R1⟩
theorem dw_or (h : DT B X a δ M fun t M1 => Br t (ΦB true M1) (DW B X (.BoolOp .Or (b :: rest) pos) δ M1 ΦB)) : DW B X (.BoolOp .Or (a :: b :: rest) pos) δ M ΦB := .of (pw_or cT cW) fun κ σ H Q hb R k => h κ σ H _ hb R fun t M1 H1 q R1 =>
  Br.ite ⟨fun e => k _ _ _ (q.1 e) R1, fun e => q.2 e κ σ H1 Q hb R1 k⟩
theorem dt_and (h : DW B X (.BoolOp .And es pos) δ M ΦB) : DT B X (.BoolOp .And es pos) δ M ΦB := .w h
theorem dt_or (h : DW B X (.BoolOp .Or es pos) δ M ΦB) : DT B X (.BoolOp .Or es pos) δ M ΦB := .w h
/-- a truth that stands as a value -/
theorem dt_val (h : DE B X e δ M (toB ΦB)) (he : ∀ whole, isTrue e X.env whole = (do let v ← whole; standAt e.pos; holding [v] (truthy v)) := by intro _; rfl) : DT B X e δ M ΦB := .of (pt_val cE he) fun κ σ H Q hb R k => h κ σ H _ hb R fun v d M' H' ⟨b, e, q⟩ R' r => by
  subst e; cases r
  exact ⟨b, rfl, k b M' H' q R'⟩
/-! and, or, not as values -/
theorem de_one {op} (h : DE B X a δ M Φ) : DE B X (.BoolOp op [a] pos) δ M Φ := .of (pe_one cE) h
theorem de_and (h : DE B X a δ M (toB fun t M1 => Br t (DE B X (.BoolOp .And (b :: rest) pos) δ M1 Φ) (Φ (.bl false) M1))) : DE B X (.BoolOp .And (a :: b :: rest) pos) δ M Φ := .of (pe_and cE cE) fun κ σ H Q hb R k => h κ σ H _ hb R fun v d M1 H1 ⟨t, e, q⟩ R1 r => by
  subst e; cases r
  exact ⟨t, rfl, Br.ite ⟨fun e => q.1 e κ σ H1 Q hb R1 k, fun e => k _ _ _ _ (q.2 e) R1 (.bl _)⟩⟩
theorem de_or (h : DE B X a δ M (toB fun t M1 => Br t (Φ (.bl true) M1) (DE B X (.BoolOp .Or (b :: rest) pos) δ M1 Φ))) : DE B X (.BoolOp .Or (a :: b :: rest) pos) δ M Φ := .of (pe_or cE cE) fun κ σ H Q hb R k => h κ σ H _ hb R fun v d M1 H1 ⟨t, e, q⟩ R1 r => by
  subst e; cases r
  exact ⟨t, rfl, Br.ite ⟨fun e => k _ _ _ _ (q.1 e) R1 (.bl _), fun e => q.2 e κ σ H1 Q hb R1 k⟩⟩
theorem de_not (h : DE B X a δ M (toB fun t M1 => Φ (.bl (!t)) M1)) : DE B X (.UnaryOp .Not a pos) δ M Φ := .of (pe_not cE) fun κ σ H Q hb R k => h κ σ H _ hb R fun v d M1 H1 ⟨t, e, q⟩ R1 r => by
  subst e; cases r
  exact ⟨t, rfl, k _ _ _ _ q R1 (.bl _)⟩
theorem de_if (h : DT B X c δ M fun t M1 => Br t (DE B X a δ M1 Φ) (DE B X b δ M1 Φ)) : DE B X (.IfExp c a b pos) δ M Φ := .of (pe_ifExp cT cE cE) fun κ σ H Q hb R k => h κ σ H _ hb R fun t M1 H1 q R1 =>
  Br.ite ⟨fun e => q.1 e κ σ H1 Q hb R1 k, fun e => q.2 e κ σ H1 Q hb R1 k⟩
/-! arguments, displays -/
variable {ΦL : List D → Mem → Prop}
theorem da_nil (k : ΦL [] M) : DA B X [] δ M ΦL := .of pa_nil fun κ σ H Q hb R h => h _ _ M H k R .nil
theorem da_cons (h : DE B X a δ M fun x M1 => DA B X es δ M1 fun xs M2 => ΦL (x :: xs) M2) (hs : starEach (a :: es) X.env = (false, eval a X.env) :: starEach es X.env := by rfl) : DA B X (a :: es) δ M ΦL := .of (pa_cons cE cA hs) fun κ σ H Q hb R k =>
  h κ σ H _ hb R fun v x M1 H1 q1 R1 r1 => q1 ((v, x) :: κ) σ H1 _ (fun q hq => List.mem_cons_of_mem _ (hb q hq)) (R1.push r1) fun vs xs M2 H2 q2 R2 r2 => k _ _ _ _ q2 R2.pop (.cons R2.top r2)
theorem de_tup {x1} (h : DA B X es δ M fun xs M1 => xs.length ≤ sizeLine ∧ Φ (.tup xs) M1) : DE B X (.Tuple es x1 pos) δ M Φ := .of (pe_tup cA) fun κ σ H Q hb R k => h κ σ H _ hb R fun vs xs M1 H1 ⟨hl, q⟩ R1 r1 =>
  ⟨by rw [r1.length]; exact hl, fun p hp => let ⟨R2, r2⟩ := R1.tupV r1 hp; k _ _ _ _ q R2 r2⟩
theorem df_lst (h : DA B X es δ M fun xs M1 => xs.length ≤ sizeLine ∧ ΦL xs M1) : DF B X (.List es pos) δ M ΦL := .of (pe_lst cA) fun κ σ H Q hb R k => h κ σ H _ hb R fun vs xs M1 H1 ⟨hl, q⟩ R1 r1 =>
  ⟨by rw [r1.length]; exact hl, fun p hp => k p xs M1 _ q (R1.lst r1 hp)⟩
theorem DE.f (h : DF B X e δ M fun ds M' => Φ (.lst ds) M') : DE B X e δ M Φ := WE.ofF h
theorem de_lst (h : DA B X es δ M fun xs M1 => xs.length ≤ sizeLine ∧ Φ (.lst xs) M1) : DE B X (.List es pos) δ M Φ := .f (df_lst h)
/-! subscripts -/
def rDG : R2 := fun x y H Q => ∃ a v, x = .ref a ∧ DGet H a y (some v) ∧ Q v H
open PyProof.Rows in
theorem ix_dict (hu : X.A.units + 1 < cLine) : IxR X rDG := by
  intro value slice pins s σ H x y v u Q I rx ry h hs
  obtain ⟨a, w, rfl, g, q⟩ := h
  obtain rfl : v = Value.ref a := rx
  exact tail_any (dict_typeIs I g) PySem.F.slot_dict_getitem.lookup (d_getItem hu I g ry fun w' s' I' rw' => ⟨w, H, I', rw', q⟩) hs
def rIxU (K : PySem.W.Frag) : R2 := fun x y H Q => rIx K x y H Q ∨ rDG x y H Q
theorem de_ix {n : Nat} (z : Cz X n) (h : DE B X a δ M fun x M1 => DE B X b δ M1 fun y M2 => OpD (rIxU X.K) x y M2 Φ) (hs : PlainIx b := by intro _ _; rfl) : DE B X (.Subscript a b pos) δ M Φ := .of (pe_ix (ix_seq.or (ix_dict (un1 z))) cE cE hs) (.op h)
theorem at_rep {F : List Addr} {H : Hp} {vs : List V} {ds : List D} {i : Int} {d : D} (r : Reps F H vs ds) (h : atI ds i = some d) : ∃ v, atI vs i = some v ∧ Rep F H v d := by
  unfold atI at h ⊢
  rw [← r.length] at h
  cases e : ixN vs.length i with
  | none => rw [e] at h; cases h
  | some j =>
    rw [e] at h
    obtain ⟨v, e1, r1⟩ := r.get' (i := j) h
    exact ⟨v, e1, r1⟩
theorem od_ixL {K : PySem.W.Frag} {ds : List D} {i : Int} {d : D} (h : atI ds i = some d) (k : Φ d M) : OpD (rIxU K) (.lst ds) (.int i) M Φ := .inl fun κ δ σ H v w Q R rv rw' f => by
  cases rw'
  cases rv with
  | lst h1 e1 r1 =>
    obtain ⟨u, e2, r2⟩ := at_rep r1 h
    exact .inl ⟨_, _, i, u, rfl, rfl, SqL.of e1, e2, f _ _ M H k R r2⟩
theorem od_ixT {K : PySem.W.Frag} {ds : List D} {i : Int} {d : D} (h : atI ds i = some d) (k : Φ d M) : OpD (rIxU K) (.tup ds) (.int i) M Φ := .inl fun κ δ σ H v w Q R rv rw' f => by
  cases rw'
  cases rv with
  | tup h1 e1 r1 =>
    obtain ⟨u, e2, r2⟩ := at_rep r1 h
    exact .inr (.inl ⟨_, _, i, u, rfl, rfl, SqT.of e1, e2, f _ _ M H k R r2⟩)
theorem od_ixS {K : PySem.W.Frag} {z : Str} {i : Int} {c : Nat} (hl : z.length ≤ sizeLine) (h : atI z.cps.toList i = some c) (k : Φ (.str ⟨#[c]⟩) M) : OpD (rIxU K) (.str z) (.int i) M Φ := .inl fun κ δ σ H v w Q R rv rw' f => by
  cases rw'
  cases rv
  exact .inr (.inr ⟨z, i, c, rfl, rfl, hl, h, f _ _ M H k R (.str _)⟩)
/-- a list that is a cell -/
theorem od_ixC {K : PySem.W.Frag} {ds : List D} {i : Int} {d : D} {p : Addr} {j : Nat} (hm : M[j]? = some (p, .lst ds)) (h : atI ds i = some d) (k : Φ d M) : OpD (rIxU K) (.raw (.ref p)) (.int i) M Φ := .inl fun κ δ σ H v w Q R rv rw' f => by
  cases rw'
  cases rv
  obtain ⟨vs, e1, r1⟩ := R.at hm
  obtain ⟨u, e2, r2⟩ := at_rep r1 h
  exact .inl ⟨_, _, i, u, rfl, rfl, SqL.of e1, e2, f _ _ M H k R r2⟩
/-! dicts that are cells -/
def kD : Key → D
  | .inl i => .int i
  | .inr x => .str x
theorem rep_k {F : List Addr} {H : Hp} {v : V} {k : Key} (r : Rep F H v (kD k)) : v = kV k := by
  cases k with
  | inl i => cases (show Rep F H v (.int i) from r); rfl
  | inr x => cases (show Rep F H v (.str x) from r); rfl
def lookD (kvs : List (Key × D)) (k : Key) : Option D := (kvs.find? fun kv => decide (kv.1 = k)).map (·.2)
theorem look_rep {F : List Addr} {H : Hp} {k : Key} : ∀ {ws : List (Key × V)} {kvs : List (Key × D)}, ws.map (·.1) = kvs.map (·.1) → Reps F H (ws.map (·.2)) (kvs.map (·.2)) → ∀ {d : D}, lookD kvs k = some d → ∃ v, valV ws k = some v ∧ Rep F H v d
  | [], [], _, _, d, e => by cases e
  | [], _ :: _, h, _, _, _ => by cases h
  | _ :: _, [], h, _, _, _ => by cases h
  | (k1, v) :: ws, (k2, d') :: kvs, h, r, d, e => by
    have h1 : k1 = k2 := (List.cons.inj h).1
    have h2 : ws.map (·.1) = kvs.map (·.1) := (List.cons.inj h).2
    subst h1
    cases r with
    | cons r1 r2 =>
      unfold lookD at e
      unfold valV
      by_cases hk : k1 = k
      · rw [List.find?_cons_of_pos (by simpa using hk)] at e ⊢
        cases e
        exact ⟨v, rfl, r1⟩
      · rw [List.find?_cons_of_neg (by simpa using hk)] at e ⊢
        exact look_rep h2 r2 e
theorem od_ixD {K : PySem.W.Frag} {kvs : List (Key × D)} {k : Key} {y d : D} {p : Addr} (j : Nat) (hm : M[j]? = some (p, .dct kvs)) (hk : y = kD k) (h : lookD kvs k = some d) (q : Φ d M) : OpD (rIxU K) (.raw (.ref p)) y M Φ := .inr fun κ δ σ H v w Q R rv rw' f => by
  subst hk
  have := rep_k rw'
  subst this
  cases rv
  obtain ⟨ws, e1, e2, r⟩ := R.at hm
  obtain ⟨u, e3, r3⟩ := look_rep e2 r h
  exact ⟨p, u, rfl, .inl ⟨ws, k, .inl e1, rfl, e3.symm⟩, f _ _ M H q R r3⟩
end
end Hl
namespace Hl
open PySem L2
/-! ### statements -/
section
variable {B : Bx} {X : Cx} {e a b c : Expr} {es rest : List Expr} {st : Stmt} {sts : List Stmt} {δ δ' : Env'} {M : Mem} {Φ : D → Mem → Prop} {Ψ : DEnds} {te ta tb : TE} {tt : TT} {pos pos' : Pos} {d x y : D} {ΦB : Bool → Mem → Prop} {ΦL : List D → Mem → Prop}
theorem ds_nil (k : Ψ.nx δ M) : DSs B X [] δ M Ψ := .of pss_nil fun κ σ H E hb R h => h.nx δ M σ H k R
theorem ds_cons (h : DS B X st δ M { Ψ with nx := fun δ' M' => DSs B X sts δ' M' Ψ }) : DSs B X (st :: sts) δ M Ψ := .of (pss_cons cS cSs) fun κ σ H E hb R k =>
  h κ σ H _ hb R ⟨fun δ' M' σ' H' q R' => q κ σ' H' E hb R' k, k.rt, k.bk, k.ct⟩
theorem ds_one (h : DS B X st δ M Ψ) : DSs B X [st] δ M Ψ := .of (pss_one cS) h
theorem ds_pass (k : Ψ.nx δ M) : DS B X (.Pass pos) δ M Ψ := .of ps_pass fun κ σ H E hb R h => h.nx δ M σ H k R
theorem ds_break (k : Ψ.bk δ M) : DS B X (.Break pos) δ M Ψ := .of ps_break fun κ σ H E hb R h => h.bk δ M σ H k R
theorem ds_continue (k : Ψ.ct δ M) : DS B X (.Continue pos) δ M Ψ := .of ps_continue fun κ σ H E hb R h => h.ct δ M σ H k R
theorem ds_ret (h : DE B X e δ M Ψ.rt) : DS B X (.Return (some e) pos) δ M Ψ := .of (ps_ret cE) fun κ σ H E hb R k => h κ σ H _ hb R fun v d M' H' q R' r => k.rt v d M' δ σ H' q R' r
theorem ds_retN (k : Ψ.rt .non M) : DS B X (.Return none pos) δ M Ψ := .of ps_retN fun κ σ H E hb R h => h.rt .non .non M δ σ H k R .non
theorem ds_if {s1 s2 : List Stmt} (h : DT B X c δ M fun t M1 => Br t (DSs B X s1 δ M1 Ψ) (DSs B X s2 δ M1 Ψ)) : DS B X (.If c s1 s2 pos) δ M Ψ := .of (ps_if cT cSs cSs) fun κ σ H E hb R k => h κ σ H _ hb R fun t M1 H1 q R1 =>
  Br.ite ⟨fun e => q.1 e κ σ H1 E hb R1 k, fun e => q.2 e κ σ H1 E hb R1 k⟩
theorem ds_expr (h : DE B X e δ M fun _ M' => Ψ.nx δ M') (hs : swapsWith e none pos.line X.env = pure false := by rfl) : DS B X (.Expr e pos) δ M Ψ := .of (ps_expr cE hs) fun κ σ H E hb R k => h κ σ H _ hb R fun v d M' H' q R' r => k.nx _ _ _ _ q R'
/-- slot i holds d from now on -/
@[irreducible] def Sets (δ : Env') (i : Nat) (d : D) (P : Env' → Prop) : Prop := P (δ.set i (some d))
theorem Sets.get {i : Nat} {P : Env' → Prop} (h : Sets δ i d P) : P (δ.set i (some d)) := by unfold Sets at h; exact h
theorem Sets.of {i : Nat} {P : Env' → Prop} (h : P (δ.set i (some d))) : Sets δ i d P := by unfold Sets; exact h
/-- x = e -/
theorem ds_set {i : Nat} {x : Str} {n : Nat} (z : Cz X n) (l : Lo X i x) (h : DE B X e δ M fun d M' => Sets δ i d fun δ' => Ψ.nx δ' M') (hs : swapsWith e (some (.Name x pos')) pos.line X.env = pure false := by rfl) : DS B X (.Assign [.Name x pos'] e pos) δ M Ψ :=
  .of (ps_set z.nd l.at_ l.loc cE hs l.fn) fun κ σ H E hb R k => h κ σ H _ hb R fun v d M' H' q R' r => k.nx _ _ _ _ q.get (R'.put i r)
/-- x = a new list, that will change: a cell at place k -/
theorem ds_own {i : Nat} {x : Str} {n : Nat} (k : Nat) (z : Cz X n) (l : Lo X i x) (h : DF B X e δ M fun ds M' => ∀ p : Addr, Sets δ i (.raw (.ref p)) fun δ' => Ψ.nx δ' (insM k (p, .lst ds) M')) (hs : swapsWith e (some (.Name x pos')) pos.line X.env = pure false := by rfl) : DS B X (.Assign [.Name x pos'] e pos) δ M Ψ :=
  .of (ps_set z.nd l.at_ l.loc cE hs l.fn) fun κ σ H E hb R k => h κ σ H _ hb R fun p ds M' H' q R' => k.nx _ _ _ _ (q p).get ((R'.perm insM_perm).put i (.raw _))
/-- targets -/
theorem dg_name {i : Nat} {x : Str} {n : Nat} (z : Cz X n) (l : Lo X i x) {Φ : Env' → Mem → Prop} (k : Sets δ i d fun δ' => Φ δ' M) : DG B X (.Name x pos) d δ M Φ :=
  .of (pg_name z.nd l.at_ l.loc l.fn) fun κ σ H v Q hb R r h => h _ _ _ _ k.get (R.put i r)
theorem dgs_nil {Φ : Env' → Mem → Prop} (k : Φ δ M) : DGs B X [] [] δ M Φ := .of pgs_nil fun κ σ H vs Q hb R r h => by
  cases r
  exact ⟨rfl, h _ _ _ _ k R⟩
theorem dgs_cons {ds : List D} {Φ : Env' → Mem → Prop} (h : DG B X a d δ M fun δ' M' => DGs B X es ds δ' M' Φ) (hs : (assignEach (a :: es) X.env).map (·.2) = assign a X.env :: (assignEach es X.env).map (·.2) := by rfl) : DGs B X (a :: es) (d :: ds) δ M Φ :=
  .of (pgs_cons cG cGs hs) fun κ σ H vs Q hb R r k => by
    cases r with
    | cons r1 r2 =>
      rename_i v vs
      refine ⟨v, vs, rfl, ?_⟩
      -- the further values are held meanwhile
      have held : ∀ {κ : List (V × D)} {vs : List V} {ds : List D} {δ : Env'} {M : Mem} {σ : St} {H : Hp}, Reps M.F H vs ds → Rs κ δ M σ H → ∃ κ', (∀ q ∈ κ, q ∈ κ') ∧ Rs κ' δ M σ H ∧ ∀ {δ' : Env'} {M' : Mem} {σ' : St} {H' : Hp}, Rs κ' δ' M' σ' H' → Reps M'.F H' vs ds := by
        intro κ vs
        induction vs with
        | nil => intro ds δ M σ H r R; cases r; exact ⟨κ, fun _ h => h, R, fun _ => .nil⟩
        | cons v vs ih =>
          intro ds δ M σ H r R
          cases r with
          | cons r1 r2 =>
            obtain ⟨κ', h1, R', h2⟩ := ih r2 R
            rename_i d ds
            exact ⟨(v, d) :: κ', fun q hq => List.mem_cons_of_mem _ (h1 q hq), R'.push r1, fun R => .cons R.top (h2 R.pop)⟩
      obtain ⟨κ', hk, R', hr⟩ := held r2 R
      exact h κ' σ H v _ (fun q hq => hk q (hb q hq)) R' r1 fun δ' M' σ' H' q R2 => q κ σ' H' vs Q hb (R2.sub hk) (hr R2) k
theorem dg_tup {ds : List D} {kk : Nat} {m : Nat} {n : Nat} {Φ : Env' → Mem → Prop} (z : Cz X n) (hl : ds.length = m) (h : DGs B X es ds δ M Φ) (hn : (assignEach es X.env).length = m := by rfl) (hst : (assignEach es X.env).findIdx? (·.1) = none := by rfl) : DG B X (.Tuple es kk pos) (.tup ds) δ M Φ :=
  .of (pg_tup z.calm cGs hn hst) fun κ σ H v Q hb R r k => by
    cases r with
    | tup h1 e1 r1 => exact ⟨_, _, rfl, SqT.of e1, by rw [r1.length]; exact hl, h κ σ H _ Q hb R r1 k⟩
theorem ds_asg {tg : Expr} (h : DE B X e δ M fun d M' => DG B X tg d δ M' Ψ.nx) (hs : swapsWithSole [tg] e pos.line X.env = pure false := by rfl) (hw : swappedStores [tg] e X.env = pure none := by rfl) (h1 : (assignEach [tg] X.env).map (·.2) = [assign tg X.env] := by rfl) : DS B X (.Assign [tg] e pos) δ M Ψ :=
  .of (ps_asg cE cG hs hw h1) fun κ σ H E hb R k => h κ σ H _ hb R fun v d M' H' q R' r => q κ σ H' v _ hb R' r fun δ' M2 σ' H2 q2 R2 => k.nx _ _ _ _ q2 R2
/-- x op= e -/
theorem ds_aug {i : Nat} {x : Str} {n : Nat} {op : Operator} {r : TIp} (z : Cz X n) (l : Lo X i x) (ho : PIp X op r) (hd : δ[i]? = some (some d)) (h : DE B X e δ M fun y M' => OpD r d y M' fun v M2 => Sets δ i v fun δ' => Ψ.nx δ' M2) : DS B X (.AugAssign (.Name x pos') op e pos) δ M Ψ :=
  .of (ps_aug z.nd l.at_ l.loc cE ho l.fn) fun κ σ H E hb R k => by
    obtain ⟨v, e1, r1⟩ := R.get hd
    refine ⟨v, e1, h ((v, d) :: κ) σ H _ (fun q hq => List.mem_cons_of_mem _ (hb q hq)) (R.push r1) fun w y M' H' q R' r' => ?_⟩
    exact q κ δ σ H' v w _ R'.pop R'.top r' fun u du M2 H2 q2 R2 r2 => k.nx _ _ _ _ q2.get (R2.put i r2)
def rAddI : TIp := fun x y H Q => (rI0 fun i j => .int (i + j)) x y H Q ∨ rAddS x y H Q
theorem ip_add : PIp X .Add rAddI := (iop_add (X := X)).or (iop_add_str (X := X))
theorem oi_addI {i j : Int} (k : Φ (.int (i + j)) M) : OpD rAddI (.int i) (.int j) M Φ := (od_I0 (gd := fun i j => .int (i + j)) (fun _ _ => .int _) k).inl
theorem ip_sub : PIp X .Sub rSubU := iop_sub
theorem ds_augAdd {i : Nat} {x : Str} {n : Nat} (z : Cz X n) (l : Lo X i x) (hd : δ[i]? = some (some d)) (h : DE B X e δ M fun y M' => OpD rAddI d y M' fun v M2 => Sets δ i v fun δ' => Ψ.nx δ' M2) : DS B X (.AugAssign (.Name x pos') .Add e pos) δ M Ψ := ds_aug z l ip_add hd h
theorem ds_augSub {i : Nat} {x : Str} {n : Nat} (z : Cz X n) (l : Lo X i x) (hd : δ[i]? = some (some d)) (h : DE B X e δ M fun y M' => OpD rSubU d y M' fun v M2 => Sets δ i v fun δ' => Ψ.nx δ' M2) : DS B X (.AugAssign (.Name x pos') .Sub e pos) δ M Ψ := ds_aug z l ip_sub hd h
/-! ### what is walked -/
structure WalkD (κ : List (V × D)) (xs : List D) (J : It) : Prop where
  goes : ∀ i δ M σ H, i < xs.length → Rs κ δ M σ H → J.go i H
  stops : ∀ δ M σ H, Rs κ δ M σ H → J.stop xs.length H
  yields : ∀ i δ M σ H x H', i < xs.length → Rs κ δ M σ H → J.yld i H x H' → ∃ d, xs[i]? = some d ∧ Rs κ δ M σ H' ∧ Rep M.F H' x d
def WI (B : Bx) (wi : TI) (δ : Env') (M : Mem) (Φ : List D → Mem → Prop) : Prop := ∀ κ σ H R, (∀ q ∈ B.ps, q ∈ κ) → Rs κ δ M σ H → (∀ xs M' H' J κ', Φ xs M' → (∀ q ∈ κ, q ∈ κ') → Rs κ' δ M' σ H' → WalkD κ' xs J → R J H') → wi σ H R
def DI (B : Bx) (X : Cx) (tg iter : Expr) (δ : Env') (M : Mem) (Φ : List D → Mem → Prop) : Prop := ∃ wi, PI X tg iter wi ∧ WI B wi δ M Φ
theorem wd_range {κ : List (V × D)} {lo : Int} {n : Nat} : WalkD κ ((List.range n).map fun i => .int (lo + (i : Nat))) (Itr lo n) where
  goes := fun i δ M σ H hi R => by show i < n; simpa using hi
  stops := fun δ M σ H R => by show n ≤ _; simp
  yields := fun i δ M σ H x H' hi R y => by
    obtain ⟨rfl, rfl⟩ := y
    have hi : i < n := by simpa using hi
    exact ⟨.int (lo + (i : Nat)), by simp [hi], R, .int _⟩
def enumD (ds : List D) : List D := (List.range ds.length).map fun i => .tup [.int (i : Nat), ds.getD i .non]
variable {tg iter : Expr}
def rangeD (lo : Int) (n : Nat) : List D := (List.range n).map fun i => .int (lo + (i : Nat))
theorem di_range1 {p : Pos} (g : Gn X "range") (h : DE B X a δ M fun d M' => ∃ j, d = .int j ∧ -(2 ^ 62) ≤ j ∧ j < 2 ^ 62 ∧ ΦL (rangeD 0 j.toNat) M') (hs : starEach [a] X.env = [(false, eval a X.env)] := by rfl) : DI B X tg (.Call (.Name "range" p) [a] [] pos) δ M ΦL :=
  ⟨_, pi_range1 g.gl g.no (pa_cons cE pa_nil hs) hs, fun κ σ H R hb Rr k => h κ σ H _ hb Rr fun v d M1 H1 ⟨j, ed, h1, h2, q⟩ R1 r1 => by
    subst ed
    cases r1
    exact ⟨j, rfl, h1, h2, k _ M1 H1 _ κ q (fun _ h => h) R1 wd_range⟩⟩
/-! ### loops -/
theorem ds_for {body : List Stmt} {n : Nat} (z : Cz X n) (hp : PassesOwn (model X.prog X.w) X.A X.env X.xe)
    (h : DI B X tg iter δ M fun xs M' => ∃ Iv : Nat → Env' → Mem → Prop, Iv 0 δ M' ∧ (∀ i x δ M, xs[i]? = some x → Iv i δ M → DG B X tg x δ M fun δ' M' => DSs B X body δ' M' { Ψ with nx := Iv (i + 1), ct := Iv (i + 1), bk := Ψ.nx }) ∧ ∀ δ M, Iv xs.length δ M → Ψ.nx δ M)
    (hs : ∀ x, foldedSetIterable iter X.env x = pure x := by intro _; rfl) : DS B X (.For tg iter body [] pos) δ M Ψ := by
  obtain ⟨wi, pi, w⟩ := h
  refine .of (ps_for hp z.calm pi cG cSs hs) fun κ σ H E hb R k => ?_
  refine w κ σ H _ hb R fun xs M1 H1 J κ' ⟨Iv, h0, hst, hd⟩ hk R1 W => ?_
  refine ⟨fun i m σ H => m = xs.length - i ∧ i ≤ xs.length ∧ ∃ δ M, Iv i δ M ∧ Rs κ' δ M σ H, ⟨xs.length, by simp, Nat.zero_le _, δ, M1, h0, R1⟩, ?_⟩
  rintro i m σ H ⟨rfl, hi, δ, M, q, R⟩
  by_cases hlt : i < xs.length
  · refine .inr ⟨W.goes i δ M σ H hlt R, fun σ' H' => ∃ δ' M', Iv (i + 1) δ' M' ∧ Rs κ' δ' M' σ' H', fun σ' H' p' => ⟨xs.length - (i + 1), by omega, rfl, hlt, p'⟩, fun x H' y => ?_⟩
    obtain ⟨d, hd1, R2, r2⟩ := W.yields i δ M σ H x H' hlt R y
    refine hst i d δ M hd1 q κ' σ H' x _ (fun q hq => hk q (hb q hq)) R2 r2 fun δ2 M2 σ2 H2 q2 R3 => ?_
    exact q2 κ' σ2 H2 _ (fun q hq => hk q (hb q hq)) R3 ⟨fun δ3 M3 σ3 H3 q3 R4 => ⟨δ3, M3, q3, R4⟩, fun v d M δ σ H q R r => k.rt v d M δ σ H q (R.sub hk) r, fun δ M σ H q R => k.nx δ M σ H q (R.sub hk), fun δ3 M3 σ3 H3 q3 R4 => ⟨δ3, M3, q3, R4⟩⟩
  · have e : i = xs.length := by omega
    subst e
    exact .inl ⟨W.stops δ M σ H R, k.nx δ M σ H (hd δ M q) (R.sub hk)⟩
end
end Hl
namespace Hl
open PySem L2
/-! ### defs -/
abbrev DSp := List D → Mem → (D → Mem → Prop) → Prop
def lift (p : DSp) : Sp := fun vs H Q _ => ∃ κ ds M Φ, Rs κ [] M [] H ∧ Reps M.F H vs ds ∧ p ds M Φ ∧ ∀ v d M' H', Φ d M' → Rs κ [] M' [] H' → Rep M'.F H' v d → Q v H'
def sk : St → Env' → List (V × D)
  | some v :: σ, some d :: δ => (v, d) :: sk σ δ
  | _ :: σ, _ :: δ => sk σ δ
  | _, _ => []
section
variable {κ : List (V × D)} {δ : Env'} {M M' : Mem} {σ : St} {H H' : Hp}
theorem sk_rep {F : List Addr} {H : Hp} : ∀ {σ : St} {δ : Env'}, Paired (SlotOk F H) σ δ → ∀ q ∈ sk σ δ, Rep F H q.1 q.2
  | _, _, .nil => by intro q hq; simp [sk] at hq
  | some v :: σ, some d :: δ, .cons h t => by
    intro q hq
    rcases List.mem_cons.mp (show q ∈ (v, d) :: sk σ δ from hq) with rfl | hq
    · obtain ⟨v', e, r⟩ := h d rfl
      cases e; exact r
    · exact sk_rep t q hq
  | none :: σ, o :: δ, .cons h t => by
    intro q hq
    have : q ∈ sk σ δ := by cases o <;> exact hq
    exact sk_rep t q this
  | some v :: σ, none :: δ, .cons h t => by
    intro q hq
    exact sk_rep t q hq
theorem sk_back {F : List Addr} {H F' H'} : ∀ {σ : St} {δ : Env'}, Paired (SlotOk F H) σ δ → (∀ q ∈ sk σ δ, Rep F' H' q.1 q.2) → Paired (SlotOk F' H') σ δ
  | _, _, .nil, _ => .nil
  | some v :: σ, some d :: δ, .cons h t, k => .cons (fun d' e => by cases e; exact ⟨v, rfl, k (v, d) List.mem_cons_self⟩) (sk_back t fun q hq => k q (List.mem_cons_of_mem _ hq))
  | none :: σ, some d :: δ, .cons h t, k => by
    obtain ⟨v, e, _⟩ := h d rfl
    cases e
  | o :: σ, none :: δ, .cons h t, k => .cons (fun d' e => by cases e) (sk_back t fun q hq => k q (by cases o <;> exact hq))
theorem Rs.pack (R : Rs κ δ M σ H) : Rs (κ ++ sk σ δ) [] M [] H := ⟨fun q hq => by
  rcases List.mem_append.mp hq with h | h
  · exact R.kp q h
  · exact sk_rep R.sl q h, .nil, R.cl, R.nd⟩
theorem Rs.unpack (R : Rs κ δ M σ H) (R' : Rs (κ ++ sk σ δ) [] M' [] H') : Rs κ δ M' σ H' := ⟨fun q hq => R'.kp q (List.mem_append.mpr (.inl hq)), sk_back R.sl fun q hq => R'.kp q (List.mem_append.mpr (.inr hq)), R'.cl, R'.nd⟩
end
/-- a def of the module, with its promise -/
structure Def (P : Program) (w : World) (K : PySem.W.Frag) (mg : Str → Option Value) (base : Heap) (k : Nat) (x : Str) (ps : List Str) (p : DSp) : Prop where
  ex : ∃ f fd, mg x = some (.ref f) ∧ PySem.W.keepIn K (.ref f) = true ∧ Binds K fd ps [] ∧ FnOk P w K mg base CX0 k f fd ps (lift p)
abbrev DefX (X : Cx) := Def X.prog X.w X.K X.mg X.base
section
variable {B : Bx} {X : Cx} {e a b c : Expr} {es rest : List Expr} {st : Stmt} {sts : List Stmt} {δ δ' : Env'} {M : Mem} {Φ : D → Mem → Prop} {Ψ : DEnds} {te ta tb : TE} {tt : TT} {pos pos' : Pos} {d x y : D} {ΦB : Bool → Mem → Prop} {ΦL : List D → Mem → Prop}
theorem de_call {k n : Nat} {x : Str} {ps : List Str} {p : DSp} {pp : Pos} (z : Cz X n) (f : DefX X k x ps p) (hk : k ≤ n) (hg : Gl X x) (h : DA B X (e :: es) δ M fun ds M' => p ds M' Φ)
    (hdb : (x == ("__debug__" : Str)) = false := by decide) (he : starEach (e :: es) X.env = (false, eval e X.env) :: starEach es X.env := by rfl) (hpl : (backTo pos (starEach es X.env)).any (·.1) = false := by rfl) : DE B X (.Call (.Name x pp) (e :: es) [] pos) δ M Φ := by
  obtain ⟨fa, fd, h1, h2, h3, h4⟩ := f.ex
  refine .of (pe_call h4 (z.room.mono hk) hg h1 h2 h3 .nil pass0 cA hdb he hpl) fun κ σ H Q hb R k => h κ σ H _ hb R fun vs ds M1 H1 q R1 r1 => ?_
  rw [List.append_nil]
  exact ⟨κ ++ sk σ δ, ds, M1, Φ, R1.pack, r1, q, fun v d M2 H2 q2 R2 r2 => k v d M2 H2 q2 (R1.unpack R2) r2⟩
/-- what a def's body is to show -/
structure InDef (P : Program) (w : World) (K : PySem.W.Frag) (mg : Str → Option Value) (base : Heap) (N : List Str) (sc : Scope) (k : Nat) (X : Cx) : Prop where
  prog : X.prog = P
  wd : X.w = w
  K : X.K = K
  mg : X.mg = mg
  base : X.base = base
  N : X.N = N
  sc : X.env.scope = sc
  fn : X.fn = fun _ => true
  z : Cz X k
  xe : ∀ v s, ¬ X.xe v s
theorem passes_of {X : Cx} (h : ∀ v s, ¬ X.xe v s) : PassesOwn (model X.prog X.w) X.A X.env X.xe := by
  have : X.xe = fun _ _ => False := by
    funext v s
    exact propext ⟨fun z => (h v s z).elim, fun z => z.elim⟩
  rw [this]
  exact PassesOwn.never
/-- the slots at the entry -/
def startD (n : Nat) (ds : List D) : Env' := ds.map some ++ List.replicate (n - ds.length) none
theorem start_rs {κ : List (V × D)} {M : Mem} {H : Hp} {N : List Str} {vs : List V} {ds : List D} (R : Rs κ [] M [] H) (r : Reps M.F H vs ds) : Rs κ (startD N.length ds) M (L2.start N vs) H := by
  refine ⟨R.kp, ?_, R.cl, R.nd⟩
  unfold L2.start startD
  rw [r.length]
  have h1 : ∀ {vs : List V} {ds : List D}, Reps M.F H vs ds → ∀ n, Paired (SlotOk M.F H) (vs.map some ++ List.replicate n none) (ds.map some ++ List.replicate n none) := by
    intro vs
    induction vs with
    | nil =>
      intro ds r n
      cases r
      show Paired _ (List.replicate n none) (List.replicate n none)
      induction n with
      | zero => exact .nil
      | succ n ih => exact .cons (fun d e => by cases e) ih
    | cons v vs ih =>
      intro ds r n
      cases r with
      | cons r1 r2 => exact .cons (fun d e => by cases e; exact ⟨v, rfl, r1⟩) (ih r2 n)
  exact h1 r _
theorem erase_sub {M : Mem} {j : Nat} : (M.eraseIdx j).Sublist M := List.eraseIdx_sublist M j
theorem F_erase : ∀ {M : Mem} {j : Nat} {p : Addr} {c : Cell}, M.F.Nodup → M[j]? = some (p, c) → p ∉ Mem.F (M.eraseIdx j)
  | [], _, _, _, _, e => by simp at e
  | q :: M, 0, p, c, n, e => by
    have : q = (p, c) := by simpa using e
    subst this
    have n : (own p c ++ Mem.F M).Nodup := n
    intro z
    exact (List.nodup_append.mp n).2.2 p (by cases c <;> simp [own]) p z rfl
  | q :: M, j + 1, p, c, n, e => by
    have n : (own q.1 q.2 ++ Mem.F M).Nodup := n
    show p ∉ own q.1 q.2 ++ Mem.F (M.eraseIdx j)
    intro z
    rcases List.mem_append.mp z with z | z
    · exact (List.nodup_append.mp n).2.2 p z p (List.mem_flatMap.mpr ⟨(p, c), List.mem_of_getElem? (by simpa using e), by cases c <;> simp [own]⟩) rfl
    · exact F_erase (List.nodup_append.mp n).2.1 (by simpa using e) z
theorem Rs.frz {κ : List (V × D)} {σ : St} {H : Hp} {j : Nat} {p : Addr} {ds : List D} (R : Rs κ δ M σ H) (e : M[j]? = some (p, .lst ds)) : Rs κ δ (M.eraseIdx j) σ H ∧ Rep (Mem.F (M.eraseIdx j)) H (.ref p) (.lst ds) := by
  obtain ⟨vs, h1, h2⟩ := R.at e
  exact ⟨R.less erase_sub, .lst (F_erase R.nd e) h1 (h2.fwd (Fwd.less fun x hx => (F_sub erase_sub).subset hx))⟩
theorem Rs.frzO {κ : List (V × D)} {σ : St} {H : Hp} {j : Nat} {p C : Addr} {ns : List Str} {ds : List D} (R : Rs κ δ M σ H) (e : M[j]? = some (p, .obj C ns ds)) : Rs κ δ (M.eraseIdx j) σ H ∧ Rep (Mem.F (M.eraseIdx j)) H (.ref p) (.obj C ns ds) := by
  obtain ⟨dx, vs, h1, hl, h2⟩ := R.at e
  exact ⟨R.less erase_sub, .obj (F_erase R.nd e) h1 hl (h2.fwd (Fwd.less fun x hx => (F_sub erase_sub).subset hx))⟩
/-- behind a return the state may be looked at otherwise -/
def Vw (d : D) (M : Mem) (d2 : D) (M2 : Mem) : Prop := ∀ κ δ σ H v, Rs κ δ M σ H → Rep M.F H v d → Rs κ δ M2 σ H ∧ Rep M2.F H v d2
theorem Vw.refl {d : D} {M : Mem} : Vw d M d M := fun _ _ _ _ _ R r => ⟨R, r⟩
theorem Vw.trans {d d1 d2 : D} {M M1 M2 : Mem} (h1 : Vw d M d1 M1) (h2 : Vw d1 M1 d2 M2) : Vw d M d2 M2 := fun κ δ σ H v R r => let ⟨R1, r1⟩ := h1 κ δ σ H v R r; h2 κ δ σ H v R1 r1
theorem Vw.sub {d : D} {M M2 : Mem} (h : M2.Sublist M) : Vw d M d M2 := fun _ _ _ _ _ R r => ⟨R.less h, r.fwd (Fwd.less fun x hx => (F_sub h).subset hx)⟩
theorem Vw.perm {d : D} {M M2 : Mem} (h : M.Perm M2) : Vw d M d M2 := fun _ _ _ _ _ R r => ⟨R.perm h, r.fwd (Fwd.less fun x hx => (F_perm h).mem_iff.mpr hx)⟩
theorem Vw.frz {p : Addr} {M : Mem} {ds : List D} (j : Nat) (e : M[j]? = some (p, .lst ds)) : Vw (.raw (.ref p)) M (.lst ds) (M.eraseIdx j) := fun _ _ _ _ _ R r => by
  cases r
  exact R.frz e
theorem Vw.frzO {p C : Addr} {ns : List Str} {M : Mem} {ds : List D} (j : Nat) (e : M[j]? = some (p, .obj C ns ds)) : Vw (.raw (.ref p)) M (.obj C ns ds) (M.eraseIdx j) := fun _ _ _ _ _ R r => by
  cases r
  exact R.frzO e
theorem fnok_of {P : Program} {w : World} {K : PySem.W.Frag} {mg : Str → Option Value} {base : Heap} {x qual : Str} {st : Stmt} {f : Addr} {fd : FuncData} {N ps : List Str} {k : Nat} {p : DSp} (F : Fun K x qual st f fd) (S : FnScope N ps (defScope st))
    (len : ∀ ds M Φ, p ds M Φ → ds.length = ps.length)
    (h : ∀ X B, InDef P w K mg base N (defScope st) k X → ∀ ds M Φ, p ds M Φ → DSs B X (defBody st) (startD N.length ds) M { nx := fun _ M' => ∃ d2 M2, Vw .non M' d2 M2 ∧ Φ d2 M2, rt := fun d M' => ∃ d2 M2, Vw d M' d2 M2 ∧ Φ d2 M2 }) : FnOk P w K mg base CX0 (k + 1) f fd ps (lift p) := by
  refine F.ok S (fun vs H Q E hl => ?_) fun cdv A outer s H vs Q E hr hl => ?_
  · obtain ⟨κ, ds, M, Φ, R, r, q, _⟩ := hl
    rw [r.length]; exact len ds M Φ q
  · obtain ⟨κ, ds, M, Φ, R, r, q, kk⟩ := hl
    refine ⟨_, cSs, ?_⟩
    refine h _ (B0 κ) ⟨rfl, rfl, rfl, rfl, rfl, rfl, rfl, rfl, ⟨S.nd, rfl, hr⟩, fun _ _ z => z⟩ ds M Φ q κ _ H _ (fun _ h => h) (start_rs R r) ⟨fun δ M' σ H' ⟨d2, M2, h1, h2⟩ R' => ?_, fun v d M' δ σ H' ⟨d2, M2, h1, h2⟩ R' r' => ?_, fun _ _ _ _ z => z.elim, fun _ _ _ _ z => z.elim⟩
    · obtain ⟨R2, r2⟩ := h1 _ _ _ _ _ R' .non
      exact kk .non d2 M2 H' h2 ⟨R2.kp, .nil, R2.cl, R2.nd⟩ r2
    · obtain ⟨R2, r2⟩ := h1 _ _ _ _ _ R' r'
      exact kk v d2 M2 H' h2 ⟨R2.kp, .nil, R2.cl, R2.nd⟩ r2
/-! names of a def's body -/
def visB (sc : Scope) (x : Str) : Bool := match sc.names.lookup x with
  | some .local => true
  | some .cell => true
  | some .free => true
  | _ => false
def locB (sc : Scope) (x : Str) : Bool := match sc.names.lookup x with
  | some .local => true
  | some .cell => true
  | _ => false
def nmB (N : List Str) (sc : Scope) (i : Nat) (x : Str) : Bool := decide (N[i]? = some x) && visB sc x && !(x == ("__debug__" : Str)) && !(x == ("__classdict__" : Str))
theorem vis_of {sc : Scope} {x : Str} (h : visB sc x = true) : Vis sc x := by
  unfold visB at h
  unfold Vis
  split at h
  · next e => exact .inl e
  · next e => exact .inr (.inl e)
  · next e => exact .inr (.inr e)
  · cases h
theorem loc_of {sc : Scope} {x : Str} (h : locB sc x = true) : L2.Loc sc x := by
  unfold locB at h
  unfold L2.Loc
  split at h
  · next e => exact .inl e
  · next e => exact .inr e
  · cases h
theorem nm_of {N : List Str} {sc : Scope} {i : Nat} {x : Str} (hN : X.N = N) (hs : X.env.scope = sc) (h : nmB N sc i x = true) : Nm X i x := by
  unfold nmB at h
  simp only [Bool.and_eq_true, decide_eq_true_eq, Bool.not_eq_true'] at h
  exact ⟨by rw [hN]; exact h.1.1.1, by rw [hs]; exact vis_of h.1.1.2, h.1.2, h.2⟩
theorem lo_of {N : List Str} {sc : Scope} {i : Nat} {x : Str} (hN : X.N = N) (hs : X.env.scope = sc) (hf : X.fn = fun _ => true) (h : (nmB N sc i x && locB sc x) = true) : Lo X i x := by
  rw [Bool.and_eq_true] at h
  exact ⟨nm_of hN hs h.1, by rw [hs]; exact loc_of h.2, .inl (by rw [hf])⟩
theorem gl_of {sc : Scope} {x : Str} (hs : X.env.scope = sc) (h : sc.names.lookup x = some .globalImplicit) : Gl X x := by
  unfold Gl Env.kindOf
  rw [hs]; exact h
theorem gn_of {sc : Scope} {x : Str} (hs : X.env.scope = sc) (h : sc.names.lookup x = some .globalImplicit) (hm : X.mg x = none) : Gn X x := ⟨gl_of hs h, hm⟩
/-! another view of the same state -/
theorem WS.view {ts : TS} {M' : Mem} (h : WS B ts δ' M' Ψ) (v : ∀ κ σ H, Rs κ δ M σ H → Rs κ δ' M' σ H) : WS B ts δ M Ψ := fun κ σ H E hb R k => h κ σ H E hb (v κ σ H R) k
/-- a slot's list changes no more -/
theorem freeze {κ : List (V × D)} {σ : St} {H : Hp} {i j : Nat} {p : Addr} {ds : List D} (hi : δ[i]? = some (some (.raw (.ref p)))) (hj : M[j]? = some (p, .lst ds)) (R : Rs κ δ M σ H) : Rs κ (δ.set i (some (.lst ds))) (M.eraseIdx j) σ H := by
  obtain ⟨R1, r1⟩ := R.frz hj
  obtain ⟨v, e, r⟩ := R1.get hi
  cases r
  have := R1.put i r1
  rw [show σ.set i (some (V.ref p)) = σ from by
    apply List.ext_getElem?
    intro n
    by_cases hn : i = n
    · subst hn
      rw [List.getElem?_set_self (List.getElem?_eq_some_iff.mp e).1, e]
    · rw [List.getElem?_set_ne hn]] at this
  exact this
theorem ws_frz {ts : TS} (i j : Nat) {p : Addr} {ds : List D} (hi : δ[i]? = some (some (.raw (.ref p)))) (hj : M[j]? = some (p, .lst ds)) (h : WS B ts (δ.set i (some (.lst ds))) (M.eraseIdx j) Ψ) : WS B ts δ M Ψ := h.view fun κ σ H R => freeze hi hj R
/-! ### built-ins -/
end
end Hl
namespace Hl
open PySem L2
section
variable {B : Bx} {X : Cx} {e a b c o : Expr} {es rest : List Expr} {st : Stmt} {sts : List Stmt} {δ δ' : Env'} {M : Mem} {Φ : D → Mem → Prop} {Ψ : DEnds} {te ta tb : TE} {tt : TT} {pos pos' apos : Pos} {d x y : D} {ΦB : Bool → Mem → Prop} {ΦL : List D → Mem → Prop}
/-! ### stores into cells -/
def putD (kvs : List (Key × D)) (k : Key) (d : D) : List (Key × D) :=
  if (kvs.any fun kv => decide (kv.1 = k)) = true then kvs.map (fun kv => if kv.1 = k then (kv.1, d) else kv) else kvs ++ [(k, d)]
theorem put_keys {k : Key} {v : V} {d : D} {ws : List (Key × V)} {kvs : List (Key × D)} (h : ws.map (·.1) = kvs.map (·.1)) : (putK ws k v).map (·.1) = (putD kvs k d).map (·.1) := by
  have h1 : (ws.any fun kv => decide (kv.1 = k)) = (kvs.any fun kv => decide (kv.1 = k)) := by
    have e1 : (ws.any fun kv => decide (kv.1 = k)) = (ws.map (·.1)).any fun q => decide (q = k) := by rw [List.any_map]; rfl
    have e2 : (kvs.any fun kv => decide (kv.1 = k)) = (kvs.map (·.1)).any fun q => decide (q = k) := by rw [List.any_map]; rfl
    rw [e1, e2, h]
  unfold putK putD
  rw [h1]
  split
  · have a1 : ∀ (ws : List (Key × V)), (ws.map (fun kv => if kv.1 = k then (kv.1, v) else kv)).map (·.1) = ws.map (·.1) := fun ws => by
      rw [List.map_map]; apply List.map_congr_left; intro q _; show (if q.1 = k then (q.1, v) else q).1 = q.1; split <;> rfl
    have a2 : ∀ (ws : List (Key × D)), (ws.map (fun kv => if kv.1 = k then (kv.1, d) else kv)).map (·.1) = ws.map (·.1) := fun ws => by
      rw [List.map_map]; apply List.map_congr_left; intro q _; show (if q.1 = k then (q.1, d) else q).1 = q.1; split <;> rfl
    rw [a1, a2, h]
  · rw [List.map_append, List.map_append, h]; rfl
theorem put_vals {F : List Addr} {H : Hp} {k : Key} {v : V} {d : D} (r : Rep F H v d) {ws : List (Key × V)} {kvs : List (Key × D)} (h : ws.map (·.1) = kvs.map (·.1)) (rs : Reps F H (ws.map (·.2)) (kvs.map (·.2))) : Reps F H ((putK ws k v).map (·.2)) ((putD kvs k d).map (·.2)) := by
  have h1 : (ws.any fun kv => decide (kv.1 = k)) = (kvs.any fun kv => decide (kv.1 = k)) := by
    have e1 : (ws.any fun kv => decide (kv.1 = k)) = (ws.map (·.1)).any fun q => decide (q = k) := by rw [List.any_map]; rfl
    have e2 : (kvs.any fun kv => decide (kv.1 = k)) = (kvs.map (·.1)).any fun q => decide (q = k) := by rw [List.any_map]; rfl
    rw [e1, e2, h]
  unfold putK putD
  rw [h1]
  split
  · clear h1
    have : ∀ {ws : List (Key × V)} {kvs : List (Key × D)}, ws.map (·.1) = kvs.map (·.1) → Reps F H (ws.map (·.2)) (kvs.map (·.2)) → Reps F H ((ws.map (fun kv => if kv.1 = k then (kv.1, v) else kv)).map (·.2)) ((kvs.map (fun kv => if kv.1 = k then (kv.1, d) else kv)).map (·.2)) := by
      intro ws
      induction ws with
      | nil => intro kvs h r; cases kvs with
        | nil => exact .nil
        | cons _ _ => cases h
      | cons q ws ih =>
        intro kvs h r1
        cases kvs with
        | nil => cases h
        | cons q' kvs =>
          have e1 : q.1 = q'.1 := (List.cons.inj h).1
          have e2 : ws.map (·.1) = kvs.map (·.1) := (List.cons.inj h).2
          cases r1 with
          | cons r1 r2 =>
            refine .cons ?_ (ih e2 r2)
            show Rep F H (if q.1 = k then (q.1, v) else q).2 (if q'.1 = k then (q'.1, d) else q').2
            rw [e1]
            split
            · exact r
            · exact r1
    exact this h rs
  · rw [List.map_append, List.map_append]
    exact rs.append (.cons r .nil)
def tsetU : TSet := fun o i v H Q => rSetL o i v H Q ∨ rSetD o i v H Q
theorem set_U {n : Nat} (z : Cz X n) : PSet X tsetU := by
  intro pins s σ H o i v ov iv u Q I ro ri rv h
  rcases h with h | h
  · exact set_list pins s σ H o i v ov iv u Q I ro ri rv h
  · exact set_dict (un1 z) pins s σ H o i v ov iv u Q I ro ri rv h
/-- o[i] = v, by data -/
def SetD (o i v : D) (M : Mem) (Φ : Mem → Prop) : Prop := ∀ κ (δ : Env') σ H vo vi vv Q, Rs κ δ M σ H → Rep M.F H vo o → Rep M.F H vi i → Rep M.F H vv v → (∀ M' H', Φ M' → Rs κ δ M' σ H' → Q H') → tsetU vo vi vv H Q
theorem dg_sub {n : Nat} (z : Cz X n) {Φ : Env' → Mem → Prop} (h : DE B X o δ M fun x M1 => DE B X b δ M1 fun y M2 => SetD x y d M2 fun M3 => Φ δ M3)
    (ha : ∀ v, assign (.Subscript o b pos) X.env v = (do
      let ov ← holding [v] (eval o X.env)
      let iv ← holding [v, ov] (eval b X.env)
      standAt pos
      holding [v, ov, iv] (setItem ov iv v)
      release [v, ov, iv] []) := by intro _; rfl) : DG B X (.Subscript o b pos) d δ M Φ := .of (pg_sub cE cE (set_U z) ha) fun κ σ H v Q hb R r k =>
  h ((v, d) :: κ) σ H _ (fun q hq => List.mem_cons_of_mem _ (hb q hq)) (R.push r) fun vo x M1 H1 q1 R1 r1 => q1 ((vo, x) :: (v, d) :: κ) σ H1 _ (fun q hq => List.mem_cons_of_mem _ (List.mem_cons_of_mem _ (hb q hq))) (R1.push r1) fun vi y M2 H2 q2 R2 r2 =>
    q2 κ δ σ H2 vo vi v _ R2.pop.pop R2.top r2 R2.pop.top fun M3 H3 q3 R3 => k _ _ _ _ q3 R3
theorem sd_list {j : Nat} {p : Addr} {ds : List D} {i : Int} {m : Nat} {Φ : Mem → Prop} (hm : M[j]? = some (p, .lst ds)) (hi : ixN ds.length i = some m) (k : Φ (M.set j (p, .lst (ds.set m d)))) : SetD (.raw (.ref p)) (.int i) d M Φ := fun κ δ σ H vo vi vv Q R r1 r2 r3 h => by
  cases r1; cases r2
  obtain ⟨vs, e1, rs⟩ := R.at hm
  refine .inl ⟨p, vs, i, m, rfl, rfl, e1, by rw [rs.length]; exact hi, h _ _ k ?_⟩
  have hp : ∀ x, x ∉ M.F → upd H p (.lst (vs.set m vv)) x = H x := fun x hx => upd_ne fun z => hx (z ▸ R.mem hm p (by simp [own]))
  exact R.cell hm rfl (fun x hx => upd_ne (by simpa [own] using hx)) ⟨_, upd_same, (rs.set r3 m).fwd (Fwd.same hp)⟩
theorem sd_dict {p : Addr} {kvs : List (Key × D)} {k : Key} {Φ : Mem → Prop} (j : Nat) (hm : M[j]? = some (p, .dct kvs)) (hk : y = kD k) (hl : kvs.length < sizeLine) (q : Φ (M.set j (p, .dct (putD kvs k d)))) : SetD (.raw (.ref p)) y d M Φ := fun κ δ σ H vo vi vv Q R r1 r2 r3 h => by
  subst hk
  have := rep_k r2
  subst this
  cases r1
  obtain ⟨ws, e1, e2, rs⟩ := R.at hm
  have el : ws.length = kvs.length := by simpa using congrArg List.length e2
  refine .inr ⟨p, _, rfl, .inl ⟨ws, k, e1, rfl, by rw [el]; exact hl, rfl⟩, h _ _ q ?_⟩
  have hp : ∀ x, x ∉ M.F → upd H p (.dK (putK ws k vv)) x = H x := fun x hx => upd_ne fun z => hx (z ▸ R.mem hm p (by simp [own]))
  exact R.cell hm rfl (fun x hx => upd_ne (by simpa [own] using hx)) ⟨_, upd_same, put_keys e2, (put_vals r3 e2 rs).fwd (Fwd.same hp)⟩
/-! ### methods of lists that are cells -/
def MtD (K : PySem.W.Frag) (T : String) (r : V → List V → Hp → VK → Prop) (x : D) (ds : List D) (M : Mem) (Φ : D → Mem → Prop) : Prop := ∀ κ (δ : Env') σ H v vs Q, Rs κ δ M σ H → Rep M.F H v x → Reps M.F H vs ds → (∀ u d M' H', Φ d M' → Rs κ δ M' σ H' → Rep M'.F H' u d → Q u H') → r v vs H Q
/-- a list, by data -/
inductive IsL (M : Mem) : D → List D → Prop
  | val (ds : List D) : IsL M (.lst ds) ds
  | cell {p : Addr} {ds : List D} (j : Nat) (h : M[j]? = some (p, .lst ds)) : IsL M (.raw (.ref p)) ds
  | inm {p : Addr} {ds : List D} (h : InM M p (.lst ds)) : IsL M (.raw (.ref p)) ds
theorem IsL.sq {κ : List (V × D)} {σ : St} {H : Hp} {v : V} {x : D} {ds : List D} (h : IsL M x ds) (R : Rs κ δ M σ H) (r : Rep M.F H v x) : ∃ p vs, v = .ref p ∧ H p = some (.lst vs) ∧ Reps M.F H vs ds := by
  cases h with
  | val ds => cases r with | lst h1 e1 r1 => exact ⟨_, _, rfl, e1, r1⟩
  | cell j h =>
    cases r
    obtain ⟨vs, e1, r1⟩ := R.at h
    exact ⟨_, vs, rfl, e1, r1⟩
  | inm h =>
    cases r
    obtain ⟨vs, e1, r1⟩ := h.ok R
    exact ⟨_, vs, rfl, e1, r1⟩
theorem de_bml {name : Str} {id : String} {r : V → List V → Hp → VK → Prop} {cpos : Pos} (slot : Slot "list" name id) (hty : typeOf (.builtin id) = pure (.type "method_descriptor")) (hm : MtR X id r)
    (h : DE B X o δ M fun x M1 => (∃ ds, IsL M1 x ds) ∧ DA B X (e :: es) δ M1 fun ys M2 => MtD X.K "list" r x ys M2 Φ)
    (hbase : attributeBase o name X.env (eval o X.env) = eval o X.env := by rfl)
    (hfew : ((backTo cpos (starEach (e :: es) X.env)).all (fun x => !x.1) && (backToKw cpos (keywordEach [] X.env)).all (fun x => x.1.isSome)
      && decide ((e :: es).length + ([] : List Keyword).length + (if ([] : List Keyword).isEmpty then 0 else 1) < 30)) = true := by rfl)
    (hline : (apos.endLine == cpos.line) = true := by rfl) (hs : starEach (e :: es) X.env = (false, eval e X.env) :: starEach es X.env := by rfl) (hplain : (backTo cpos (starEach es X.env)).any (·.1) = false := by rfl) :
    DE B X (.Call (.Attribute o name apos) (e :: es) [] cpos) δ M Φ := .of (pe_bm PySem.F.plainAttrs_list slot hty hm cE cA hbase hfew hline hs hplain) fun κ σ H Q hb R k =>
  h κ σ H _ hb R fun v x M1 H1 ⟨⟨ds, il⟩, q⟩ R1 r1 => by
    obtain ⟨p, vs, ev, e1, rr⟩ := il.sq R1 r1
    refine ⟨by subst ev; exact .inl ⟨rfl, vs, SqL.of e1⟩, ?_⟩
    exact q ((v, x) :: κ) σ H1 _ (fun q hq => List.mem_cons_of_mem _ (hb q hq)) (R1.push r1) fun vs ys M2 H2 q2 R2 r2 => q2 κ δ σ H2 v vs Q R2.pop R2.top r2 k
theorem de_append {cpos : Pos} (h : DE B X o δ M fun x M1 => (∃ ds, IsL M1 x ds) ∧ DA B X [a] δ M1 fun ys M2 => MtD X.K "list" rAppend x ys M2 Φ)
    (hbase : attributeBase o "append" X.env (eval o X.env) = eval o X.env := by rfl)
    (hfew : ((backTo cpos (starEach [a] X.env)).all (fun x => !x.1) && (backToKw cpos (keywordEach [] X.env)).all (fun x => x.1.isSome)
      && decide (([a] : List Expr).length + ([] : List Keyword).length + (if ([] : List Keyword).isEmpty then 0 else 1) < 30)) = true := by rfl)
    (hline : (apos.endLine == cpos.line) = true := by rfl) (hs : starEach [a] X.env = (false, eval a X.env) :: starEach [] X.env := by rfl) (hplain : (backTo cpos (starEach [] X.env)).any (·.1) = false := by rfl) :
    DE B X (.Call (.Attribute o "append" apos) [a] [] cpos) δ M Φ := de_bml PySem.F.slot_list_append PySem.F.type_list_append mt_append h hbase hfew hline hs hplain
theorem mt_app {K : PySem.W.Frag} {j : Nat} {p : Addr} {ds : List D} (hm : M[j]? = some (p, .lst ds)) (hl : ds.length < sizeLine) (k : Φ .non (M.set j (p, .lst (ds ++ [d])))) : MtD K "list" rAppend (.raw (.ref p)) [d] M Φ := fun κ δ σ H v vs Q R rv rs h => by
  cases rv
  cases rs with
  | cons r1 r2 =>
    cases r2
    obtain ⟨vs, e1, rr⟩ := R.at hm
    rename_i u
    refine ⟨p, vs, u, rfl, rfl, e1, by rw [rr.length]; exact hl, h _ _ _ _ k ?_ .non⟩
    have hp : ∀ x, x ∉ M.F → upd H p (.lst (vs ++ [u])) x = H x := fun x hx => upd_ne fun z => hx (z ▸ R.mem hm p (by simp [own]))
    exact R.cell hm rfl (fun x hx => upd_ne (by simpa [own] using hx)) ⟨_, upd_same, (rr.append (.cons r1 .nil)).fwd (Fwd.same hp)⟩
theorem de_pop {cpos : Pos} (h : DE B X o δ M fun x M1 => (∃ ds, IsL M1 x ds) ∧ DA B X [a] δ M1 fun ys M2 => MtD X.K "list" rPopAt x ys M2 Φ)
    (hbase : attributeBase o "pop" X.env (eval o X.env) = eval o X.env := by rfl)
    (hfew : ((backTo cpos (starEach [a] X.env)).all (fun x => !x.1) && (backToKw cpos (keywordEach [] X.env)).all (fun x => x.1.isSome)
      && decide (([a] : List Expr).length + ([] : List Keyword).length + (if ([] : List Keyword).isEmpty then 0 else 1) < 30)) = true := by rfl)
    (hline : (apos.endLine == cpos.line) = true := by rfl) (hs : starEach [a] X.env = (false, eval a X.env) :: starEach [] X.env := by rfl) (hplain : (backTo cpos (starEach [] X.env)).any (·.1) = false := by rfl) :
    DE B X (.Call (.Attribute o "pop" apos) [a] [] cpos) δ M Φ := de_bml PySem.F.slot_list_pop PySem.F.type_list_pop mt_popAt h hbase hfew hline hs hplain
theorem mt_popD {K : PySem.W.Frag} {j m : Nat} {p : Addr} {ds : List D} {i : Int} (hm : M[j]? = some (p, .lst ds)) (h1 : -(2 ^ 63) ≤ i) (h2 : i < 2 ^ 63) (hi : seqIndex? i ds.length = some m) (hd : ds[m]? = some d) (k : Φ d (M.set j (p, .lst (ds.eraseIdx m)))) : MtD K "list" rPopAt (.raw (.ref p)) [.int i] M Φ := fun κ δ σ H v vs Q R rv rs h => by
  cases rv
  cases rs with
  | cons r1 r2 =>
    cases r2
    cases r1
    obtain ⟨vs, e1, rr⟩ := R.at hm
    obtain ⟨u, e2, ru⟩ := rr.get' hd
    have hp : ∀ x, x ∉ M.F → upd H p (.lst (vs.eraseIdx m)) x = H x := fun x hx => upd_ne fun z => hx (z ▸ R.mem hm p (by simp [own]))
    refine ⟨p, vs, i, m, u, rfl, rfl, e1, h1, h2, by rw [rr.length]; exact hi, e2, h _ _ _ _ k ?_ ?_⟩
    · exact R.cell hm rfl (fun x hx => upd_ne (by simpa [own] using hx)) ⟨_, upd_same, (rr.erase m).fwd (Fwd.same hp)⟩
    · rw [F_set (c' := .lst (ds.eraseIdx m)) hm rfl]
      exact ru.fwd (Fwd.same hp)
/-! ### built-in functions -/
def CallD (r : List V → Hp → VK → Prop) (ds : List D) (M : Mem) (Φ : D → Mem → Prop) : Prop := ∀ κ (δ : Env') σ H vs Q, Rs κ δ M σ H → Reps M.F H vs ds → (∀ v d M' H', Φ d M' → Rs κ δ M' σ H' → Rep M'.F H' v d → Q v H') → r vs H Q
theorem CallD.inl {r r' : List V → Hp → VK → Prop} {ds : List D} (h : CallD r ds M Φ) : CallD (fun vs H Q => r vs H Q ∨ r' vs H Q) ds M Φ := fun κ δ σ H vs Q R rs k => .inl (h κ δ σ H vs Q R rs k)
theorem CallD.inr {r r' : List V → Hp → VK → Prop} {ds : List D} (h : CallD r' ds M Φ) : CallD (fun vs H Q => r vs H Q ∨ r' vs H Q) ds M Φ := fun κ δ σ H vs Q R rs k => .inr (h κ δ σ H vs Q R rs k)
theorem de_blt {id : String} {r : List V → Hp → VK → Prop} {x : Str} {p : Pos} (hc : CallR X (.builtin id) r) (g : Gn X x) (hv : bootBuiltins x = some (.builtin id)) (h : DA B X (e :: es) δ M fun ds M1 => CallD r ds M1 Φ)
    (hn : x ≠ "__name__" := by decide) (hdb : (x == ("__debug__" : Str)) = false := by decide) (he : starEach (e :: es) X.env = (false, eval e X.env) :: starEach es X.env := by rfl) (hpl : (backTo pos (starEach es X.env)).any (·.1) = false := by rfl) : DE B X (.Call (.Name x p) (e :: es) [] pos) δ M Φ :=
  .of (pe_callB hc g.gl g.no hv cA hn hdb he hpl) fun κ σ H Q hb R k => h κ σ H _ hb R fun vs ds M1 H1 q R1 r1 => q κ δ σ H1 vs Q R1 r1 k
def rLenU (K : PySem.W.Frag) : List V → Hp → VK → Prop := fun xs H Q => ∃ x n, xs = [x] ∧ LenV K x H n ∧ Q (.int n) H
theorem de_len {p : Pos} (g : Gn X "len") (h : DA B X [a] δ M fun ds M1 => CallD (rLenU X.K) ds M1 Φ) (he : starEach [a] X.env = (false, eval a X.env) :: starEach [] X.env := by rfl) (hpl : (backTo pos (starEach [] X.env)).any (·.1) = false := by rfl) : DE B X (.Call (.Name "len" p) [a] [] pos) δ M Φ := de_blt call_len g PySem.boot_len h (by decide) (by decide) he hpl
theorem cd_lenL {K : PySem.W.Frag} {ds : List D} (h : IsL M x ds) (k : Φ (.int (ds.length : Nat)) M) : CallD (rLenU K) [x] M Φ := fun κ δ σ H vs Q R rs f => by
  cases rs with
  | cons r1 r2 =>
    cases r2
    obtain ⟨p, vs, rfl, e1, rr⟩ := h.sq R r1
    exact ⟨_, vs.length, rfl, .inl ⟨vs, SqL.of e1, rfl⟩, by rw [rr.length]; exact f _ _ _ _ k R (.int _)⟩
theorem cd_lenT {K : PySem.W.Frag} {ds : List D} (k : Φ (.int (ds.length : Nat)) M) : CallD (rLenU K) [.tup ds] M Φ := fun κ δ σ H vs Q R rs f => by
  cases rs with
  | cons r1 r2 =>
    cases r2
    cases r1 with
    | tup h1 e1 rr => exact ⟨_, _, rfl, .inr ⟨_, SqT.of e1, rfl⟩, by rw [rr.length]; exact f _ _ _ _ k R (.int _)⟩
theorem cd_lenS {K : PySem.W.Frag} {z : Str} (hl : z.length ≤ sizeLine) (k : Φ (.int (z.length : Nat)) M) : CallD (rLenU K) [.str z] M Φ := fun κ δ σ H vs Q R rs f => by
  cases rs with
  | cons r1 r2 =>
    cases r2
    cases r1
    exact ⟨_, z.length, rfl, ⟨hl, rfl⟩, f _ _ _ _ k R (.int _)⟩
theorem cd_lenX {K : PySem.W.Frag} {ns : List Int} (k : Φ (.int (ns.length : Nat)) M) : CallD (rLenU K) [.scr K ns] M Φ := fun κ δ σ H vs Q R rs f => by
  cases rs with
  | cons r1 r2 =>
    cases r2
    cases r1 with
    | scrH h1 e1 => exact ⟨_, _, rfl, .inl ⟨_, .inl e1, rfl⟩, by rw [List.length_map]; exact f _ _ _ _ k R (.int _)⟩
    | scrK h1 => exact ⟨_, _, rfl, .inl ⟨_, h1 H, rfl⟩, by rw [List.length_map]; exact f _ _ _ _ k R (.int _)⟩
def rMin2 : List V → Hp → VK → Prop := fun xs H Q => ∃ i j, xs = [.int i, .int j] ∧ Q (.int (if j < i then j else i)) H
def rMax2 : List V → Hp → VK → Prop := fun xs H Q => ∃ i j, xs = [.int i, .int j] ∧ Q (.int (if j > i then j else i)) H
open PyProof.Rows in
theorem de_min2 {n : Nat} (z : Cz X n) {p : Pos} (g : Gn X "min") (h : DA B X [a, b] δ M fun ds M1 => CallD rMin2 ds M1 Φ) (he : starEach [a, b] X.env = (false, eval a X.env) :: starEach [b] X.env := by rfl) (hpl : (backTo pos (starEach [b] X.env)).any (·.1) = false := by rfl) : DE B X (.Call (.Name "min" p) [a, b] [] pos) δ M Φ := de_blt (call_min2 z.calm) g boot_min h (by decide) (by decide) he hpl
open PyProof.Rows in
theorem de_max2 {n : Nat} (z : Cz X n) {p : Pos} (g : Gn X "max") (h : DA B X [a, b] δ M fun ds M1 => CallD rMax2 ds M1 Φ) (he : starEach [a, b] X.env = (false, eval a X.env) :: starEach [b] X.env := by rfl) (hpl : (backTo pos (starEach [b] X.env)).any (·.1) = false := by rfl) : DE B X (.Call (.Name "max" p) [a, b] [] pos) δ M Φ := de_blt (call_max2 z.calm) g boot_max h (by decide) (by decide) he hpl
theorem cd_min2 {i j : Int} (k : Φ (.int (min i j)) M) : CallD rMin2 [.int i, .int j] M Φ := fun κ δ σ H vs Q R rs f => by
  cases rs with
  | cons r1 r2 =>
    cases r1
    cases r2 with
    | cons r2 r3 =>
      cases r2; cases r3
      exact ⟨i, j, rfl, by rw [show (if j < i then j else i) = min i j by omega]; exact f _ _ _ _ k R (.int _)⟩
theorem cd_max2 {i j : Int} (k : Φ (.int (max i j)) M) : CallD rMax2 [.int i, .int j] M Φ := fun κ δ σ H vs Q R rs f => by
  cases rs with
  | cons r1 r2 =>
    cases r1
    cases r2 with
    | cons r2 r3 =>
      cases r2; cases r3
      exact ⟨i, j, rfl, by rw [show (if j > i then j else i) = max i j by omega]; exact f _ _ _ _ k R (.int _)⟩
/-! isinstance -/
/-- a built-in type as a value -/
theorem de_tyN {x : Str} {T : String} (g : Gn X x) (hv : bootBuiltins x = some (.type T)) (k : Φ (.raw (.ty T)) M) (hn : x ≠ "__name__" := by decide) (hd : (x == ("__debug__" : Str)) = false := by decide) : DE B X (.Name x pos) δ M Φ := .of (pe_bltn (v := .ty T) g.gl g.no hv rfl hn hd) (.val (fun _ _ => .raw _) k)
/-- the name of the type -/
def tyD : D → Option String
  | .non => some "NoneType"
  | .bl _ => some "bool"
  | .int _ => some "int"
  | .str _ => some "str"
  | .lst _ => some "list"
  | .tup _ => some "tuple"
  | _ => none
theorem cd_isi {K : PySem.W.Frag} {T S : String} {r : Bool} (hx : tyD x = some S) (hk : kitB S T = some r) (k : Φ (.bl r) M) : CallD (rIsi K) [x, .raw (.ty T)] M Φ := fun κ δ σ H vs Q R rs f => by
  cases rs with
  | cons r1 r2 =>
    cases r2 with
    | cons r2 r3 =>
      cases r2; cases r3
      refine ⟨_, _, .type S, .type T, r, rfl, .ty T, ?_, kit_ty hk, f _ _ _ _ k R (.bl _)⟩
      cases r1 with
      | non => cases hx; exact .base .non
      | bl b => cases hx; exact .base (.bl b)
      | int i => cases hx; exact .base (.int i)
      | str i => cases hx; exact .base (.str i)
      | lst h1 e1 _ => cases hx; exact .base (.lst e1)
      | tup h1 e1 _ => cases hx; exact .base (.tup e1)
      | obj _ _ _ _ => cases hx
      | raw _ => cases hx
      | scrH _ _ => cases hx
      | scrK _ => cases hx
      | exn0 _ _ => cases hx
      | exn _ _ _ _ _ _ => cases hx
      | fd _ _ _ _ _ => cases hx
      | hp _ _ => cases hx
end
end Hl
namespace Hl
open PySem L2
section
variable {B : Bx} {X : Cx} {e a b c o : Expr} {es rest : List Expr} {st : Stmt} {sts : List Stmt} {δ δ' : Env'} {M : Mem} {Φ : D → Mem → Prop} {Ψ : DEnds} {te ta tb : TE} {tt : TT} {pos pos' apos : Pos} {d x y : D} {ΦB : Bool → Mem → Prop} {ΦL : List D → Mem → Prop}
/-! ### comprehensions -/
/-- the context of a comprehension's block -/
structure Bk (X X' : Cx) (scope : Scope) : Prop where
  prog : X'.prog = X.prog
  wd : X'.w = X.w
  K : X'.K = X.K
  mg : X'.mg = X.mg
  base : X'.base = X.base
  N : X'.N = X.N
  A : X'.A = X.A
  calm : X'.calm = X.calm
  sc : X'.env.scope = relS scope X.env.scope
  xe : ∀ v s, ¬ X'.xe v s
  fn : ∀ x, scope.names.lookup x = some .cell → X'.fn x = true
theorem Bk.z {X X' : Cx} {scope : Scope} {n : Nat} (h : Bk X X' scope) (z : Cz X n) : Cz X' n := ⟨by rw [h.N]; exact z.nd, by rw [h.calm]; exact z.calm, by rw [h.A]; exact z.room⟩
theorem Bk.df {X X' : Cx} {scope : Scope} {k : Nat} {x : Str} {ps : List Str} {p : DSp} (h : Bk X X' scope) (d : DefX X k x ps p) : DefX X' k x ps p := by
  unfold DefX
  rw [h.prog, h.wd, h.K, h.mg, h.base]
  exact d
theorem Bk.nm {X X' : Cx} {scope sc : Scope} {N : List Str} {i : Nat} {x : Str} (h : Bk X X' scope) (hN : X.N = N) (hs : X.env.scope = sc) (hh : nmB N (relS scope sc) i x = true) : Nm X' i x := nm_of (by rw [h.N, hN]) (by rw [h.sc, hs]) hh
theorem Bk.lo {X X' : Cx} {scope sc : Scope} {N : List Str} {i : Nat} {x : Str} (h : Bk X X' scope) (hN : X.N = N) (hs : X.env.scope = sc) (hh : (nmB N (relS scope sc) i x && (decide ((relS scope sc).names.lookup x = some .local) || (locB (relS scope sc) x && decide (scope.names.lookup x = some .cell)))) = true) : Lo X' i x := by
  rw [Bool.and_eq_true] at hh
  rcases Bool.or_eq_true _ _ ▸ hh.2 with hl | hl
  · have e := of_decide_eq_true hl
    exact ⟨h.nm hN hs hh.1, by rw [h.sc, hs]; exact .inl e, .inr (by rw [h.sc, hs]; exact e)⟩
  · rw [Bool.and_eq_true] at hl
    exact ⟨h.nm hN hs hh.1, by rw [h.sc, hs]; exact loc_of hl.1, .inl (h.fn x (of_decide_eq_true hl.2))⟩
theorem Bk.gl {X X' : Cx} {scope sc : Scope} {x : Str} (h : Bk X X' scope) (hs : X.env.scope = sc) (hh : (relS scope sc).names.lookup x = some .globalImplicit) : Gl X' x := gl_of (by rw [h.sc, hs]) hh
def wipeD (δ : Env') : List Nat → Env'
  | [] => δ
  | v :: vs => (wipeD δ vs).set v none
theorem Rs.wipe {κ : List (V × D)} {σ : St} {H : Hp} (R : Rs κ δ M σ H) : ∀ vs : List Nat, Rs κ (wipeD δ vs) M (L2.wipe σ vs) H
  | [] => R
  | v :: vs => (R.wipe vs).wipe1 v none
/-! targets of a comprehension -/
inductive Tk where
  | one (i : Nat) | tup (is : List Nat)
def gNames : List Nat → TGs
  | [] => gNil
  | i :: is => gCons (gName i) (gNames is)
def gK (K : PySem.W.Frag) : Tk → TG
  | .one i => gName i
  | .tup is => gTup K is.length (gNames is)
def setsD : Env' → List Nat → List D → Env'
  | δ, i :: is, d :: ds => setsD (δ.set i (some d)) is ds
  | δ, _, _ => δ
def sets : St → List Nat → List V → St
  | σ, i :: is, v :: vs => sets (σ.set i (some v)) is vs
  | σ, _, _ => σ
def slotsK : Tk → List Nat
  | .one i => [i]
  | .tup is => is
theorem Rs.puts {κ : List (V × D)} {M : Mem} {H : Hp} : ∀ {is : List Nat} {vs : List V} {ds : List D} {δ : Env'} {σ : St}, Rs κ δ M σ H → Reps M.F H vs ds → Rs κ (setsD δ is ds) M (sets σ is vs) H
  | [], _, _, _, _, R, _ => by unfold setsD sets; exact R
  | i :: is, _, _, _, _, R, .nil => by unfold setsD sets; exact R
  | i :: is, v :: vs, d :: ds, δ, σ, R, .cons r rs => by unfold setsD sets; exact (R.put i r).puts rs
theorem gNames_run {H : Hp} : ∀ {is : List Nat} {vs : List V} {σ : St} {Q : St → Hp → Prop}, vs.length = is.length → Q (sets σ is vs) H → gNames is vs σ H Q
  | [], [], _, _, _, q => ⟨rfl, q⟩
  | [], _ :: _, _, _, h, _ => by cases h
  | i :: is, [], _, _, h, _ => by cases h
  | i :: is, v :: vs, σ, Q, h, q => ⟨v, vs, rfl, gNames_run (by simpa using h) q⟩
theorem wipe_set {σ : St} {i : Nat} {ov : Option V} : ∀ {vs : List Nat}, i ∈ vs → L2.wipe (σ.set i ov) vs = L2.wipe σ vs
  | v :: vs, h => by
    unfold L2.wipe
    by_cases e : i = v
    · subst e
      by_cases hm : i ∈ vs
      · rw [wipe_set hm]
      · have : ∀ (vs : List Nat) (σ : St), i ∉ vs → L2.wipe (σ.set i ov) vs = (L2.wipe σ vs).set i ov := by
          intro vs
          induction vs with
          | nil => intro σ _; rfl
          | cons w vs ih =>
            intro σ hn
            unfold L2.wipe
            rw [ih σ (fun z => hn (List.mem_cons_of_mem _ z)), List.set_comm _ _ (fun z => hn (by rw [z]; exact List.mem_cons_self))]
        rw [this vs σ hm, List.set_set]
    · have hm : i ∈ vs := by
        rcases List.mem_cons.mp h with h | h
        · exact absurd h e
        · exact h
      rw [wipe_set hm]
theorem wipe_none {σ : St} : ∀ {vs : List Nat}, L2.wipe (L2.wipe σ vs) vs = L2.wipe σ vs := by
  intro vs
  have key : ∀ (ws vs : List Nat) (σ : St), (∀ w ∈ ws, w ∈ vs) → L2.wipe (L2.wipe σ ws) vs = L2.wipe σ vs := by
    intro ws
    induction ws with
    | nil => intro vs σ _; rfl
    | cons w ws ih =>
      intro vs σ h
      show L2.wipe ((L2.wipe σ ws).set w none) vs = _
      rw [wipe_set (h w List.mem_cons_self), ih vs σ fun x hx => h x (List.mem_cons_of_mem _ hx)]
  exact key vs vs σ fun _ h => h
theorem wipe_sets {vs : List Nat} : ∀ {is : List Nat} {ws : List V} {σ : St}, (∀ i ∈ is, i ∈ vs) → L2.wipe (sets σ is ws) vs = L2.wipe σ vs
  | [], _, _, _ => by unfold sets; rfl
  | i :: is, [], _, _ => by unfold sets; rfl
  | i :: is, w :: ws, σ, h => by
    unfold sets
    rw [wipe_sets fun j hj => h j (List.mem_cons_of_mem _ hj), wipe_set (h i List.mem_cons_self)]
def bindK (tk : Tk) (x : D) (δ : Env') : Option Env' := match tk, x with
  | .one i, x => some (δ.set i (some x))
  | .tup is, .tup ds => if ds.length = is.length then some (setsD δ is ds) else none
  | _, _ => none
theorem gK_run {K : PySem.W.Frag} {tk : Tk} {δ2 : Env'} {κ : List (V × D)} {σ : St} {H : Hp} {v : V} {Q : St → Hp → Prop} {vs : List Nat} (R : Rs κ δ M σ H) (r : Rep M.F H v x) (e : bindK tk x δ = some δ2) (hv : ∀ i ∈ slotsK tk, i ∈ vs) (h : ∀ σ2, L2.wipe σ2 vs = L2.wipe σ vs → Rs κ δ2 M σ2 H → Q σ2 H) : gK K tk v σ H Q := by
  cases tk with
  | one i =>
    have e : δ.set i (some x) = δ2 := by unfold bindK at e; cases x <;> exact Option.some.inj e
    subst e
    exact h _ (wipe_set (hv i (by simp [slotsK]))) (R.put i r)
  | tup is =>
    cases x with
    | tup ds =>
      unfold bindK at e
      dsimp only at e
      split at e
      · next hl =>
        cases e
        cases r with
        | tup h1 e1 r1 =>
          refine ⟨_, _, rfl, SqT.of e1, by rw [r1.length]; exact hl, gNames_run (by rw [r1.length]; exact hl) ?_⟩
          exact h _ (wipe_sets hv) (R.puts r1)
      · cases e
    | _ => exact nomatch e
def teA (X : Cx) (scope : Scope) (e : Expr) : TE := fun σ H Q => ∀ X', Bk X X' scope → tE X' e σ H Q
def ttA (X : Cx) (scope : Scope) (ifs : List Expr) : TT := fun σ H Q => match ifs with
  | [] => Q true H
  | [c] => ∀ X', Bk X X' scope → tT X' c σ H Q
  | _ => False
theorem bk_blk {s : Shared} {H : Hp} {scope : Scope} {C : Addr} {cl : List (Str × Addr)} {fp : List Addr} : Bk X (X.blk s H scope (compEnvC scope cl C X.env) fp) scope := ⟨rfl, rfl, rfl, rfl, rfl, rfl, rfl, rfl, rfl, fun _ _ z => z, fun x h => by show (_ == _) = true; rw [h]; rfl⟩
/-- what one turn of a comprehension gives: an item or none -/
def Turn1 (B : Bx) (X : Cx) (scope : Scope) (elt : Expr) (ifs : List Expr) (δ : Env') (M : Mem) (P : Option D → Mem → Prop) : Prop := match ifs with
  | [] => ∀ X', Bk X X' scope → DE B X' elt δ M fun d M3 => P (some d) M3
  | [c] => ∀ X', Bk X X' scope → DT B X' c δ M fun t M3 => Br t (∀ X', Bk X X' scope → DE B X' elt δ M3 fun d M4 => P (some d) M4) (P none M3)
  | _ => False
theorem pts_A {s : Shared} {H : Hp} {scope : Scope} {C : Addr} {cl : List (Str × Addr)} {fp : List Addr} {ifs : List Expr} : PTs (X.blk s H scope (compEnvC scope cl C X.env) fp) ifs (ttA X scope ifs) := by
  match ifs with
  | [] => exact pts_nil
  | [c] => exact ⟨fun pins s' σ' H' Q I q => (pts_one cT).run pins s' σ' H' Q I (q _ bk_blk)⟩
  | _ :: _ :: _ => exact ⟨fun pins s' σ' H' Q I q => q.elim⟩
theorem pe_A {s : Shared} {H : Hp} {scope : Scope} {C : Addr} {cl : List (Str × Addr)} {fp : List Addr} {elt : Expr} : PE (X.blk s H scope (compEnvC scope cl C X.env) fp) elt (teA X scope elt) := ⟨fun pins s' σ' H' Q I q => cE.run pins s' σ' H' Q I (q _ bk_blk)⟩
/-- the turns of a comprehension, by data -/
def LcH (k : Nat) (B : Bx) (X : Cx) (scope : Scope) (elt : Expr) (ifs : List Expr) (own : List (Str × Nat)) (tk : Tk) (δ : Env') (xs : List D) (M' : Mem) (ΦL : List D → Mem → Prop) : Prop :=
  ∃ Iv : Nat → List D → Mem → Prop, Iv 0 [] M' ∧ (∀ (p : Addr) i x acc M1, xs[i]? = some x → Iv i acc M1 → acc.length < sizeLine ∧ ∃ δ2, bindK tk x (wipeD δ (own.map (·.2))) = some δ2 ∧
        Turn1 B X scope elt ifs δ2 (insM k (p, .lst acc) M1) fun od M2 => ∃ M3, M2 = insM k (p, .lst acc) M3 ∧ Iv (i + 1) (acc ++ od.toList) M3) ∧ ∀ acc M1, Iv xs.length acc M1 → ΦL acc M1
theorem wf_lc {elt : Expr} {ifs : List Expr} {scope : Scope} {wi : TI} {k : Nat} (own : List (Str × Nat)) (tk : Tk) (hv : ∀ i ∈ slotsK tk, i ∈ own.map (·.2))
    (w : WI B wi δ M fun xs M' => LcH k B X scope elt ifs own tk δ xs M' ΦL) : WF B (tLc wi (gK X.K tk) (ttA X scope ifs) (teA X scope elt) (own.map (·.2))) δ M ΦL := by
  intro κ σ H Q hb R kk
  refine w κ σ H _ hb R fun xs M1 H1 J κ' ⟨Iv, h0, hst, hd⟩ hk R1 W => ?_
  intro p hp
  have R1p : Rs κ' δ (insM k (p, .lst []) M1) σ (upd H1 p (.lst [])) := (R1.lst .nil hp).perm insM_perm
  refine ⟨fun i m H => m = xs.length - i ∧ i ≤ xs.length ∧ ∃ acc M, Iv i acc M ∧ Rs κ' δ (insM k (p, .lst acc) M) σ H, ⟨xs.length, by simp, Nat.zero_le _, [], M1, h0, R1p⟩, ?_⟩
  rintro i m H ⟨rfl, hi, acc, M, q, R⟩
  by_cases hlt : i < xs.length
  · refine .inr ⟨W.goes i δ _ σ H hlt R, fun H' => ∃ acc' M', Iv (i + 1) acc' M' ∧ Rs κ' δ (insM k (p, .lst acc') M') σ H', fun H' ⟨acc', M', q', R'⟩ => ⟨xs.length - (i + 1), by omega, rfl, hlt, acc', M', q', R'⟩, fun x H' y => ?_⟩
    obtain ⟨d, hd1, R2, r2⟩ := W.yields i δ _ σ H x H' hlt R y
    obtain ⟨hlen, δ2, eb, tu⟩ := hst p i d acc M hd1 q
    have Rw := (R2.push r2)
    let κ2 := κ' ++ sk σ δ
    have back : ∀ {M' : Mem} {H' : Hp}, (∀ q ∈ κ2, Rep M'.F H' q.1 q.2) → (∀ q ∈ M', CellOk M'.F H' q.1 q.2) → M'.F.Nodup → Rs κ' δ M' σ H' := fun h1 h2 h3 => ⟨fun q hq => h1 q (List.mem_append.mpr (.inl hq)), sk_back R2.sl fun q hq => h1 q (List.mem_append.mpr (.inr hq)), h2, h3⟩
    have R3 : Rs κ2 (wipeD δ (own.map (·.2))) (insM k (p, .lst acc) M) (L2.wipe σ (own.map (·.2))) H' := by
      have := R2.wipe (own.map (·.2))
      exact ⟨fun q hq => by
        rcases List.mem_append.mp hq with h | h
        · exact R2.kp q h
        · exact sk_rep R2.sl q h, this.sl, R2.cl, R2.nd⟩
    refine gK_run R3 r2 eb hv fun σ2 hw R4 => ⟨by rw [hw, wipe_none], ?_⟩
    have hb2 : ∀ q ∈ B.ps, q ∈ κ2 := fun q hq => List.mem_append.mpr (.inl (hk q (hb q hq)))
    have fin : ∀ {u : V} {d : D} {M2 : Mem} {H2 : Hp}, (∃ M3, M2 = insM k (p, .lst acc) M3 ∧ Iv (i + 1) (acc ++ [d]) M3) → Rs κ2 δ2 M2 σ2 H2 → Rep M2.F H2 u d → ∃ ac, H2 p = some (.lst ac) ∧ ac.length < sizeLine ∧ ∃ acc' M', Iv (i + 1) acc' M' ∧ Rs κ' δ (insM k (p, .lst acc') M') σ (upd H2 p (.lst (ac ++ [u]))) := by
      rintro u d M2 H2 ⟨M3, rfl, q3⟩ R5 r5
      have R6 := (back R5.kp R5.cl R5.nd).perm insM_perm.symm
      have r5 : Rep (Mem.F ((p, Cell.lst acc) :: M3)) H2 u d := r5.fwd (Fwd.less fun x hx => (F_perm insM_perm).mem_iff.mp hx)
      have hm : ((p, Cell.lst acc) :: M3)[0]? = some (p, .lst acc) := rfl
      obtain ⟨vs, e1, rr⟩ := R6.at hm
      refine ⟨vs, e1, by rw [rr.length]; exact hlen, acc ++ [d], M3, q3, ?_⟩
      have hpF : ∀ x, x ∉ (Mem.F ((p, Cell.lst acc) :: M3)) → upd H2 p (.lst (vs ++ [u])) x = H2 x := fun x hx => upd_ne fun z => hx (z ▸ R6.mem hm p (by simp [Hl.own]))
      have := R6.cell (c' := .lst (acc ++ [d])) hm rfl (H' := upd H2 p (.lst (vs ++ [u]))) (fun x hx => upd_ne (by simpa [Hl.own] using hx)) ⟨_, upd_same, (rr.append (.cons r5 .nil)).fwd (Fwd.same hpF)⟩
      exact Rs.perm this insM_perm
    match ifs, tu with
    | [], tu =>
      show (if true = true then teA X scope elt σ2 H' (fun y H4 => ∃ ac, H4 p = some (.lst ac) ∧ ac.length < sizeLine ∧ (∃ acc' M', Iv (i + 1) acc' M' ∧ Rs κ' δ (insM k (p, .lst acc') M') σ (upd H4 p (.lst (ac ++ [y]))))) else (∃ acc' M', Iv (i + 1) acc' M' ∧ Rs κ' δ (insM k (p, .lst acc') M') σ H'))
      rw [if_pos rfl]
      intro X' bk
      exact tu X' bk κ2 σ2 H' _ hb2 R4 fun u d M2 H2 q2 R5 r5 => fin q2 R5 r5
    | [c], tu =>
      intro X' bk
      refine tu X' bk κ2 σ2 H' _ hb2 R4 fun t M2 H2 q2 R5 => Br.ite ⟨fun e X2 bk2 => ?_, fun e => ?_⟩
      · exact q2.1 e X2 bk2 κ2 σ2 H2 _ hb2 R5 fun u d M3 H3 q3 R6 r6 => fin q3 R6 r6
      · obtain ⟨M3, rfl, q3⟩ := q2.2 e
        exact ⟨acc, M3, by simpa using q3, back R5.kp R5.cl R5.nd⟩
    | _ :: _ :: _, tu => exact tu.elim
  · have e : i = xs.length := by omega
    subst e
    refine .inl ⟨W.stops δ _ σ H R, ?_⟩
    exact kk p acc M H (hd acc M q) ((R.sub hk).perm insM_perm.symm)
theorem df_lc {tg iter elt : Expr} {ifs : List Expr} {scope sc : Scope} {N : List Str} {n : Nat} (k : Nat) (z : Cz X n) (hN : X.N = N) (hs : X.env.scope = sc) (own : List (Str × Nat)) (tk : Tk) (ok : blkC N sc scope own = true) (hv : ∀ i ∈ slotsK tk, i ∈ own.map (·.2)) (hg : ∀ X', Bk X X' scope → PG X' tg (gK X.K tk))
    (h : DI B X tg iter δ M fun xs M' => LcH k B X scope elt ifs own tk δ xs M' ΦL) (hf : ∀ x, foldedSetIterable iter X.env x = pure x := by intro _; rfl) : DF B X (.ListComp elt [⟨tg, iter, ifs, 0⟩] scope pos) δ M ΦL := by
  obtain ⟨wi, pi, w⟩ := h
  exact .of (pe_lc z.calm z.nd pi (blkOk_by (by rw [hN, hs]; exact ok)) (fun s H C cl fp => hg _ bk_blk) (fun s H C cl fp => pts_A) (fun s H C cl fp => pe_A) hf) (wf_lc own tk hv w)
/-- y = [..], the model's own statement -/
theorem ds_lc {tg iter elt : Expr} {ifs : List Expr} {scope sc : Scope} {N : List Str} {n i : Nat} {y : Str} {py spos : Pos} (k : Nat) (z : Cz X n) (l : Lo X i y) (hN : X.N = N) (hs : X.env.scope = sc) (own : List (Str × Nat)) (tk : Tk) (ok : blkC N sc scope own = true) (hv : ∀ i ∈ slotsK tk, i ∈ own.map (·.2)) (hg : ∀ X', Bk X X' scope → PG X' tg (gK X.K tk))
    (hyl : sc.names.lookup y = some .local) (hk : sc.kind = .function) (hpl : (py.line == pos.line) = true) (hno : (scope.names.any fun (n, k) => n == y && (k == .local || k == .cell)) = false)
    (h : DI B X tg iter δ M fun xs M' => LcH k B X scope elt ifs own tk δ xs M' fun ds M2 => Sets δ i (.lst ds) fun δ' => Ψ.nx δ' M2) (hf : ∀ x, foldedSetIterable iter X.env x = pure x := by intro _; rfl) : DS B X (.Assign [.Name y py] (.ListComp elt [⟨tg, iter, ifs, 0⟩] scope pos) spos) δ M Ψ := by
  obtain ⟨wi, pi, w⟩ := h
  refine .of (ps_setLc z.calm z.nd l.at_ (by rw [hs]; exact hyl) (sw_true (by rw [hs]; exact hk) (by rw [hs]; exact hyl) hpl hno) pi (blkOk_by (by rw [hN, hs]; exact ok)) (fun s H C cl fp => hg _ bk_blk) (fun s H C cl fp => pts_A) (fun s H C cl fp => pe_A) hf) fun κ σ H E hb R kk => ?_
  exact (WE.ofF (wf_lc own tk hv w) : WE B _ δ M fun d M2 => Sets δ i d fun δ' => Ψ.nx δ' M2) κ σ H _ hb R fun v d M' H' q R' r => kk.nx _ _ _ _ q.get (R'.put i r)
end
end Hl
namespace Hl
open PySem L2
/-! ### == of lists and tuples -/
mutual
def toPy : D → PyData
  | .bl b => .bool b
  | .int i => .int i
  | .str x => .str x
  | .lst ds => .list (toPys ds)
  | .tup ds => .tuple (toPys ds)
  | _ => .none
def toPys : List D → List PyData
  | [] => []
  | d :: ds => toPy d :: toPys ds
end
mutual
def okD : D → Bool
  | .non => true
  | .bl _ => true
  | .int _ => true
  | .str x => PyData.canLay0 (.str x)
  | .lst ds => okDs ds
  | .tup ds => okDs ds
  | _ => false
def okDs : List D → Bool
  | [] => true
  | d :: ds => okD d && okDs ds
end
mutual
theorem rep_dp {K : PySem.W.Frag} {F : List Addr} {H : Hp} : ∀ {v : V} {d : D}, Rep F H v d → okD d = true → Dp K H v (toPy d)
  | _, _, .non, _ => .non
  | _, _, .bl b, _ => .bl b
  | _, _, .int i, _ => .int i
  | _, _, .str x, _ => .str x
  | _, _, .lst h e r, k => .lst (SqL.of e) (reps_dp r k)
  | _, _, .tup h e r, k => .tup (SqT.of e) (reps_dp r k)
  | _, _, .obj h e l r, k => by cases k
  | _, _, .raw v, k => by cases k
  | _, _, .scrH h e, k => by cases k
  | _, _, .scrK h, k => by cases k
  | _, _, .exn0 h e, k => by cases k
  | _, _, .exn h e h2 e2 l r, k => by cases k
  | _, _, .fd h e e1 e2 r, k => by cases k
  | _, _, .hp h e, k => by cases k
theorem reps_dp {K : PySem.W.Frag} {F : List Addr} {H : Hp} : ∀ {vs : List V} {ds : List D}, Reps F H vs ds → okDs ds = true → DpAll K H vs (toPys ds)
  | _, _, .nil, _ => .nil
  | _, _, .cons r rs, k => by
    have k := Bool.and_eq_true_iff.mp (show (_ && _) = true from k)
    exact .cons (rep_dp r k.1) (reps_dp rs k.2)
end
mutual
theorem ok_lay : ∀ {d : D}, okD d = true → (toPy d).canLay0 = true
  | .non, _ => rfl
  | .bl _, _ => rfl
  | .int _, _ => rfl
  | .str x, h => h
  | .lst ds, h => oks_lay (ds := ds) h
  | .tup ds, h => oks_lay (ds := ds) h
  | .obj _ _ _, h => by cases h
  | .raw _, h => by cases h
  | .scr _ _, h => by cases h
  | .exn _ _ _, h => by cases h
  | .fd _ _, h => by cases h
  | .hp _ _, h => by cases h
theorem oks_lay : ∀ {ds : List D}, okDs ds = true → PyData.canLayAll0 (toPys ds) = true
  | [], _ => rfl
  | d :: ds, h => by
    have k := Bool.and_eq_true_iff.mp (show (_ && _) = true from h)
    show (_ && _) = true
    rw [ok_lay k.1, oks_lay k.2]; rfl
end
mutual
theorem eqv_refl : ∀ (d : PyData), d.canLay0 = true → PyData.eqv d d = true
  | .none, _ => rfl
  | .bool b, _ => by cases b <;> rfl
  | .int i, _ => by simp [PyData.eqv]
  | .str x, _ => by simp [PyData.eqv]
  | .list ds, h => eqvs_refl ds h
  | .tuple ds, h => eqvs_refl ds h
  | .dict _, h => by cases h
theorem eqvs_refl : ∀ (ds : List PyData), PyData.canLayAll0 ds = true → PyData.eqvAll ds ds = true
  | [], _ => rfl
  | d :: ds, h => by
    have k := Bool.and_eq_true_iff.mp (show (_ && _) = true from h)
    show (_ && _) = true
    rw [eqv_refl d k.1, eqvs_refl ds k.2]; rfl
end
/-- data as such, or a list that is a cell -/
inductive Is (M : Mem) : D → D → Prop
  | val (d : D) : Is M d d
  | cell {p : Addr} {ds : List D} (j : Nat) (h : M[j]? = some (p, .lst ds)) : Is M (.raw (.ref p)) (.lst ds)
  | inm {p : Addr} {ds : List D} (h : InM M p (.lst ds)) : Is M (.raw (.ref p)) (.lst ds)
section
variable {B : Bx} {X : Cx} {e a b c o : Expr} {es rest : List Expr} {st : Stmt} {sts : List Stmt} {δ δ' : Env'} {M : Mem} {Φ : D → Mem → Prop} {Ψ : DEnds} {te ta tb : TE} {tt : TT} {pos pos' apos : Pos} {d x y : D} {ΦB : Bool → Mem → Prop} {ΦL : List D → Mem → Prop}
theorem Is.dp {κ : List (V × D)} {σ : St} {H : Hp} {v : V} {x d : D} {K : PySem.W.Frag} (h : Is M x d) (R : Rs κ δ M σ H) (r : Rep M.F H v x) (k : okD d = true) : Dp K H v (toPy d) := by
  cases h with
  | val d => exact rep_dp r k
  | cell j h =>
    cases r
    obtain ⟨vs, e1, r1⟩ := R.at h
    exact .lst (SqL.of e1) (reps_dp r1 k)
  | inm h =>
    cases r
    obtain ⟨vs, e1, r1⟩ := h.ok R
    exact .lst (SqL.of e1) (reps_dp r1 k)
def okE (d : D) : Bool := okD d && decide ((toPy d).depth ≤ 64)
theorem okE_sh {d : D} (h : okE d = true) : SeqAt.shaped (toPy d) = true := by
  have k := Bool.and_eq_true_iff.mp (show (_ && _) = true from h)
  show (_ && _) = true
  rw [ok_lay k.1, k.2]; rfl
theorem okE_ok {d : D} (h : okE d = true) : okD d = true := (Bool.and_eq_true_iff.mp (show (_ && _) = true from h)).1
theorem od_eqD {K : PySem.W.Frag} {x' y' : D} (hx : Is M x x') (hy : Is M y y') (kx : okE x' = true) (ky : okE y' = true) (k : Φ (.bl (PyData.eqv (toPy x') (toPy y'))) M) : OpD (rEqU K) x y M Φ := .inr fun κ δ σ H v w Q R rv rw' h =>
  ⟨_, _, hx.dp R rv (okE_ok kx), hy.dp R rw' (okE_ok ky), okE_sh kx, okE_sh ky, h _ _ M H k R (.bl _)⟩
theorem od_neD {K : PySem.W.Frag} {x' y' : D} (hx : Is M x x') (hy : Is M y y') (kx : okE x' = true) (ky : okE y' = true) (k : Φ (.bl (!PyData.eqv (toPy x') (toPy y'))) M) : OpD (rNeU K) x y M Φ := .inr fun κ δ σ H v w Q R rv rw' h =>
  ⟨_, _, hx.dp R rv (okE_ok kx), hy.dp R rw' (okE_ok ky), okE_sh kx, okE_sh ky, h _ _ M H k R (.bl _)⟩
theorem okDs_ints : ∀ (ns : List Int), okDs (ns.map D.int) = true
  | [] => rfl
  | n :: ns => okDs_ints ns
theorem depths_ints : ∀ (ns : List Int), PyData.depthAll (toPys (ns.map D.int)) = 0
  | [] => rfl
  | n :: ns => by
    show max 0 _ = 0
    rw [depths_ints ns]; rfl
theorem okE_ints (ns : List Int) : okE (.lst (ns.map D.int)) = true := by
  show (_ && _) = true
  rw [show okD (.lst (ns.map D.int)) = true from okDs_ints ns]
  have : (toPy (.lst (ns.map D.int))).depth = 1 := by
    show PyData.depthAll (toPys (ns.map D.int)) + 1 = 1
    rw [depths_ints]
  rw [this]; rfl
/-- against the empty list -/
theorem od_neNil {K : PySem.W.Frag} {ds : List D} (hx : Is M x (.lst ds)) (hk : okE (.lst ds) = true) (k : Φ (.bl (!ds.isEmpty)) M) : OpD (rNeU K) x (.lst []) M Φ := od_neD hx (.val _) hk rfl (by
  rw [show PyData.eqv (toPy (.lst ds)) (toPy (.lst [])) = ds.isEmpty from by cases ds <;> rfl]; exact k)
/-- the same data -/
theorem od_neSame {K : PySem.W.Frag} {x' : D} (hx : Is M x x') (hy : Is M y x') (hk : okE x' = true) (k : Φ (.bl false) M) : OpD (rNeU K) x y M Φ := od_neD hx hy hk hk (by
  rw [eqv_refl _ (ok_lay (okE_ok hk))]; exact k)
theorem od_eqSame {K : PySem.W.Frag} {x' : D} (hx : Is M x x') (hy : Is M y x') (hk : okE x' = true) (k : Φ (.bl true) M) : OpD (rEqU K) x y M Φ := od_eqD hx hy hk hk (by
  rw [eqv_refl _ (ok_lay (okE_ok hk))]; exact k)
/-! ### the draws' state as a dict and a list -/
def stD (g : Addr) (r t e : Int) (cs : List Int) : List (Key × D) := [(.inr "great", .raw (.ref g)), (.inr "rest", .int r), (.inr "turn", .int t), (.inr "seed", .int e), (.inr "cells", .lst (cs.map .int))]
structure StOk (b : Nat) (gs : List Int) (r t e : Int) (cs : List Int) : Prop where
  hgs : ∀ x ∈ gs, 0 < x
  hr : 0 ≤ r
  ht : 0 ≤ t
  htb : t + (b : Int) ≤ 1000000000000
  he : 0 ≤ e
  he2 : e < 2147483647
  hcs : ∀ x ∈ cs, 0 ≤ x ∧ x < 2147483629
  hc1 : 0 < cs.length
  hc2 : cs.length ≤ 100
theorem st_open {κ : List (V × D)} {σ : St} {H : Hp} {s g : Addr} {b : Nat} (R : Rs κ δ ((s, .st g b) :: M) σ H) : ∃ gs r t e cs, StOk b gs r t e cs ∧ Rs κ δ ((s, .dct (stD g r t e cs)) :: (g, .lst (gs.map .int)) :: M) σ H := by
  obtain ⟨c, r, t, e, gs, cs, hc, h1, h2, h3, p1, p2, p3, p4, p5, p6, p7, p8, p9⟩ := R.cl (s, .st g b) List.mem_cons_self
  refine ⟨gs, r, t, e, cs, ⟨p1, p2, p3, p4, p5, p6, p7, p8, p9⟩, ?_⟩
  have eF : Mem.F ((s, Cell.dct (stD g r t e cs)) :: (g, .lst (gs.map .int)) :: M) = Mem.F ((s, .st g b) :: M) := rfl
  refine ⟨fun q hq => by rw [eF]; exact R.kp q hq, by rw [eF]; exact R.sl, fun q hq => ?_, by rw [eF]; exact R.nd⟩
  rw [eF]
  rcases List.mem_cons.mp hq with rfl | hq
  · exact ⟨_, h1, rfl, .cons (.raw _) (.cons (.int _) (.cons (.int _) (.cons (.int _) (.cons (.lst hc h3 (.ofInts cs)) .nil))))⟩
  · rcases List.mem_cons.mp hq with rfl | hq
    · exact ⟨_, h2, .ofInts gs⟩
    · exact R.cl q (List.mem_cons_of_mem _ hq)
theorem st_close {κ : List (V × D)} {σ : St} {H : Hp} {s g : Addr} {b : Nat} {gs : List Int} {r t e : Int} {cs : List Int} (k : StOk b gs r t e cs) (R : Rs κ δ ((s, .dct (stD g r t e cs)) :: (g, .lst (gs.map .int)) :: M) σ H) : Rs κ δ ((s, .st g b) :: M) σ H := by
  have eF : Mem.F ((s, Cell.dct (stD g r t e cs)) :: (g, .lst (gs.map .int)) :: M) = Mem.F ((s, .st g b) :: M) := rfl
  refine ⟨fun q hq => by rw [← eF]; exact R.kp q hq, by rw [← eF]; exact R.sl, fun q hq => ?_, by rw [← eF]; exact R.nd⟩
  rw [← eF]
  rcases List.mem_cons.mp hq with rfl | hq
  · obtain ⟨ws, h1, h2, rs⟩ := R.cl (s, .dct (stD g r t e cs)) List.mem_cons_self
    obtain ⟨vs, h3, r3⟩ := R.cl (g, .lst (gs.map .int)) (by simp)
    match ws, h2, rs with
    | [(k1, v1), (k2, v2), (k3, v3), (k4, v4), (k5, v5)], h2, rs =>
      injection h2 with e1 h2
      injection h2 with e2 h2
      injection h2 with e3 h2
      injection h2 with e4 h2
      injection h2 with e5 _
      have e1 : k1 = .inr "great" := e1
      have e2 : k2 = .inr "rest" := e2
      have e3 : k3 = .inr "turn" := e3
      have e4 : k4 = .inr "seed" := e4
      have e5 : k5 = .inr "cells" := e5
      subst e1 e2 e3 e4 e5
      cases rs with
      | cons r1 rs =>
        cases rs with
        | cons r2 rs =>
          cases rs with
          | cons r3' rs =>
            cases rs with
            | cons r4 rs =>
              cases rs with
              | cons r5 rs =>
                cases r1; cases r2; cases r3'; cases r4
                cases r5 with
                | lst hn he hr =>
                  have ev := hr.ints
                  subst ev
                  have ev := r3.ints
                  subst ev
                  exact ⟨_, r, t, e, gs, cs, hn, h1, h3, he, k.hgs, k.hr, k.ht, k.htb, k.he, k.he2, k.hcs, k.hc1, k.hc2⟩
  · exact R.cl q (List.mem_cons_of_mem _ (List.mem_cons_of_mem _ hq))
/-- a new state -/
theorem Rs.dct {κ : List (V × D)} {σ : St} {H : Hp} {p : Addr} {kvs : List (Key × D)} {ws : List (Key × V)} (R : Rs κ δ M σ H) (hp : H p = none) (e : ws.map (·.1) = kvs.map (·.1)) (r : Reps M.F H (ws.map (·.2)) (kvs.map (·.2))) : Rs κ δ ((p, .dct kvs) :: M) σ (upd H p (.dK ws)) :=
  R.add hp rfl ⟨ws, upd_same, e, r.fwd (Fwd.newC hp)⟩
theorem ws_stOpen {ts : TS} {s g : Addr} {b : Nat} (h : ∀ gs r t e cs, StOk b gs r t e cs → WS B ts δ ((s, .dct (stD g r t e cs)) :: (g, .lst (gs.map .int)) :: M) Ψ) : WS B ts δ ((s, .st g b) :: M) Ψ := fun κ σ H E hb R k => by
  obtain ⟨gs, r, t, e, cs, ok, R'⟩ := st_open R
  exact h gs r t e cs ok κ σ H E hb R' k
/-- the same at a return: the promise may be closed behind the value -/
theorem WE.view {M' : Mem} (h : WE B te δ M' Φ) (v : ∀ κ σ H, Rs κ δ M σ H → Rs κ δ M' σ H) : WE B te δ M Φ := fun κ σ H Q hb R k => h κ σ H Q hb (v κ σ H R) k
theorem Vw.stc {s g : Addr} {b : Nat} {gs : List Int} {r t e : Int} {cs : List Int} (ok : StOk b gs r t e cs) : Vw d ((s, .dct (stD g r t e cs)) :: (g, .lst (gs.map .int)) :: M) d ((s, .st g b) :: M) := fun _ _ _ _ _ R r' => ⟨st_close ok R, r'⟩
end
end Hl
namespace Hl
open PySem L2
section
variable {d : D} {P : Env' → Prop}
theorem se0 {x0 : Option D} {r : Env'} (h : P (some d :: r)) : Sets (x0 :: r) 0 d P := .of h
theorem se1 {x0 x1 : Option D} {r : Env'} (h : P (x0 :: some d :: r)) : Sets (x0 :: x1 :: r) 1 d P := .of h
theorem se2 {x0 x1 x2 : Option D} {r : Env'} (h : P (x0 :: x1 :: some d :: r)) : Sets (x0 :: x1 :: x2 :: r) 2 d P := .of h
theorem se3 {x0 x1 x2 x3 : Option D} {r : Env'} (h : P (x0 :: x1 :: x2 :: some d :: r)) : Sets (x0 :: x1 :: x2 :: x3 :: r) 3 d P := .of h
theorem se4 {x0 x1 x2 x3 x4 : Option D} {r : Env'} (h : P (x0 :: x1 :: x2 :: x3 :: some d :: r)) : Sets (x0 :: x1 :: x2 :: x3 :: x4 :: r) 4 d P := .of h
theorem se5 {x0 x1 x2 x3 x4 x5 : Option D} {r : Env'} (h : P (x0 :: x1 :: x2 :: x3 :: x4 :: some d :: r)) : Sets (x0 :: x1 :: x2 :: x3 :: x4 :: x5 :: r) 5 d P := .of h
theorem se6 {x0 x1 x2 x3 x4 x5 x6 : Option D} {r : Env'} (h : P (x0 :: x1 :: x2 :: x3 :: x4 :: x5 :: some d :: r)) : Sets (x0 :: x1 :: x2 :: x3 :: x4 :: x5 :: x6 :: r) 6 d P := .of h
theorem se7 {x0 x1 x2 x3 x4 x5 x6 x7 : Option D} {r : Env'} (h : P (x0 :: x1 :: x2 :: x3 :: x4 :: x5 :: x6 :: some d :: r)) : Sets (x0 :: x1 :: x2 :: x3 :: x4 :: x5 :: x6 :: x7 :: r) 7 d P := .of h
theorem se8 {x0 x1 x2 x3 x4 x5 x6 x7 x8 : Option D} {r : Env'} (h : P (x0 :: x1 :: x2 :: x3 :: x4 :: x5 :: x6 :: x7 :: some d :: r)) : Sets (x0 :: x1 :: x2 :: x3 :: x4 :: x5 :: x6 :: x7 :: x8 :: r) 8 d P := .of h
theorem se9 {x0 x1 x2 x3 x4 x5 x6 x7 x8 x9 : Option D} {r : Env'} (h : P (x0 :: x1 :: x2 :: x3 :: x4 :: x5 :: x6 :: x7 :: x8 :: some d :: r)) : Sets (x0 :: x1 :: x2 :: x3 :: x4 :: x5 :: x6 :: x7 :: x8 :: x9 :: r) 9 d P := .of h
theorem se10 {x0 x1 x2 x3 x4 x5 x6 x7 x8 x9 x10 : Option D} {r : Env'} (h : P (x0 :: x1 :: x2 :: x3 :: x4 :: x5 :: x6 :: x7 :: x8 :: x9 :: some d :: r)) : Sets (x0 :: x1 :: x2 :: x3 :: x4 :: x5 :: x6 :: x7 :: x8 :: x9 :: x10 :: r) 10 d P := .of h
theorem se11 {x0 x1 x2 x3 x4 x5 x6 x7 x8 x9 x10 x11 : Option D} {r : Env'} (h : P (x0 :: x1 :: x2 :: x3 :: x4 :: x5 :: x6 :: x7 :: x8 :: x9 :: x10 :: some d :: r)) : Sets (x0 :: x1 :: x2 :: x3 :: x4 :: x5 :: x6 :: x7 :: x8 :: x9 :: x10 :: x11 :: r) 11 d P := .of h
theorem se12 {x0 x1 x2 x3 x4 x5 x6 x7 x8 x9 x10 x11 x12 : Option D} {r : Env'} (h : P (x0 :: x1 :: x2 :: x3 :: x4 :: x5 :: x6 :: x7 :: x8 :: x9 :: x10 :: x11 :: some d :: r)) : Sets (x0 :: x1 :: x2 :: x3 :: x4 :: x5 :: x6 :: x7 :: x8 :: x9 :: x10 :: x11 :: x12 :: r) 12 d P := .of h
theorem se13 {x0 x1 x2 x3 x4 x5 x6 x7 x8 x9 x10 x11 x12 x13 : Option D} {r : Env'} (h : P (x0 :: x1 :: x2 :: x3 :: x4 :: x5 :: x6 :: x7 :: x8 :: x9 :: x10 :: x11 :: x12 :: some d :: r)) : Sets (x0 :: x1 :: x2 :: x3 :: x4 :: x5 :: x6 :: x7 :: x8 :: x9 :: x10 :: x11 :: x12 :: x13 :: r) 13 d P := .of h
theorem se14 {x0 x1 x2 x3 x4 x5 x6 x7 x8 x9 x10 x11 x12 x13 x14 : Option D} {r : Env'} (h : P (x0 :: x1 :: x2 :: x3 :: x4 :: x5 :: x6 :: x7 :: x8 :: x9 :: x10 :: x11 :: x12 :: x13 :: some d :: r)) : Sets (x0 :: x1 :: x2 :: x3 :: x4 :: x5 :: x6 :: x7 :: x8 :: x9 :: x10 :: x11 :: x12 :: x13 :: x14 :: r) 14 d P := .of h
theorem se15 {x0 x1 x2 x3 x4 x5 x6 x7 x8 x9 x10 x11 x12 x13 x14 x15 : Option D} {r : Env'} (h : P (x0 :: x1 :: x2 :: x3 :: x4 :: x5 :: x6 :: x7 :: x8 :: x9 :: x10 :: x11 :: x12 :: x13 :: x14 :: some d :: r)) : Sets (x0 :: x1 :: x2 :: x3 :: x4 :: x5 :: x6 :: x7 :: x8 :: x9 :: x10 :: x11 :: x12 :: x13 :: x14 :: x15 :: r) 15 d P := .of h
theorem se16 {x0 x1 x2 x3 x4 x5 x6 x7 x8 x9 x10 x11 x12 x13 x14 x15 x16 : Option D} {r : Env'} (h : P (x0 :: x1 :: x2 :: x3 :: x4 :: x5 :: x6 :: x7 :: x8 :: x9 :: x10 :: x11 :: x12 :: x13 :: x14 :: x15 :: some d :: r)) : Sets (x0 :: x1 :: x2 :: x3 :: x4 :: x5 :: x6 :: x7 :: x8 :: x9 :: x10 :: x11 :: x12 :: x13 :: x14 :: x15 :: x16 :: r) 16 d P := .of h
theorem se17 {x0 x1 x2 x3 x4 x5 x6 x7 x8 x9 x10 x11 x12 x13 x14 x15 x16 x17 : Option D} {r : Env'} (h : P (x0 :: x1 :: x2 :: x3 :: x4 :: x5 :: x6 :: x7 :: x8 :: x9 :: x10 :: x11 :: x12 :: x13 :: x14 :: x15 :: x16 :: some d :: r)) : Sets (x0 :: x1 :: x2 :: x3 :: x4 :: x5 :: x6 :: x7 :: x8 :: x9 :: x10 :: x11 :: x12 :: x13 :: x14 :: x15 :: x16 :: x17 :: r) 17 d P := .of h
theorem se18 {x0 x1 x2 x3 x4 x5 x6 x7 x8 x9 x10 x11 x12 x13 x14 x15 x16 x17 x18 : Option D} {r : Env'} (h : P (x0 :: x1 :: x2 :: x3 :: x4 :: x5 :: x6 :: x7 :: x8 :: x9 :: x10 :: x11 :: x12 :: x13 :: x14 :: x15 :: x16 :: x17 :: some d :: r)) : Sets (x0 :: x1 :: x2 :: x3 :: x4 :: x5 :: x6 :: x7 :: x8 :: x9 :: x10 :: x11 :: x12 :: x13 :: x14 :: x15 :: x16 :: x17 :: x18 :: r) 18 d P := .of h
theorem se19 {x0 x1 x2 x3 x4 x5 x6 x7 x8 x9 x10 x11 x12 x13 x14 x15 x16 x17 x18 x19 : Option D} {r : Env'} (h : P (x0 :: x1 :: x2 :: x3 :: x4 :: x5 :: x6 :: x7 :: x8 :: x9 :: x10 :: x11 :: x12 :: x13 :: x14 :: x15 :: x16 :: x17 :: x18 :: some d :: r)) : Sets (x0 :: x1 :: x2 :: x3 :: x4 :: x5 :: x6 :: x7 :: x8 :: x9 :: x10 :: x11 :: x12 :: x13 :: x14 :: x15 :: x16 :: x17 :: x18 :: x19 :: r) 19 d P := .of h
theorem se20 {x0 x1 x2 x3 x4 x5 x6 x7 x8 x9 x10 x11 x12 x13 x14 x15 x16 x17 x18 x19 x20 : Option D} {r : Env'} (h : P (x0 :: x1 :: x2 :: x3 :: x4 :: x5 :: x6 :: x7 :: x8 :: x9 :: x10 :: x11 :: x12 :: x13 :: x14 :: x15 :: x16 :: x17 :: x18 :: x19 :: some d :: r)) : Sets (x0 :: x1 :: x2 :: x3 :: x4 :: x5 :: x6 :: x7 :: x8 :: x9 :: x10 :: x11 :: x12 :: x13 :: x14 :: x15 :: x16 :: x17 :: x18 :: x19 :: x20 :: r) 20 d P := .of h
theorem se21 {x0 x1 x2 x3 x4 x5 x6 x7 x8 x9 x10 x11 x12 x13 x14 x15 x16 x17 x18 x19 x20 x21 : Option D} {r : Env'} (h : P (x0 :: x1 :: x2 :: x3 :: x4 :: x5 :: x6 :: x7 :: x8 :: x9 :: x10 :: x11 :: x12 :: x13 :: x14 :: x15 :: x16 :: x17 :: x18 :: x19 :: x20 :: some d :: r)) : Sets (x0 :: x1 :: x2 :: x3 :: x4 :: x5 :: x6 :: x7 :: x8 :: x9 :: x10 :: x11 :: x12 :: x13 :: x14 :: x15 :: x16 :: x17 :: x18 :: x19 :: x20 :: x21 :: r) 21 d P := .of h
theorem se22 {x0 x1 x2 x3 x4 x5 x6 x7 x8 x9 x10 x11 x12 x13 x14 x15 x16 x17 x18 x19 x20 x21 x22 : Option D} {r : Env'} (h : P (x0 :: x1 :: x2 :: x3 :: x4 :: x5 :: x6 :: x7 :: x8 :: x9 :: x10 :: x11 :: x12 :: x13 :: x14 :: x15 :: x16 :: x17 :: x18 :: x19 :: x20 :: x21 :: some d :: r)) : Sets (x0 :: x1 :: x2 :: x3 :: x4 :: x5 :: x6 :: x7 :: x8 :: x9 :: x10 :: x11 :: x12 :: x13 :: x14 :: x15 :: x16 :: x17 :: x18 :: x19 :: x20 :: x21 :: x22 :: r) 22 d P := .of h
theorem se23 {x0 x1 x2 x3 x4 x5 x6 x7 x8 x9 x10 x11 x12 x13 x14 x15 x16 x17 x18 x19 x20 x21 x22 x23 : Option D} {r : Env'} (h : P (x0 :: x1 :: x2 :: x3 :: x4 :: x5 :: x6 :: x7 :: x8 :: x9 :: x10 :: x11 :: x12 :: x13 :: x14 :: x15 :: x16 :: x17 :: x18 :: x19 :: x20 :: x21 :: x22 :: some d :: r)) : Sets (x0 :: x1 :: x2 :: x3 :: x4 :: x5 :: x6 :: x7 :: x8 :: x9 :: x10 :: x11 :: x12 :: x13 :: x14 :: x15 :: x16 :: x17 :: x18 :: x19 :: x20 :: x21 :: x22 :: x23 :: r) 23 d P := .of h
theorem se24 {x0 x1 x2 x3 x4 x5 x6 x7 x8 x9 x10 x11 x12 x13 x14 x15 x16 x17 x18 x19 x20 x21 x22 x23 x24 : Option D} {r : Env'} (h : P (x0 :: x1 :: x2 :: x3 :: x4 :: x5 :: x6 :: x7 :: x8 :: x9 :: x10 :: x11 :: x12 :: x13 :: x14 :: x15 :: x16 :: x17 :: x18 :: x19 :: x20 :: x21 :: x22 :: x23 :: some d :: r)) : Sets (x0 :: x1 :: x2 :: x3 :: x4 :: x5 :: x6 :: x7 :: x8 :: x9 :: x10 :: x11 :: x12 :: x13 :: x14 :: x15 :: x16 :: x17 :: x18 :: x19 :: x20 :: x21 :: x22 :: x23 :: x24 :: r) 24 d P := .of h
theorem se25 {x0 x1 x2 x3 x4 x5 x6 x7 x8 x9 x10 x11 x12 x13 x14 x15 x16 x17 x18 x19 x20 x21 x22 x23 x24 x25 : Option D} {r : Env'} (h : P (x0 :: x1 :: x2 :: x3 :: x4 :: x5 :: x6 :: x7 :: x8 :: x9 :: x10 :: x11 :: x12 :: x13 :: x14 :: x15 :: x16 :: x17 :: x18 :: x19 :: x20 :: x21 :: x22 :: x23 :: x24 :: some d :: r)) : Sets (x0 :: x1 :: x2 :: x3 :: x4 :: x5 :: x6 :: x7 :: x8 :: x9 :: x10 :: x11 :: x12 :: x13 :: x14 :: x15 :: x16 :: x17 :: x18 :: x19 :: x20 :: x21 :: x22 :: x23 :: x24 :: x25 :: r) 25 d P := .of h
theorem se26 {x0 x1 x2 x3 x4 x5 x6 x7 x8 x9 x10 x11 x12 x13 x14 x15 x16 x17 x18 x19 x20 x21 x22 x23 x24 x25 x26 : Option D} {r : Env'} (h : P (x0 :: x1 :: x2 :: x3 :: x4 :: x5 :: x6 :: x7 :: x8 :: x9 :: x10 :: x11 :: x12 :: x13 :: x14 :: x15 :: x16 :: x17 :: x18 :: x19 :: x20 :: x21 :: x22 :: x23 :: x24 :: x25 :: some d :: r)) : Sets (x0 :: x1 :: x2 :: x3 :: x4 :: x5 :: x6 :: x7 :: x8 :: x9 :: x10 :: x11 :: x12 :: x13 :: x14 :: x15 :: x16 :: x17 :: x18 :: x19 :: x20 :: x21 :: x22 :: x23 :: x24 :: x25 :: x26 :: r) 26 d P := .of h
theorem se27 {x0 x1 x2 x3 x4 x5 x6 x7 x8 x9 x10 x11 x12 x13 x14 x15 x16 x17 x18 x19 x20 x21 x22 x23 x24 x25 x26 x27 : Option D} {r : Env'} (h : P (x0 :: x1 :: x2 :: x3 :: x4 :: x5 :: x6 :: x7 :: x8 :: x9 :: x10 :: x11 :: x12 :: x13 :: x14 :: x15 :: x16 :: x17 :: x18 :: x19 :: x20 :: x21 :: x22 :: x23 :: x24 :: x25 :: x26 :: some d :: r)) : Sets (x0 :: x1 :: x2 :: x3 :: x4 :: x5 :: x6 :: x7 :: x8 :: x9 :: x10 :: x11 :: x12 :: x13 :: x14 :: x15 :: x16 :: x17 :: x18 :: x19 :: x20 :: x21 :: x22 :: x23 :: x24 :: x25 :: x26 :: x27 :: r) 27 d P := .of h
theorem se28 {x0 x1 x2 x3 x4 x5 x6 x7 x8 x9 x10 x11 x12 x13 x14 x15 x16 x17 x18 x19 x20 x21 x22 x23 x24 x25 x26 x27 x28 : Option D} {r : Env'} (h : P (x0 :: x1 :: x2 :: x3 :: x4 :: x5 :: x6 :: x7 :: x8 :: x9 :: x10 :: x11 :: x12 :: x13 :: x14 :: x15 :: x16 :: x17 :: x18 :: x19 :: x20 :: x21 :: x22 :: x23 :: x24 :: x25 :: x26 :: x27 :: some d :: r)) : Sets (x0 :: x1 :: x2 :: x3 :: x4 :: x5 :: x6 :: x7 :: x8 :: x9 :: x10 :: x11 :: x12 :: x13 :: x14 :: x15 :: x16 :: x17 :: x18 :: x19 :: x20 :: x21 :: x22 :: x23 :: x24 :: x25 :: x26 :: x27 :: x28 :: r) 28 d P := .of h
theorem se29 {x0 x1 x2 x3 x4 x5 x6 x7 x8 x9 x10 x11 x12 x13 x14 x15 x16 x17 x18 x19 x20 x21 x22 x23 x24 x25 x26 x27 x28 x29 : Option D} {r : Env'} (h : P (x0 :: x1 :: x2 :: x3 :: x4 :: x5 :: x6 :: x7 :: x8 :: x9 :: x10 :: x11 :: x12 :: x13 :: x14 :: x15 :: x16 :: x17 :: x18 :: x19 :: x20 :: x21 :: x22 :: x23 :: x24 :: x25 :: x26 :: x27 :: x28 :: some d :: r)) : Sets (x0 :: x1 :: x2 :: x3 :: x4 :: x5 :: x6 :: x7 :: x8 :: x9 :: x10 :: x11 :: x12 :: x13 :: x14 :: x15 :: x16 :: x17 :: x18 :: x19 :: x20 :: x21 :: x22 :: x23 :: x24 :: x25 :: x26 :: x27 :: x28 :: x29 :: r) 29 d P := .of h
theorem se30 {x0 x1 x2 x3 x4 x5 x6 x7 x8 x9 x10 x11 x12 x13 x14 x15 x16 x17 x18 x19 x20 x21 x22 x23 x24 x25 x26 x27 x28 x29 x30 : Option D} {r : Env'} (h : P (x0 :: x1 :: x2 :: x3 :: x4 :: x5 :: x6 :: x7 :: x8 :: x9 :: x10 :: x11 :: x12 :: x13 :: x14 :: x15 :: x16 :: x17 :: x18 :: x19 :: x20 :: x21 :: x22 :: x23 :: x24 :: x25 :: x26 :: x27 :: x28 :: x29 :: some d :: r)) : Sets (x0 :: x1 :: x2 :: x3 :: x4 :: x5 :: x6 :: x7 :: x8 :: x9 :: x10 :: x11 :: x12 :: x13 :: x14 :: x15 :: x16 :: x17 :: x18 :: x19 :: x20 :: x21 :: x22 :: x23 :: x24 :: x25 :: x26 :: x27 :: x28 :: x29 :: x30 :: r) 30 d P := .of h
theorem se31 {x0 x1 x2 x3 x4 x5 x6 x7 x8 x9 x10 x11 x12 x13 x14 x15 x16 x17 x18 x19 x20 x21 x22 x23 x24 x25 x26 x27 x28 x29 x30 x31 : Option D} {r : Env'} (h : P (x0 :: x1 :: x2 :: x3 :: x4 :: x5 :: x6 :: x7 :: x8 :: x9 :: x10 :: x11 :: x12 :: x13 :: x14 :: x15 :: x16 :: x17 :: x18 :: x19 :: x20 :: x21 :: x22 :: x23 :: x24 :: x25 :: x26 :: x27 :: x28 :: x29 :: x30 :: some d :: r)) : Sets (x0 :: x1 :: x2 :: x3 :: x4 :: x5 :: x6 :: x7 :: x8 :: x9 :: x10 :: x11 :: x12 :: x13 :: x14 :: x15 :: x16 :: x17 :: x18 :: x19 :: x20 :: x21 :: x22 :: x23 :: x24 :: x25 :: x26 :: x27 :: x28 :: x29 :: x30 :: x31 :: r) 31 d P := .of h
theorem se32 {x0 x1 x2 x3 x4 x5 x6 x7 x8 x9 x10 x11 x12 x13 x14 x15 x16 x17 x18 x19 x20 x21 x22 x23 x24 x25 x26 x27 x28 x29 x30 x31 x32 : Option D} {r : Env'} (h : P (x0 :: x1 :: x2 :: x3 :: x4 :: x5 :: x6 :: x7 :: x8 :: x9 :: x10 :: x11 :: x12 :: x13 :: x14 :: x15 :: x16 :: x17 :: x18 :: x19 :: x20 :: x21 :: x22 :: x23 :: x24 :: x25 :: x26 :: x27 :: x28 :: x29 :: x30 :: x31 :: some d :: r)) : Sets (x0 :: x1 :: x2 :: x3 :: x4 :: x5 :: x6 :: x7 :: x8 :: x9 :: x10 :: x11 :: x12 :: x13 :: x14 :: x15 :: x16 :: x17 :: x18 :: x19 :: x20 :: x21 :: x22 :: x23 :: x24 :: x25 :: x26 :: x27 :: x28 :: x29 :: x30 :: x31 :: x32 :: r) 32 d P := .of h
theorem se33 {x0 x1 x2 x3 x4 x5 x6 x7 x8 x9 x10 x11 x12 x13 x14 x15 x16 x17 x18 x19 x20 x21 x22 x23 x24 x25 x26 x27 x28 x29 x30 x31 x32 x33 : Option D} {r : Env'} (h : P (x0 :: x1 :: x2 :: x3 :: x4 :: x5 :: x6 :: x7 :: x8 :: x9 :: x10 :: x11 :: x12 :: x13 :: x14 :: x15 :: x16 :: x17 :: x18 :: x19 :: x20 :: x21 :: x22 :: x23 :: x24 :: x25 :: x26 :: x27 :: x28 :: x29 :: x30 :: x31 :: x32 :: some d :: r)) : Sets (x0 :: x1 :: x2 :: x3 :: x4 :: x5 :: x6 :: x7 :: x8 :: x9 :: x10 :: x11 :: x12 :: x13 :: x14 :: x15 :: x16 :: x17 :: x18 :: x19 :: x20 :: x21 :: x22 :: x23 :: x24 :: x25 :: x26 :: x27 :: x28 :: x29 :: x30 :: x31 :: x32 :: x33 :: r) 33 d P := .of h
theorem se34 {x0 x1 x2 x3 x4 x5 x6 x7 x8 x9 x10 x11 x12 x13 x14 x15 x16 x17 x18 x19 x20 x21 x22 x23 x24 x25 x26 x27 x28 x29 x30 x31 x32 x33 x34 : Option D} {r : Env'} (h : P (x0 :: x1 :: x2 :: x3 :: x4 :: x5 :: x6 :: x7 :: x8 :: x9 :: x10 :: x11 :: x12 :: x13 :: x14 :: x15 :: x16 :: x17 :: x18 :: x19 :: x20 :: x21 :: x22 :: x23 :: x24 :: x25 :: x26 :: x27 :: x28 :: x29 :: x30 :: x31 :: x32 :: x33 :: some d :: r)) : Sets (x0 :: x1 :: x2 :: x3 :: x4 :: x5 :: x6 :: x7 :: x8 :: x9 :: x10 :: x11 :: x12 :: x13 :: x14 :: x15 :: x16 :: x17 :: x18 :: x19 :: x20 :: x21 :: x22 :: x23 :: x24 :: x25 :: x26 :: x27 :: x28 :: x29 :: x30 :: x31 :: x32 :: x33 :: x34 :: r) 34 d P := .of h
theorem se35 {x0 x1 x2 x3 x4 x5 x6 x7 x8 x9 x10 x11 x12 x13 x14 x15 x16 x17 x18 x19 x20 x21 x22 x23 x24 x25 x26 x27 x28 x29 x30 x31 x32 x33 x34 x35 : Option D} {r : Env'} (h : P (x0 :: x1 :: x2 :: x3 :: x4 :: x5 :: x6 :: x7 :: x8 :: x9 :: x10 :: x11 :: x12 :: x13 :: x14 :: x15 :: x16 :: x17 :: x18 :: x19 :: x20 :: x21 :: x22 :: x23 :: x24 :: x25 :: x26 :: x27 :: x28 :: x29 :: x30 :: x31 :: x32 :: x33 :: x34 :: some d :: r)) : Sets (x0 :: x1 :: x2 :: x3 :: x4 :: x5 :: x6 :: x7 :: x8 :: x9 :: x10 :: x11 :: x12 :: x13 :: x14 :: x15 :: x16 :: x17 :: x18 :: x19 :: x20 :: x21 :: x22 :: x23 :: x24 :: x25 :: x26 :: x27 :: x28 :: x29 :: x30 :: x31 :: x32 :: x33 :: x34 :: x35 :: r) 35 d P := .of h
end
section
variable {B : Bx} {X : Cx} {K : PySem.W.Frag} {M : Mem} {Φ : D → Mem → Prop} {Φ' : Mem → Prop} {s g : Addr} {r t e r' t' e' : Int} {cs : List Int}
theorem st_great (k : Φ (.raw (.ref g)) ((s, .dct (stD g r t e cs)) :: M)) : OpD (rIxU K) (.raw (.ref s)) (.str "great") ((s, .dct (stD g r t e cs)) :: M) Φ := od_ixD (k := .inr "great") 0 rfl rfl rfl k
theorem st_rest (k : Φ (.int r) ((s, .dct (stD g r t e cs)) :: M)) : OpD (rIxU K) (.raw (.ref s)) (.str "rest") ((s, .dct (stD g r t e cs)) :: M) Φ := od_ixD (k := .inr "rest") 0 rfl rfl rfl k
theorem st_turn (k : Φ (.int t) ((s, .dct (stD g r t e cs)) :: M)) : OpD (rIxU K) (.raw (.ref s)) (.str "turn") ((s, .dct (stD g r t e cs)) :: M) Φ := od_ixD (k := .inr "turn") 0 rfl rfl rfl k
theorem st_seed (k : Φ (.int e) ((s, .dct (stD g r t e cs)) :: M)) : OpD (rIxU K) (.raw (.ref s)) (.str "seed") ((s, .dct (stD g r t e cs)) :: M) Φ := od_ixD (k := .inr "seed") 0 rfl rfl rfl k
theorem st_cells (k : Φ (.lst (cs.map .int)) ((s, .dct (stD g r t e cs)) :: M)) : OpD (rIxU K) (.raw (.ref s)) (.str "cells") ((s, .dct (stD g r t e cs)) :: M) Φ := od_ixD (k := .inr "cells") 0 rfl rfl rfl k
theorem set_rest (k : Φ' ((s, .dct (stD g r' t e cs)) :: M)) : SetD (.raw (.ref s)) (.str "rest") (.int r') ((s, .dct (stD g r t e cs)) :: M) Φ' := sd_dict (k := .inr "rest") 0 rfl rfl (by show 5 < sizeLine; decide) k
theorem set_turn (k : Φ' ((s, .dct (stD g r t' e cs)) :: M)) : SetD (.raw (.ref s)) (.str "turn") (.int t') ((s, .dct (stD g r t e cs)) :: M) Φ' := sd_dict (k := .inr "turn") 0 rfl rfl (by show 5 < sizeLine; decide) k
theorem set_seed (k : Φ' ((s, .dct (stD g r t e' cs)) :: M)) : SetD (.raw (.ref s)) (.str "seed") (.int e') ((s, .dct (stD g r t e cs)) :: M) Φ' := sd_dict (k := .inr "seed") 0 rfl rfl (by show 5 < sizeLine; decide) k
theorem at_int {cs : List Int} {i : Int} (h0 : 0 ≤ i) (h1 : i < cs.length) : ∃ c, c ∈ cs ∧ atI (cs.map D.int) i = some (.int c) := by
  have hl : i.toNat < cs.length := by omega
  refine ⟨cs[i.toNat], List.getElem_mem hl, ?_⟩
  unfold atI ixN
  rw [if_pos h0, if_pos (by rw [List.length_map]; exact h1)]
  show (cs.map D.int)[i.toNat]? = _
  rw [List.getElem?_map, List.getElem?_eq_getElem hl]; rfl
end
/-! what kind of goal it is -/
section
variable {B : Bx} {X : Cx} {e a b c o v : Expr} {es : List Expr} {st : Stmt} {sts : List Stmt} {δ : Env'} {M : Mem} {Φ : D → Mem → Prop} {Ψ : DEnds} {ΦB : Bool → Mem → Prop} {ΦL : List D → Mem → Prop} {ΦM : Mem → Prop} {ΦE : Env' → Mem → Prop} {d x y : D} {pos : Pos}
theorem idE (h : DE B X e δ M Φ) : DE B X e δ M Φ := h
theorem idName {n : Str} (h : DE B X (.Name n pos) δ M Φ) : DE B X (.Name n pos) δ M Φ := h
theorem idCst {n : Const} {j} (h : DE B X (.Constant n j pos) δ M Φ) : DE B X (.Constant n j pos) δ M Φ := h
theorem idBin {op} (h : DE B X (.BinOp a op b pos) δ M Φ) : DE B X (.BinOp a op b pos) δ M Φ := h
theorem idCmp {ops bs} (h : DE B X (.Compare a ops bs pos) δ M Φ) : DE B X (.Compare a ops bs pos) δ M Φ := h
theorem idCallN {n : Str} {p ks} (h : DE B X (.Call (.Name n p) es ks pos) δ M Φ) : DE B X (.Call (.Name n p) es ks pos) δ M Φ := h
theorem idCallA {n : Str} {p ks} (h : DE B X (.Call (.Attribute o n p) es ks pos) δ M Φ) : DE B X (.Call (.Attribute o n p) es ks pos) δ M Φ := h
theorem idA (h : DA B X es δ M ΦL) : DA B X es δ M ΦL := h
theorem idT (h : DT B X e δ M ΦB) : DT B X e δ M ΦB := h
theorem idTC {ops bs} (h : DT B X (.Compare a ops bs pos) δ M ΦB) : DT B X (.Compare a ops bs pos) δ M ΦB := h
theorem idW (h : DW B X e δ M ΦB) : DW B X e δ M ΦB := h
theorem idS (h : DS B X st δ M Ψ) : DS B X st δ M Ψ := h
theorem idAsg {t} (h : DS B X (.Assign t e pos) δ M Ψ) : DS B X (.Assign t e pos) δ M Ψ := h
theorem idSs (h : DSs B X sts δ M Ψ) : DSs B X sts δ M Ψ := h
theorem idG (h : DG B X e d δ M ΦE) : DG B X e d δ M ΦE := h
theorem idGs {ds : List D} (h : DGs B X es ds δ M ΦE) : DGs B X es ds δ M ΦE := h
theorem idO {r : R2} (h : OpD r x y M Φ) : OpD r x y M Φ := h
theorem idOx {K : PySem.W.Frag} (h : OpD (rIxU K) x y M Φ) : OpD (rIxU K) x y M Φ := h
theorem idC {r : List V → Hp → VK → Prop} {ds : List D} (h : CallD r ds M Φ) : CallD r ds M Φ := h
theorem idSet (h : SetD x y d M ΦM) : SetD x y d M ΦM := h
theorem idSl {i : Nat} {P : Env' → Prop} (h : Sets δ i d P) : Sets δ i d P := h
theorem idBr {b : Bool} {P Q : Prop} (h : Br b P Q) : Br b P Q := h
end
section
variable {M : Mem} {Φ : D → Mem → Prop} {i j : Int}
theorem od_mulS (h : (-(2 ^ 64) < i ∧ i < 2 ^ 64) ∨ (-(2 ^ 64) < j ∧ j < 2 ^ 64)) (k : Φ (.int (i * j)) M) : OpD rMulU (.int i) (.int j) M Φ := od_mul h k
theorem log2_small {j : Int} (h : 0 < j) (h2 : j < 2 ^ 1000) : j.natAbs.log2 < 9000 := by
  have : j.natAbs < 2 ^ 1000 := by omega
  exact Nat.lt_trans (PySem.Flt.log2_lt_of (by decide) this) (by decide)
theorem od_divS (h : 0 < j) (h2 : j < 2 ^ 1000) (k : Φ (.int (i / j)) M) : OpD rDivU (.int i) (.int j) M Φ := od_div ⟨h, log2_small h h2⟩ k
theorem p10_1 (k : Φ (.int 10) M) : OpD rPowU (.int 10) (.int 1) M Φ := od_pow ⟨by decide, by decide, by decide⟩ k
theorem p10_2 (k : Φ (.int 100) M) : OpD rPowU (.int 10) (.int 2) M Φ := od_pow ⟨by decide, by decide, by decide⟩ k
theorem p10_3 (k : Φ (.int 1000) M) : OpD rPowU (.int 10) (.int 3) M Φ := od_pow ⟨by decide, by decide, by decide⟩ k
theorem p10_4 (k : Φ (.int 10000) M) : OpD rPowU (.int 10) (.int 4) M Φ := od_pow ⟨by decide, by decide, by decide⟩ k
theorem p10_5 (k : Φ (.int 100000) M) : OpD rPowU (.int 10) (.int 5) M Φ := od_pow ⟨by decide, by decide, by decide⟩ k
theorem p10_6 (k : Φ (.int 1000000) M) : OpD rPowU (.int 10) (.int 6) M Φ := od_pow ⟨by decide, by decide, by decide⟩ k
theorem p10_7 (k : Φ (.int 10000000) M) : OpD rPowU (.int 10) (.int 7) M Φ := od_pow ⟨by decide, by decide, by decide⟩ k
theorem p10_8 (k : Φ (.int 100000000) M) : OpD rPowU (.int 10) (.int 8) M Φ := od_pow ⟨by decide, by decide, by decide⟩ k
theorem p10_9 (k : Φ (.int 1000000000) M) : OpD rPowU (.int 10) (.int 9) M Φ := od_pow ⟨by decide, by decide, by decide⟩ k
theorem p10_10 (k : Φ (.int 10000000000) M) : OpD rPowU (.int 10) (.int 10) M Φ := od_pow ⟨by decide, by decide, by decide⟩ k
theorem p10_11 (k : Φ (.int 100000000000) M) : OpD rPowU (.int 10) (.int 11) M Φ := od_pow ⟨by decide, by decide, by decide⟩ k
theorem p10_12 (k : Φ (.int 1000000000000) M) : OpD rPowU (.int 10) (.int 12) M Φ := od_pow ⟨by decide, by decide, by decide⟩ k
theorem p10_13 (k : Φ (.int 10000000000000) M) : OpD rPowU (.int 10) (.int 13) M Φ := od_pow ⟨by decide, by decide, by decide⟩ k
theorem p10_14 (k : Φ (.int 100000000000000) M) : OpD rPowU (.int 10) (.int 14) M Φ := od_pow ⟨by decide, by decide, by decide⟩ k
theorem p10_15 (k : Φ (.int 1000000000000000) M) : OpD rPowU (.int 10) (.int 15) M Φ := od_pow ⟨by decide, by decide, by decide⟩ k
theorem p10_16 (k : Φ (.int 10000000000000000) M) : OpD rPowU (.int 10) (.int 16) M Φ := od_pow ⟨by decide, by decide, by decide⟩ k
theorem p10_17 (k : Φ (.int 100000000000000000) M) : OpD rPowU (.int 10) (.int 17) M Φ := od_pow ⟨by decide, by decide, by decide⟩ k
theorem p10_18 (k : Φ (.int 1000000000000000000) M) : OpD rPowU (.int 10) (.int 18) M Φ := od_pow ⟨by decide, by decide, by decide⟩ k
theorem p10_19 (k : Φ (.int 10000000000000000000) M) : OpD rPowU (.int 10) (.int 19) M Φ := od_pow ⟨by decide, by decide, by decide⟩ k
theorem p10_20 (k : Φ (.int 100000000000000000000) M) : OpD rPowU (.int 10) (.int 20) M Φ := od_pow ⟨by decide, by decide, by decide⟩ k
theorem p10_21 (k : Φ (.int 1000000000000000000000) M) : OpD rPowU (.int 10) (.int 21) M Φ := od_pow ⟨by decide, by decide, by decide⟩ k
theorem p10_22 (k : Φ (.int 10000000000000000000000) M) : OpD rPowU (.int 10) (.int 22) M Φ := od_pow ⟨by decide, by decide, by decide⟩ k
theorem p10_23 (k : Φ (.int 100000000000000000000000) M) : OpD rPowU (.int 10) (.int 23) M Φ := od_pow ⟨by decide, by decide, by decide⟩ k
theorem p10_24 (k : Φ (.int 1000000000000000000000000) M) : OpD rPowU (.int 10) (.int 24) M Φ := od_pow ⟨by decide, by decide, by decide⟩ k
theorem p10_25 (k : Φ (.int 10000000000000000000000000) M) : OpD rPowU (.int 10) (.int 25) M Φ := od_pow ⟨by decide, by decide, by decide⟩ k
theorem p10_26 (k : Φ (.int 100000000000000000000000000) M) : OpD rPowU (.int 10) (.int 26) M Φ := od_pow ⟨by decide, by decide, by decide⟩ k
theorem p10_27 (k : Φ (.int 1000000000000000000000000000) M) : OpD rPowU (.int 10) (.int 27) M Φ := od_pow ⟨by decide, by decide, by decide⟩ k
theorem p10_28 (k : Φ (.int 10000000000000000000000000000) M) : OpD rPowU (.int 10) (.int 28) M Φ := od_pow ⟨by decide, by decide, by decide⟩ k
theorem p10_29 (k : Φ (.int 100000000000000000000000000000) M) : OpD rPowU (.int 10) (.int 29) M Φ := od_pow ⟨by decide, by decide, by decide⟩ k
theorem p10_30 (k : Φ (.int 1000000000000000000000000000000) M) : OpD rPowU (.int 10) (.int 30) M Φ := od_pow ⟨by decide, by decide, by decide⟩ k
theorem p10_31 (k : Φ (.int 10000000000000000000000000000000) M) : OpD rPowU (.int 10) (.int 31) M Φ := od_pow ⟨by decide, by decide, by decide⟩ k
theorem p10_32 (k : Φ (.int 100000000000000000000000000000000) M) : OpD rPowU (.int 10) (.int 32) M Φ := od_pow ⟨by decide, by decide, by decide⟩ k
theorem p10_33 (k : Φ (.int 1000000000000000000000000000000000) M) : OpD rPowU (.int 10) (.int 33) M Φ := od_pow ⟨by decide, by decide, by decide⟩ k
theorem p10_34 (k : Φ (.int 10000000000000000000000000000000000) M) : OpD rPowU (.int 10) (.int 34) M Φ := od_pow ⟨by decide, by decide, by decide⟩ k
theorem p10_35 (k : Φ (.int 100000000000000000000000000000000000) M) : OpD rPowU (.int 10) (.int 35) M Φ := od_pow ⟨by decide, by decide, by decide⟩ k
theorem p10_36 (k : Φ (.int 1000000000000000000000000000000000000) M) : OpD rPowU (.int 10) (.int 36) M Φ := od_pow ⟨by decide, by decide, by decide⟩ k
theorem p10_37 (k : Φ (.int 10000000000000000000000000000000000000) M) : OpD rPowU (.int 10) (.int 37) M Φ := od_pow ⟨by decide, by decide, by decide⟩ k
theorem p10_38 (k : Φ (.int 100000000000000000000000000000000000000) M) : OpD rPowU (.int 10) (.int 38) M Φ := od_pow ⟨by decide, by decide, by decide⟩ k
theorem p10_39 (k : Φ (.int 1000000000000000000000000000000000000000) M) : OpD rPowU (.int 10) (.int 39) M Φ := od_pow ⟨by decide, by decide, by decide⟩ k
theorem p10_40 (k : Φ (.int 10000000000000000000000000000000000000000) M) : OpD rPowU (.int 10) (.int 40) M Φ := od_pow ⟨by decide, by decide, by decide⟩ k
theorem p10_41 (k : Φ (.int 100000000000000000000000000000000000000000) M) : OpD rPowU (.int 10) (.int 41) M Φ := od_pow ⟨by decide, by decide, by decide⟩ k
theorem p10_42 (k : Φ (.int 1000000000000000000000000000000000000000000) M) : OpD rPowU (.int 10) (.int 42) M Φ := od_pow ⟨by decide, by decide, by decide⟩ k
theorem p10_43 (k : Φ (.int 10000000000000000000000000000000000000000000) M) : OpD rPowU (.int 10) (.int 43) M Φ := od_pow ⟨by decide, by decide, by decide⟩ k
theorem p10_44 (k : Φ (.int 100000000000000000000000000000000000000000000) M) : OpD rPowU (.int 10) (.int 44) M Φ := od_pow ⟨by decide, by decide, by decide⟩ k
theorem p10_45 (k : Φ (.int 1000000000000000000000000000000000000000000000) M) : OpD rPowU (.int 10) (.int 45) M Φ := od_pow ⟨by decide, by decide, by decide⟩ k
end
end Hl
namespace Hl
open PySem L2
section
variable {B : Bx} {X : Cx} {e a b c o : Expr} {es rest : List Expr} {st : Stmt} {sts : List Stmt} {δ δ' : Env'} {M : Mem} {Φ : D → Mem → Prop} {Ψ : DEnds} {te ta tb : TE} {tt : TT} {pos pos' apos : Pos} {d x y : D} {ΦB : Bool → Mem → Prop} {ΦL : List D → Mem → Prop}
/-- a new list as a cell at place k -/
theorem DE.own (k : Nat) (h : DF B X e δ M fun ds M' => ∀ p : Addr, Φ (.raw (.ref p)) (insM k (p, .lst ds) M')) : DE B X e δ M Φ := fun κ σ H Q hb R kk => h κ σ H Q hb R fun p ds M' H' q R' => kk _ _ _ _ (q p) (R'.perm insM_perm) (.raw _)
/-! dict displays -/
def DPs (B : Bx) (X : Cx) : List (Option Expr) → List Expr → Env' → Mem → (List (D × D) → Mem → Prop) → Prop
  | [], [], _, M, Φ => Φ [] M
  | some k :: ks, v :: vs, δ, M, Φ => DE B X k δ M fun x M1 => DE B X v δ M1 fun y M2 => DPs B X ks vs δ M2 fun ps M3 => Φ ((x, y) :: ps) M3
  | _, _, _, _, _ => False
def trsOf (X : Cx) : List (Option Expr) → List Expr → List (TE × TE)
  | some k :: ks, v :: vs => (tE X k, tE X v) :: trsOf X ks vs
  | _, _ => []
def isSomes : List (Option Expr) → List Expr → Bool
  | [], [] => true
  | some _ :: ks, _ :: vs => isSomes ks vs
  | _, _ => false
theorem pps_of : ∀ {ks : List (Option Expr)} {vs : List Expr}, isSomes ks vs = true → PPs X pos ks vs (trsOf X ks vs)
  | [], [], _ => pps_nil
  | some k :: ks, v :: vs, h => pps_cons cE cE (pps_of (ks := ks) (vs := vs) h)
  | [], _ :: _, h => by cases h
  | none :: _, _, h => by cases h
  | some _ :: _, [], h => by cases h
def PairRep (F : List Addr) (H : Hp) : List (V × V) → List (D × D) → Prop := Paired fun p q => Rep F H p.1 q.1 ∧ Rep F H p.2 q.2
theorem pairs_run : ∀ {ks : List (Option Expr)} {vs : List Expr} {M : Mem} {Φ : List (D × D) → Mem → Prop} {κ : List (V × D)} {σ : St} {H : Hp} {Q : List (V × V) → Hp → Prop}, DPs B X ks vs δ M Φ → (∀ q ∈ B.ps, q ∈ κ) → Rs κ δ M σ H →
    (∀ ps ds M' H', Φ ds M' → Rs κ δ M' σ H' → PairRep M'.F H' ps ds → Q ps H') → tPairs (trsOf X ks vs) σ H Q
  | [], [], _, _, _, _, _, _, h, hb, R, k => k [] [] _ _ h R .nil
  | some ke :: ks, v :: vs, M, Φ, κ, σ, H, Q, h, hb, R, k => by
    refine (show DE B X ke δ M _ from h) κ σ H _ hb R fun u x M1 H1 q1 R1 r1 => ?_
    refine q1 ((u, x) :: κ) σ H1 _ (fun q hq => List.mem_cons_of_mem _ (hb q hq)) (R1.push r1) fun w y M2 H2 q2 R2 r2 => ?_
    refine pairs_run q2 (fun q hq => List.mem_cons_of_mem _ (List.mem_cons_of_mem _ (hb q hq))) (R2.push r2) fun ps ds M3 H3 q3 R3 r3 => ?_
    exact k _ _ _ _ q3 R3.pop.pop (.cons ⟨R3.pop.top, R3.top⟩ r3)
  | [], _ :: _, _, _, _, _, _, _, h, _, _, _ => h.elim
  | none :: _, _, _, _, _, _, _, _, h, _, _, _ => by cases h
  | some _ :: _, [], _, _, _, _, _, _, h, _, _, _ => h.elim
def mergeD (kvs more : List (Key × D)) : List (Key × D) := more.foldl (fun acc kv => putD acc kv.1 kv.2) kvs
theorem pair_keys {F : List Addr} {H : Hp} : ∀ {ps : List (V × V)} {kvs : List (Key × D)}, PairRep F H ps (kvs.map fun kv => (kD kv.1, kv.2)) → ∃ ws : List (Key × V), ps = ws.map (fun kv => (kV kv.1, kv.2)) ∧ ws.map (·.1) = kvs.map (·.1) ∧ Reps F H (ws.map (·.2)) (kvs.map (·.2))
  | _, [], .nil => ⟨[], rfl, rfl, .nil⟩
  | (v1, v2) :: ps, (k, d) :: kvs, .cons ⟨r1, r2⟩ t => by
    obtain ⟨ws, e1, e2, r⟩ := pair_keys (kvs := kvs) t
    have := rep_k r1
    exact ⟨(k, v2) :: ws, by rw [e1]; show (v1, v2) :: _ = (kV k, v2) :: _; rw [show v1 = kV k from this], by simp [e2], .cons r2 r⟩
theorem merge_rep {F : List Addr} {H : Hp} : ∀ {ws : List (Key × V)} {kvs : List (Key × D)} {ws0 : List (Key × V)} {kvs0 : List (Key × D)}, ws.map (·.1) = kvs.map (·.1) → Reps F H (ws.map (·.2)) (kvs.map (·.2)) → ws0.map (·.1) = kvs0.map (·.1) → Reps F H (ws0.map (·.2)) (kvs0.map (·.2)) →
    (mergeK ws0 ws).map (·.1) = (mergeD kvs0 kvs).map (·.1) ∧ Reps F H ((mergeK ws0 ws).map (·.2)) ((mergeD kvs0 kvs).map (·.2))
  | [], [], _, _, _, _, h1, h2 => ⟨h1, h2⟩
  | [], _ :: _, _, _, h, _, _, _ => by cases h
  | _ :: _, [], _, _, h, _, _, _ => by cases h
  | (k1, v) :: ws, (k2, d) :: kvs, ws0, kvs0, h, r, h1, h2 => by
    have e1 : k1 = k2 := (List.cons.inj h).1
    have e2 : ws.map (·.1) = kvs.map (·.1) := (List.cons.inj h).2
    subst e1
    cases r with
    | cons r1 r2 => exact merge_rep (ws0 := putK ws0 k1 v) (kvs0 := putD kvs0 k1 d) e2 r2 (put_keys h1) (put_vals r1 h1 h2)
theorem de_disp {keys : List (Option Expr)} {values : List Expr} (k : Nat) (hi : isSomes keys values = true) (hall : keys.all (·.isSome) = true) (hl : keys.length = values.length) (h0 : keys ≠ []) (h15 : keys.length ≤ 15)
    (h : ∀ p, DPs B X keys values δ (insM k (p, .dct []) M) fun ps M2 => ∃ j kvs, M2[j]? = some (p, .dct []) ∧ ps = kvs.map (fun kv => (kD kv.1, kv.2)) ∧ kvs.length ≤ 15 ∧ Φ (.raw (.ref p)) (M2.set j (p, .dct (mergeD [] kvs)))) : DE B X (.Dict keys values pos) δ M Φ := by
  refine .of (pe_disp (pps_of hi) hall hl h0 h15) fun κ σ H Q hb R kk => ?_
  intro p hp
  have R1 : Rs κ δ (insM k (p, .dct []) M) σ (upd H p (.dK [])) := (R.dct (kvs := []) (ws := []) hp rfl .nil).perm insM_perm
  refine pairs_run (h p) hb R1 fun ps ds M2 H2 ⟨j, kvs, ej, ep, hk, q⟩ R2 r2 => ?_
  subst ep
  obtain ⟨ws0, e0, e1, r0⟩ := R2.at ej
  have hw : ws0 = [] := by cases ws0 with | nil => rfl | cons _ _ => cases e1
  subst hw
  obtain ⟨ws, ep, e2, rr⟩ := pair_keys r2
  refine ⟨e0, ws, ep, ?_, ?_⟩
  · have := congrArg List.length e2
    rw [List.length_map, List.length_map] at this
    omega
  · refine kk _ _ _ _ q ?_ (.raw _)
    obtain ⟨m1, m2⟩ := merge_rep (ws0 := []) (kvs0 := []) e2 rr rfl .nil
    have hpF : ∀ x, x ∉ M2.F → upd H2 p (.dK (mergeK [] ws)) x = H2 x := fun x hx => upd_ne fun z => hx (z ▸ R2.mem ej p (by simp [own]))
    exact R2.cell ej rfl (fun x hx => upd_ne (by simpa [own] using hx)) ⟨_, upd_same, m1, m2.fwd (Fwd.same hpF)⟩
/-! the script is walked -/
theorem wd_scr {κ : List (V × D)} {a : Addr} {K : PySem.W.Frag} {ns : List Int} : WalkD ((.ref a, .scr K ns) :: κ) (ns.map .int) (Itl K a) := by
  have sq : ∀ {δ : Env'} {M : Mem} {σ : St} {H : Hp}, Rs ((.ref a, .scr K ns) :: κ) δ M σ H → SqL K H a (ns.map V.int) := fun R => by
    cases R.top with
    | scrH h e => exact .inl e
    | scrK h => exact h _
  exact {
    goes := fun i δ M σ H hi R => by
      rw [List.length_map] at hi
      exact ⟨_, .int ns[i], sq R, by simp [hi]⟩
    stops := fun δ M σ H R => ⟨_, sq R, by simp⟩
    yields := fun i δ M σ H x H' hi R y => by
      obtain ⟨rfl, y⟩ := y
      have := y _ (sq R)
      rw [List.getElem?_map] at this
      cases e : ns[i]? with
      | none => rw [e] at this; cases this
      | some n =>
        rw [e] at this
        have ex : V.int n = x := Option.some.inj this
        subst ex
        exact ⟨.int n, by rw [List.getElem?_map, e]; rfl, R, .int n⟩ }
theorem di_scr {tg iter : Expr} (h : DE B X iter δ M fun d M' => ∃ ns, d = .scr X.K ns ∧ ΦL (ns.map .int) M') : DI B X tg iter δ M ΦL := ⟨_, pi_list cE, fun κ σ H R hb Rr k => h κ σ H _ hb Rr fun v d M1 H1 ⟨ns, ed, q⟩ R1 r1 => by
  subst ed
  cases r1 with
  | scrH h e => exact ⟨_, rfl, ⟨_, .inl e⟩, k _ M1 H1 _ _ q (fun q hq => List.mem_cons_of_mem _ hq) (R1.push (.scrH h e)) wd_scr⟩
  | scrK h => exact ⟨_, rfl, ⟨_, h _⟩, k _ M1 H1 _ _ q (fun q hq => List.mem_cons_of_mem _ hq) (R1.push (.scrK h)) wd_scr⟩⟩
/-- a comprehension without effects: each item gives F of it -/
theorem LcH.pure {scope : Scope} {elt : Expr} {ifs : List Expr} {own : List (Str × Nat)} {tk : Tk} {xs : List D} {k : Nat} (F : D → Option D) (hl : xs.length ≤ sizeLine)
    (h : ∀ (p : Addr) acc x, x ∈ xs → ∃ δ2, bindK tk x (wipeD δ (own.map (·.2))) = some δ2 ∧ Turn1 B X scope elt ifs δ2 (insM k (p, .lst acc) M) fun od M2 => od = F x ∧ M2 = insM k (p, .lst acc) M)
    (q : ΦL (xs.filterMap F) M) : LcH k B X scope elt ifs own tk δ xs M ΦL := by
  refine ⟨fun i acc M1 => M1 = M ∧ acc = (xs.take i).filterMap F ∧ acc.length ≤ i, ⟨rfl, rfl, Nat.le_refl _⟩, ?_, ?_⟩
  · rintro p i x acc M1 hx ⟨rfl, ha, hal⟩
    have hi : i < xs.length := (List.getElem?_eq_some_iff.mp hx).1
    obtain ⟨δ2, e1, tu⟩ := h p acc x (List.mem_of_getElem? hx)
    have fin : ∀ (od : Option D) M2, od = F x ∧ M2 = insM k (p, .lst acc) M1 → ∃ M3, M2 = insM k (p, .lst acc) M3 ∧ M3 = M1 ∧ acc ++ od.toList = (xs.take (i + 1)).filterMap F ∧ (acc ++ od.toList).length ≤ i + 1 := by
      rintro od M2 ⟨rfl, rfl⟩
      refine ⟨M1, rfl, rfl, ?_, ?_⟩
      · rw [List.take_add_one, hx, List.filterMap_append, ← ha]
        cases e : F x <;> simp [e]
      · rw [List.length_append]
        cases F x <;> simp <;> omega
    refine ⟨by omega, δ2, e1, ?_⟩
    unfold Turn1 at tu ⊢
    match ifs, tu with
    | [], tu => exact fun X' bk => (tu X' bk).mono fun d M2 q => fin _ _ q
    | [c], tu => exact fun X' bk => (tu X' bk).mono fun t M2 q => ⟨fun e X2 bk2 => (q.1 e X2 bk2).mono fun d M3 q => fin _ _ q, fun e => fin _ _ (q.2 e)⟩
    | _ :: _ :: _, tu => exact tu.elim
  · rintro acc M1 ⟨rfl, rfl, _⟩
    rw [List.take_length]
    exact q
end
end Hl
namespace Hl
open PySem L2
section
variable {B : Bx} {X X' : Cx} {scope : Scope} {n i : Nat} {x : Str} {pos tpos : Pos}
theorem pg_one (bk : Bk X X' scope) (z : Cz X n) (l : Lo X' i x) : PG X' (.Name x pos) (gK X.K (.one i)) := pg_name (bk.z z).nd l.at_ l.loc l.fn
end
/-! ### the draws -/
/-- a number below many -/
def pTake : DSp := fun ds M Φ => ∃ s g b n M', ds = [.raw (.ref s), .int n] ∧ M = (s, .st g (b + 1)) :: M' ∧ 0 < n ∧ n < 2 ^ 1000 ∧ ∀ r, 0 ≤ r → r < n → Φ (.int r) ((s, .st g b) :: M')
theorem c_take {s g : Addr} {b : Nat} {n : Int} {M : Mem} {Φ : D → Mem → Prop} (hb : 0 < b) (h0 : 0 < n) (h1 : n < 2 ^ 1000) (k : ∀ r, 0 ≤ r → r < n → Φ (.int r) ((s, .st g (b - 1)) :: M)) : pTake [.raw (.ref s), .int n] ((s, .st g b) :: M) Φ := by
  refine ⟨s, g, b - 1, n, M, rfl, ?_, h0, h1, k⟩
  rw [Nat.sub_add_cancel hb]
/-- the state of a script -/
def pBegun (K : PySem.W.Frag) : DSp := fun ds M Φ => ∃ ns, ds = [.scr K ns] ∧ ns.length ≤ 63 ∧ ∀ s g, Φ (.raw (.ref s)) ((s, .st g 1000000000000) :: M)
def bigOnes (ns : List Int) : List Int := ns.filter fun n => decide (1000000000000000000 ≤ n)
def bigF : D → Option D
  | .int n => if 1000000000000000000 ≤ n then some (.int n) else none
  | _ => none
def modF : D → Option D
  | .int n => some (.int (n % 2147483629))
  | _ => none
theorem big_map (ns : List Int) : (ns.map D.int).filterMap bigF = (bigOnes ns).map D.int := by
  induction ns with
  | nil => rfl
  | cons n ns ih =>
    rw [List.map_cons, List.filterMap_cons]
    unfold bigOnes at ih ⊢
    rw [List.filter_cons]
    by_cases h : 1000000000000000000 ≤ n
    · simp only [bigF, h, if_true, decide_true, List.map_cons, ih]
    · simp only [bigF, h, if_false, decide_false, ih]; rfl
theorem rest_map (ns : List Int) : (ns.map D.int).filterMap modF = (ns.map fun n => n % 2147483629).map D.int := by
  induction ns with
  | nil => rfl
  | cons n ns ih => rw [List.map_cons, List.filterMap_cons]; simp only [modF, ih, List.map_cons]
theorem begun_ok (ns : List Int) (h : ns.length ≤ 63) : StOk 1000000000000 (bigOnes ns) 0 0 7 ((ns.map fun n => n % 2147483629) ++ [77]) := by
  refine ⟨fun x hx => ?_, by decide, by decide, by decide, by decide, by decide, fun x hx => ?_, by simp, by simp; omega⟩
  · have := of_decide_eq_true (List.mem_filter.mp hx).2
    omega
  · rcases List.mem_append.mp hx with hx | hx
    · obtain ⟨n, _, rfl⟩ := List.mem_map.mp hx
      exact ⟨Int.emod_nonneg _ (by decide), Int.emod_lt_of_pos _ (by decide)⟩
    · have : x = 77 := by simpa using hx
      subst this; decide
theorem c_begun {K : PySem.W.Frag} {ns : List Int} {M : Mem} {Φ : D → Mem → Prop} (h : ns.length ≤ 63) (k : ∀ s g, Φ (.raw (.ref s)) ((s, .st g 1000000000000) :: M)) : pBegun K [.scr K ns] M Φ := ⟨ns, rfl, h, k⟩
theorem at_sign {z : Str} {i : Int} (h0 : 0 ≤ i) (h1 : i < z.length) : ∃ c, atI z.cps.toList i = some c := by
  have hl : i.toNat < z.cps.toList.length := by
    have : z.length = z.cps.toList.length := by simp [Str.length]
    omega
  obtain ⟨j, rfl⟩ : ∃ j : Nat, i = (j : Int) := ⟨i.toNat, by omega⟩
  exact ⟨z.cps.toList[j], atI_nat (by simp [hl])⟩
end Hl
namespace Hl
open PySem L2
/-! ### calls with keywords -/
@[irreducible] def tKw (X : Cx) (kws : List Keyword) : TA := fun σ H Q => ∀ (pos : Pos) pins s, Inv X pins σ H s → wpAny (model X.prog X.w) X.A (evalAll ((backToKw pos (keywordEach kws X.env)).map (·.2))) (AP X pins σ Q) X.xe s
theorem cK {X : Cx} {kws : List Keyword} : PK X kws (tKw X kws) := ⟨fun pos pins s _ _ _ I h => by unfold tKw at h; exact h pos pins s I⟩
abbrev DK (B : Bx) (X : Cx) (kws : List Keyword) := WA B (tKw X kws)
structure DefK (P : Program) (w : World) (K : PySem.W.Frag) (mg : Str → Option Value) (base : Heap) (k : Nat) (x : Str) (ks ps : List Str) (pm : List Nat) (p : DSp) : Prop where
  ex : ∃ f fd, mg x = some (.ref f) ∧ PySem.W.keepIn K (.ref f) = true ∧ (∀ (s : Shared) (ws : List Value), ws.length = ks.length → BindsTo s fd ⟨[], ks.zip ws⟩ (ps.zip (pm.map fun j => ws.getD j .none))) ∧ (∀ j ∈ pm, j < ks.length) ∧ FnOk P w K mg base CX0 k f fd ps (lift p)
abbrev DefKX (X : Cx) := DefK X.prog X.w X.K X.mg X.base
section
variable {B : Bx} {X : Cx} {e a b c o : Expr} {es rest : List Expr} {st : Stmt} {sts : List Stmt} {δ δ' : Env'} {M : Mem} {Φ : D → Mem → Prop} {Ψ : DEnds} {te ta tb : TE} {tt : TT} {pos pos' apos kpos : Pos} {d x y : D} {ΦB : Bool → Mem → Prop} {ΦL : List D → Mem → Prop} {kws : List Keyword} {nm : Option Str}
theorem DK.of {t : TA} (h : PK X kws t) (w : WA B t δ M ΦL) : DK B X kws δ M ΦL := fun κ σ H Q hb R k => by unfold tKw; exact fun pos pins s I => h.run pos pins s σ H Q I (w κ σ H Q hb R k)
theorem dk_nil (k : ΦL [] M) : DK B X [] δ M ΦL := .of pk_nil fun κ σ H Q hb R h => h _ _ M H k R .nil
theorem dk_cons (h : DE B X a δ M fun x M1 => DK B X kws δ M1 fun xs M2 => ΦL (x :: xs) M2) : DK B X (⟨nm, a, kpos⟩ :: kws) δ M ΦL := .of (pk_cons cE cK) fun κ σ H Q hb R k =>
  h κ σ H _ hb R fun v x M1 H1 q1 R1 r1 => q1 ((v, x) :: κ) σ H1 _ (fun q hq => List.mem_cons_of_mem _ (hb q hq)) (R1.push r1) fun vs xs M2 H2 q2 R2 r2 => k _ _ _ _ q2 R2.pop (.cons R2.top r2)
theorem Reps.pick {F : List Addr} {H : Hp} {vs : List V} {ds : List D} (r : Reps F H vs ds) : ∀ (pm : List Nat), (∀ j ∈ pm, j < vs.length) → Reps F H (pm.map fun j => vs.getD j .non) (pm.map fun j => ds.getD j .non)
  | [], _ => .nil
  | j :: pm, h => by
    have hj := h j List.mem_cons_self
    obtain ⟨d, e1, r1⟩ := r.get (i := j) (v := vs[j]) (by simp [hj])
    refine .cons ?_ (r.pick pm fun i hi => h i (List.mem_cons_of_mem _ hi))
    have a1 : vs.getD j .non = vs[j] := by simp [List.getD, hj]
    have a2 : ds.getD j .non = d := by simp [List.getD, e1]
    dsimp only
    rw [a1, a2]; exact r1
theorem Vals.pick {vs : List V} {us : List Value} (r : Vals vs us) : ∀ (pm : List Nat), (∀ j ∈ pm, j < vs.length) → Vals (pm.map fun j => vs.getD j .non) (pm.map fun j => us.getD j .none)
  | [], _ => .nil
  | j :: pm, h => by
    have hj := h j List.mem_cons_self
    obtain ⟨u, e1, r1⟩ := Vals.get r (i := j) (x := vs[j]) (by simp [hj])
    refine .cons ?_ (Vals.pick r pm fun i hi => h i (List.mem_cons_of_mem _ hi))
    have a1 : vs.getD j .non = vs[j] := by simp [List.getD, hj]
    have a2 : us.getD j .none = u := by simp [List.getD, e1]
    dsimp only
    rw [a1, a2]; exact r1
theorem de_callK {k n : Nat} {x : Str} {ks ps : List Str} {pm : List Nat} {p : DSp} {pp : Pos} (z : Cz X n) (f : DefKX X k x ks ps pm p) (hk : k ≤ n) (hg : Gl X x) (h : DK B X kws δ M fun ds M' => ds.length = ks.length ∧ p (pm.map fun j => ds.getD j .non) M' Φ)
    (hall : (backToKw pos (keywordEach kws X.env)).all (·.1.isSome) = true := by rfl) (hks : (backToKw pos (keywordEach kws X.env)).filterMap (·.1) = ks := by rfl) (hdb : (x == ("__debug__" : Str)) = false := by decide)
    (hpl : ((backTo pos (starEach [] X.env)).any (·.1) || (backToKw pos (keywordEach kws X.env)).any (·.1.isNone)) = false := by rfl) : DE B X (.Call (.Name x pp) [] kws pos) δ M Φ := by
  obtain ⟨fa, fd, h1, h2, h3, h4, h5⟩ := f.ex
  refine .of (te := fun σ H Q => tKw X kws σ H fun zs H2 => zs.length = ks.length ∧ lift p (pm.map fun j => zs.getD j .non) H2 Q E0) ⟨fun pins s σ H Q I hq => ?_⟩ fun κ σ H Q hb R kk => h κ σ H _ hb R fun vs ds M1 H1 ⟨ql, q⟩ R1 r1 => ⟨by rw [r1.length]; exact ql, ?_⟩
  · refine wpAny_Call_Name_kw (ld_glob I hg h1 ?_ hdb)
    refine PySem.W.callWith_KW0 (h₀ := X.base) (first := []) I.ok.mod.kin h2 hall (thn (cK.run pos pins s σ H _ I hq) fun ws s2 ⟨zs, H2, I2, rz, l2, q2⟩ => ⟨I2.kIn, ?_⟩) hpl
    rw [hks]
    have r2 := Vals.pick rz pm (fun j hj => by rw [l2]; exact h4 j hj)
    refine wpAny_call (codeAny_mono (h5.run X.A X.stack s2 H2 ⟨[], ks.zip ws⟩ _ _ Q E0 (z.room.mono hk) I2.env0 (h3 s2 ws (rz.length.symm.trans l2)) r2 q2) fun r s' hq => ?_)
    cases r with
    | error e => exact hq.elim
    | ok fl =>
      cases fl with
      | ret u => exact I2.after hq
      | next => exact False.elim hq
      | brk => exact False.elim hq
      | cont => exact False.elim hq
  · refine ⟨κ ++ sk σ δ, _, M1, Φ, R1.pack, r1.pick pm (fun j hj => by rw [r1.length, ql]; exact h4 j hj), q, fun v d M2 H2 q2 R2 r2 => kk v d M2 H2 q2 (R1.unpack R2) r2⟩
/-! ### in, not in -/
def rInDc : R2 := fun x y H Q => ∃ (a : Addr) (o : Option V), y = .ref a ∧ DGet H a x o ∧ Q (.bl o.isSome) H
def rNotInDc : R2 := fun x y H Q => ∃ (a : Addr) (o : Option V), y = .ref a ∧ DGet H a x o ∧ Q (.bl (!o.isSome)) H
theorem op_in_dict (hu : X.A.units + 1 < cLine) : OpR X (compareOp .In) rInDc := by
  intro pins s σ H x y v u Q I rx ry h
  obtain ⟨a, o, rfl, g, q⟩ := h
  obtain rfl : u = Value.ref a := ry
  exact d_in hu I g rx fun s' I' => ⟨.bl _, H, I', rfl, q⟩
theorem op_notIn_dict (hu : X.A.units + 1 < cLine) : OpR X (compareOp .NotIn) rNotInDc := by
  intro pins s σ H x y v u Q I rx ry h
  obtain ⟨a, o, rfl, g, q⟩ := h
  obtain rfl : u = Value.ref a := ry
  exact d_notIn hu I g rx fun s' I' => ⟨.bl _, H, I', rfl, q⟩
def rInU (K : PySem.W.Frag) : R2 := fun x y H Q => (∃ (c : Nat) (z : Str), x = .str ⟨#[c]⟩ ∧ y = .str z ∧ Q (.bl (decide (c ∈ z.cps.toList))) H) ∨ (rIn K false x y H Q ∨ rInDc x y H Q)
def rNotInU (K : PySem.W.Frag) : R2 := fun x y H Q => (∃ (c : Nat) (z : Str), x = .str ⟨#[c]⟩ ∧ y = .str z ∧ Q (.bl (!decide (c ∈ z.cps.toList))) H) ∨ (rIn K true x y H Q ∨ rNotInDc x y H Q)
theorem de_in {n : Nat} (z : Cz X n) (h : DE B X a δ M fun x M1 => DE B X b δ M1 fun y M2 => OpD (rInU X.K) x y M2 Φ) (hm : behindInMarks .In b = false := by rfl) : DE B X (.Compare a [.In] [b] pos) δ M Φ := de_cmp (op_in_sign.or (op_in_seq.or (op_in_dict (un1 z)))) hm h
theorem de_notin {n : Nat} (z : Cz X n) (h : DE B X a δ M fun x M1 => DE B X b δ M1 fun y M2 => OpD (rNotInU X.K) x y M2 Φ) (hm : behindInMarks .NotIn b = false := by rfl) : DE B X (.Compare a [.NotIn] [b] pos) δ M Φ := de_cmp (op_notIn_sign.or (op_notIn_seq.or (op_notIn_dict (un1 z)))) hm h
theorem dt_in {n : Nat} (z : Cz X n) (h : DE B X a δ M fun x M1 => DE B X b δ M1 fun y M2 => OpD (rInU X.K) x y M2 (toB ΦB)) (hm : behindInMarks .In b = false := by rfl) : DT B X (.Compare a [.In] [b] pos) δ M ΦB := dt_cmp (op_in_sign.or (op_in_seq.or (op_in_dict (un1 z)))) hm h
theorem dt_notin {n : Nat} (z : Cz X n) (h : DE B X a δ M fun x M1 => DE B X b δ M1 fun y M2 => OpD (rNotInU X.K) x y M2 (toB ΦB)) (hm : behindInMarks .NotIn b = false := by rfl) : DT B X (.Compare a [.NotIn] [b] pos) δ M ΦB := dt_cmp (op_notIn_sign.or (op_notIn_seq.or (op_notIn_dict (un1 z)))) hm h
theorem od_inS {K : PySem.W.Frag} {c : Nat} {z : Str} (k : Φ (.bl (decide (c ∈ z.cps.toList))) M) : OpD (rInU K) (.str ⟨#[c]⟩) (.str z) M Φ := .inl fun κ δ σ H v w Q R rv rw' h => by
  cases rv; cases rw'
  exact ⟨c, z, rfl, rfl, h _ _ M H k R (.bl _)⟩
theorem od_notinS {K : PySem.W.Frag} {c : Nat} {z : Str} (k : Φ (.bl (!decide (c ∈ z.cps.toList))) M) : OpD (rNotInU K) (.str ⟨#[c]⟩) (.str z) M Φ := .inl fun κ δ σ H v w Q R rv rw' h => by
  cases rv; cases rw'
  exact ⟨c, z, rfl, rfl, h _ _ M H k R (.bl _)⟩
theorem gc_int {x : Str} {z : Int} {sc : Scope} (hs : X.env.scope = sc) (h : sc.names.lookup x = some .globalImplicit) (hm : ∃ t, X.mg x = some (.int z t)) (dbg : (x == ("__debug__" : Str)) = false := by decide) : Gc X x (.int z) := by
  obtain ⟨t, e⟩ := hm
  exact ⟨gl_of hs h, ⟨_, e, t, rfl⟩, dbg⟩
theorem de_gstr {x : Str} {z : Str} (g : Gc X x (.str z)) (k : Φ (.str z) M) : DE B X (.Name x pos) δ M Φ := de_glob g (fun _ _ => .str z) k
theorem de_gint {x : Str} {z : Int} (g : Gc X x (.int z)) (k : Φ (.int z) M) : DE B X (.Name x pos) δ M Φ := de_glob g (fun _ _ => .int z) k
/-! a op1 b op2 c -/
theorem de_chain {op op' : CmpOp} {r r' : R2} (ho : OpR X (compareOp op) r) (ho' : OpR X (compareOp op') r') (h : DE B X a δ M fun x M1 => DE B X b δ M1 fun y M2 => OpD r x y M2 (toB fun t M3 => Br t (DE B X c δ M3 fun w M4 => OpD r' y w M4 Φ) (Φ (.bl false) M3)))
    (hm : lastMarks [op, op'] [b, c] = false := by with_unfolding_all rfl) : DE B X (.Compare a [op, op'] [b, c] pos) δ M Φ := .of (pe_chain ho ho' cE cE cE hm) fun κ σ H Q hb R k =>
  h κ σ H _ hb R fun v x M1 H1 q1 R1 r1 => q1 ((v, x) :: κ) σ H1 _ (fun q hq => List.mem_cons_of_mem _ (hb q hq)) (R1.push r1) fun w y M2 H2 q2 R2 r2 =>
    q2 ((w, y) :: κ) δ σ H2 v w _ (R2.pop.push r2) R2.top r2 fun u du M3 H3 ⟨t, e, q3⟩ R3 r3 => by
      subst e; cases r3
      refine ⟨t, rfl, Br.ite ⟨fun e => ?_, fun e => k _ _ _ _ (q3.2 e) R3.pop (.bl _)⟩⟩
      exact q3.1 e ((w, y) :: κ) σ H3 _ (fun q hq => List.mem_cons_of_mem _ (hb q hq)) R3 fun w2 y2 M4 H4 q4 R4 r4 => q4 κ δ σ H4 w w2 Q R4.pop R4.top r4 k
theorem de_le2 (h : DE B X a δ M fun x M1 => DE B X b δ M1 fun y M2 => OpD rLeU x y M2 (toB fun t M3 => Br t (DE B X c δ M3 fun w M4 => OpD rLeU y w M4 Φ) (Φ (.bl false) M3))) (hm : lastMarks [.LtE, .LtE] [b, c] = false := by with_unfolding_all rfl) : DE B X (.Compare a [.LtE, .LtE] [b, c] pos) δ M Φ := de_chain op_le op_le h hm
/-- a statement whose ways meet -/
theorem ds_cut (Mid : Env' → Mem → Prop) (h1 : DS B X st δ M { Ψ with nx := Mid }) (h2 : ∀ δ M, Mid δ M → DSs B X sts δ M Ψ) : DSs B X (st :: sts) δ M Ψ := ds_cons (h1.mono (fun δ M q => h2 δ M q) (fun _ _ q => q) (fun _ _ q => q) fun _ _ q => q)
/-- 1 <= x <= 9 of ints, the last one written -/
theorem de_le2C {l : Int} {j : Nat} {p1 : Pos} (h : DE B X a δ M fun x M1 => DE B X b δ M1 fun y M2 => ∃ i j, x = .int i ∧ y = .int j ∧ Φ (.bl (decide (i ≤ j) && decide (j ≤ l))) M2) (hm : lastMarks [.LtE, .LtE] [b, .Constant (.int l) j p1] = false := by with_unfolding_all rfl) :
    DE B X (.Compare a [.LtE, .LtE] [b, .Constant (.int l) j p1] pos) δ M Φ := de_le2 (h.mono fun x M1 h1 => h1.mono fun y M2 ⟨i, j, ex, ey, q⟩ => by
  subst ex ey
  refine od_le (toB.mk ⟨fun e => de_int (od_le ?_), fun e => ?_⟩)
  · rw [e] at q; exact q
  · rw [e] at q; exact q) hm
theorem ex_ii {i j : Int} {P : Int → Int → Prop} (h : P i j) : ∃ a b, D.int i = .int a ∧ D.int j = .int b ∧ P a b := ⟨i, j, rfl, rfl, h⟩
theorem ex_i {i : Int} {P : Int → Prop} (h : P i) : ∃ a, D.int i = .int a ∧ P a := ⟨i, rfl, h⟩
theorem ex_l {ds : List D} {P : List D → Prop} (h : P ds) : ∃ a, D.lst ds = .lst a ∧ P a := ⟨ds, rfl, h⟩
theorem ex_t {ds : List D} {P : List D → Prop} (h : P ds) : ∃ a, D.tup ds = .tup a ∧ P a := ⟨ds, rfl, h⟩
theorem ex_s {z : Str} {P : Str → Prop} (h : P z) : ∃ a, D.str z = .str a ∧ P a := ⟨z, rfl, h⟩
theorem ex_x {K : PySem.W.Frag} {ns : List Int} {P : List Int → Prop} (h : P ns) : ∃ a, D.scr K ns = .scr K a ∧ P a := ⟨ns, rfl, h⟩
theorem idK (h : DK B X kws δ M ΦL) : DK B X kws δ M ΦL := h
end
end Hl
namespace Hl
open PySem L2
section
variable {B : Bx} {X : Cx} {e a b c o : Expr} {es rest : List Expr} {st : Stmt} {sts : List Stmt} {δ δ' : Env'} {M : Mem} {Φ : D → Mem → Prop} {Ψ : DEnds} {te ta tb : TE} {tt : TT} {pos pos' apos kpos : Pos} {d x y : D} {ΦB : Bool → Mem → Prop} {ΦL : List D → Mem → Prop}
/-! ### typed lists -/
theorem range_get {lo : Int} {n i : Nat} {x : D} (h : (rangeD lo n)[i]? = some x) : i < n ∧ x = .int (lo + (i : Nat)) := by
  unfold rangeD at h
  have hi : i < n := by have := (List.getElem?_eq_some_iff.mp h).1; simpa using this
  rw [List.getElem?_map, List.getElem?_range hi] at h
  exact ⟨hi, (Option.some.inj h).symm⟩
theorem range_len {lo : Int} {n : Nat} : (rangeD lo n).length = n := by simp [rangeD]
theorem map_get {α : Type} {f : α → D} {l : List α} {i : Nat} {x : D} (h : (l.map f)[i]? = some x) : ∃ y, l[i]? = some y ∧ x = f y := by
  rw [List.getElem?_map] at h
  cases e : l[i]? with
  | none => rw [e] at h; cases h
  | some y => rw [e] at h; exact ⟨y, rfl, (Option.some.inj h).symm⟩
theorem enum_len {ds : List D} : (enumD ds).length = ds.length := by simp [enumD]
theorem at_map {α : Type} {f : α → D} {l : List α} {i : Int} (h0 : 0 ≤ i) (h1 : i < l.length) : ∃ y, l[i.toNat]? = some y ∧ atI (l.map f) i = some (f y) := by
  have hl : i.toNat < l.length := by omega
  refine ⟨l[i.toNat], by simp [hl], ?_⟩
  obtain ⟨j, rfl⟩ : ∃ j : Nat, i = (j : Int) := ⟨i.toNat, by omega⟩
  exact atI_nat (by rw [List.getElem?_map]; simp at hl ⊢; simp [hl])
theorem at_mapN {α : Type} {f : α → D} {l : List α} {j : Nat} {y : α} (h : l[j]? = some y) : atI (l.map f) (j : Int) = some (f y) := atI_nat (by rw [List.getElem?_map, h]; rfl)
theorem ixN_nat' {n j : Nat} (h : j < n) : ixN n (j : Int) = some j := by
  unfold ixN
  rw [if_pos (by omega), if_pos (by omega)]
  simp
/-! ### sorted -/
/-! ### sum, list -/
theorem de_sum {n : Nat} (z : Cz X n) {p : Pos} (g : Gn X "sum") (h : DA B X [a] δ M fun ds M1 => CallD (rSum X.K) ds M1 Φ) (he : starEach [a] X.env = (false, eval a X.env) :: starEach [] X.env := by rfl) (hpl : (backTo pos (starEach [] X.env)).any (·.1) = false := by rfl) : DE B X (.Call (.Name "sum" p) [a] [] pos) δ M Φ := de_blt (cr_sum z.calm) g PyProof.Rows.boot_sum h (by decide) (by decide) he hpl
theorem df_list {p : Pos} {ds : List D} (g : Gn X "list") (h : DE B X a δ M fun x M1 => ∃ ds, IsL M1 x ds ∧ ΦL ds M1) (he : starEach [a] X.env = (false, eval a X.env) :: starEach [] X.env := by rfl) (hpl : (backTo pos (starEach [] X.env)).any (·.1) = false := by rfl) : DF B X (.Call (.Name "list" p) [a] [] pos) δ M ΦL :=
  .of (pe_callTy call_list_of g.gl g.no PyProof.Rows.boot_list (pa_cons cE pa_nil he) (by decide) (by decide) he hpl) fun κ σ H Q hb R k => h κ σ H _ hb R fun v x M1 H1 ⟨ds, il, q⟩ R1 r1 => by
    obtain ⟨a, us, rfl, e1, rr⟩ := il.sq R1 r1
    exact ⟨a, us, rfl, .inl (SqL.of e1), fun l hl => k l ds M1 _ q (R1.lst rr hl)⟩
theorem de_list {p : Pos} (g : Gn X "list") (h : DE B X a δ M fun x M1 => ∃ ds, IsL M1 x ds ∧ Φ (.lst ds) M1) (he : starEach [a] X.env = (false, eval a X.env) :: starEach [] X.env := by rfl) (hpl : (backTo pos (starEach [] X.env)).any (·.1) = false := by rfl) : DE B X (.Call (.Name "list" p) [a] [] pos) δ M Φ := .f (df_list (ds := []) g h he hpl)
/-! isinstance of what is known -/
theorem isi_ii {K : PySem.W.Frag} {i : Int} (k : Φ (.bl true) M) : CallD (rIsi K) [.int i, .raw (.ty "int")] M Φ := cd_isi (S := "int") rfl (by decide +kernel) k
theorem isi_ib {K : PySem.W.Frag} {i : Int} (k : Φ (.bl false) M) : CallD (rIsi K) [.int i, .raw (.ty "bool")] M Φ := cd_isi (S := "int") rfl (by decide +kernel) k
theorem isi_bb {K : PySem.W.Frag} {i : Bool} (k : Φ (.bl true) M) : CallD (rIsi K) [.bl i, .raw (.ty "bool")] M Φ := cd_isi (S := "bool") rfl (by decide +kernel) k
theorem isi_bi {K : PySem.W.Frag} {i : Bool} (k : Φ (.bl true) M) : CallD (rIsi K) [.bl i, .raw (.ty "int")] M Φ := cd_isi (S := "bool") rfl (by decide +kernel) k
theorem isi_ll {K : PySem.W.Frag} {ds : List D} (k : Φ (.bl true) M) : CallD (rIsi K) [.lst ds, .raw (.ty "list")] M Φ := cd_isi (S := "list") rfl (by decide +kernel) k
theorem isi_tt {K : PySem.W.Frag} {ds : List D} (k : Φ (.bl true) M) : CallD (rIsi K) [.tup ds, .raw (.ty "tuple")] M Φ := cd_isi (S := "tuple") rfl (by decide +kernel) k
theorem isi_nb {K : PySem.W.Frag} (k : Φ (.bl false) M) : CallD (rIsi K) [.non, .raw (.ty "bool")] M Φ := cd_isi (S := "NoneType") rfl (by decide +kernel) k
theorem isi_ni {K : PySem.W.Frag} (k : Φ (.bl false) M) : CallD (rIsi K) [.non, .raw (.ty "int")] M Φ := cd_isi (S := "NoneType") rfl (by decide +kernel) k
theorem isi_nt {K : PySem.W.Frag} (k : Φ (.bl false) M) : CallD (rIsi K) [.non, .raw (.ty "tuple")] M Φ := cd_isi (S := "NoneType") rfl (by decide +kernel) k
/-! the same lists of pairs, triples -/
theorem depth_map {α : Type} {f : α → D} {n : Nat} (h : ∀ x, (toPy (f x)).depth ≤ n) : ∀ (l : List α), PyData.depthAll (toPys (l.map f)) ≤ n
  | [] => Nat.zero_le _
  | x :: l => by
    show max (toPy (f x)).depth (PyData.depthAll (toPys (l.map f))) ≤ n
    exact Nat.max_le.mpr ⟨h x, depth_map h l⟩
theorem len_and {xs : List D} {P : Prop} (h : xs.length ≤ sizeLine) (k : P) : xs.length ≤ sizeLine ∧ P := ⟨h, k⟩
/-- a comprehension over typed data without effects -/
theorem LcH.pureT {α β : Type} {scope : Scope} {elt : Expr} {ifs : List Expr} {own : List (Str × Nat)} {tk : Tk} {k : Nat} (l : List α) (f : α → D) (G : α → Option β) (g : β → D) (hl : l.length ≤ sizeLine)
    (h : ∀ (p : Addr) acc a, a ∈ l → ∃ δ2, bindK tk (f a) (wipeD δ (own.map (·.2))) = some δ2 ∧ Turn1 B X scope elt ifs δ2 (insM k (p, .lst acc) M) fun od M2 => od = (G a).map g ∧ M2 = insM k (p, .lst acc) M)
    (q : ΦL ((l.filterMap G).map g) M) : LcH k B X scope elt ifs own tk δ (l.map f) M ΦL := by
  refine ⟨fun i acc M1 => M1 = M ∧ acc = ((l.take i).filterMap G).map g ∧ acc.length ≤ i, ⟨rfl, rfl, Nat.le_refl _⟩, ?_, ?_⟩
  · rintro p i x acc M1 hx ⟨rfl, ha, hal⟩
    obtain ⟨a, ea, rfl⟩ := map_get hx
    have hi : i < l.length := (List.getElem?_eq_some_iff.mp ea).1
    obtain ⟨δ2, e1, tu⟩ := h p acc a (List.mem_of_getElem? ea)
    have fin : ∀ (od : Option D) M2, od = (G a).map g ∧ M2 = insM k (p, .lst acc) M1 → ∃ M3, M2 = insM k (p, .lst acc) M3 ∧ M3 = M1 ∧ acc ++ od.toList = ((l.take (i + 1)).filterMap G).map g ∧ (acc ++ od.toList).length ≤ i + 1 := by
      rintro od M2 ⟨rfl, rfl⟩
      refine ⟨M1, rfl, rfl, ?_, ?_⟩
      · rw [List.take_add_one, ea, List.filterMap_append, List.map_append, ← ha]
        cases e : G a <;> simp [e]
      · rw [List.length_append]
        cases G a <;> simp <;> omega
    refine ⟨by omega, δ2, e1, ?_⟩
    unfold Turn1 at tu ⊢
    match ifs, tu with
    | [], tu => exact fun X' bk => (tu X' bk).mono fun d M2 q => fin _ _ q
    | [c], tu => exact fun X' bk => (tu X' bk).mono fun t M2 q => ⟨fun e X2 bk2 => (q.1 e X2 bk2).mono fun d M3 q => fin _ _ q, fun e => fin _ _ (q.2 e)⟩
    | _ :: _ :: _, tu => exact tu.elim
  · rintro acc M1 ⟨rfl, rfl, _⟩
    rw [List.length_map, List.take_length]
    exact q
end
end Hl
namespace Hl
open PySem L2
open PyProof.Rows hiding St
/-! ### enumerate(tuple) -/
section
variable {B : Bx} {X : Cx} {e a b c o : Expr} {es rest : List Expr} {st : Stmt} {sts : List Stmt} {δ δ' : Env'} {M : Mem} {Φ : D → Mem → Prop} {Ψ : DEnds} {te ta tb : TE} {tt : TT} {pos pos' apos : Pos} {d x y : D} {ΦB : Bool → Mem → Prop} {ΦL : List D → Mem → Prop}
/-! ### in, not in, of lists of texts or numbers -/
/-! ### slices -/
def DPt (B : Bx) (X : Cx) : Option Expr → Env' → Mem → (Option Int → Mem → Prop) → Prop
  | none, _, M, Φ => Φ none M
  | some e, δ, M, Φ => DE B X e δ M fun d M' => ∃ i, d = .int i ∧ Φ (some i) M'
def cutD {α : Type} (xs : List α) (lo hi : Option Int) : List α := (xs.drop (HT.sIx xs.length 0 lo)).take (HT.sIx xs.length xs.length hi - HT.sIx xs.length 0 lo)
def SlD (x : D) (lo hi : Option Int) (M : Mem) (Φ : D → Mem → Prop) : Prop := (∃ z : Str, x = .str z ∧ z.length ≤ sizeLine ∧ Φ (.str (cutS z lo hi)) M) ∨ (∃ ds, IsL M x ds ∧ Φ (.lst (cutD ds lo hi)) M)
def rSlU (K : PySem.W.Frag) : V → Option Int → Option Int → Hp → VK → Prop := fun x lo hi H Q => rSlS x lo hi H Q ∨ rSlL K x lo hi H Q
theorem sl_U : SlR X (rSlU X.K) := sl_str.or sl_list
def tPt (X : Cx) : Option Expr → TO
  | none => tNoPart
  | some e => tPart (tE X e)
theorem po_pt : ∀ {e : Option Expr}, PO X e (tPt X e)
  | none => po_none
  | some e => po_some cE
theorem DPt.run {e : Option Expr} {Φ : Option Int → Mem → Prop} (h : DPt B X e δ M Φ) {κ : List (V × D)} {σ : St} {H : Hp} {Q : Option Int → Hp → Prop} (hb : ∀ q ∈ B.ps, q ∈ κ) (R : Rs κ δ M σ H) (k : ∀ o M' H', Φ o M' → Rs κ δ M' σ H' → Q o H') : tPt X e σ H Q := by
  cases e with
  | none => exact k none M H h R
  | some e =>
    refine h κ σ H _ hb R fun v d M' H' ⟨i, ed, q⟩ R' r' => ?_
    subst ed
    cases r'
    exact ⟨i, rfl, k _ _ _ q R'⟩
theorem Reps.cut {F : List Addr} {H : Hp} {vs : List V} {ds : List D} (r : Reps F H vs ds) (i : Nat) : Reps F H (vs.take i) (ds.take i) ∧ Reps F H (vs.drop i) (ds.drop i) := by
  induction i generalizing vs ds with
  | zero => exact ⟨by rw [List.take_zero, List.take_zero]; exact .nil, r⟩
  | succ i ih =>
    cases r with
    | nil => exact ⟨.nil, .nil⟩
    | cons r1 r2 => exact ⟨.cons r1 (ih r2).1, (ih r2).2⟩
theorem de_slice {lo hi : Option Expr} {p2 : Pos} (h : DE B X a δ M fun x M1 => DPt B X lo δ M1 fun l M2 => DPt B X hi δ M2 fun u M3 => SlD x l u M3 Φ) : DE B X (.Subscript a (.Slice lo hi none p2) pos) δ M Φ :=
  .of (pe_slice sl_U cE po_pt po_pt) fun κ σ H Q hb R k => h κ σ H _ hb R fun v x M1 H1 q1 R1 r1 =>
    q1.run (κ := (v, x) :: κ) (fun q hq => List.mem_cons_of_mem _ (hb q hq)) (R1.push r1) fun l M2 H2 q2 R2 =>
    q2.run (κ := (v, x) :: κ) (fun q hq => List.mem_cons_of_mem _ (hb q hq)) R2 fun u M3 H3 q3 R3 => by
      have rx := R3.top
      rcases q3 with ⟨z, rfl, hz, q⟩ | ⟨ds, il, q⟩
      · cases rx
        exact .inl ⟨z, rfl, hz, k _ _ _ _ q R3.pop (.str _)⟩
      · obtain ⟨p, us, rfl, e1, rr⟩ := il.sq R3.pop rx
        refine .inr ⟨p, us, rfl, SqL.of e1, fun p hp => ?_⟩
        have hc : Reps M3.F H3 (cutV us l u) (cutD ds l u) := by
          unfold cutV cutD
          rw [rr.length]
          exact (((Reps.cut rr _).2).cut _).1
        obtain ⟨R', r'⟩ := R3.pop.lstV hc hp
        exact k _ _ _ _ q R' r'
theorem SlD.str {z : Str} {l u : Option Int} (hz : z.length ≤ sizeLine) (k : Φ (.str (cutS z l u)) M) : SlD (.str z) l u M Φ := .inl ⟨z, rfl, hz, k⟩
theorem SlD.lst {ds : List D} {l u : Option Int} (h : IsL M x ds) (k : Φ (.lst (cutD ds l u)) M) : SlD x l u M Φ := .inr ⟨ds, h, k⟩
theorem DPt.no {Φ : Option Int → Mem → Prop} (k : Φ none M) : DPt B X none δ M Φ := k
theorem DPt.so {Φ : Option Int → Mem → Prop} (k : DE B X e δ M fun d M' => ∃ i, d = .int i ∧ Φ (some i) M') : DPt B X (some e) δ M Φ := k
/-! ### tuple(list) -/
theorem de_tuple {p : Pos} (g : Gn X "tuple") (h : DE B X a δ M fun x M1 => ∃ ds, IsL M1 x ds ∧ Φ (.tup ds) M1) (he : starEach [a] X.env = (false, eval a X.env) :: starEach [] X.env := by rfl) : DE B X (.Call (.Name "tuple" p) [a] [] pos) δ M Φ :=
  .of (pe_tupleOf g.gl g.no cE he) fun κ σ H Q hb R k => h κ σ H _ hb R fun v x M1 H1 ⟨ds, il, q⟩ R1 r1 => by
    obtain ⟨a, us, rfl, e1, rr⟩ := il.sq R1 r1
    refine .inl ⟨a, us, rfl, SqL.of e1, fun q' hq => ?_⟩
    obtain ⟨R', r'⟩ := R1.tupV rr hq
    exact k _ _ _ _ q R' r'
end
end Hl
namespace Hl
open PySem L2
open PyProof.Rows hiding St
/-! ### max(xs, default=d), min(xs), all(xs), sorted triples -/
def rMaxDef (K : PySem.W.Frag) : List V → List V → Hp → VK → Prop := fun vs zs H Q => ∃ (a : Addr) (ns : List Int) (d : Int), vs = [V.ref a] ∧ zs = [.int d] ∧ SqL K H a (ns.map V.int) ∧ (ns = [] → Q (.int d) H) ∧ ∀ m, m ∈ ns → (∀ y, y ∈ ns → y ≤ m) → Q (.int m) H
theorem foldmax (n : Int) (ns : List Int) : ns.foldl max n ∈ n :: ns ∧ ∀ y, y ∈ n :: ns → y ≤ ns.foldl max n := by
  induction ns generalizing n with
  | nil => exact ⟨List.mem_cons_self, fun y hy => by have : y = n := by simpa using hy
                                                     subst this; exact Int.le_refl _⟩
  | cons k ns ih =>
    obtain ⟨h1, h2⟩ := ih (max n k)
    rw [List.foldl_cons]
    refine ⟨?_, fun y hy => ?_⟩
    · rcases List.mem_cons.mp h1 with e | e
      · rw [e]
        rcases Int.le_total n k with q | q
        · rw [Int.max_eq_right q]; simp
        · rw [Int.max_eq_left q]; simp
      · exact List.mem_cons_of_mem _ (List.mem_cons_of_mem _ e)
    · have hm := h2 (max n k) List.mem_cons_self
      rcases List.mem_cons.mp hy with e | e
      · subst e; omega
      · rcases List.mem_cons.mp e with e | e
        · subst e; omega
        · exact h2 y (List.mem_cons_of_mem _ e)
theorem cr_maxDef {X : Cx} (hc : X.calm = true) (hu : X.A.units + 64 < cLine) : CallRK X (.builtin "max") [Str.ofString "default"] (rMaxDef X.K) := by
  intro pins s σ H vs zs us ws Q I r rz h
  obtain ⟨a, ns, d, rfl, rfl, hs, q0, q⟩ := h
  obtain ⟨its, rv, hl, _⟩ := I.list hs
  rw [Vals.ref1 r]
  cases rz with
  | cons r1 r2 =>
    cases r2
    obtain ⟨t, rfl⟩ := r1
    have hi := rv.ints
    have hr : ReadsAll s.heap its.toArray.toList (ns.map PyData.int) [] := by simpa using PySem.W.readsAll_of_ints hi
    have hd : PyData.depthAll (ns.map PyData.int) = 0 := by
      have : ∀ ns : List Int, PyData.depthAll (ns.map PyData.int) = 0 := fun ns => by
       induction ns with
       | nil => rfl
       | cons n ns ih => show max 0 _ = 0; rw [ih]; rfl
      exact this ns
    refine PySem.W.max_list_default (xs := ns.map PyData.int) (I.ok.hd hc) hl.isList hr ⟨fun x hx y hy => ?_, fun x hx => ?_⟩ (by rw [hd]; omega) (fun e h' tk hk => ?_) fun y ys i v h' tk bs e hv hrd hk => ?_
    · obtain ⟨n, _, rfl⟩ := List.mem_map.mp hx
      obtain ⟨m, _, rfl⟩ := List.mem_map.mp hy
      rfl
    · obtain ⟨n, _, rfl⟩ := List.mem_map.mp hx
      exact fun e => nomatch e
    · exact ⟨.int d, H, I.kept hk, ⟨_, rfl⟩, q0 (List.map_eq_nil_iff.mp e)⟩
    · cases ns with
      | nil => cases e
      | cons n ns =>
        rw [List.map_cons] at e
        cases e
        rw [PySem.W.maxD_ints] at hrd
        obtain ⟨h1, h2⟩ := foldmax n ns
        cases hrd
        exact ⟨.int _, H, I.kept hk, ⟨_, rfl⟩, q _ h1 h2⟩
section
variable {B : Bx} {X : Cx} {e a b c o : Expr} {es rest : List Expr} {st : Stmt} {sts : List Stmt} {δ δ' : Env'} {M : Mem} {Φ : D → Mem → Prop} {Ψ : DEnds} {te ta tb : TE} {tt : TT} {pos pos' apos kpos : Pos} {d x y : D} {ΦB : Bool → Mem → Prop} {ΦL : List D → Mem → Prop}
theorem de_maxDef {p : Pos} {n : Nat} {kws : List Keyword} (z : Cz X n) (g : Gn X "max") (h : DE B X a δ M fun x M1 => DK B X kws δ M1 fun ds M2 => ∃ ns d, IsL M2 x (ns.map .int) ∧ ds = [.int d] ∧ (ns = [] → Φ (.int d) M2) ∧ ∀ m, m ∈ ns → (∀ y, y ∈ ns → y ≤ m) → Φ (.int m) M2)
    (hu : X.A.units + 64 < cLine) (he : starEach [a] X.env = (false, eval a X.env) :: starEach [] X.env := by rfl) (he2 : backTo pos (starEach [a] X.env) = (false, eval a X.env) :: backTo pos (starEach [] X.env) := by rfl) (hpl : (backTo pos (starEach [a] X.env)).any (·.1) = false := by rfl)
    (hall : (backToKw pos (keywordEach kws X.env)).all (·.1.isSome) = true := by rfl) (hnone : (backToKw pos (keywordEach kws X.env)).any (·.1.isNone) = false := by rfl) (hks : (backToKw pos (keywordEach kws X.env)).filterMap (·.1) = [Str.ofString "default"] := by rfl) : DE B X (.Call (.Name "max" p) [a] kws pos) δ M Φ :=
  .of (pe_callBK (cr_maxDef z.calm hu) g.gl g.no boot_max (pa_cons cE pa_nil he) cK (by decide) (by decide) he2 hpl hall hnone hks) fun κ σ H Q hb R k => h κ σ H _ hb R fun v x M1 H1 q1 R1 r1 =>
    q1 ((v, x) :: κ) σ H1 _ (fun q hq => List.mem_cons_of_mem _ (hb q hq)) (R1.push r1) fun ws ds M2 H2 ⟨ns, d, il, ed, k0, k1⟩ R2 r2 => by
      subst ed
      obtain ⟨a, us, rfl, e1, rr⟩ := il.sq R2.pop R2.top
      have := rr.ints
      subst this
      cases r2 with
      | cons r2 r3 =>
        cases r3
        cases r2
        exact ⟨a, ns, d, rfl, rfl, SqL.of e1, fun e => k _ _ _ _ (k0 e) R2.pop (.int _), fun m h1 h2 => k _ _ _ _ (k1 m h1 h2) R2.pop (.int _)⟩
theorem de_minL {n : Nat} (z : Cz X n) {p : Pos} (g : Gn X "min") (h : DA B X [a] δ M fun ds M1 => CallD (rMin X.K) ds M1 Φ) (he : starEach [a] X.env = (false, eval a X.env) :: starEach [] X.env := by rfl) (hpl : (backTo pos (starEach [] X.env)).any (·.1) = false := by rfl) : DE B X (.Call (.Name "min" p) [a] [] pos) δ M Φ := de_blt (cr_min z.calm) g boot_min h (by decide) (by decide) he hpl
theorem de_maxL {n : Nat} (z : Cz X n) {p : Pos} (g : Gn X "max") (h : DA B X [a] δ M fun ds M1 => CallD (rMax X.K) ds M1 Φ) (he : starEach [a] X.env = (false, eval a X.env) :: starEach [] X.env := by rfl) (hpl : (backTo pos (starEach [] X.env)).any (·.1) = false := by rfl) : DE B X (.Call (.Name "max" p) [a] [] pos) δ M Φ := de_blt (cr_max z.calm) g boot_max h (by decide) (by decide) he hpl
theorem de_all {n : Nat} (z : Cz X n) {p : Pos} (g : Gn X "all") (h : DA B X [a] δ M fun ds M1 => CallD (rAll X.K) ds M1 Φ) (he : starEach [a] X.env = (false, eval a X.env) :: starEach [] X.env := by rfl) (hpl : (backTo pos (starEach [] X.env)).any (·.1) = false := by rfl) : DE B X (.Call (.Name "all" p) [a] [] pos) δ M Φ := de_blt (cr_all z.calm) g boot_all h (by decide) (by decide) he hpl
end
end Hl
namespace Hl
open PySem PySem.Spec L2
open PyProof.Rows hiding St
/-! ### sorted(set(xs)), xs a list of ints -/
def rSetL (K : PySem.W.Frag) (w : World) : List V → Hp → VK → Prop := fun xs H Q => ∃ (l : Addr) (ns : List Int), xs = [V.ref l] ∧ SqL K H l (ns.map V.int) ∧ ns.length ≤ 1000 ∧ ∀ p c, H p = none → c ≤ ns.length → Q (.ref p) (upd H p (SetO w p (fun j => decide (j ∈ ns)) c))
end Hl
namespace Hl
open PySem L2
open PyProof.Rows hiding St
/-! ### exceptions in the air, by data -/
def XRep (F : List Addr) (H : Hp) (dx : Option Addr) (ns : List Str) (ds : List D) : Prop :=
  (dx = none ∧ ns = [] ∧ ds = []) ∨ ∃ d vs, dx = some d ∧ d ∉ F ∧ H d = some (.xd (ns.zip vs)) ∧ ns.length = vs.length ∧ Reps F H vs ds
theorem XRep.fwd {F F' : List Addr} {H H' : Hp} {dx : Option Addr} {ns : List Str} {ds : List D} (h : XRep F H dx ns ds) (k : Fwd F H F' H') : XRep F' H' dx ns ds := by
  rcases h with h | ⟨d, vs, e, hn, hd, hl, r⟩
  · exact .inl h
  · exact .inr ⟨d, vs, e, (k _ _ hn hd).1, (k _ _ hn hd).2, hl, r.fwd k⟩
theorem XRep.held {F : List Addr} {H : Hp} {dx : Option Addr} {ns : List Str} {ds : List D} {a C : Addr} (h : XRep F H dx ns ds) (hn : a ∉ F) (hf : H a = none) : Rep F (upd H a (XO (.ref C) dx a)) (.ref a) (.exn C ns ds) := by
  rcases h with ⟨rfl, rfl, rfl⟩ | ⟨d, vs, rfl, hd, e, hl, r⟩
  · exact .exn0 hn upd_same
  · exact .exn hn upd_same hd (by rw [upd_ne (ne_of_none e hf)]; exact e) hl (r.fwd (Fwd.new hf))
/-- what is wished of an exception, by data -/
def wishX (B : Bx) : WX := fun cls dx σ H => ∃ C ns ds δ M κ, cls = .ref C ∧ B.ex C ns ds δ M ∧ (∀ q ∈ B.ps, q ∈ κ) ∧ Rs κ δ M σ H ∧ XRep M.F H dx ns ds
def Tks (X : Cx) (B : Bx) : Prop := Takes X (wishX B)
abbrev XPost := Addr → List Str → List D → Mem → Prop
abbrev DSpE := List D → Mem → (D → Mem → Prop) → XPost → Prop
def noX : XPost := fun _ _ _ _ => False
def liftE (p : DSpE) : Sp := fun vs H Q E => ∃ κ ds M Φ Ξ, Rs κ [] M [] H ∧ Reps M.F H vs ds ∧ p ds M Φ Ξ ∧ (∀ v d M' H', Φ d M' → Rs κ [] M' [] H' → Rep M'.F H' v d → Q v H') ∧
  ∀ C ns es M' H' dx, Ξ C ns es M' → Rs κ [] M' [] H' → XRep M'.F H' dx ns es → E (.ref C) dx H'
/-! ### arguments: by place, by keyword, defaults -/
def DVal : D → Value → Prop
  | .non, u => u = .none
  | .bl b, u => u = .bool b
  | .int i, u => ∃ t, u = .int i t
  | .str z, u => ∃ t, u = .str z t
  | _, _ => False
def dV : D → V
  | .bl b => .bl b
  | .int i => .int i
  | .str z => .str z
  | _ => .non
theorem dval_rel {d : D} {u : Value} (h : DVal d u) : RelV (dV d) u := by
  cases d <;> first | exact h | exact h.elim
theorem dval_rep {d : D} {u : Value} (h : DVal d u) (F : List Addr) (H : Hp) : Rep F H (dV d) d := by
  cases d <;> first | exact .non | exact .bl _ | exact .int _ | exact .str _ | exact h.elim
abbrev Sel := List (Nat ⊕ D)
def selD (sel : Sel) (ds : List D) : List D := sel.map fun | .inl j => ds.getD j .non | .inr d => d
def selV (sel : Sel) (vs : List V) : List V := sel.map fun | .inl j => vs.getD j .non | .inr d => dV d
inductive SelOk (us : List Value) : Sel → List Value → Prop
  | nil : SelOk us [] []
  | at {j : Nat} {u : Value} {sel : Sel} {all : List Value} : us[j]? = some u → SelOk us sel all → SelOk us (.inl j :: sel) (u :: all)
  | dflt {d : D} {u : Value} {sel : Sel} {all : List Value} : DVal d u → SelOk us sel all → SelOk us (.inr d :: sel) (u :: all)
theorem SelOk.vals {vs : List V} {us : List Value} (r : Vals vs us) : ∀ {sel : Sel} {all : List Value}, SelOk us sel all → Vals (selV sel vs) all
  | _, _, .nil => .nil
  | _, _, .at (j := j) e t => by
    refine .cons ?_ (SelOk.vals r t)
    have hj : j < us.length := (List.getElem?_eq_some_iff.mp e).1
    have hv : j < vs.length := by rw [r.length]; exact hj
    obtain ⟨u', e1, r1⟩ := Vals.get r (i := j) (x := vs[j]) (by simp [hv])
    rw [e] at e1
    cases e1
    have a1 : vs.getD j .non = vs[j] := by simp [List.getD, hv]
    show RelV (vs.getD j .non) _
    rw [a1]; exact r1
  | _, _, .dflt h t => .cons (dval_rel h) (SelOk.vals r t)
theorem SelOk.reps {us : List Value} {vs : List V} {ds : List D} {F : List Addr} {H : Hp} (hl : vs.length = us.length) (r : Reps F H vs ds) : ∀ {sel : Sel} {all : List Value}, SelOk us sel all → Reps F H (selV sel vs) (selD sel ds)
  | _, _, .nil => .nil
  | _, _, .at (j := j) e t => by
    refine .cons ?_ (SelOk.reps hl r t)
    have hj : j < us.length := (List.getElem?_eq_some_iff.mp e).1
    have hv : j < vs.length := by omega
    obtain ⟨d, e1, r1⟩ := r.get (i := j) (v := vs[j]) (by simp [hv])
    have a1 : vs.getD j .non = vs[j] := by simp [List.getD, hv]
    have a2 : ds.getD j .non = d := by simp [List.getD, e1]
    show Rep F H (vs.getD j .non) (ds.getD j .non)
    rw [a1, a2]; exact r1
  | _, _, .dflt h t => .cons (dval_rep h F H) (SelOk.reps hl r t)
/-- how a call with n arguments by place and the keywords ks binds the parameters ps -/
structure CallB (K : PySem.W.Frag) (fd : FuncData) (ps : List Str) (n : Nat) (ks : List Str) (sel : Sel) : Prop where
  to : ∀ (s : Shared) (us ws : List Value), K.In s.heap → us.length = n → ws.length = ks.length → ∃ all, SelOk (us ++ ws) sel all ∧ BindsTo s fd ⟨us, ks.zip ws⟩ (ps.zip all)
/-- a def, its promise, a way to call it -/
structure FnD (P : Program) (w : World) (K : PySem.W.Frag) (mg : Str → Option Value) (base : Heap) (k : Nat) (f : Addr) (n : Nat) (ks : List Str) (sel : Sel) (p : DSpE) : Prop where
  ex : ∃ fd ps, CallB K fd ps n ks sel ∧ FnOk P w K mg base (L2.CX P w) k f fd ps (liftE p)
structure DefE (P : Program) (w : World) (K : PySem.W.Frag) (mg : Str → Option Value) (base : Heap) (k : Nat) (x : Str) (n : Nat) (ks : List Str) (sel : Sel) (p : DSpE) : Prop where
  ex : ∃ f, mg x = some (.ref f) ∧ PySem.W.keepIn K (.ref f) = true ∧ FnD P w K mg base k f n ks sel p
structure MethE (P : Program) (w : World) (K : PySem.W.Frag) (mg : Str → Option Value) (base : Heap) (k : Nat) (C : Addr) (m : Str) (n : Nat) (ks : List Str) (sel : Sel) (p : DSpE) : Prop where
  ex : ∃ f, Cls K C ∧ Meth K C m f ∧ FnD P w K mg base k f (n + 1) ks sel p
structure MakeE (P : Program) (w : World) (K : PySem.W.Frag) (mg : Str → Option Value) (base : Heap) (k : Nat) (x : Str) (C : Addr) (n : Nat) (ks : List Str) (sel : Sel) (p : DSpE) : Prop where
  ex : ∃ f, mg x = some (.ref C) ∧ Mk K C f ∧ FnD P w K mg base k f (n + 1) ks sel p
abbrev DefEX (X : Cx) := DefE X.prog X.w X.K X.mg X.base
abbrev MethEX (X : Cx) := MethE X.prog X.w X.K X.mg X.base
abbrev MakeEX (X : Cx) := MakeE X.prog X.w X.K X.mg X.base
section
variable {X : Cx} {k n : Nat} {f : Addr} {ks : List Str} {sel : Sel} {p : DSpE} {pins : List (Addr × Obj)} {σ : St} {H : Hp} {s : Shared} {Q : VK} {E : XK} {us ws : List Value} {vs zs : List V}
theorem run_E (F : FnD X.prog X.w X.K X.mg X.base k f n ks sel p) (hr : Room k X.A) (hx : PassesAt (L2.CX X.prog X.w) X σ E) (I : Inv X pins σ H s) (r : Vals vs us) (rz : Vals zs ws) (h1 : vs.length = n) (h2 : zs.length = ks.length)
    (h : ∀ us all, Vals (vs ++ zs) us → SelOk us sel all → liftE p (selV sel (vs ++ zs)) H Q E) : wpAny (model X.prog X.w) X.A (call (.ref f) us (ks.zip ws)) (EP X pins σ Q) X.xe s := by
  obtain ⟨fd, ps, cb, F⟩ := F.ex
  obtain ⟨all, so, b⟩ := cb.to s us ws I.kIn (by rw [← r.length]; exact h1) (by rw [← rz.length]; exact h2)
  have r2 := so.vals (r.append rz)
  have hq := h _ all (r.append rz) so
  refine wpAny_call (codeAny_mono (F.run X.A X.stack s H ⟨us, ks.zip ws⟩ all _ Q E hr I.env0 b r2 hq) fun r s' hq => ?_)
  cases r with
  | error e => exact hx pins H s e s' I hq
  | ok fl =>
    cases fl with
    | ret u => exact I.after hq
    | next => exact False.elim hq
    | brk => exact False.elim hq
    | cont => exact False.elim hq
theorem run_makeE {C : Addr} (Mk_ : Mk X.K C f) (F : FnD X.prog X.w X.K X.mg X.base k f (n + 1) ks sel p) (hr : Room (k + 1) X.A) (hx : PassesAt (L2.CX X.prog X.w) X σ E) (I : Inv X pins σ H s) (r : Vals vs us) (rz : Vals zs ws) (h1 : vs.length = n) (h2 : zs.length = ks.length)
    (h : ∀ x dx, H x = none → H dx = none → dx ≠ x → ∀ us all, Vals (.ref x :: vs ++ zs) us → SelOk us sel all → liftE p (selV sel (.ref x :: vs ++ zs)) (upd (upd H dx (.own x)) x (.ins C dx [])) (fun v H2 => v = .non ∧ Q (.ref x) H2) E) :
    wpAny (model X.prog X.w) X.A (call (.ref C) us (ks.zip ws)) (EP X pins σ Q) X.xe s := by
  obtain ⟨fd, ps, cb, F⟩ := F.ex
  have I2 := Inv.made (C := C) I
  obtain ⟨all, so, b⟩ := cb.to _ (.ref (s.heap.objs.size + 1) :: us) ws I2.kIn (by rw [List.length_cons, ← r.length, h1]) (by rw [← rz.length]; exact h2)
  have r1 : Vals (V.ref (s.heap.objs.size + 1) :: vs ++ zs) (Value.ref (s.heap.objs.size + 1) :: us ++ ws) := .cons rfl (r.append rz)
  have r2 := so.vals r1
  have hq := h (s.heap.objs.size + 1) s.heap.objs.size (I.hok.fresh (Nat.le_succ _)) (I.hok.fresh (Nat.le_refl _)) (Nat.ne_of_lt (Nat.lt_succ_self _)) _ all r1 so
  refine wpAny_call (make_map (f := f) I.kIn Mk_.makes Mk_.init (beq_iff_eq.mp Mk_.fn) (codeAny_mono (F.run _ X.stack _ _ ⟨Value.ref (s.heap.objs.size + 1) :: us, ks.zip ws⟩ all _ _ E (hr.make C us (ks.zip ws))
    (I2.env0.make C us (ks.zip ws)) b r2 hq) fun r s' hq' => ?_))
  cases r with
  | error e => exact hx pins _ _ e s' I2 hq'
  | ok fl =>
    cases fl with
    | ret u =>
      obtain ⟨v, H', I3, rv, ev, q3⟩ := I2.after hq'
      subst ev
      exact ⟨rv, ⟨V.ref (s.heap.objs.size + 1), H', I3, rfl, q3⟩⟩
    | next => exact False.elim hq'
    | brk => exact False.elim hq'
    | cont => exact False.elim hq'
end
end Hl
namespace Hl
open PySem L2
open PyProof.Rows hiding St
/-! ### the arguments of a call -/
def DAK (B : Bx) (X : Cx) : List Expr → List Keyword → Env' → Mem → (List D → List D → Mem → Prop) → Prop
  | [], [], _, M, Φ => Φ [] [] M
  | e :: es, [], δ, M, Φ => DA B X (e :: es) δ M fun ds M1 => Φ ds [] M1
  | [], k :: kws, δ, M, Φ => DK B X (k :: kws) δ M fun zs M1 => Φ [] zs M1
  | e :: es, k :: kws, δ, M, Φ => DA B X (e :: es) δ M fun ds M1 => DK B X (k :: kws) δ M1 fun zs M2 => Φ ds zs M2
def PlA (X : Cx) (pos : Pos) : List Expr → List Keyword → List Str → Prop
  | [], [], ks => ks = []
  | e :: es, [], ks => ks = [] ∧ starEach (e :: es) X.env = (false, eval e X.env) :: starEach es X.env ∧ (backTo pos (starEach es X.env)).any (·.1) = false
  | [], k :: kws, ks => (backToKw pos (keywordEach (k :: kws) X.env)).filterMap (·.1) = ks ∧ (backToKw pos (keywordEach (k :: kws) X.env)).all (·.1.isSome) = true ∧ ((backTo pos (starEach [] X.env)).any (·.1) || (backToKw pos (keywordEach (k :: kws) X.env)).any (·.1.isNone)) = false
  | e :: es, k :: kws, ks => (backToKw pos (keywordEach (k :: kws) X.env)).filterMap (·.1) = ks ∧ (backToKw pos (keywordEach (k :: kws) X.env)).all (·.1.isSome) = true ∧ ((backTo pos (starEach (e :: es) X.env)).any (·.1) || (backToKw pos (keywordEach (k :: kws) X.env)).any (·.1.isNone)) = false ∧
      starEach (e :: es) X.env = (false, eval e X.env) :: starEach es X.env
section
variable {B : Bx} {X : Cx} {e a b c o : Expr} {es rest : List Expr} {kw : Keyword} {kws : List Keyword} {st : Stmt} {sts : List Stmt} {δ δ' : Env'} {M : Mem} {Φ : D → Mem → Prop} {Ψ : DEnds} {pos pos' apos pp : Pos} {d x y : D} {ΦA : List D → List D → Mem → Prop}
theorem dak_nn (h : ΦA [] [] M) : DAK B X [] [] δ M ΦA := h
theorem dak_en (h : DA B X (e :: es) δ M fun ds M1 => ΦA ds [] M1) : DAK B X (e :: es) [] δ M ΦA := h
theorem dak_nk (h : DK B X (kw :: kws) δ M fun zs M1 => ΦA [] zs M1) : DAK B X [] (kw :: kws) δ M ΦA := h
theorem dak_ek (h : DA B X (e :: es) δ M fun ds M1 => DK B X (kw :: kws) δ M1 fun zs M2 => ΦA ds zs M2) : DAK B X (e :: es) (kw :: kws) δ M ΦA := h
/-- the held values -/
theorem held {κ : List (V × D)} {vs : List V} {ds : List D} {δ : Env'} {M : Mem} {σ : St} {H : Hp} : Reps M.F H vs ds → Rs κ δ M σ H → ∃ κ', (∀ q ∈ κ, q ∈ κ') ∧ Rs κ' δ M σ H ∧ ∀ {δ' : Env'} {M' : Mem} {σ' : St} {H' : Hp}, Rs κ' δ' M' σ' H' → Reps M'.F H' vs ds := by
  induction vs generalizing ds with
  | nil => intro r R; cases r; exact ⟨κ, fun _ h => h, R, fun _ => .nil⟩
  | cons v vs ih =>
    intro r R
    cases r with
    | cons r1 r2 =>
      obtain ⟨κ', h1, R', h2⟩ := ih r2 R
      rename_i d ds
      exact ⟨(v, d) :: κ', fun q hq => List.mem_cons_of_mem _ (h1 q hq), R'.push r1, fun R => .cons R.top (h2 R.pop)⟩
theorem dak_run {ks : List Str} {f : Value} {first : List Value} {pins : List (Addr × Obj)} {s : Shared} {κ : List (V × D)} {σ : St} {H : Hp} {Rq : Value → Shared → Prop} (hk : PySem.W.keepIn X.K f = true) (pl : PlA X pos es kws ks) (h : DAK B X es kws δ M ΦA) (I : Inv X pins σ H s)
    (hb : ∀ q ∈ B.ps, q ∈ κ) (R : Rs κ δ M σ H)
    (q : ∀ us ws s2 vs zs ds es M2 H2, Inv X pins σ H2 s2 → Vals vs us → Vals zs ws → ΦA ds es M2 → Rs κ δ M2 σ H2 → Reps M2.F H2 vs ds → Reps M2.F H2 zs es → wpAny (model X.prog X.w) X.A (call f (first ++ us) (ks.zip ws)) Rq X.xe s2) :
    wpAny (model X.prog X.w) X.A (callWith pos f first (backTo pos (starEach es X.env)) (backToKw pos (keywordEach kws X.env))) Rq X.xe s := by
  match es, kws, pl, h with
  | [], [], pl, h =>
    have pl : ks = [] := pl
    subst pl
    exact PySem.W.callWith_K0 I.kIn hk (q [] [] s [] [] [] [] M H I .nil .nil h R .nil .nil)
  | e :: es, [], ⟨e1, e2, e3⟩, h =>
    subst e1
    refine PySem.W.callWith_K (h₀ := X.base) I.ok.mod.kin hk (thn ((cA (X := X) (es := e :: es)).run pos pins s σ H (fun vs H1 => ∃ ds M1, ΦA ds [] M1 ∧ Rs κ δ M1 σ H1 ∧ Reps M1.F H1 vs ds) I (h κ σ H _ hb R fun vs ds M1 H1 q1 R1 r1 => ⟨ds, M1, q1, R1, r1⟩)) fun us s1 ⟨vs, H1, I1, r, ds, M1, q1, R1, r1⟩ => ⟨I1.kIn, ?_⟩) e2 e3
    exact q us [] s1 vs [] ds [] M1 H1 I1 r .nil q1 R1 r1 .nil
  | [], k :: kws, ⟨e1, e2, e3⟩, h =>
    refine PySem.W.callWith_KW0 (h₀ := X.base) I.ok.mod.kin hk e2 (thn ((cK (X := X) (kws := k :: kws)).run pos pins s σ H (fun vs H1 => ∃ ds M1, ΦA [] ds M1 ∧ Rs κ δ M1 σ H1 ∧ Reps M1.F H1 vs ds) I (h κ σ H _ hb R fun vs ds M1 H1 q1 R1 r1 => ⟨ds, M1, q1, R1, r1⟩)) fun ws s1 ⟨zs, H1, I1, r, ds, M1, q1, R1, r1⟩ => ⟨I1.kIn, ?_⟩) e3
    rw [e1]
    exact q [] ws s1 [] zs [] ds M1 H1 I1 .nil r q1 R1 .nil r1
  | e :: es, k :: kws, ⟨e1, e2, e3, e4⟩, h =>
    refine PySem.W.callWith_KW (h₀ := X.base) I.ok.mod.kin hk e2 (thn ((cA (X := X) (es := e :: es)).run pos pins s σ H (fun vs H1 => ∃ ds M1, (DK B X (k :: kws) δ M1 fun zs M2 => ΦA ds zs M2) ∧ Rs κ δ M1 σ H1 ∧ Reps M1.F H1 vs ds) I (h κ σ H _ hb R fun vs ds M1 H1 q1 R1 r1 => ⟨ds, M1, q1, R1, r1⟩)) fun us s1 ⟨vs, H1, I1, r, ds, M1, q1, R1, r1⟩ => ?_) e3 e4
    obtain ⟨κ', k1, R2, k2⟩ := held r1 R1
    refine thn ((cK (X := X) (kws := k :: kws)).run pos pins s1 σ H1 (fun zs H2 => ∃ es M2, ΦA ds es M2 ∧ Rs κ' δ M2 σ H2 ∧ Reps M2.F H2 zs es) I1 (q1 κ' σ H1 _ (fun q hq => k1 q (hb q hq)) R2 fun zs es M2 H2 q2 R3 r3 => ⟨es, M2, q2, R3, r3⟩)) fun ws s2 ⟨zs, H2, I2, rz, es, M2, q2, R3, r3⟩ => ⟨I2.kIn, ?_⟩
    rw [e1]
    exact q us ws s2 vs zs ds es M2 H2 I2 r rz q2 (R3.sub k1) (k2 R3) r3
/-! ### calls of defs that may raise -/
theorem liftE_of {p : DSpE} {sel : Sel} {κ : List (V × D)} {σ : St} {H : Hp} {Q : VK} {vs : List V} {ds us} {all} {Ξ : XPost} {E : XK} (so : SelOk us sel all) (hl : vs.length = us.length) (R : Rs κ δ M σ H) (r : Reps M.F H vs ds) (q : p (selD sel ds) M Φ Ξ)
    (k : ∀ v d M' H', Φ d M' → Rs κ δ M' σ H' → Rep M'.F H' v d → Q v H') (kx : ∀ C ns es M' H' dx, Ξ C ns es M' → Rs κ δ M' σ H' → XRep M'.F H' dx ns es → E (.ref C) dx H') : liftE p (selV sel vs) H Q E :=
  ⟨κ ++ sk σ δ, _, M, Φ, Ξ, R.pack, so.reps hl r, q, fun v d M' H' q' R' r' => k v d M' H' q' (R.unpack R') r', fun C ns es M' H' dx q' R' x => kx C ns es M' H' dx q' (R.unpack R') x⟩
/-- what the def may raise here is wished for -/
def atX (B : Bx) (δ : Env') : XPost := fun C ns ds M => B.ex C ns ds δ M
structure Lets (X : Cx) (B : Bx) (δ : Env') (Ξ : XPost) : Prop where
  ex : ∃ W, Takes X W ∧ ∀ κ σ C ns es M' H' dx, (∀ q ∈ B.ps, q ∈ κ) → Ξ C ns es M' → Rs κ δ M' σ H' → XRep M'.F H' dx ns es → W (.ref C) dx σ H'
theorem lets_at (tk : Tks X B) : Lets X B δ (atX B δ) := ⟨wishX B, tk, fun κ σ C ns es M' H' dx hb e R x => ⟨C, ns, es, δ, M', κ, rfl, e, hb, R, x⟩⟩
theorem lets_no : Lets X B δ noX := ⟨fun _ _ _ _ => False, takes0, fun _ _ _ _ _ _ _ _ _ e _ _ => e⟩
variable {k n m : Nat} {x : Str} {ks : List Str} {sel : Sel} {p : DSpE} {Ξ : XPost} {C : Addr}
theorem de_fE (z : Cz X m) (f : DefEX X k x n ks sel p) (hk : k ≤ m) (hg : Gl X x) (lt : Lets X B δ Ξ)
    (h : DAK B X es kws δ M fun ds zs M' => ds.length = n ∧ zs.length = ks.length ∧ p (selD sel (ds ++ zs)) M' Φ Ξ) (pl : PlA X pos es kws ks) (hdb : (x == ("__debug__" : Str)) = false := by decide) : DE B X (.Call (.Name x pp) es kws pos) δ M Φ := by
  obtain ⟨fa, h1, h2, h3⟩ := f.ex
  obtain ⟨W, tk, hx⟩ := lt
  intro κ σ H Q hb R kk
  unfold tE
  intro pins s I
  refine wpAny_Call_Name_kw (ld_glob I hg h1 ?_ hdb)
  refine dak_run (first := []) h2 pl h I hb R fun us ws s2 vs zs ds es M2 H2 I2 rv rz ⟨l1, l2, q⟩ R2 r1 r2 => ?_
  refine run_E h3 (z.room.mono hk) (passAt tk σ) I2 rv rz (by rw [r1.length]; exact l1) (by rw [r2.length]; exact l2) fun us' all rr so => ?_
  exact liftE_of so rr.length R2 (r1.append r2) q kk fun C ns es M' H' dx e R' x => hx κ σ C ns es M' H' dx hb e R' x
/-- an instance, by data or as a cell -/
inductive IsO (M : Mem) : D → Addr → List Str → List D → Prop
  | val (C : Addr) (ns : List Str) (ds : List D) : IsO M (.obj C ns ds) C ns ds
  | cell {p C : Addr} {ns : List Str} {ds : List D} (j : Nat) (h : M[j]? = some (p, .obj C ns ds)) : IsO M (.raw (.ref p)) C ns ds
  | inm {p C : Addr} {ns : List Str} {ds : List D} (h : InM M p (.obj C ns ds)) : IsO M (.raw (.ref p)) C ns ds
theorem IsO.sq {κ : List (V × D)} {σ : St} {H : Hp} {v : V} {x : D} {C : Addr} {ns : List Str} {ds : List D} (h : IsO M x C ns ds) (R : Rs κ δ M σ H) (r : Rep M.F H v x) : ∃ p dx vs, v = .ref p ∧ H p = some (.ins C dx (ns.zip vs)) ∧ ns.length = vs.length ∧ Reps M.F H vs ds := by
  cases h with
  | val C ns ds => cases r with | obj h1 e1 l1 r1 => exact ⟨_, _, _, rfl, e1, l1, r1⟩
  | cell j h =>
    cases r
    obtain ⟨dx, vs, e1, l1, r1⟩ := R.at h
    exact ⟨_, dx, vs, rfl, e1, l1, r1⟩
  | inm h =>
    cases r
    obtain ⟨dx, vs, e1, l1, r1⟩ := h.ok R
    exact ⟨_, dx, vs, rfl, e1, l1, r1⟩
theorem lookup_zip {β : Type} {f : Str} : ∀ {ns : List Str} {vs : List β}, ns.contains f = false → (ns.zip vs).lookup f = none
  | [], _, _ => by simp
  | _ :: _, [], _ => by simp
  | n :: ns, v :: vs, h => by
    rw [List.contains_cons, Bool.or_eq_false_iff] at h
    rw [List.zip_cons_cons, List.lookup_cons, h.1]
    exact lookup_zip h.2
/-- C(..): a new object as a cell at place j, then __init__ -/
theorem de_kE {x : Str} (j : Nat) (z : Cz X m) (f : MakeEX X k x C n ks sel p) (hk : k + 1 ≤ m) (hg : Gl X x) (lt : Lets X B δ Ξ)
    (h : DAK B X es kws δ M fun ds zs M' => ds.length = n ∧ zs.length = ks.length ∧ ∀ a, p (selD sel (.raw (.ref a) :: ds ++ zs)) (insM j (a, .obj C [] []) M') (fun d M2 => d = .non ∧ Φ (.raw (.ref a)) M2) Ξ) (pl : PlA X pos es kws ks) (hdb : (x == ("__debug__" : Str)) = false := by decide) : DE B X (.Call (.Name x pp) es kws pos) δ M Φ := by
  obtain ⟨fa, h1, mk, h3⟩ := f.ex
  obtain ⟨W, tk, hx⟩ := lt
  intro κ σ H Q hb R kk
  unfold tE
  intro pins s I
  refine wpAny_Call_Name_kw (ld_glob I hg h1 ?_ hdb)
  refine dak_run (first := []) mk.kp pl h I hb R fun us ws s2 vs zs ds es M2 H2 I2 rv rz ⟨l1, l2, q⟩ R2 r1 r2 => ?_
  refine run_makeE mk h3 (z.room.mono hk) (passAt tk σ) I2 rv rz (by rw [r1.length]; exact l1) (by rw [r2.length]; exact l2) fun a dx ha hdx hne us' all rr so => ?_
  have R3 : Rs κ δ M2 σ (upd H2 dx (.own a)) := R2.new hdx
  have R4 : Rs κ δ (insM j (a, .obj C [] []) M2) σ (upd (upd H2 dx (.own a)) a (.ins C dx [])) := (R3.add (p := a) (o := .ins C dx []) (c := .obj C [] []) (by rw [upd_ne (Ne.symm hne)]; exact ha) rfl ⟨dx, [], upd_same, rfl, .nil⟩).perm insM_perm
  have fw : Fwd M2.F H2 (Mem.F (insM j (a, .obj C [] []) M2)) (upd (upd H2 dx (.own a)) a (.ins C dx [])) := by
    intro b o hb e
    have n1 : b ≠ dx := fun z => by rw [z, hdx] at e; cases e
    have n2 : b ≠ a := fun z => by rw [z, ha] at e; cases e
    refine ⟨fun z => ?_, by rw [upd_ne n2, upd_ne n1]; exact e⟩
    have z2 : b ∈ Mem.F ((a, Cell.obj C [] []) :: M2) := (F_perm insM_perm).mem_iff.mpr z
    rcases List.mem_append.mp (show b ∈ own a (Cell.obj C [] []) ++ Mem.F M2 from z2) with y | y
    · exact n2 (by simpa [own] using y)
    · exact hb y
  have r5 : Reps (Mem.F (insM j (a, .obj C [] []) M2)) (upd (upd H2 dx (.own a)) a (.ins C dx [])) (.ref a :: vs ++ zs) (.raw (.ref a) :: ds ++ es) := (Reps.cons (.raw _) (r1.fwd fw)).append (r2.fwd fw)
  refine liftE_of so rr.length R4 r5 (q a) (fun v d M' H' ⟨e, q'⟩ R' r' => ?_) fun C ns es M' H' dx e R' x => hx κ σ C ns es M' H' dx hb e R' x
  subst e
  cases r'
  exact ⟨rfl, kk _ _ _ _ q' R' (.raw _)⟩
end
/-! ### a def that may raise, from its body -/
structure InDefE (P : Program) (w : World) (K : PySem.W.Frag) (mg : Str → Option Value) (base : Heap) (N : List Str) (sc : Scope) (k : Nat) (X : Cx) (B : Bx) : Prop where
  prog : X.prog = P
  wd : X.w = w
  K : X.K = K
  mg : X.mg = mg
  base : X.base = base
  N : X.N = N
  sc : X.env.scope = sc
  fn : X.fn = fun _ => true
  z : Cz X k
  hp : PassesOwn (model X.prog X.w) X.A X.env X.xe
  tk : Tks X B
  st : X.stack = X.env :: X.outer
  fr : X.env.frame = some X.env.locals
/-- an exception's state may be looked at otherwise -/
def VwX (ns : List Str) (ds : List D) (M : Mem) (ds2 : List D) (M2 : Mem) : Prop := ∀ κ δ σ H dx, Rs κ δ M σ H → XRep M.F H dx ns ds → Rs κ δ M2 σ H ∧ XRep M2.F H dx ns ds2
theorem VwX.refl {ns : List Str} {ds : List D} {M : Mem} : VwX ns ds M ds M := fun _ _ _ _ _ R x => ⟨R, x⟩
theorem VwX.sub {ns : List Str} {ds : List D} {M M2 : Mem} (h : M2.Sublist M) : VwX ns ds M ds M2 := fun _ _ _ _ _ R x => ⟨R.less h, x.fwd (Fwd.less fun x hx => (F_sub h).subset hx)⟩
end Hl
namespace Hl
open PySem L2
open PyProof.Rows hiding St
/-! ### try, the caught exception held -/
section
variable {X : Cx} {pins : List (Addr × Obj)} {σ : St} {H : Hp} {sI s' : Shared} {B : Heap} {a : Addr} {o : HO}
theorem xo_ok {P : Program} {w : World} {H : Hp} {h : Heap} {a : Addr} {cls : Value} {d : Option Addr} {oe : Obj} {vs : Array Value} (e : h.get? a = some oe) (z : Zc cls d oe) (hd : oe.data = .fields vs) : ObjOk P w H h a (XO cls d a) :=
  ⟨⟨oe, vs, e, z, hd⟩, ⟨oe, e⟩, fun _ _ ⟨o, v, q, r⟩ k => ⟨o, v, k o q, r⟩⟩
theorem Inv.landedX (I : Inv X pins σ H sI) (nb : ∀ b o, sI.heap.get? b = some o → b ∉ frs X.stack → B.get? b = some o) (st : B.StaysIn s'.heap) (up : sI.heap.UpToSlots s'.heap) (os : s'.os = sI.os) (ag : AllBare s'.gens)
    (na : H a = none) (n0 : sI.heap.get? a = none) (ok : ObjOk X.prog X.w (upd H a o) s'.heap a o) : Inv X pins σ (upd H a o) s' := by
  have nf : ∀ b ∈ frs X.stack, ∀ o, sI.heap.get? b = some o → ∃ sl, s'.heap.get? b = some { o with slots := sl } := fun b hb o e => by
    obtain ⟨_, o', e', hd⟩ := I.stack.mem hb
    rw [e] at e'; cases e'
    exact up b o e hd
  have J := I.call (ch := []) (h' := s'.heap) (g' := s'.gens) (t' := s'.toks) (d' := s'.drawn) (H' := upd H a o)
    ⟨fun b o e _ hb _ => st b o (nb b o e hb), fun b o e _ hb _ => nf b hb o e, fun b o e n _ => by rw [upd_ne (fun z => by rw [z, n0] at e; cases e)]; exact n, fun b o e _ => by
      by_cases hb : b ∈ frs X.stack
      · obtain ⟨sl, q⟩ := nf b hb o e
        exact ⟨_, q⟩
      · exact ⟨o, st b o (nb b o e hb)⟩, fun b xs e => by rw [upd_ne (ne_of_none e na)]; exact e, fun b o u e => by rw [upd_ne (ne_of_none e na)]; exact e, fun b ps e => ⟨#[], by rw [upd_ne (ne_of_none e na), e]; simp⟩⟩
    (HOk.laidN ((I.inGround nb).kept st) (fun _ _ q => q) na ok) ag (fun _ z => nomatch z)
  obtain ⟨a1, a2, a3, a4, a5⟩ := s'
  have e5 : a5 = sI.os := os
  subst e5
  exact J
theorem Inv.suiteX (I : Inv X pins σ H s') {a : Addr} : Inv (X.suite a (X.pn ++ pins)) [] σ H s' :=
  ⟨I.ok.suite _ _, I.os, I.bare, I.base, I.loc, I.cell, I.free, I.freeC, fun p hp => by rw [List.append_nil] at hp; exact I.pin p hp, I.hok, I.len⟩
theorem Inv.unsuiteX {a : Addr} {pn' : List (Addr × Obj)} (I : Inv (X.suite a (X.pn ++ pins)) pn' σ H s') (ok : X.Ok) : Inv X pins σ H s' :=
  ⟨ok, I.os, I.bare, I.base, I.loc, I.cell, I.free, I.freeC, fun p hp => I.pin p (List.mem_append_left _ hp), I.hok, I.len⟩
end
/-- a handler: its class, its name's slot, its suite's reading -/
abbrev Hd1 := Value × Option Nat × TS
def endsAs (i : Nat) (D : Ends) : Ends := { nx := fun σ' H' => D.nx (σ'.set i none) H', rt := D.rt, bk := fun σ' H' => D.bk (σ'.set i none) H', ct := fun σ' H' => D.ct (σ'.set i none) H' }
def wHds (K : PySem.W.Frag) (Wout : WX) (D : Ends) : List Hd1 → WX
  | [] => Wout
  | (c, none, ts) :: r => fun cls d σ H => ∃ b, PySem.W.exmOne K cls c = some b ∧ (b = true → ∀ a, H a = none → ts D σ (upd H a (XO cls d a))) ∧ (b = false → wHds K Wout D r cls d σ H)
  | (c, some i, ts) :: r => fun cls d σ H => ∃ b, PySem.W.exmOne K cls c = some b ∧ (b = true → ∀ a, H a = none → ts (endsAs i D) (σ.set i (some (.ref a))) (upd H a (XO cls d a))) ∧ (b = false → wHds K Wout D r cls d σ H)
inductive HdsX (X : Cx) : List ExceptHandler → List Hd1 → Prop
  | nil : HdsX X [] []
  | cons {x : Str} {c : Value} {ts : TS} {b₀ : Stmt} {suite : List Stmt} {np pos' : Pos} {hds : List ExceptHandler} {l : List Hd1} (hc : Names X x c)
      (hsu : ∀ (a : Addr) (pn : List (Addr × Obj)), PSs (X.suite a pn) (b₀ :: suite) ts) (r : HdsX X hds l) : HdsX X (.ExceptHandler (some (.Name x np)) none (b₀ :: suite) pos' :: hds) ((c, none, ts) :: l)
  | consAs {x n : Str} {i : Nat} {c : Value} {ts : TS} {b₀ : Stmt} {suite : List Stmt} {np pos' : Pos} {hds : List ExceptHandler} {l : List Hd1} (hc : Names X x c) (hi : X.N[i]? = some n) (hln : X.env.kindOf n = some .local)
      (hsu : ∀ (a : Addr) (pn : List (Addr × Obj)), PSs (X.suite a pn) (b₀ :: suite) ts) (r : HdsX X hds l) : HdsX X (.ExceptHandler (some (.Name x np)) (some n) (b₀ :: suite) pos' :: hds) ((c, some i, ts) :: l)
theorem ps_tryX {X : Cx} {body : List Stmt} {h₀ : ExceptHandler} {hds : List ExceptHandler} {l : List Hd1} {pos : Pos} {tb : WX → TS} {Wout : WX} (hs : X.stack = X.env :: X.outer) (hf : X.env.frame = some X.env.locals) (hN : X.N.Nodup) (tk : Takes X Wout)
    (hb : ∀ (W : WX) (pn : List (Addr × Obj)) (xe : Value → Shared → Prop), Takes (X.tr pn xe) W → PassesOwn (model X.prog X.w) X.A X.env xe → PSs (X.tr pn xe) body (tb W))
    (hh : HdsX X (h₀ :: hds) l) : PS X (.Try body (h₀ :: hds) [] [] pos) (fun D σ H => tb (wHds X.K Wout D l) D σ H) := by
  refine ⟨fun pins s σ H D I h => ?_⟩
  have ok := I.ok
  have hfr : X.A.frames = some (X.env :: X.outer) := by rw [ok.frames, hs]
  refine wpAny_Try_except ?_
  refine wpAny_mono ((hb (wHds X.K Wout D l) (X.pn ++ pins) (fun e s₁ => wpAny (model X.prog X.w) X.A (noteFrame e X.env) (fun _ s₂ => wpAny (model X.prog X.w) X.A (setFlight e none) (fun _ s₃ =>
    wpAny (model X.prog X.w) X.A (handleBy e X.env (h₀ :: hds)) (SP X pins D) X.xe s₃) X.xe s₂) X.xe s₁) (fun u s' xx => ?_) PassesOwn.looking).run [] s σ H D (I.toTry _) h) (fun f s1 hsp => ?_) (fun e s1 he => he)
  · obtain ⟨a, B, sI, pins', σ', H', cls, d, rfl, J', nb, up, sky, na, os, ag, w⟩ := xx
    have J : Inv X pins σ' H' sI := J'.ofTry ok
    have sky' : Sky B (X.env :: X.outer) a (Zc cls d) X.env.locals s'.heap := by rw [← hs]; exact sky
    show wpAny (model X.prog X.w) X.A (noteFrame (.ref a) X.env) _ _ _
    refine Sky.land Zc.steady hfr hf sky' fun h3 fl3 up3 => ?_
    have J3 : Inv X pins σ' H' { s' with heap := h3 } := J.landed nb fl3.1 (up.trans up3) os ag
    obtain ⟨oe3, vs3, he3, hz3, hd3⟩ := fl3.there
    have notFr : ∀ {h : Heap} {o : Obj} {vs : Array Value}, h.FunFrames B (X.env :: X.outer) → h.get? a = some o → o.data = .fields vs → a ∉ frs (X.env :: X.outer) := fun {h o vs} ff e dd hm => by
      obtain ⟨_, o', e', hnf⟩ := ff.mem hm
      rw [e] at e'; cases e'
      exact hnf _ dd
    have nfr := notFr fl3.2.2.1 he3 hd3
    have nL : a ≠ X.env.locals := fun z => nfr (List.mem_filterMap.mpr ⟨X.env, List.mem_cons_self, by rw [hf, z]⟩)
    have nF : a ∉ X.fs := fun hm => by
      obtain ⟨e, he, q⟩ := List.mem_filterMap.mp hm
      exact nfr (List.mem_filterMap.mpr ⟨e, List.mem_cons_of_mem _ he, q⟩)
    have n0 : sI.heap.get? a = none := by
      cases e : sI.heap.get? a with
      | none => rfl
      | some ob =>
        have z := nb a ob e (by rw [hs]; exact nfr)
        rw [fl3.2.1] at z
        cases z
    have S3 := J3.suite he3 hd3 na nL nF
    have LT : PySem.W.Looks (model X.prog X.w) h3 (typeOf (.ref a)) cls := fun A Q E s k q => wpAny_typeOf_ref (k _ _ he3) (by rw [hz3.1]; exact q)
    have go : ∀ {hds' : List ExceptHandler} {l' : List Hd1}, HdsX X hds' l' → wHds X.K Wout D l' cls d σ' H' →
        wpAny (model X.prog X.w) X.A (handleBy (.ref a) X.env hds') (SP X pins D) X.xe { s' with heap := h3 } := by
      intro hds' l' hk
      have test : ∀ {x : Str} {c : Value} {np : Pos} {Q : Value → Shared → Prop} {E : Value → Shared → Prop}, Names X x c → Q c { s' with heap := h3 } → wpAny (model X.prog X.w) (X.A.mark (some (.ref a))) (eval (.Name x np) X.env) Q E { s' with heap := h3 } := fun {x c np Q E} hc q => by
        obtain ⟨hg, hdbg, hm | ⟨hm, hv, hnn⟩⟩ := hc
        · exact ld_glob (X := X.suite a ((a, oe3) :: (X.pn ++ pins))) S3 hg hm q hdbg
        · exact ld_blt (X := X.suite a ((a, oe3) :: (X.pn ++ pins))) S3 hg hm hv q hnn hdbg
      induction hk with
      | nil =>
        intro w
        refine wpAny_handleBy_nil ?_
        obtain ⟨k1, k2, k3, oe, vs, T, oT, ts', he, hz, hd, h1, hr⟩ := id fl3
        unfold PySem.passOn
        refine wpAny_bind (wpAny_field he hd h1 ?_)
        rw [if_neg (show ¬ ((Value.ref T == Value.none) = true) from by simp)]
        have fin : wpAny (model X.prog X.w) X.A (setFlight (.ref a) X.env.frame) (fun _ s4 => wpAny (model X.prog X.w) X.A (throw (.ref a) : Sem Flow) (SP X pins D) X.xe s4) X.xe { s' with heap := h3 } := by
          rw [hf]
          refine HandSPX.setFlight_upZ fl3 fun h4 hh4 up4 => wpAny_throw (tk _ _ ?_)
          exact ⟨a, B, sI, pins, σ', H', cls, d, rfl, J, nb, (up.trans up3).trans up4, .inr (.inr (by rw [hs]; exact hh4)), na, os, ag, w⟩
        first
          | exact wpAny_bind (wpAny_pure (wpAny_bind fin))
          | exact wpAny_bind fin
      | @cons x c ts b₀ suite np pos' hds2 l2 hc hsu r ih =>
        intro w
        obtain ⟨b, hb1, hyes, hno⟩ := w
        refine wpAny_handleBy_cons (codeAny_handlers_test ?_) (by intro q; cases q)
        have LM := PySem.W.exm_one (M := model X.prog X.w) (J3.kIn) LT hb1
        refine test hc (LM.here ?_)
        cases b with
        | true =>
          refine codeAny_handlers_suite ?_
          refine HandSPX.lands_againZ fl3 fun h4 fl4 up4 => ?_
          obtain ⟨oe4, vs4, he4, hz4, hd4⟩ := fl4.there
          have J4 : Inv X pins σ' (upd H' a (XO cls d a)) { s' with heap := h4 } := Inv.landedX J nb fl4.1 ((up.trans up3).trans up4) os ag na n0 (xo_ok he4 hz4 hd4)
          have S4 := Inv.suiteX J4 (a := a)
          refine wpAny_mono ((hsu a (X.pn ++ pins)).run [] _ _ _ _ S4 (hyes rfl a na)) (fun f s6 hsp => ?_) (fun _ _ z => False.elim z)
          cases f with
          | next =>
            obtain ⟨σ6, H6, S6, q6⟩ := hsp
            exact ⟨_, _, Inv.unsuiteX S6 ok, q6⟩
          | brk =>
            obtain ⟨σ6, H6, S6, q6⟩ := hsp
            exact ⟨_, _, Inv.unsuiteX S6 ok, q6⟩
          | cont =>
            obtain ⟨σ6, H6, S6, q6⟩ := hsp
            exact ⟨_, _, Inv.unsuiteX S6 ok, q6⟩
          | ret u =>
            obtain ⟨v6, σ6, H6, S6, r6, q6⟩ := hsp
            exact ⟨_, _, _, Inv.unsuiteX S6 ok, r6, q6⟩
        | false =>
          show wpAny _ X.A (handleBy (.ref a) X.env hds2) _ _ _
          exact ih (hno rfl)
      | @consAs x n i c ts b₀ suite np pos' hds2 l2 hc hi hln hsu r ih =>
        intro w
        obtain ⟨b, hb1, hyes, hno⟩ := w
        refine wpAny_handleBy_cons (codeAny_handlers_test ?_) (by intro q; cases q)
        have LM := PySem.W.exm_one (M := model X.prog X.w) (J3.kIn) LT hb1
        refine test hc (LM.here ?_)
        cases b with
        | true =>
          refine codeAny_handlers_suite_as ?_
          refine HandSPX.lands_againZ fl3 fun h4 fl4 up4 => ?_
          obtain ⟨oe4, vs4, he4, hz4, hd4⟩ := fl4.there
          have J4 : Inv X pins σ' (upd H' a (XO cls d a)) { s' with heap := h4 } := Inv.landedX J nb fl4.1 ((up.trans up3).trans up4) os ag na n0 (xo_ok he4 hz4 hd4)
          have S4 := Inv.suiteX J4 (a := a)
          refine store_ok (X := X.suite a (X.pn ++ pins)) (v := .ref a) S4 hN hi (.inl hln) rfl (fun s5 S5 => ?_) (.inr hln)
          refine wpAny_mono ((hsu a (X.pn ++ pins)).run [] s5 _ _ _ S5 (hyes rfl a na)) (fun f s6 hsp => ?_) (fun _ _ z => False.elim z)
          have end_ : ∀ {σ6 : St} {H6 : Hp} {Q : Shared → Prop}, Inv (X.suite a (X.pn ++ pins)) [] σ6 H6 s6 → (∀ s7, Inv X pins (σ6.set i none) H6 s7 → Q s7) →
              wpAny (model X.prog X.w) X.A (do bindName X.env n .none; unbindBehindTheSuite X.env n pos') (fun _ s7 => Q s7) X.xe s6 := fun {σ6 H6 Q} S6 hq => gone_ok (Inv.unsuiteX S6 ok) hN hi hln hq
          cases f with
          | next =>
            obtain ⟨σ6, H6, S6, q6⟩ := hsp
            exact end_ S6 fun s7 J7 => ⟨_, _, J7, q6⟩
          | brk =>
            obtain ⟨σ6, H6, S6, q6⟩ := hsp
            exact end_ S6 fun s7 J7 => ⟨_, _, J7, q6⟩
          | cont =>
            obtain ⟨σ6, H6, S6, q6⟩ := hsp
            exact end_ S6 fun s7 J7 => ⟨_, _, J7, q6⟩
          | ret u =>
            obtain ⟨v6, σ6, H6, S6, r6, q6⟩ := hsp
            exact end_ S6 fun s7 J7 => ⟨_, _, _, J7, r6, q6⟩
        | false =>
          show wpAny _ X.A (handleBy (.ref a) X.env hds2) _ _ _
          exact ih (hno rfl)
    exact go hh w
  · cases f with
    | next =>
      obtain ⟨σ', H', J', q⟩ := hsp
      exact wpAny_execs_nil ⟨σ', H', J'.ofTry ok, q⟩
    | brk =>
      obtain ⟨σ', H', J', q⟩ := hsp
      exact ⟨σ', H', J'.ofTry ok, q⟩
    | cont =>
      obtain ⟨σ', H', J', q⟩ := hsp
      exact ⟨σ', H', J'.ofTry ok, q⟩
    | ret u =>
      obtain ⟨v, σ', H', J', r, q⟩ := hsp
      exact ⟨v, σ', H', J'.ofTry ok, r, q⟩
end Hl
namespace Hl
open PySem L2
open PyProof.Rows hiding St
section
variable {B : Bx} {X : Cx} {e a b c o : Expr} {es rest : List Expr} {kw : Keyword} {kws : List Keyword} {st : Stmt} {sts body suite : List Stmt} {δ δ' : Env'} {M : Mem} {Φ : D → Mem → Prop} {Ψ : DEnds} {pos pos' apos pp np : Pos} {d x y : D} {ΦL : List D → Mem → Prop}
/-! ### try, by data -/
/-- a handler, by data: its class, its slot, its suite -/
abbrev HdD := Addr × Option Nat × List Stmt
def endsD (oi : Option Nat) (Ψ : DEnds) : DEnds := match oi with
  | none => Ψ
  | some i => { nx := fun δ M => Ψ.nx (δ.set i none) M, rt := Ψ.rt, bk := fun δ M => Ψ.bk (δ.set i none) M, ct := fun δ M => Ψ.ct (δ.set i none) M }
def envD (oi : Option Nat) (δ : Env') (d : D) : Env' := match oi with
  | none => δ
  | some i => δ.set i (some d)
def exH (B : Bx) (X : Cx) (Ψ : DEnds) : List HdD → Addr → List Str → List D → Env' → Mem → Prop
  | [] => B.ex
  | (c0, oi, suite) :: r => fun C ns ds δ M => ∃ b, PySem.W.exmOne X.K (.ref C) (.ref c0) = some b ∧ (b = true → ∀ a pn kp, DSs ⟨kp, fun _ _ _ _ _ => False⟩ (X.suite a pn) suite (envD oi δ (.exn C ns ds)) M (endsD oi Ψ)) ∧ (b = false → exH B X Ψ r C ns ds δ M)
def HdsOkD (X : Cx) : List ExceptHandler → List HdD → Prop
  | [], [] => True
  | .ExceptHandler (some (.Name x _)) n (b₀ :: su) _ :: hds, (c0, oi, suite) :: l => (Gl X x ∧ (x == ("__debug__" : Str)) = false ∧ X.mg x = some (.ref c0)) ∧ suite = b₀ :: su ∧ (match n, oi with
      | none, none => True
      | some n, some i => X.N[i]? = some n ∧ X.env.kindOf n = some .local
      | _, _ => False) ∧ HdsOkD X hds l
  | _, _ => False
def tsSu (X : Cx) (suite : List Stmt) : TS := fun D σ H => ∀ a pn, tSs (X.suite a pn) suite D σ H
def toHd (X : Cx) (l : List HdD) : List Hd1 := l.map fun h => (.ref h.1, h.2.1, tsSu X h.2.2)
theorem hds_of : ∀ {hds : List ExceptHandler} {l : List HdD}, HdsOkD X hds l → HdsX X hds (toHd X l)
  | [], [], _ => .nil
  | .ExceptHandler (some (.Name x _)) none (b₀ :: su) _ :: hds, (c0, none, suite) :: l, ⟨⟨h1, h2, h3⟩, e, _, r⟩ => by
    subst e
    exact .cons ⟨h1, h2, .inl h3⟩ (fun a pn => ⟨fun pins s σ H D I h => cSs.run pins s σ H D I (h a pn)⟩) (hds_of r)
  | .ExceptHandler (some (.Name x _)) (some n) (b₀ :: su) _ :: hds, (c0, some i, suite) :: l, ⟨⟨h1, h2, h3⟩, e, ⟨h4, h5⟩, r⟩ => by
    subst e
    exact .consAs ⟨h1, h2, .inl h3⟩ h4 h5 (fun a pn => ⟨fun pins s σ H D I h => cSs.run pins s σ H D I (h a pn)⟩) (hds_of r)
  | .ExceptHandler (some (.Name x _)) none (b₀ :: su) _ :: hds, (c0, some i, suite) :: l, ⟨_, _, h, _⟩ => h.elim
  | .ExceptHandler (some (.Name x _)) (some n) (b₀ :: su) _ :: hds, (c0, none, suite) :: l, ⟨_, _, h, _⟩ => h.elim
theorem ends_as {κ : List (V × D)} {E : Ends} {i : Nat} (k : EndsOk κ Ψ E) : EndsOk κ (endsD (some i) Ψ) (endsAs i E) :=
  ⟨fun δ M σ H q R => k.nx _ M _ H q (R.wipe1 i none), k.rt, fun δ M σ H q R => k.bk _ M _ H q (R.wipe1 i none), fun δ M σ H q R => k.ct _ M _ H q (R.wipe1 i none)⟩
theorem wish_hds {κ κ' : List (V × D)} {E : Ends} {C : Addr} {ns : List Str} {ds : List D} {M : Mem} {σ : St} {H : Hp} {dx : Option Addr} (hbk : ∀ q ∈ B.ps, q ∈ κ) (hk : ∀ q ∈ κ, q ∈ κ') (k : EndsOk κ Ψ E) (R : Rs κ' δ M σ H) (xr : XRep M.F H dx ns ds) :
    ∀ {l : List HdD}, exH B X Ψ l C ns ds δ M → wHds X.K (wishX B) E (toHd X l) (.ref C) dx σ H
  | [], h => ⟨C, ns, ds, δ, M, κ', rfl, h, fun q hq => hk q (hbk q hq), R, xr⟩
  | (c0, none, suite) :: l, ⟨b, h1, h2, h3⟩ => by
    refine ⟨b, h1, fun eb a na a' pn => ?_, fun eb => wish_hds hbk hk k R xr (h3 eb)⟩
    exact h2 eb a' pn κ κ' σ _ E hk (R.new na) (k.sub hk)
  | (c0, some i, suite) :: l, ⟨b, h1, h2, h3⟩ => by
    refine ⟨b, h1, fun eb a na a' pn => ?_, fun eb => wish_hds hbk hk k R xr (h3 eb)⟩
    exact h2 eb a' pn κ κ' _ _ _ hk ((R.new na).put i (xr.held (R.fresh na) na)) (ends_as (k.sub hk))
/-- try: body / except ..: .. -/
theorem ds_try {h₀ : ExceptHandler} {hds : List ExceptHandler} (l : List HdD) (hst : X.stack = X.env :: X.outer) (hfr : X.env.frame = some X.env.locals) (nd : X.N.Nodup) (tk : Tks X B) (hok : HdsOkD X (h₀ :: hds) l)
    (h : ∀ pn xe kp, PassesOwn (model X.prog X.w) X.A X.env xe → Tks (X.tr pn xe) ⟨kp, exH B X Ψ l⟩ → DSs ⟨kp, exH B X Ψ l⟩ (X.tr pn xe) body δ M Ψ) : DS B X (.Try body (h₀ :: hds) [] [] pos) δ M Ψ := by
  refine .of (ps_tryX (tb := fun W D σ H => ∀ pn xe, Takes (X.tr pn xe) W → PassesOwn (model X.prog X.w) X.A X.env xe → tSs (X.tr pn xe) body D σ H) hst hfr nd tk (fun W pn xe tk' po => ⟨fun pins s σ H D I h => cSs.run pins s σ H D I (h pn xe tk' po)⟩) (hds_of hok)) fun κ σ H E hb R k => ?_
  intro pn xe tk' po
  refine h pn xe κ po (Takes.imp tk' fun cls dx σ' H' hw => ?_) κ σ H E (fun _ h => h) R k
  obtain ⟨C, ns, ds, δ', M', κ', rfl, hx, hb', R', xr⟩ := hw
  exact wish_hds hb hb' k R' xr hx
/-! ### raise -/
/-- an own exception class without an own __init__ -/
structure Ex0 (K : PySem.W.Frag) (mg : Str → Option Value) (x : Str) (C : Addr) : Prop where
  gC : mg x = some (.ref C)
  q : PySem.W.excIn K C [.type "ValueError", .type "Exception", .type "BaseException", .type "object"] "ValueError.__new__" = true
  kC : PySem.W.keepIn K (.ref C) = true
  sub : PySem.W.subIn K (.ref C) (.type "BaseException") = some true
  ty : PySem.W.typeIn K (.ref C) = some (.type "type")
theorem pmk_own0 {C : Addr} {x : Str} {p : Pos} (T : Ex0 X.K X.mg x C) (hg : Gl X x) (hdb : (x == ("__debug__" : Str)) = false := by decide) : PMk X (.Call (.Name x p) [] [] pos) (fun σ H Q => Q (.ref C) none H) := by
  intro pins s σ H Q I h
  refine wpAny_Call_Name_kw (ld_glob I hg T.gC ?_ hdb)
  refine PySem.W.callWith_K0 I.kIn T.kC ?_
  show wpAny _ _ (call (.ref C) []) _ _ _
  obtain ⟨bm, N, nm, qn, bs, hdct, sn, sub, ab, col, dd, k0, k1, k2, k3, k5, mN, hC, hN, hni, T'⟩ := exc_obj I.kIn T.q
  refine wpAny_call_exc_subT PySem.F.excBase_ValueError T' hC hN hni (fun h' e hm => ?_) (by show 0 ≤ sizeLine; exact Nat.zero_le _)
  exact mk_of I hm (raises_own T.sub T.ty) h (I.hok.gone hm.new)
theorem ds_raise0 {C : Addr} {x : Str} {p : Pos} {n : Nat} (z : Cz X n) (tk : Tks X B) (T : Ex0 X.K X.mg x C) (hg : Gl X x) (h : B.ex C [] [] δ M) (hdb : (x == ("__debug__" : Str)) = false := by decide) : DS B X (.Raise (some (.Call (.Name x p) [] [] pos)) none pos') δ M Ψ :=
  .of (ps_raise z.calm tk (pmk_own0 T hg hdb)) fun κ σ H E hb R k => ⟨C, [], [], δ, M, κ, rfl, h, hb, R, .inl ⟨rfl, rfl, rfl⟩⟩
theorem ds_raise {C : Addr} {x : Str} {p : Pos} {n : Nat} (z : Cz X n) (tk : Tks X B) (T : Ex0 X.K X.mg x C) (hg : Gl X x) (h : DA B X (e :: es) δ M fun ds M' => ds.length ≤ sizeLine ∧ B.ex C [] [] δ M')
    (hdb : (x == ("__debug__" : Str)) = false := by decide) (he : starEach (e :: es) X.env = (false, eval e X.env) :: starEach es X.env := by rfl) (hpl : (backTo pos (starEach es X.env)).any (·.1) = false := by rfl) : DS B X (.Raise (some (.Call (.Name x p) (e :: es) [] pos)) none pos') δ M Ψ :=
  .of (ps_raise z.calm tk (pmk_ownA PySem.F.excBase_ValueError T.q T.gC T.kC (raises_own T.sub T.ty) hg cA hdb he hpl)) fun κ σ H E hb R k => h κ σ H _ hb R fun vs ds M1 H1 ⟨hl, q⟩ R1 r1 =>
    ⟨by rw [r1.length]; exact hl, C, [], [], δ, M1, κ, rfl, q, hb, R1, .inl ⟨rfl, rfl, rfl⟩⟩
/-- the promise of an exception's __init__: the fields are set, one by one -/
def spXI (C : Addr) (ns : List Str) : Sp := fun vs H Q _ => ∃ a args, vs = .ref a :: args ∧ args.length = ns.length ∧ H a = some (exo a C none) ∧
  ∀ dx H', H dx = none → dx ≠ a → H' a = some (exo a C (some dx)) → H' dx = some (exd dx (ns.reverse.zip args.reverse)) → (∀ b, b ≠ a → b ≠ dx → H' b = H b) → Q .non H'
/-- an own exception class whose __init__ keeps its arguments -/
structure ExI (P : Program) (w : World) (K : PySem.W.Frag) (mg : Str → Option Value) (base : Heap) (x : Str) (C : Addr) (ns : List Str) : Prop where
  gC : mg x = some (.ref C)
  T : OexC K C
  ex : ∃ fI fd ps, PySem.W.findIn K (.ref C) "__init__" = some (some (.ref fI)) ∧ PySem.W.typeIn K (.ref fI) = some (.type "function") ∧ Binds K fd ps [] ∧ FnOk P w K mg base CX0 1 fI fd ps (spXI C ns)
theorem Reps.reverse {F : List Addr} {H : Hp} : ∀ {vs : List V} {ds : List D}, Reps F H vs ds → Reps F H vs.reverse ds.reverse
  | _, _, .nil => .nil
  | _, _, .cons r t => by
    rw [List.reverse_cons, List.reverse_cons]
    exact (Reps.reverse t).append (.cons r .nil)
theorem ds_raiseI {C : Addr} {x : Str} {p : Pos} {n : Nat} {ns : List Str} (z : Cz X n) (hn : 2 ≤ n) (tk : Tks X B) (T : ExI X.prog X.w X.K X.mg X.base x C ns) (hg : Gl X x) (h : DA B X (e :: es) δ M fun ds M' => ds.length = ns.length ∧ ds.length ≤ 1000 ∧ B.ex C ns.reverse ds.reverse δ M')
    (hdb : (x == ("__debug__" : Str)) = false := by decide) (he : starEach (e :: es) X.env = (false, eval e X.env) :: starEach es X.env := by rfl) (hpl : (backTo pos (starEach es X.env)).any (·.1) = false := by rfl) : DS B X (.Raise (some (.Call (.Name x p) (e :: es) [] pos)) none pos') δ M Ψ := by
  obtain ⟨fI, fd, ps, h1, h2, h3, h4⟩ := T.ex
  refine .of (ps_raise z.calm tk (pmk_oex T.T h1 h2 h4 (z.room.mono hn) h3 .nil pass0 hg T.gC cA hdb he hpl)) fun κ σ H E hb R k => h κ σ H _ hb R fun vs ds M1 H1 ⟨hl, hl2, q⟩ R1 r1 => ?_
  refine ⟨by rw [r1.length]; exact hl2, fun a na => ⟨a, vs, by rw [List.append_nil], by rw [r1.length]; exact hl, upd_same, fun dx H' n1 n2 e1 e2 e3 => ?_⟩⟩
  have ndx : H1 dx = none := by rw [upd_ne n2] at n1; exact n1
  refine ⟨rfl, dx, _, e1, e2, ndx, ?_⟩
  have eq : upd (del H' a) dx (.xd (ns.reverse.zip vs.reverse)) = upd H1 dx (.xd (ns.reverse.zip vs.reverse)) := by
    funext b
    by_cases hb : b = dx
    · subst hb; rw [upd_same, upd_same]
    · rw [upd_ne hb, upd_ne hb]
      by_cases ha : b = a
      · subst ha; rw [del_same, na]
      · rw [del_ne ha, e3 b ha hb, upd_ne ha]
  rw [eq]
  exact ⟨C, ns.reverse, ds.reverse, δ, M1, κ, rfl, q, hb, R1.new ndx, .inr ⟨dx, vs.reverse, rfl, R1.fresh ndx, upd_same, by rw [List.length_reverse, List.length_reverse, r1.length, hl], (Reps.reverse r1).fwd (Fwd.new ndx)⟩⟩
/-! ### fields -/
structure FldP (K : PySem.W.Frag) (C : Addr) (f : Str) : Prop where
  c : Cls K C
  n : NoAttr K C f
structure XfP (K : PySem.W.Frag) (C : Addr) (f : Str) : Prop where
  ga : PySem.W.findIn K (.ref C) "__getattribute__" = some (some (.builtin "BaseException.__getattribute__"))
  gg : PySem.W.findIn K (.ref C) "__getattr__" = some none
  exC : PySem.W.subIn K (.ref C) (.type "BaseException") = some true
  hdC : PySem.W.hasDictIn K C = true
  no : PySem.W.findIn K (.ref C) f = some none
def tFldU (K : PySem.W.Frag) (ta : TE) (f : Str) : TE := fun σ H Q => ta σ H fun x H1 => (∃ a C dx fs v, x = .ref a ∧ H1 a = some (.ins C dx fs) ∧ FldP K C f ∧ fs.lookup f = some v ∧ Q v H1) ∨
  ∃ a C d fs v, x = .ref a ∧ H1 a = some (XO (.ref C) (some d) a) ∧ H1 d = some (.xd fs) ∧ XfP K C f ∧ fs.lookup f = some v ∧ Q v H1
theorem pe_fldU {f : Str} {ta : TE} (he : PE X e ta) (hb : attributeBase e f X.env (eval e X.env) = eval e X.env) : PE X (.Attribute e f pos) (tFldU X.K ta f) := by
  refine ⟨fun pins s σ H Q I h => ?_⟩
  refine attr_of hb (thn (he.run pins s σ H _ I h) fun u s1 ⟨x, H1, I1, rx, q⟩ => ?_)
  rcases q with ⟨a, C, dx, fs, v, ex, ea, ff, l, q⟩ | ⟨a, C, dd, fs, v, ex, ea, ed, T, l, q⟩
  · subst ex
    obtain rfl : u = Value.ref a := rx
    exact getattr_ok I1 ea ff.c ff.n l fun u' s2 I2 ru => ⟨v, H1, I2, ru, q⟩
  · subst ex
    obtain rfl : u = Value.ref a := rx
    obtain ⟨⟨oe, vs, ha, hz, hd⟩, _, _⟩ := I1.hok a _ ea
    have hx : ObjOk X.prog X.w H1 s1.heap dd (.xd fs) := I1.hok dd _ ed
    obtain ⟨mA, hns, hr⟩ := hx
    obtain ⟨od, ho, hl⟩ := lookIn_ns hns
    obtain ⟨u, hu, ru⟩ := RelO.some_of (v := v) (o := mA f) (by rw [← l]; exact hr f)
    have J : PySem.W.InstAt s1.heap a oe C (some od) := ⟨ha, hz.1, by unfold PySem.W.notCls; rw [hd] <;> rfl, by rw [hz.2]; exact ho⟩
    exact HandSPX.exc_get I1.kIn J T.ga T.gg T.exC (PySem.W.findObj_own T.hdC T.no rfl (by rw [hl, hu])) (handed_of ru) ⟨v, H1, I1.tok _, ru, q⟩
theorem reps_lookup {F : List Addr} {H : Hp} {f : Str} : ∀ {ns : List Str} {vs : List V} {ds : List D} {d : D}, Reps F H vs ds → (ns.zip ds).lookup f = some d → ∃ v, (ns.zip vs).lookup f = some v ∧ Rep F H v d
  | [], _, _, _, _, h => by simp at h
  | _ :: _, _, _, _, .nil, h => by simp at h
  | n :: ns, v :: vs, d0 :: ds, d, .cons r t, h => by
    rw [List.zip_cons_cons, List.lookup_cons] at h
    rw [List.zip_cons_cons, List.lookup_cons]
    cases e : f == n with
    | true => rw [e] at h; cases h; exact ⟨v, rfl, r⟩
    | false => rw [e] at h; exact reps_lookup t h
/-- a field of data -/
def FldD (K : PySem.W.Frag) (f : Str) (x : D) (M : Mem) (Φ : D → Mem → Prop) : Prop := (∃ C ns fs d, IsO M x C ns fs ∧ FldP K C f ∧ (ns.zip fs).lookup f = some d ∧ Φ d M) ∨ ∃ C ns fs d, x = .exn C ns fs ∧ XfP K C f ∧ (ns.zip fs).lookup f = some d ∧ Φ d M
theorem de_fld {f : Str} (h : DE B X o δ M fun x M1 => FldD X.K f x M1 Φ) (hb : attributeBase o f X.env (eval o X.env) = eval o X.env := by rfl) : DE B X (.Attribute o f pos) δ M Φ :=
  .of (pe_fldU cE hb) fun κ σ H Q hb R k => h κ σ H _ hb R fun v x M1 H1 q R1 r1 => by
    rcases q with ⟨C, ns, fs, d, io, ff, l, q⟩ | ⟨C, ns, fs, d, ex, T, l, q⟩
    · obtain ⟨a, dx, vs, rfl, ea, hl, rr⟩ := io.sq R1 r1
      obtain ⟨v, l2, rv⟩ := reps_lookup rr l
      exact .inl ⟨a, C, dx, _, v, rfl, ea, ff, l2, k _ _ _ _ q R1 rv⟩
    · subst ex
      cases r1 with
      | exn0 h1 e1 => simp at l
      | exn h1 e1 h2 e2 hl rr =>
        obtain ⟨v, l2, rv⟩ := reps_lookup rr l
        exact .inr ⟨_, C, _, _, v, rfl, e1, e2, T, l2, k _ _ _ _ q R1 rv⟩
theorem fld_v {K : PySem.W.Frag} {f : Str} {C : Addr} {ns : List Str} {fs : List D} (ff : FldP K C f) (l : (ns.zip fs).lookup f = some d) (k : Φ d M) : FldD K f (.obj C ns fs) M Φ := .inl ⟨C, ns, fs, d, .val _ _ _, ff, l, k⟩
theorem fld_c {K : PySem.W.Frag} {f : Str} {C p : Addr} {ns : List Str} {fs : List D} (j : Nat) (hm : M[j]? = some (p, .obj C ns fs)) (ff : FldP K C f) (l : (ns.zip fs).lookup f = some d) (k : Φ d M) : FldD K f (.raw (.ref p)) M Φ := .inl ⟨C, ns, fs, d, .cell j hm, ff, l, k⟩
theorem fld_x {K : PySem.W.Frag} {f : Str} {C : Addr} {ns : List Str} {fs : List D} (T : XfP K C f) (l : (ns.zip fs).lookup f = some d) (k : Φ d M) : FldD K f (.exn C ns fs) M Φ := .inr ⟨C, ns, fs, d, rfl, T, l, k⟩
/-- a field is set -/
def putN (f : Str) (d : D) : List Str → List D → List Str × List D
  | n :: ns, x :: ds => if n = f then (n :: ns, d :: ds) else (n :: (putN f d ns ds).1, x :: (putN f d ns ds).2)
  | _, _ => ([f], [d])
theorem putN_rep {F : List Addr} {H : Hp} {f : Str} {v : V} {d : D} (rv : Rep F H v d) : ∀ {ns : List Str} {vs : List V} {ds : List D}, ns.length = vs.length → Reps F H vs ds → ∃ vs', putF f v (ns.zip vs) = (putN f d ns ds).1.zip vs' ∧ (putN f d ns ds).1.length = vs'.length ∧ Reps F H vs' (putN f d ns ds).2
  | [], [], _, _, .nil => ⟨[v], rfl, rfl, .cons rv .nil⟩
  | [], _ :: _, _, h, _ => by cases h
  | _ :: _, [], _, h, _ => by cases h
  | n :: ns, w :: vs, x :: ds, h, .cons r t => by
    unfold putN
    rw [List.zip_cons_cons]
    unfold putF
    by_cases e : n = f
    · rw [if_pos e, if_pos e]
      exact ⟨v :: vs, rfl, h, .cons rv t⟩
    · rw [if_neg e, if_neg e]
      obtain ⟨vs', h1, h2, h3⟩ := putN_rep (f := f) rv (ns := ns) (vs := vs) (ds := ds) (by simpa using h) t
      exact ⟨w :: vs', by rw [h1]; rfl, by simp [h2], .cons r h3⟩
theorem ds_fld {f : Str} (h : DE B X e δ M fun d M1 => DE B X o δ M1 fun x M2 => ∃ p C ns fs M3, x = .raw (.ref p) ∧ Rpl p (.obj C ns fs) (.obj C (putN f d ns fs).1 (putN f d ns fs).2) M2 M3 ∧ FldP X.K C f ∧ ns.length < 1000 ∧ Ψ.nx δ M3)
    (hs : swapsWith e (some (.Attribute o f pos')) pos.line X.env = pure false := by rfl) : DS B X (.Assign [.Attribute o f pos'] e pos) δ M Ψ :=
  .of (ps_fld cE cE hs) fun κ σ H E hb R k => h κ σ H _ hb R fun v d M1 H1 q1 R1 r1 => q1 ((v, d) :: κ) σ H1 _ (fun q hq => List.mem_cons_of_mem _ (hb q hq)) (R1.push r1) fun w x M2 H2 ⟨p, C, ns, fs, M3, ex, hr, ff, hl, q⟩ R2 r2 => by
    subst ex
    cases r2
    obtain ⟨dx, vs, e1, l1, rr⟩ := hr.inM.ok R2
    obtain ⟨vs', h1, h2, h3⟩ := putN_rep (f := f) R2.top l1 rr
    refine ⟨p, C, dx, _, rfl, e1, ff.c, ff.n, by simp [l1]; omega, k.nx _ _ _ _ q ?_⟩
    have hp : ∀ x, x ∉ M2.F → upd H2 p (.ins C dx (putF f v (ns.zip vs))) x = H2 x := fun x hx => upd_ne fun z => hx (z ▸ hr.inM.mem)
    exact R2.pop.rpl hr (fun x hx => upd_ne hx) ⟨dx, vs', by rw [upd_same, h1], h2, h3.fwd (Fwd.same hp)⟩
/-! ### isinstance of exceptions and own things -/
structure ExcP (K : PySem.W.Frag) (C : Addr) : Prop where
  cl : (PySem.W.clsIn K C).isSome = true
  ga : PySem.W.findIn K (.ref C) "__getattribute__" = some (some (.builtin "BaseException.__getattribute__"))
  gg : PySem.W.findIn K (.ref C) "__getattr__" = some none
  hs : PySem.W.subIn K (.ref C) (.type "BaseException") = some true
  ha : PySem.W.findIn K (.ref C) "__class__" = some (some (.builtin "object.__class__"))
  hn : PySem.W.specialIn K (.builtin "object.__class__") "__get__" = some (some (.builtin "getset_descriptor.__get__"))
  ht : PySem.W.takesIn K (.builtin "object.__class__") = some true
  hm : PySem.W.mroIn K C (.type "object") = some true
structure InsP (K : PySem.W.Frag) (C : Addr) : Prop where
  cl : Cls K C
  ha : PySem.W.findIn K (.ref C) "__class__" = some (some (.builtin "object.__class__"))
  hn : PySem.W.specialIn K (.builtin "object.__class__") "__get__" = some (some (.builtin "getset_descriptor.__get__"))
  ht : PySem.W.takesIn K (.builtin "object.__class__") = some true
  hm : PySem.W.mroIn K C (.type "object") = some true
def rIsX (K : PySem.W.Frag) : List V → Hp → VK → Prop := fun xs H Q => ∃ (a C : Addr) (dx : Option Addr) (c : V) (u : Value) (b : Bool), xs = [.ref a, c] ∧ ClsV c u ∧ H a = some (XO (.ref C) dx a) ∧ (dx = none ∨ ∃ d fs, dx = some d ∧ H d = some (.xd fs)) ∧ ExcP K C ∧ PySem.W.kitOne K (.ref C) u = some b ∧ Q (.bl b) H
def rIsiU (K : PySem.W.Frag) : List V → Hp → VK → Prop := fun xs H Q => rIsi K xs H Q ∨ rIsX K xs H Q
theorem call_isX : CallR X (.builtin "isinstance") (rIsX X.K) := by
  intro pins s σ H xs us Q I r h
  obtain ⟨a, C, dx, c, u, b, rfl, k, ea, hd, T, e, q⟩ := h
  cases r with
  | cons rx rr =>
    cases rr with
    | cons rt rr =>
      cases rr
      cases rx
      have ec := k.eq rt
      subst ec
      obtain ⟨⟨oe, vs, ha, hz, hdt⟩, _, _⟩ := I.hok a _ ea
      have J : ∃ od, PySem.W.InstAt s.heap a oe C od := by
        rcases hd with rfl | ⟨d, fs, rfl, ed⟩
        · exact ⟨none, ha, hz.1, by unfold PySem.W.notCls; rw [hdt] <;> rfl, by rw [hz.2]; trivial⟩
        · have hx : ObjOk X.prog X.w H s.heap d (.xd fs) := I.hok d _ ed
          obtain ⟨mA, hns, hr⟩ := hx
          obtain ⟨od, ho, hl⟩ := lookIn_ns hns
          exact ⟨some od, ha, hz.1, by unfold PySem.W.notCls; rw [hdt] <;> rfl, by rw [hz.2]; exact ho⟩
      obtain ⟨od, J⟩ := J
      exact PySem.W.kia_one (PySem.W.kitx_exc T.cl T.ga T.gg T.hs T.ha T.hn T.ht T.hm) I.kIn J e (fun z => nomatch z) fun tk => ⟨.bl b, H, I.kept (t' := tk) fun _ _ z => z, rfl, q⟩
theorem ClsD {c : V} {F : List Addr} {H : Hp} {v : V} (r : Rep F H v (.raw c)) : v = c := by cases r; rfl
theorem isx_x {K : PySem.W.Frag} {C : Addr} {ns : List Str} {fs : List D} {c : V} {u : Value} {b : Bool} (T : ExcP K C) (hc : ClsV c u) (hk : PySem.W.kitOne K (.ref C) u = some b) (k : Φ (.bl b) M) : CallD (rIsiU K) [.exn C ns fs, .raw c] M Φ := .inr fun κ δ σ H vs Q R rs f => by
  cases rs with
  | cons r1 r2 =>
    cases r2 with
    | cons r2 r3 =>
      cases r3
      have := ClsD r2
      subst this
      cases r1 with
      | exn0 h1 e1 => exact ⟨_, C, none, _, u, b, rfl, hc, e1, .inl rfl, T, hk, f _ _ _ _ k R (.bl _)⟩
      | exn h1 e1 h2 e2 hl rr => exact ⟨_, C, _, _, u, b, rfl, hc, e1, .inr ⟨_, _, rfl, e2⟩, T, hk, f _ _ _ _ k R (.bl _)⟩
theorem isx_o {K : PySem.W.Frag} {C : Addr} {ns : List Str} {fs : List D} {c : V} {u : Value} {b : Bool} (h : IsO M x C ns fs) (T : InsP K C) (hc : ClsV c u) (hk : PySem.W.kitOne K (.ref C) u = some b) (k : Φ (.bl b) M) : CallD (rIsiU K) [x, .raw c] M Φ := .inl fun κ δ σ H vs Q R rs f => by
  cases rs with
  | cons r1 r2 =>
    cases r2 with
    | cons r2 r3 =>
      cases r3
      have := ClsD r2
      subst this
      obtain ⟨p, dx, vs, rfl, ea, hl, rr⟩ := h.sq R r1
      exact ⟨_, _, .ref C, u, b, rfl, hc, .base (.ins ea T.cl T.ha T.hn T.ht T.hm), hk, f _ _ _ _ k R (.bl _)⟩
/-- a plain thing and an own class -/
theorem isx_b {K : PySem.W.Frag} {S : String} {c : V} {u : Value} {b : Bool} (hx : tyD x = some S) (hc : ClsV c u) (hk : PySem.W.kitOne K (.type S) u = some b) (k : Φ (.bl b) M) : CallD (rIsiU K) [x, .raw c] M Φ := .inl fun κ δ σ H vs Q R rs f => by
  cases rs with
  | cons r1 r2 =>
    cases r2 with
    | cons r2 r3 =>
      cases r3
      have := ClsD r2
      subst this
      refine ⟨_, _, .type S, u, b, rfl, hc, ?_, hk, f _ _ _ _ k R (.bl _)⟩
      cases r1 with
      | non => cases hx; exact .base .non
      | bl b => cases hx; exact .base (.bl b)
      | int i => cases hx; exact .base (.int i)
      | str i => cases hx; exact .base (.str i)
      | lst h1 e1 _ => cases hx; exact .base (.lst e1)
      | tup h1 e1 _ => cases hx; exact .base (.tup e1)
      | obj _ _ _ _ => cases hx
      | raw _ => cases hx
      | scrH _ _ => cases hx
      | scrK _ => cases hx
      | exn0 _ _ => cases hx
      | exn _ _ _ _ _ _ => cases hx
      | fd _ _ _ _ _ => cases hx
      | hp _ _ => cases hx
/-- an own class as a value -/
theorem de_gcls {x : Str} {C : Addr} (hg : Gl X x) (hm : X.mg x = some (.ref C)) (k : Φ (.raw (.ref C)) M) (hd : (x == ("__debug__" : Str)) = false := by decide) : DE B X (.Name x pos) δ M Φ := de_glob (v := .ref C) ⟨hg, ⟨_, hm, rfl⟩, hd⟩ (fun _ _ => .raw _) k
end
end Hl
namespace Hl
open PySem L2
open PyProof.Rows hiding St
/-! ### a def as it stands, with or without defaults -/
structure FunG (K : PySem.W.Frag) (x qual : Str) (st : Stmt) (f : Addr) (fd : FuncData) : Prop where
  ex : ∃ (oc : Value) (od : Option Addr) (dV kV doc pm : Value) (an : Option Addr) (cdv ct : Value) (osl : Array (Option Value)),
    fd = PySem.W.fnOf x qual (defArgs st) (defBody st) (defScope st) dV kV doc pm an cdv ct ∧ K.lookup f = some ⟨oc, od, .func fd, osl⟩ ∧ PySem.W.codeIn K cdv qual = true
theorem fung_mk {K : PySem.W.Frag} {x qual : Str} {st : Stmt} {f : Addr} {oc : Value} {od an : Option Addr} {osl : Array (Option Value)} {dV kV doc pm cdv ct : Value} (l : K.lookup f = some ⟨oc, od, .func (PySem.W.fnOf x qual (defArgs st) (defBody st) (defScope st) dV kV doc pm an cdv ct), osl⟩)
    (c : PySem.W.codeIn K cdv qual = true) : FunG K x qual st f (PySem.W.fnOf x qual (defArgs st) (defBody st) (defScope st) dV kV doc pm an cdv ct) := ⟨oc, od, dV, kV, doc, pm, an, cdv, ct, osl, rfl, l, c⟩
theorem fnokG_of {P : Program} {w : World} {K : PySem.W.Frag} {mg : Str → Option Value} {base : Heap} {x qual : Str} {st : Stmt} {f : Addr} {fd : FuncData} {N ps : List Str} {k : Nat} {p : DSpE} (F : FunG K x qual st f fd) (S : FnScope N ps (defScope st))
    (len : ∀ ds M Φ Ξ, p ds M Φ Ξ → ds.length = ps.length)
    (h : ∀ X kp ds M Φ Ξ, p ds M Φ Ξ → InDefE P w K mg base N (defScope st) k X ⟨kp, fun C ns es _ M' => ∃ es2 M2, VwX ns es M' es2 M2 ∧ Ξ C ns es2 M2⟩ → DSs ⟨kp, fun C ns es _ M' => ∃ es2 M2, VwX ns es M' es2 M2 ∧ Ξ C ns es2 M2⟩ X (defBody st) (startD N.length ds) M { nx := fun _ M' => ∃ d2 M2, Vw .non M' d2 M2 ∧ Φ d2 M2, rt := fun d M' => ∃ d2 M2, Vw d M' d2 M2 ∧ Φ d2 M2 }) : FnOk P w K mg base (L2.CX P w) (k + 1) f fd ps (liftE p) := by
  obtain ⟨oc, od, dV, kV, doc, pm, an, cdv, ct, osl, rfl, lk, hcd⟩ := F.ex
  refine fn_of lk hcd S (fun vs H Q E hl => ?_) fun A outer s H vs Q E hr hl => ?_
  · obtain ⟨κ, ds, M, Φ, Ξ, R, r, q, _⟩ := hl
    rw [r.length]; exact len ds M Φ Ξ q
  · obtain ⟨κ, ds, M, Φ, Ξ, R, r, q, kk, kx⟩ := hl
    refine ⟨_, cSs, ?_⟩
    refine h _ κ ds M Φ Ξ q ⟨rfl, rfl, rfl, rfl, rfl, rfl, rfl, rfl, ⟨S.nd, rfl, hr⟩, PassesOwn.leaving, ?_, rfl, rfl⟩ κ _ H _ (fun _ h => h) (start_rs R r) ⟨fun δ M' σ H' ⟨d2, M2, h1, h2⟩ R' => ?_, fun v d M' δ σ H' ⟨d2, M2, h1, h2⟩ R' r' => ?_, fun _ _ _ _ z => z.elim, fun _ _ _ _ z => z.elim⟩
    · refine Takes.imp (takes_of (E := E) rfl rfl rfl rfl) fun cls dx σ H' hw => ?_
      obtain ⟨C, ns, es, δ, M', κ', rfl, ⟨es2, M2, hv, hX⟩, hb, R', x'⟩ := hw
      obtain ⟨R2, x2⟩ := hv κ' δ σ H' dx R' x'
      exact kx C ns es2 M2 H' dx hX ⟨fun q hq => R2.kp q (hb q hq), .nil, R2.cl, R2.nd⟩ x2
    · obtain ⟨R2, r2⟩ := h1 _ _ _ _ _ R' .non
      exact kk .non d2 M2 H' h2 ⟨R2.kp, .nil, R2.cl, R2.nd⟩ r2
    · obtain ⟨R2, r2⟩ := h1 _ _ _ _ _ R' r'
      exact kk v d2 M2 H' h2 ⟨R2.kp, .nil, R2.cl, R2.nd⟩ r2
/-! facts within a comprehension's block -/
/-! ### loops and joins by the slots that change -/
def putAll (δ : Env') : List Nat → List (Option D) → Env'
  | i :: is, v :: vs => putAll (δ.set i v) is vs
  | _, _ => δ
theorem set_self {α : Type} {l : List (Option α)} {i : Nat} : l.set i (l.getD i none) = l := by
  apply List.ext_getElem?
  intro n
  by_cases hn : i = n
  · subst hn
    by_cases hl : i < l.length
    · rw [List.getElem?_set_self hl, List.getD_eq_getElem?_getD, List.getElem?_eq_getElem hl]; rfl
    · rw [List.getElem?_eq_none (by simpa using hl), List.getElem?_eq_none (by simpa using hl)]
  · rw [List.getElem?_set_ne hn]
theorem putAll_self {δ : Env'} : ∀ {cs : List Nat}, putAll δ cs (cs.map fun i => δ.getD i none) = δ
  | [] => rfl
  | c :: cs => by
    show putAll (δ.set c (δ.getD c none)) cs _ = δ
    rw [set_self]; exact putAll_self
section
variable {B : Bx} {X : Cx} {tg iter c : Expr} {st : Stmt} {sts body : List Stmt} {δ : Env'} {M : Mem} {Ψ : DEnds} {pos : Pos}
theorem ds_forC {n : Nat} (cs : List Nat) (z : Cz X n) (hp : PassesOwn (model X.prog X.w) X.A X.env X.xe)
    (h : DI B X tg iter δ M fun xs M' => ∃ Iv : Nat → List (Option D) → Mem → Prop, Iv 0 (cs.map fun i => δ.getD i none) M' ∧
      (∀ i x vs δ1 M1, xs[i]? = some x → Iv i vs M1 → δ1 = putAll δ cs vs → DG B X tg x δ1 M1 fun δ' M' => DSs B X body δ' M' { Ψ with nx := fun δ' M' => ∃ vs', δ' = putAll δ cs vs' ∧ Iv (i + 1) vs' M', ct := fun δ' M' => ∃ vs', δ' = putAll δ cs vs' ∧ Iv (i + 1) vs' M', bk := Ψ.nx }) ∧
      ∀ vs δ1 M1, Iv xs.length vs M1 → δ1 = putAll δ cs vs → Ψ.nx δ1 M1)
    (hs : ∀ x, foldedSetIterable iter X.env x = pure x := by intro _; rfl) : DS B X (.For tg iter body [] pos) δ M Ψ := by
  refine ds_for z hp ?_ hs
  obtain ⟨wi, pi, w⟩ := h
  refine ⟨wi, pi, fun κ σ H R hb Rr k => w κ σ H R hb Rr fun xs M' H' J κ' ⟨Iv, h0, h1, h2⟩ hk R' W => k xs M' H' J κ' ⟨fun i δ1 M1 => ∃ vs, δ1 = putAll δ cs vs ∧ Iv i vs M1, ⟨_, putAll_self.symm, h0⟩, fun i x δ1 M1 hx ⟨vs, e, hv⟩ => h1 i x vs δ1 M1 hx hv e, fun δ1 M1 ⟨vs, e, hv⟩ => h2 vs δ1 M1 hv e⟩ hk R' W⟩
theorem ds_cutC (cs : List Nat) (Mid : List (Option D) → Mem → Prop) (h1 : DS B X st δ M { Ψ with nx := fun δ' M' => ∃ vs, δ' = putAll δ cs vs ∧ Mid vs M' }) (h2 : ∀ vs δ1 M1, Mid vs M1 → δ1 = putAll δ cs vs → DSs B X sts δ1 M1 Ψ) : DSs B X (st :: sts) δ M Ψ :=
  ds_cut (fun δ1 M1 => ∃ vs, δ1 = putAll δ cs vs ∧ Mid vs M1) h1 fun δ1 M1 ⟨vs, e, hv⟩ => h2 vs δ1 M1 hv e
end
/-! ### items of typed lists -/
section
variable {K : PySem.W.Frag} {M : Mem} {Φ : D → Mem → Prop} {α : Type} {l : List α} {f : α → D} {i : Int}
theorem od_ixE (h : 0 ≤ i ∧ i < l.length) (k : ∀ y, l[i.toNat]? = some y → Φ (f y) M) : OpD (rIxU K) (.lst (l.map f)) (.int i) M Φ := by
  obtain ⟨y, h1, h2⟩ := at_map (f := f) h.1 h.2
  exact od_ixL h2 (k y h1)
end
end Hl
namespace Hl
open PySem L2
open PyProof.Rows hiding St
section
variable {B : Bx} {X : Cx} {e a b c o : Expr} {es rest : List Expr} {kw : Keyword} {kws : List Keyword} {st : Stmt} {sts body suite : List Stmt} {δ δ' : Env'} {M : Mem} {Φ : D → Mem → Prop} {Ψ : DEnds} {pos pos' apos pp np : Pos} {d x y : D} {ΦL : List D → Mem → Prop}
def selN (n : Nat) : Sel := (List.range n).map .inl
theorem selN_eq {ds : List D} {n : Nat} (h : ds.length = n) : selD (selN n) ds = ds := by
  subst h
  unfold selD selN
  rw [List.map_map]
  apply List.ext_getElem
  · simp
  · intro i h1 h2
    simp [List.getD, h2]
theorem ar_id {k : Nat} {p : DSpE} {ds : List D} {Ξ : XPost} (h : ds.length = k) (q : p ds M Φ Ξ) : ds.length = k ∧ ([] : List D).length = ([] : List Str).length ∧ p (selD (selN k) (ds ++ [])) M Φ Ξ := ⟨h, rfl, by rw [List.append_nil, selN_eq h]; exact q⟩
theorem ar_idM {k : Nat} {p : DSpE} {ds : List D} {Ξ : XPost} (h : ds.length = k) (q : p (x :: ds) M Φ Ξ) : ds.length = k ∧ ([] : List D).length = ([] : List Str).length ∧ p (selD (selN (k + 1)) (x :: ds ++ [])) M Φ Ξ := ⟨h, rfl, by rw [List.append_nil, selN_eq (by simp [h])]; exact q⟩
theorem ar_idN {k : Nat} {p : DSpE} {ds : List D} {Ξ : XPost} {Φ' : Addr → D → Mem → Prop} {Mm : Addr → Mem} (h : ds.length = k) (q : ∀ a, p (.raw (.ref a) :: ds) (Mm a) (Φ' a) Ξ) : ds.length = k ∧ ([] : List D).length = ([] : List Str).length ∧ ∀ a, p (selD (selN (k + 1)) (.raw (.ref a) :: ds ++ [])) (Mm a) (Φ' a) Ξ := ⟨h, rfl, fun a => by rw [List.append_nil, selN_eq (by simp [h])]; exact q a⟩
theorem ar_g {k : Nat} {p : DSpE} {ds zs : List D} {ks : List Str} {sel : Sel} {Ξ : XPost} (h : ds.length = k) (h2 : zs.length = ks.length) (q : p (selD sel (ds ++ zs)) M Φ Ξ) : ds.length = k ∧ zs.length = ks.length ∧ p (selD sel (ds ++ zs)) M Φ Ξ := ⟨h, h2, q⟩
theorem ar_gM {k : Nat} {p : DSpE} {ds zs : List D} {ks : List Str} {sel : Sel} {Ξ : XPost} (h : ds.length = k) (h2 : zs.length = ks.length) (q : p (selD sel (x :: ds ++ zs)) M Φ Ξ) : ds.length = k ∧ zs.length = ks.length ∧ p (selD sel (x :: ds ++ zs)) M Φ Ξ := ⟨h, h2, q⟩
theorem ar_gN {k : Nat} {p : DSpE} {ds zs : List D} {ks : List Str} {sel : Sel} {Ξ : XPost} {Φ' : Addr → D → Mem → Prop} {Mm : Addr → Mem} (h : ds.length = k) (h2 : zs.length = ks.length) (q : ∀ a, p (selD sel (.raw (.ref a) :: ds ++ zs)) (Mm a) (Φ' a) Ξ) : ds.length = k ∧ zs.length = ks.length ∧ ∀ a, p (selD sel (.raw (.ref a) :: ds ++ zs)) (Mm a) (Φ' a) Ξ := ⟨h, h2, q⟩
/-! methods, the class by the thing -/
def MtE (B : Bx) (X : Cx) (m : Nat) (pos : Pos) (es : List Expr) (kws : List Keyword) (mn : Str) (δ : Env') (x : D) (M1 : Mem) (Φ : D → Mem → Prop) : Prop := ∃ C k n ks sel p Ξ, MethEX X k C mn n ks sel p ∧ k ≤ m ∧ Lets X B δ Ξ ∧ PlA X pos es kws ks ∧ (∃ ns fs, IsO M1 x C ns fs ∧ ns.contains mn = false) ∧
  DAK B X es kws δ M1 fun ds zs M' => ds.length = n ∧ zs.length = ks.length ∧ p (selD sel (x :: ds ++ zs)) M' Φ Ξ
theorem de_mU {pl_ : Sem Bool} {m : Nat} {mn : Str} (z : Cz X m) (h : DE B X o δ M fun x M1 => MtE B X m pos es kws mn δ x M1 Φ)
    (ht : eval (.Call (.Attribute o mn apos) es kws pos) X.env = (do
      let ov ← eval o X.env
      standAt apos.atName
      let (f, first) ← holding [ov] (getMethod ov mn pl_)
      callWith pos f first (backTo pos (starEach es X.env)) (backToKw pos (keywordEach kws X.env))) := by rfl) : DE B X (.Call (.Attribute o mn apos) es kws pos) δ M Φ := by
  intro κ σ H Q hb R kk
  unfold tE
  intro pins s I
  refine PySem.W.methodCall_KW (pl := pl_) (thn ((cE (X := X) (e := o)).run pins s σ H (fun v H1 => ∃ x M1, MtE B X m pos es kws mn δ x M1 Φ ∧ Rs κ δ M1 σ H1 ∧ Rep M1.F H1 v x) I (h κ σ H _ hb R fun v x M1 H1 q R1 r1 => ⟨x, M1, q, R1, r1⟩)) fun u s1 ⟨v, H1, I1, rv, x, M1, hm, R1, r1⟩ => ?_) ht
  obtain ⟨C, k, n, ks, sel, p, Ξ, f, hk, lt, pl, ⟨ns, fs, io, hn⟩, hd⟩ := hm
  obtain ⟨fa, c, hm, h3⟩ := f.ex
  obtain ⟨W, tk, hx⟩ := lt
  obtain ⟨a, dx, vs0, rfl, ea, hl, rr⟩ := io.sq R1 r1
  obtain rfl : u = Value.ref a := rv
  refine getmeth_ok I1 ea c hm (lookup_zip hn) ?_
  refine dak_run (κ := (.ref a, x) :: κ) (first := [.ref a]) hm.kp pl hd I1 (fun q hq => List.mem_cons_of_mem _ (hb q hq)) (R1.push r1) fun us ws s2 vs zs ds es M2 H2 I2 rv rz ⟨l1, l2, q⟩ R2 r3 r4 => ?_
  have rs : Vals (V.ref a :: vs) (Value.ref a :: us) := .cons rfl rv
  refine run_E h3 (z.room.mono hk) (passAt tk σ) I2 rs rz (by rw [List.length_cons, r3.length, l1]) (by rw [r4.length]; exact l2) fun us' all rr so => ?_
  exact liftE_of so rr.length R2.pop ((Reps.cons R2.top r3).append r4) q kk fun C ns es M' H' dx e R' x => hx κ σ C ns es M' H' dx hb e R' x
theorem mt_v {m k n : Nat} {mn : Str} {C : Addr} {ns ks : List Str} {fs : List D} {sel : Sel} {p : DSpE} {Ξ : XPost} (f : MethEX X k C mn n ks sel p) (hk : k ≤ m) (lt : Lets X B δ Ξ) (pl : PlA X pos es kws ks) (hn : ns.contains mn = false)
    (h : DAK B X es kws δ M fun ds zs M' => ds.length = n ∧ zs.length = ks.length ∧ p (selD sel (.obj C ns fs :: ds ++ zs)) M' Φ Ξ) : MtE B X m pos es kws mn δ (.obj C ns fs) M Φ := ⟨C, k, n, ks, sel, p, Ξ, f, hk, lt, pl, ⟨ns, fs, .val _ _ _, hn⟩, h⟩
theorem mt_c {m k n : Nat} {mn : Str} {C q : Addr} {ns ks : List Str} {fs : List D} {sel : Sel} {p : DSpE} {Ξ : XPost} (j : Nat) (hm : M[j]? = some (q, .obj C ns fs)) (f : MethEX X k C mn n ks sel p) (hk : k ≤ m) (lt : Lets X B δ Ξ) (pl : PlA X pos es kws ks) (hn : ns.contains mn = false)
    (h : DAK B X es kws δ M fun ds zs M' => ds.length = n ∧ zs.length = ks.length ∧ p (selD sel (.raw (.ref q) :: ds ++ zs)) M' Φ Ξ) : MtE B X m pos es kws mn δ (.raw (.ref q)) M Φ := ⟨C, k, n, ks, sel, p, Ξ, f, hk, lt, pl, ⟨ns, fs, .cell j hm, hn⟩, h⟩
/-! an exception reaches a handler -/
theorem exh_yes {c0 C : Addr} {oi : Option Nat} {ns : List Str} {ds : List D} {r : List HdD} (hm : PySem.W.exmOne X.K (.ref C) (.ref c0) = some true) (h : ∀ a pn kp, DSs ⟨kp, fun _ _ _ _ _ => False⟩ (X.suite a pn) suite (envD oi δ (.exn C ns ds)) M (endsD oi Ψ)) : exH B X Ψ ((c0, oi, suite) :: r) C ns ds δ M := ⟨true, hm, (fun _ => h), (fun z => nomatch z)⟩
theorem exh_no {c0 C : Addr} {oi : Option Nat} {ns : List Str} {ds : List D} {r : List HdD} (hm : PySem.W.exmOne X.K (.ref C) (.ref c0) = some false) (h : exH B X Ψ r C ns ds δ M) : exH B X Ψ ((c0, oi, suite) :: r) C ns ds δ M := ⟨false, hm, (fun z => nomatch z), fun _ => h⟩
theorem kind_of {sc : Scope} {x : Str} (hs : X.env.scope = sc) (h : sc.names.lookup x = some .local) : X.env.kindOf x = some .local := by unfold Env.kindOf; rw [hs]; exact h
theorem len_andI {ds : List D} {ns : List Str} {P : Prop} (h1 : ds.length = ns.length) (h2 : ds.length ≤ 1000) (k : P) : ds.length = ns.length ∧ ds.length ≤ 1000 ∧ P := ⟨h1, h2, k⟩
/-- a store without calm -/
theorem ds_setN {i : Nat} {x : Str} (nd : X.N.Nodup) (l : Lo X i x) (h : DE B X e δ M fun d M' => Sets δ i d fun δ' => Ψ.nx δ' M') (hs : swapsWith e (some (.Name x pos')) pos.line X.env = pure false := by rfl) : DS B X (.Assign [.Name x pos'] e pos) δ M Ψ :=
  .of (ps_set nd l.at_ l.loc cE hs l.fn) fun κ σ H E hb R k => h κ σ H _ hb R fun v d M' H' q R' r => k.nx _ _ _ _ q.get (R'.put i r)
/-! a field is set, the class by the thing -/
def StF (K : PySem.W.Frag) (f : Str) (d x : D) (M : Mem) (Φ : Mem → Prop) : Prop := ∃ p C ns fs ns' fs' M', x = .raw (.ref p) ∧ Rpl p (.obj C ns fs) (.obj C ns' fs') M M' ∧ FldP K C f ∧ ns.length < 1000 ∧ putN f d ns fs = (ns', fs') ∧ Φ M'
theorem ds_fldU {f : Str} (h : DE B X e δ M fun d M1 => DE B X o δ M1 fun x M2 => StF X.K f d x M2 fun M3 => Ψ.nx δ M3)
    (hs : swapsWith e (some (.Attribute o f pos')) pos.line X.env = pure false := by rfl) : DS B X (.Assign [.Attribute o f pos'] e pos) δ M Ψ := ds_fld (h.mono fun d M1 h1 => h1.mono fun x M2 ⟨p, C, ns, fs, ns', fs', M3, e1, e2, ff, hl, hp, k⟩ => ⟨p, C, ns, fs, M3, e1, by rw [hp]; exact e2, ff, hl, k⟩) hs
theorem sf_n0 {K : PySem.W.Frag} {f : Str} {p C : Addr}   {ΦM : Mem → Prop} (j : Nat) (hm : M[j]? = some (p, .obj C [] [])) (ff : FldP K C f)  (k : ΦM (M.set j (p, .obj C [f] [d]))) : StF K f d (.raw (.ref p)) M ΦM := ⟨p, C, _, _, _, _, _, rfl, .cell j hm, ff, (by show 0 < 1000; decide), by simp [putN], k⟩
theorem sf_n1 {K : PySem.W.Frag} {f : Str} {p C : Addr} {n0 : Str} {x0 : D} {ΦM : Mem → Prop} (j : Nat) (hm : M[j]? = some (p, .obj C [n0] [x0])) (ff : FldP K C f) (h0 : (n0 = f) = False) (k : ΦM (M.set j (p, .obj C [n0, f] [x0, d]))) : StF K f d (.raw (.ref p)) M ΦM := ⟨p, C, _, _, _, _, _, rfl, .cell j hm, ff, (by show 1 < 1000; decide), by simp [putN, h0], k⟩
theorem sf_n2 {K : PySem.W.Frag} {f : Str} {p C : Addr} {n0 n1 : Str} {x0 x1 : D} {ΦM : Mem → Prop} (j : Nat) (hm : M[j]? = some (p, .obj C [n0, n1] [x0, x1])) (ff : FldP K C f) (h0 : (n0 = f) = False) (h1 : (n1 = f) = False) (k : ΦM (M.set j (p, .obj C [n0, n1, f] [x0, x1, d]))) : StF K f d (.raw (.ref p)) M ΦM := ⟨p, C, _, _, _, _, _, rfl, .cell j hm, ff, (by show 2 < 1000; decide), by simp [putN, h0, h1], k⟩
theorem sf_n3 {K : PySem.W.Frag} {f : Str} {p C : Addr} {n0 n1 n2 : Str} {x0 x1 x2 : D} {ΦM : Mem → Prop} (j : Nat) (hm : M[j]? = some (p, .obj C [n0, n1, n2] [x0, x1, x2])) (ff : FldP K C f) (h0 : (n0 = f) = False) (h1 : (n1 = f) = False) (h2 : (n2 = f) = False) (k : ΦM (M.set j (p, .obj C [n0, n1, n2, f] [x0, x1, x2, d]))) : StF K f d (.raw (.ref p)) M ΦM := ⟨p, C, _, _, _, _, _, rfl, .cell j hm, ff, (by show 3 < 1000; decide), by simp [putN, h0, h1, h2], k⟩
theorem sf_n4 {K : PySem.W.Frag} {f : Str} {p C : Addr} {n0 n1 n2 n3 : Str} {x0 x1 x2 x3 : D} {ΦM : Mem → Prop} (j : Nat) (hm : M[j]? = some (p, .obj C [n0, n1, n2, n3] [x0, x1, x2, x3])) (ff : FldP K C f) (h0 : (n0 = f) = False) (h1 : (n1 = f) = False) (h2 : (n2 = f) = False) (h3 : (n3 = f) = False) (k : ΦM (M.set j (p, .obj C [n0, n1, n2, n3, f] [x0, x1, x2, x3, d]))) : StF K f d (.raw (.ref p)) M ΦM := ⟨p, C, _, _, _, _, _, rfl, .cell j hm, ff, (by show 4 < 1000; decide), by simp [putN, h0, h1, h2, h3], k⟩
theorem sf_n5 {K : PySem.W.Frag} {f : Str} {p C : Addr} {n0 n1 n2 n3 n4 : Str} {x0 x1 x2 x3 x4 : D} {ΦM : Mem → Prop} (j : Nat) (hm : M[j]? = some (p, .obj C [n0, n1, n2, n3, n4] [x0, x1, x2, x3, x4])) (ff : FldP K C f) (h0 : (n0 = f) = False) (h1 : (n1 = f) = False) (h2 : (n2 = f) = False) (h3 : (n3 = f) = False) (h4 : (n4 = f) = False) (k : ΦM (M.set j (p, .obj C [n0, n1, n2, n3, n4, f] [x0, x1, x2, x3, x4, d]))) : StF K f d (.raw (.ref p)) M ΦM := ⟨p, C, _, _, _, _, _, rfl, .cell j hm, ff, (by show 5 < 1000; decide), by simp [putN, h0, h1, h2, h3, h4], k⟩
theorem sf_u2_1 {K : PySem.W.Frag} {f : Str} {p C : Addr} {n0 : Str} {x0 x1 : D} {ΦM : Mem → Prop} (j : Nat) (hm : M[j]? = some (p, .obj C [n0, f] [x0, x1])) (ff : FldP K C f) (h0 : (n0 = f) = False) (k : ΦM (M.set j (p, .obj C [n0, f] [x0, d]))) : StF K f d (.raw (.ref p)) M ΦM := ⟨p, C, _, _, _, _, _, rfl, .cell j hm, ff, (by show 2 < 1000; decide), by simp [putN, h0], k⟩
theorem isl_c {p : Addr} {ds : List D} {P : Prop} (j : Nat) (hm : M[j]? = some (p, .lst ds)) (k : P) : (∃ ds, IsL M (.raw (.ref p)) ds) ∧ P := ⟨⟨ds, .cell j hm⟩, k⟩
theorem idApp {K : PySem.W.Frag} {ds : List D} {r : V → List V → Hp → VK → Prop} (h : MtD K "list" r x ds M Φ) : MtD K "list" r x ds M Φ := h
theorem len_lt {n : Nat} (h : n ≤ 100000) : n < sizeLine := Nat.lt_of_le_of_lt h (by decide)
theorem idFld {f : Str} {K : PySem.W.Frag} (h : FldD K f x M Φ) : FldD K f x M Φ := h
theorem idMt {m : Nat} {mn : Str} (h : MtE B X m pos es kws mn δ x M Φ) : MtE B X m pos es kws mn δ x M Φ := h
theorem idStF {f : Str} {K : PySem.W.Frag} {ΦM : Mem → Prop} (h : StF K f d x M ΦM) : StF K f d x M ΦM := h
theorem idDAK {ΦA : List D → List D → Mem → Prop} (h : DAK B X es kws δ M ΦA) : DAK B X es kws δ M ΦA := h
theorem idAttr {f : Str} (h : DE B X (.Attribute o f pos) δ M Φ) : DE B X (.Attribute o f pos) δ M Φ := h
theorem idRaise {e' : Option Expr} {e2 : Option Expr} (h : DS B X (.Raise e' e2 pos) δ M Ψ) : DS B X (.Raise e' e2 pos) δ M Ψ := h
end
/-- the law of a def that may let exceptions out: it lets none -/
def pLawE (K : PySem.W.Frag) : DSpE := fun ds M Φ Ξ => ∃ ns, ds = [.scr K ns] ∧ ns.length ≤ 63 ∧ Φ (.bl true) M
theorem law_startE {K : PySem.W.Frag} {H : Hp} {a : Addr} {ns : List Int} (hl : ns.length ≤ 63) (hS : SqL K H a (ns.map V.int)) : liftE (pLawE K) [.ref a] H (fun v _ => v = .bl true) (fun _ _ _ => False) := by
  refine ⟨[], [.scr K ns], [], fun d _ => d = .bl true, fun _ _ _ _ => False, ⟨by simp, .nil, by simp, .nil⟩, .cons ?_ .nil, ⟨ns, rfl, hl, rfl⟩, fun v d M' H' e R r => by subst e; cases r; rfl, fun _ _ _ _ _ _ z => z.elim⟩
  rcases hS with h | h
  · exact .scrH (by simp [Mem.F]) h
  · exact .scrK fun _ => .inr h
theorem law_out {P : Program} {w : World} {outer : List Env} {H : Hp} {s : Shared} {u : Value} {s' : Shared} (h : L2.CX P w outer H s (fun _ _ _ => False) u s') : False := by
  obtain ⟨_, _, _, _, _, _, _, _, _, _, _, _, z⟩ := h
  exact z
end Hl
namespace Hl
open PySem L2
open PyProof.Rows hiding St
section
variable {B : Bx} {X : Cx} {e a b c o : Expr} {es rest : List Expr} {δ δ' : Env'} {M : Mem} {Φ : D → Mem → Prop} {Ψ : DEnds} {pos pos' apos pp np : Pos} {d x y : D}
/-! isinstance(e, (A, B)), e an exception that is held -/
def rIsXT (K : PySem.W.Frag) : List V → Hp → VK → Prop := fun xs H Q => ∃ (a C tp : Addr) (dx : Option Addr) (cs : List V) (us : List Value) (b : Bool), xs = [.ref a, .ref tp] ∧ H tp = some (.tup cs) ∧ Paired ClsV cs us ∧ H a = some (XO (.ref C) dx a) ∧ (dx = none ∨ ∃ d fs, dx = some d ∧ H d = some (.xd fs)) ∧ ExcP K C ∧ PySem.W.kitAny K (.ref C) us = some b ∧ Q (.bl b) H
theorem call_isXT : CallR X (.builtin "isinstance") (rIsXT X.K) := by
  intro pins s σ H xs us Q I r h
  obtain ⟨a, C, tp, dx, cs, ws, b, rfl, hT, k, ea, hd, T, e, q⟩ := h
  obtain ⟨u1, u2, rfl, r1, r2⟩ := vals2 r
  cases (show u2 = Value.ref tp from r2)
  cases (show u1 = Value.ref a from r1)
  obtain ⟨⟨oe, vs, ha, hz, hdt⟩, _, _⟩ := I.hok a _ ea
  have J : ∃ od, PySem.W.InstAt s.heap a oe C od := by
    rcases hd with rfl | ⟨d, fs, rfl, ed⟩
    · exact ⟨none, ha, hz.1, by unfold PySem.W.notCls; rw [hdt] <;> rfl, by rw [hz.2]; trivial⟩
    · have hx : ObjOk X.prog X.w H s.heap d (.xd fs) := I.hok d _ ed
      obtain ⟨mA, hns, hr⟩ := hx
      obtain ⟨od, ho, hl⟩ := lookIn_ns hns
      exact ⟨some od, ha, hz.1, by unfold PySem.W.notCls; rw [hdt] <;> rfl, by rw [hz.2]; exact ho⟩
  obtain ⟨od, J⟩ := J
  obtain ⟨_, its, rv, o, h1, h2, n, h3⟩ := (show ObjOk X.prog X.w H s.heap tp (.tup cs) from I.hok tp _ hT)
  have e3 := ClsV.all k rv
  subst e3
  obtain ⟨oc, od2, dt, sl⟩ := o
  simp only at h2 h3
  subst h2 h3
  exact PySem.W.kia_tup (PySem.W.kitx_exc T.cl T.ga T.gg T.hs T.ha T.hn T.ht T.hm) I.kIn J h1 e (fun z => nomatch z) fun tk => ⟨.bl b, H, I.tok tk, rfl, q⟩
def rIsiV (K : PySem.W.Frag) : List V → Hp → VK → Prop := fun xs H Q => rIsiU K xs H Q ∨ rIsXT K xs H Q
theorem de_isiV {p : Pos} (g : Gn X "isinstance") (h : DA B X [a, b] δ M fun ds M1 => CallD (rIsiV X.K) ds M1 Φ) (he : starEach [a, b] X.env = (false, eval a X.env) :: starEach [b] X.env := by rfl) (hpl : (backTo pos (starEach [b] X.env)).any (·.1) = false := by rfl) : DE B X (.Call (.Name "isinstance" p) [a, b] [] pos) δ M Φ := de_blt ((call_isi.or call_isX).or call_isXT) g boot_isinstance h (by decide) (by decide) he hpl
/-- a held exception and two own classes -/
theorem isx_t2 {K : PySem.W.Frag} {C : Addr} {ns : List Str} {fs : List D} {c1 c2 : V} {u1 u2 : Value} {b1 b2 : Bool} (T : ExcP K C) (h1 : ClsV c1 u1) (h2 : ClsV c2 u2) (k1 : PySem.W.kitOne K (.ref C) u1 = some b1) (k2 : PySem.W.kitOne K (.ref C) u2 = some b2) (k : Φ (.bl (b1 || b2)) M) : CallD (rIsiV K) [.exn C ns fs, .tup [.raw c1, .raw c2]] M Φ := .inr fun κ δ σ H vs Q R rs f => by
  cases rs with
  | cons r1 r2 =>
    cases r2 with
    | cons r2 r3 =>
      cases r3
      have kk : PySem.W.kitAny K (.ref C) [u1, u2] = some (b1 || b2) := by
        refine kitAny_cons k1 (fun e => ?_) fun e => by rw [e]; rfl
        rw [e]
        refine kitAny_cons k2 (fun e => ?_) fun e => by rw [e]; rfl
        rw [e]; exact kitAny_nil
      cases r2 with
      | tup hn e2 rr =>
        cases rr with
        | cons q1 rr =>
          cases rr with
          | cons q2 rr =>
            cases rr
            have := ClsD q1
            subst this
            have := ClsD q2
            subst this
            cases r1 with
            | exn0 h3 e1 => exact ⟨_, C, _, none, _, _, _, rfl, e2, .cons h1 (.cons h2 .nil), e1, .inl rfl, T, kk, f _ _ _ _ k R (.bl _)⟩
            | exn h3 e1 h4 e4 hl rr => exact ⟨_, C, _, _, _, _, _, rfl, e2, .cons h1 (.cons h2 .nil), e1, .inr ⟨_, _, rfl, e4⟩, T, kk, f _ _ _ _ k R (.bl _)⟩
end
/-! the name of a handler goes -/
def Uns (δ : Env') (i : Nat) (P : Env' → Prop) : Prop := P (δ.set i none)
theorem ua0 {P : Env' → Prop} {x0 : Option D} {r : Env'} (h : P (none :: r)) : Uns (x0 :: r) 0 P := h
theorem ua1 {P : Env' → Prop} {x0 x1 : Option D} {r : Env'} (h : P (x0 :: none :: r)) : Uns (x0 :: x1 :: r) 1 P := h
theorem ua2 {P : Env' → Prop} {x0 x1 x2 : Option D} {r : Env'} (h : P (x0 :: x1 :: none :: r)) : Uns (x0 :: x1 :: x2 :: r) 2 P := h
theorem ua3 {P : Env' → Prop} {x0 x1 x2 x3 : Option D} {r : Env'} (h : P (x0 :: x1 :: x2 :: none :: r)) : Uns (x0 :: x1 :: x2 :: x3 :: r) 3 P := h
theorem ua4 {P : Env' → Prop} {x0 x1 x2 x3 x4 : Option D} {r : Env'} (h : P (x0 :: x1 :: x2 :: x3 :: none :: r)) : Uns (x0 :: x1 :: x2 :: x3 :: x4 :: r) 4 P := h
theorem ua5 {P : Env' → Prop} {x0 x1 x2 x3 x4 x5 : Option D} {r : Env'} (h : P (x0 :: x1 :: x2 :: x3 :: x4 :: none :: r)) : Uns (x0 :: x1 :: x2 :: x3 :: x4 :: x5 :: r) 5 P := h
theorem ua6 {P : Env' → Prop} {x0 x1 x2 x3 x4 x5 x6 : Option D} {r : Env'} (h : P (x0 :: x1 :: x2 :: x3 :: x4 :: x5 :: none :: r)) : Uns (x0 :: x1 :: x2 :: x3 :: x4 :: x5 :: x6 :: r) 6 P := h
theorem ua7 {P : Env' → Prop} {x0 x1 x2 x3 x4 x5 x6 x7 : Option D} {r : Env'} (h : P (x0 :: x1 :: x2 :: x3 :: x4 :: x5 :: x6 :: none :: r)) : Uns (x0 :: x1 :: x2 :: x3 :: x4 :: x5 :: x6 :: x7 :: r) 7 P := h
theorem ua8 {P : Env' → Prop} {x0 x1 x2 x3 x4 x5 x6 x7 x8 : Option D} {r : Env'} (h : P (x0 :: x1 :: x2 :: x3 :: x4 :: x5 :: x6 :: x7 :: none :: r)) : Uns (x0 :: x1 :: x2 :: x3 :: x4 :: x5 :: x6 :: x7 :: x8 :: r) 8 P := h
theorem ua9 {P : Env' → Prop} {x0 x1 x2 x3 x4 x5 x6 x7 x8 x9 : Option D} {r : Env'} (h : P (x0 :: x1 :: x2 :: x3 :: x4 :: x5 :: x6 :: x7 :: x8 :: none :: r)) : Uns (x0 :: x1 :: x2 :: x3 :: x4 :: x5 :: x6 :: x7 :: x8 :: x9 :: r) 9 P := h
theorem ua10 {P : Env' → Prop} {x0 x1 x2 x3 x4 x5 x6 x7 x8 x9 x10 : Option D} {r : Env'} (h : P (x0 :: x1 :: x2 :: x3 :: x4 :: x5 :: x6 :: x7 :: x8 :: x9 :: none :: r)) : Uns (x0 :: x1 :: x2 :: x3 :: x4 :: x5 :: x6 :: x7 :: x8 :: x9 :: x10 :: r) 10 P := h
theorem ua11 {P : Env' → Prop} {x0 x1 x2 x3 x4 x5 x6 x7 x8 x9 x10 x11 : Option D} {r : Env'} (h : P (x0 :: x1 :: x2 :: x3 :: x4 :: x5 :: x6 :: x7 :: x8 :: x9 :: x10 :: none :: r)) : Uns (x0 :: x1 :: x2 :: x3 :: x4 :: x5 :: x6 :: x7 :: x8 :: x9 :: x10 :: x11 :: r) 11 P := h
theorem ua12 {P : Env' → Prop} {x0 x1 x2 x3 x4 x5 x6 x7 x8 x9 x10 x11 x12 : Option D} {r : Env'} (h : P (x0 :: x1 :: x2 :: x3 :: x4 :: x5 :: x6 :: x7 :: x8 :: x9 :: x10 :: x11 :: none :: r)) : Uns (x0 :: x1 :: x2 :: x3 :: x4 :: x5 :: x6 :: x7 :: x8 :: x9 :: x10 :: x11 :: x12 :: r) 12 P := h
theorem ua13 {P : Env' → Prop} {x0 x1 x2 x3 x4 x5 x6 x7 x8 x9 x10 x11 x12 x13 : Option D} {r : Env'} (h : P (x0 :: x1 :: x2 :: x3 :: x4 :: x5 :: x6 :: x7 :: x8 :: x9 :: x10 :: x11 :: x12 :: none :: r)) : Uns (x0 :: x1 :: x2 :: x3 :: x4 :: x5 :: x6 :: x7 :: x8 :: x9 :: x10 :: x11 :: x12 :: x13 :: r) 13 P := h
theorem ua14 {P : Env' → Prop} {x0 x1 x2 x3 x4 x5 x6 x7 x8 x9 x10 x11 x12 x13 x14 : Option D} {r : Env'} (h : P (x0 :: x1 :: x2 :: x3 :: x4 :: x5 :: x6 :: x7 :: x8 :: x9 :: x10 :: x11 :: x12 :: x13 :: none :: r)) : Uns (x0 :: x1 :: x2 :: x3 :: x4 :: x5 :: x6 :: x7 :: x8 :: x9 :: x10 :: x11 :: x12 :: x13 :: x14 :: r) 14 P := h
theorem ua15 {P : Env' → Prop} {x0 x1 x2 x3 x4 x5 x6 x7 x8 x9 x10 x11 x12 x13 x14 x15 : Option D} {r : Env'} (h : P (x0 :: x1 :: x2 :: x3 :: x4 :: x5 :: x6 :: x7 :: x8 :: x9 :: x10 :: x11 :: x12 :: x13 :: x14 :: none :: r)) : Uns (x0 :: x1 :: x2 :: x3 :: x4 :: x5 :: x6 :: x7 :: x8 :: x9 :: x10 :: x11 :: x12 :: x13 :: x14 :: x15 :: r) 15 P := h
theorem ua16 {P : Env' → Prop} {x0 x1 x2 x3 x4 x5 x6 x7 x8 x9 x10 x11 x12 x13 x14 x15 x16 : Option D} {r : Env'} (h : P (x0 :: x1 :: x2 :: x3 :: x4 :: x5 :: x6 :: x7 :: x8 :: x9 :: x10 :: x11 :: x12 :: x13 :: x14 :: x15 :: none :: r)) : Uns (x0 :: x1 :: x2 :: x3 :: x4 :: x5 :: x6 :: x7 :: x8 :: x9 :: x10 :: x11 :: x12 :: x13 :: x14 :: x15 :: x16 :: r) 16 P := h
theorem ua17 {P : Env' → Prop} {x0 x1 x2 x3 x4 x5 x6 x7 x8 x9 x10 x11 x12 x13 x14 x15 x16 x17 : Option D} {r : Env'} (h : P (x0 :: x1 :: x2 :: x3 :: x4 :: x5 :: x6 :: x7 :: x8 :: x9 :: x10 :: x11 :: x12 :: x13 :: x14 :: x15 :: x16 :: none :: r)) : Uns (x0 :: x1 :: x2 :: x3 :: x4 :: x5 :: x6 :: x7 :: x8 :: x9 :: x10 :: x11 :: x12 :: x13 :: x14 :: x15 :: x16 :: x17 :: r) 17 P := h
theorem ua18 {P : Env' → Prop} {x0 x1 x2 x3 x4 x5 x6 x7 x8 x9 x10 x11 x12 x13 x14 x15 x16 x17 x18 : Option D} {r : Env'} (h : P (x0 :: x1 :: x2 :: x3 :: x4 :: x5 :: x6 :: x7 :: x8 :: x9 :: x10 :: x11 :: x12 :: x13 :: x14 :: x15 :: x16 :: x17 :: none :: r)) : Uns (x0 :: x1 :: x2 :: x3 :: x4 :: x5 :: x6 :: x7 :: x8 :: x9 :: x10 :: x11 :: x12 :: x13 :: x14 :: x15 :: x16 :: x17 :: x18 :: r) 18 P := h
theorem ua19 {P : Env' → Prop} {x0 x1 x2 x3 x4 x5 x6 x7 x8 x9 x10 x11 x12 x13 x14 x15 x16 x17 x18 x19 : Option D} {r : Env'} (h : P (x0 :: x1 :: x2 :: x3 :: x4 :: x5 :: x6 :: x7 :: x8 :: x9 :: x10 :: x11 :: x12 :: x13 :: x14 :: x15 :: x16 :: x17 :: x18 :: none :: r)) : Uns (x0 :: x1 :: x2 :: x3 :: x4 :: x5 :: x6 :: x7 :: x8 :: x9 :: x10 :: x11 :: x12 :: x13 :: x14 :: x15 :: x16 :: x17 :: x18 :: x19 :: r) 19 P := h
theorem ua20 {P : Env' → Prop} {x0 x1 x2 x3 x4 x5 x6 x7 x8 x9 x10 x11 x12 x13 x14 x15 x16 x17 x18 x19 x20 : Option D} {r : Env'} (h : P (x0 :: x1 :: x2 :: x3 :: x4 :: x5 :: x6 :: x7 :: x8 :: x9 :: x10 :: x11 :: x12 :: x13 :: x14 :: x15 :: x16 :: x17 :: x18 :: x19 :: none :: r)) : Uns (x0 :: x1 :: x2 :: x3 :: x4 :: x5 :: x6 :: x7 :: x8 :: x9 :: x10 :: x11 :: x12 :: x13 :: x14 :: x15 :: x16 :: x17 :: x18 :: x19 :: x20 :: r) 20 P := h
theorem ua21 {P : Env' → Prop} {x0 x1 x2 x3 x4 x5 x6 x7 x8 x9 x10 x11 x12 x13 x14 x15 x16 x17 x18 x19 x20 x21 : Option D} {r : Env'} (h : P (x0 :: x1 :: x2 :: x3 :: x4 :: x5 :: x6 :: x7 :: x8 :: x9 :: x10 :: x11 :: x12 :: x13 :: x14 :: x15 :: x16 :: x17 :: x18 :: x19 :: x20 :: none :: r)) : Uns (x0 :: x1 :: x2 :: x3 :: x4 :: x5 :: x6 :: x7 :: x8 :: x9 :: x10 :: x11 :: x12 :: x13 :: x14 :: x15 :: x16 :: x17 :: x18 :: x19 :: x20 :: x21 :: r) 21 P := h
theorem ua22 {P : Env' → Prop} {x0 x1 x2 x3 x4 x5 x6 x7 x8 x9 x10 x11 x12 x13 x14 x15 x16 x17 x18 x19 x20 x21 x22 : Option D} {r : Env'} (h : P (x0 :: x1 :: x2 :: x3 :: x4 :: x5 :: x6 :: x7 :: x8 :: x9 :: x10 :: x11 :: x12 :: x13 :: x14 :: x15 :: x16 :: x17 :: x18 :: x19 :: x20 :: x21 :: none :: r)) : Uns (x0 :: x1 :: x2 :: x3 :: x4 :: x5 :: x6 :: x7 :: x8 :: x9 :: x10 :: x11 :: x12 :: x13 :: x14 :: x15 :: x16 :: x17 :: x18 :: x19 :: x20 :: x21 :: x22 :: r) 22 P := h
theorem ua23 {P : Env' → Prop} {x0 x1 x2 x3 x4 x5 x6 x7 x8 x9 x10 x11 x12 x13 x14 x15 x16 x17 x18 x19 x20 x21 x22 x23 : Option D} {r : Env'} (h : P (x0 :: x1 :: x2 :: x3 :: x4 :: x5 :: x6 :: x7 :: x8 :: x9 :: x10 :: x11 :: x12 :: x13 :: x14 :: x15 :: x16 :: x17 :: x18 :: x19 :: x20 :: x21 :: x22 :: none :: r)) : Uns (x0 :: x1 :: x2 :: x3 :: x4 :: x5 :: x6 :: x7 :: x8 :: x9 :: x10 :: x11 :: x12 :: x13 :: x14 :: x15 :: x16 :: x17 :: x18 :: x19 :: x20 :: x21 :: x22 :: x23 :: r) 23 P := h
theorem endA {Ψ : DEnds} {i : Nat} {δ : Env'} {M : Mem} (h : Uns δ i fun δ' => Ψ.nx δ' M) : (endsD (some i) Ψ).nx δ M := h
theorem idUns {δ : Env'} {i : Nat} {P : Env' → Prop} (h : Uns δ i P) : Uns δ i P := h
/-! x in xs, a list of ints -/
section
variable {M : Mem} {Φ : D → Mem → Prop} {y : D}
theorem inV_ints (z : Int) : ∀ zs : List Int, inV (.int z) (zs.map .int) = decide (z ∈ zs)
  | [] => by simp [inV]
  | w :: zs => by
    have ih := inV_ints z zs
    unfold inV at ih ⊢
    rw [List.map_cons, List.any_cons, ih]
    show ((w == z) || _) = _
    by_cases h : w = z
    · subst h; simp
    · simp [h, Ne.symm h, beq_eq_false_iff_ne.mpr h]
theorem flat_ints : ∀ zs : List Int, (zs.map V.int).all flatV = true
  | [] => rfl
  | _ :: zs => flat_ints zs
theorem od_inN {K : PySem.W.Frag} {z : Int} {zs : List Int} (h : IsL M y (zs.map .int)) (k : Φ (.bl (decide (z ∈ zs))) M) : OpD (rInU K) (.int z) y M Φ := .inr (OpD.inl (fun κ δ σ H v w Q R rv rw' f => by
  cases rv
  obtain ⟨p, us, rfl, e1, rr⟩ := h.sq R rw'
  have := rr.ints
  subst this
  refine ⟨p, _, rfl, .inl (SqL.of e1), rfl, flat_ints zs, ?_⟩
  show Q (.bl (inV _ _)) H
  rw [inV_ints]
  exact f _ _ M H k R (.bl _)))
theorem od_notinN {K : PySem.W.Frag} {z : Int} {zs : List Int} (h : IsL M y (zs.map .int)) (k : Φ (.bl (!decide (z ∈ zs))) M) : OpD (rNotInU K) (.int z) y M Φ := .inr (OpD.inl (fun κ δ σ H v w Q R rv rw' f => by
  cases rv
  obtain ⟨p, us, rfl, e1, rr⟩ := h.sq R rw'
  have := rr.ints
  subst this
  refine ⟨p, _, rfl, .inl (SqL.of e1), rfl, flat_ints zs, ?_⟩
  show Q (.bl (!inV _ _)) H
  rw [inV_ints]
  exact f _ _ M H k R (.bl _)))
end
end Hl
namespace Hl
open PySem L2
section
variable {K : PySem.W.Frag} {C : Addr} {cls : Value} {b : Bool}
theorem kcls_ref (hd : PySem.W.hasDictIn K C = true) (ht : PySem.W.typeIn K (.ref C) = some (.type "type")) (h : PySem.W.subIn K cls (.ref C) = some b) : PySem.W.kitCls K cls (.ref C) = some b := by
  obtain ⟨cd, hc, _⟩ := PySem.W.any_some hd
  have e2 : ((PySem.W.clsIn K C).isSome && PySem.W.typeIn K (.ref C) == some (.type "type")) = true := by rw [hc, ht] <;> rfl
  show (if ((PySem.W.clsIn K C).isSome && PySem.W.typeIn K (.ref C) == some (.type "type")) = true then PySem.W.subIn K cls (.ref C) else none) = some b
  rw [if_pos e2]
  exact h
theorem exm_mk (h1 : PySem.W.subIn K (.ref C) (.type "BaseException") = some true) (hd : PySem.W.hasDictIn K C = true) (ht : PySem.W.typeIn K (.ref C) = some (.type "type")) (h : PySem.W.subIn K cls (.ref C) = some b) : PySem.W.exmOne K cls (.ref C) = some b := by
  have e1 : (PySem.W.subIn K (.ref C) (.type "BaseException") == some true) = true := by rw [h1] <;> rfl
  unfold PySem.W.exmOne
  rw [if_pos e1]
  exact kcls_ref hd ht h
theorem kit_ref (hd : PySem.W.hasDictIn K C = true) (ht : PySem.W.typeIn K (.ref C) = some (.type "type")) (h : PySem.W.subIn K cls (.ref C) = some b) (hs : PySem.W.subIn K (.ref C) (.ref C) = some true) : PySem.W.kitOne K cls (.ref C) = some b := by
  unfold PySem.W.kitOne
  split
  · next e =>
    have e := beq_iff_eq.mp e
    cases b with
    | true => rfl
    | false =>
      rw [e, hs] at h
      cases h
  · exact kcls_ref hd ht h
theorem kit_same : PySem.W.kitOne K (.ref C) (.ref C) = some true := by
  unfold PySem.W.kitOne
  rw [if_pos (beq_self_eq_true _)]
theorem kit_bt {T : String} (hm : PySem.W.kitMeta T = true) (h : PySem.W.subIn K (.ref C) (.type T) = some b) : PySem.W.kitOne K (.ref C) (.type T) = some b := by
  unfold PySem.W.kitOne
  rw [if_neg (by intro e; cases (beq_iff_eq.mp e))]
  show (if PySem.W.kitMeta T = true then PySem.W.subIn K (.ref C) (.type T) else none) = some b
  rw [if_pos hm]
  exact h
theorem cls_some (hd : PySem.W.hasDictIn K C = true) : (PySem.W.clsIn K C).isSome = true := by
  obtain ⟨cd, hc, _⟩ := PySem.W.any_some hd
  rw [hc]; rfl
end
end Hl
namespace Hl
open PySem L2
open PyProof.Rows hiding St
section
variable {B : Bx} {X : Cx} {e a b c o : Expr} {es rest : List Expr} {st : Stmt} {sts : List Stmt} {δ δ' : Env'} {M : Mem} {Φ : D → Mem → Prop} {Ψ : DEnds} {pos pos' apos cpos pp np : Pos} {d x y : D} {ΦB : Bool → Mem → Prop}
/-! ### dicts -/
theorem look_none {k : Key} : ∀ {ws : List (Key × V)} {kvs : List (Key × D)}, ws.map (·.1) = kvs.map (·.1) → lookD kvs k = none → valV ws k = none
  | [], [], _, _ => rfl
  | [], _ :: _, h, _ => by cases h
  | _ :: _, [], h, _ => by cases h
  | (k1, v) :: ws, (k2, d') :: kvs, h, e => by
    have h1 : k1 = k2 := (List.cons.inj h).1
    have h2 : ws.map (·.1) = kvs.map (·.1) := (List.cons.inj h).2
    subst h1
    unfold lookD at e
    unfold valV
    by_cases hk : k1 = k
    · rw [List.find?_cons_of_pos (by simpa using hk)] at e
      cases e
    · rw [List.find?_cons_of_neg (by simpa using hk)] at e ⊢
      exact look_none h2 e
/-- a dict, by its cell -/
inductive IsDc (M : Mem) : D → List (Key × D) → Prop
  | cell {p : Addr} {kvs : List (Key × D)} (j : Nat) (h : M[j]? = some (p, .dct kvs)) : IsDc M (.raw (.ref p)) kvs
  | lock {p : Addr} {o : Obj} {ws : List (Key × V)} {kvs : List (Key × D)} (j : Nat) (h : M[j]? = some (p, .fdc o ws kvs)) : IsDc M (.raw (.ref p)) kvs
  | inm {p : Addr} {kvs : List (Key × D)} (h : InM M p (.dct kvs)) : IsDc M (.raw (.ref p)) kvs
  | inmL {p : Addr} {o : Obj} {ws : List (Key × V)} {kvs : List (Key × D)} (h : InM M p (.fdc o ws kvs)) : IsDc M (.raw (.ref p)) kvs
  | val (kvs : List (Key × D)) : IsDc M (.fd (kvs.map (·.1)) (kvs.map (·.2))) kvs
theorem IsDc.sq {κ : List (V × D)} {σ : St} {H : Hp} {v : V} {x : D} {kvs : List (Key × D)} (h : IsDc M x kvs) (R : Rs κ δ M σ H) (r : Rep M.F H v x) : ∃ p ws, v = .ref p ∧ Rd H p (.dK ws) ∧ ws.map (·.1) = kvs.map (·.1) ∧ Reps M.F H (ws.map (·.2)) (kvs.map (·.2)) := by
  cases h with
  | cell j h =>
    cases r
    obtain ⟨ws, e1, e2, r1⟩ := R.at h
    exact ⟨_, ws, rfl, .inl e1, e2, r1⟩
  | lock j h =>
    cases r
    obtain ⟨e1, e2, r1⟩ := R.at h
    exact ⟨_, _, rfl, .inr ⟨_, e1⟩, e2, r1⟩
  | inm h =>
    cases r
    obtain ⟨ws, e1, e2, r1⟩ := h.ok R
    exact ⟨_, ws, rfl, .inl e1, e2, r1⟩
  | inmL h =>
    cases r
    obtain ⟨e1, e2, r1⟩ := h.ok R
    exact ⟨_, _, rfl, .inr ⟨_, e1⟩, e2, r1⟩
  | val kvs =>
    cases r with
    | fd h e e1 e2 r1 => subst e2; exact ⟨_, _, rfl, .inr ⟨_, e⟩, e1, r1⟩
theorem val_rep {F : List Addr} {H : Hp} {k : Key} {ws : List (Key × V)} {kvs : List (Key × D)} (h : ws.map (·.1) = kvs.map (·.1)) (r : Reps F H (ws.map (·.2)) (kvs.map (·.2))) : (lookD kvs k = none ∧ valV ws k = none) ∨ ∃ v d, valV ws k = some v ∧ lookD kvs k = some d ∧ Rep F H v d := by
  cases e : lookD kvs k with
  | none => exact .inl ⟨rfl, look_none h e⟩
  | some d =>
    obtain ⟨v, e1, r1⟩ := look_rep h r e
    exact .inr ⟨v, d, e1, rfl, r1⟩
def GtD (x y w : D) (M : Mem) (Φ : D → Mem → Prop) : Prop := ∃ kvs k, IsDc M x kvs ∧ y = kD k ∧ Φ ((lookD kvs k).getD w) M
/-- d.get(k, x) -/
theorem de_dget2 {n : Nat} (z : Cz X n) (h : DE B X o δ M fun x M1 => (∃ kvs, IsDc M1 x kvs) ∧ DE B X a δ M1 fun y M2 => DE B X b δ M2 fun w M3 => GtD x y w M3 Φ)
    (hbase : attributeBase o "get" X.env (eval o X.env) = eval o X.env := by rfl)
    (hfew : ((backTo cpos (starEach [a, b] X.env)).all (fun x => !x.1) && (backToKw cpos (keywordEach [] X.env)).all (fun x => x.1.isSome)
      && decide (([a, b] : List Expr).length + ([] : List Keyword).length + (if ([] : List Keyword).isEmpty then 0 else 1) < 30)) = true := by rfl)
    (hline : (apos.endLine == cpos.line) = true := by rfl) (htr : backTo cpos (starEach [a, b] X.env) = [(false, eval a X.env), (false, eval b X.env)] := by rfl) : DE B X (.Call (.Attribute o "get" apos) [a, b] [] cpos) δ M Φ :=
  .of (pe_dget2 (un1 z) cE cE cE ⟨hbase, hfew, hline, htr⟩) fun κ σ H Q hb R kk => h κ σ H _ hb R fun v x M1 H1 ⟨⟨kvs0, d0⟩, q1⟩ R1 r1 => by
    obtain ⟨p, ws0, rfl, e0, _⟩ := d0.sq R1 r1
    refine ⟨p, rfl, .inl ⟨ws0, e0⟩, q1 ((.ref p, x) :: κ) σ H1 _ (fun q hq => List.mem_cons_of_mem _ (hb q hq)) (R1.push r1) fun vy y M2 H2 q2 R2 r2 => ?_⟩
    refine q2 ((vy, y) :: (.ref p, x) :: κ) σ H2 _ (fun q hq => List.mem_cons_of_mem _ (List.mem_cons_of_mem _ (hb q hq))) (R2.push r2) fun vw w M3 H3 ⟨kvs, k, hd, ey, q3⟩ R3 r3 => ?_
    obtain ⟨p', ws, ep, e1, e2, rr⟩ := hd.sq R3 R3.pop.top
    cases ep
    have hy := R3.top
    subst ey
    have := rep_k hy
    subst this
    refine ⟨_, .inl ⟨ws, k, e1, rfl, rfl⟩, ?_⟩
    rcases val_rep (k := k) e2 rr with ⟨n1, n2⟩ | ⟨v, d, s1, s2, rv⟩
    · rw [n1] at q3; rw [n2]; exact kk _ _ _ _ q3 R3.pop.pop r3
    · rw [s2] at q3; rw [s1]; exact kk _ _ _ _ q3 R3.pop.pop rv
theorem isd_c {p : Addr} {kvs : List (Key × D)} {P : Prop} (j : Nat) (hm : M[j]? = some (p, .dct kvs)) (k : P) : (∃ kvs, IsDc M (.raw (.ref p)) kvs) ∧ P := ⟨⟨kvs, .cell j hm⟩, k⟩
theorem dg_i {p : Addr} {kvs : List (Key × D)} {i : Int} (j : Nat) (hm : M[j]? = some (p, .dct kvs)) (k : Φ ((lookD kvs (.inl i)).getD d) M) : GtD (.raw (.ref p)) (.int i) d M Φ := ⟨kvs, .inl i, .cell j hm, rfl, k⟩
theorem dg_s {p : Addr} {kvs : List (Key × D)} {i : Str} (j : Nat) (hm : M[j]? = some (p, .dct kvs)) (k : Φ ((lookD kvs (.inr i)).getD d) M) : GtD (.raw (.ref p)) (.str i) d M Φ := ⟨kvs, .inr i, .cell j hm, rfl, k⟩
end
end Hl
namespace Hl
open PySem L2
section
variable {M : Mem} {Φ : D → Mem → Prop} {ΦM : Mem → Prop} {x d : D} {α : Type} {l : List α} {f : α → D} {i : Int} {p : Addr} {K : PySem.W.Frag}
theorem od_ixEC (j : Nat) (hm : M[j]? = some (p, .lst (l.map f))) (h : 0 ≤ i ∧ i < l.length) (k : ∀ y, l[i.toNat]? = some y → Φ (f y) M) : OpD (rIxU K) (.raw (.ref p)) (.int i) M Φ := by
  obtain ⟨y, h1, h2⟩ := at_map (f := f) h.1 h.2
  exact od_ixC hm h2 (k y h1)
theorem cd_lenLM (h : IsL M x (l.map f)) (k : Φ (.int (l.length : Nat)) M) : CallD (rLenU K) [x] M Φ := cd_lenL h (by rw [List.length_map]; exact k)
theorem sd_listE {y : α} (j : Nat) (hm : M[j]? = some (p, .lst (l.map f))) (h : 0 ≤ i ∧ i < l.length) (hd : d = f y) (k : ΦM (M.set j (p, .lst ((l.set i.toNat y).map f)))) : SetD (.raw (.ref p)) (.int i) d M ΦM := by
  refine sd_list (m := i.toNat) hm ?_ (by rw [hd, ← List.map_set]; exact k)
  rw [List.length_map]
  obtain ⟨n, rfl⟩ : ∃ n : Nat, i = (n : Int) := ⟨i.toNat, by omega⟩
  exact ixN_nat' (by omega)
theorem sd_dictI {kvs : List (Key × D)} (j : Nat) (hm : M[j]? = some (p, .dct kvs)) (hl : kvs.length < sizeLine) (k : ΦM (M.set j (p, .dct (putD kvs (.inl i) d)))) : SetD (.raw (.ref p)) (.int i) d M ΦM := sd_dict (k := .inl i) j hm rfl hl k
theorem sd_dictS {kvs : List (Key × D)} {z : Str} (j : Nat) (hm : M[j]? = some (p, .dct kvs)) (hl : kvs.length < sizeLine) (k : ΦM (M.set j (p, .dct (putD kvs (.inr z) d)))) : SetD (.raw (.ref p)) (.str z) d M ΦM := sd_dict (k := .inr z) j hm rfl hl k
end
end Hl
namespace Hl
open PySem L2
open PyProof.Rows hiding St
/-! ### a op b op c .. of ints -/
def relOf : CmpOp → R2
  | .Lt => rLtU
  | .LtE => rLeU
  | .Gt => rGtU
  | .GtE => rGeU
  | _ => fun _ _ _ _ => False
theorem op_rel {X : Cx} : ∀ op : CmpOp, OpR X (compareOp op) (relOf op)
  | .Lt => op_lt
  | .LtE => op_le
  | .Gt => op_gt
  | .GtE => op_ge
  | .Eq => fun _ _ _ _ _ _ _ _ _ _ _ _ h => h.elim
  | .NotEq => fun _ _ _ _ _ _ _ _ _ _ _ _ h => h.elim
  | .Is => fun _ _ _ _ _ _ _ _ _ _ _ _ h => h.elim
  | .IsNot => fun _ _ _ _ _ _ _ _ _ _ _ _ h => h.elim
  | .In => fun _ _ _ _ _ _ _ _ _ _ _ _ h => h.elim
  | .NotIn => fun _ _ _ _ _ _ _ _ _ _ _ _ h => h.elim
def DLk (B : Bx) (X : Cx) : List CmpOp → List Expr → D → Env' → Mem → (Bool → Mem → Prop) → Prop
  | [op], [b], x, δ, M, Φ => DE B X b δ M fun y M1 => OpD (relOf op) x y M1 (toB Φ)
  | op :: op' :: ops, b :: b' :: bs, x, δ, M, Φ => DE B X b δ M fun y M1 => OpD (relOf op) x y M1 (toB fun t M2 => Br t (DLk B X (op' :: ops) (b' :: bs) y δ M2 Φ) (Φ false M2))
  | _, _, _, _, _, _ => False
section
variable {B : Bx} {X : Cx} {a b b' : Expr} {bs : List Expr} {op op' : CmpOp} {ops : List CmpOp} {δ : Env'} {M : Mem} {Φ : D → Mem → Prop} {ΦB : Bool → Mem → Prop} {pos : Pos} {x : D}
theorem lk_test : ∀ {ops : List CmpOp} {bs : List Expr} {x : D} {v : V} {u : Value} {M : Mem} {κ : List (V × D)} {σ : St} {H : Hp} {s : Shared} {pins : List (Addr × Obj)} {Q : Bool → Hp → Prop}, DLk B X ops bs x δ M ΦB → Inv X pins σ H s → RelV v u → (∀ q ∈ B.ps, q ∈ κ) → Rs κ δ M σ H → Rep M.F H v x → (∀ t M' H', ΦB t M' → Rs κ δ M' σ H' → Q t H') →
    wpAny (model X.prog X.w) X.A (testChain pos u ops (evalEach bs X.env)) (TP X pins σ Q) X.xe s
  | [op], [b], x, v, u, M, κ, σ, H, s, pins, Q, h, I, rv, hb, R, r, k => by
    refine test_last (thn ((cE (X := X) (e := b)).run pins s σ H (fun w H1 => ∃ y M1, OpD (relOf op) x y M1 (toB ΦB) ∧ Rs ((v, x) :: κ) δ M1 σ H1 ∧ Rep M1.F H1 w y) I (h ((v, x) :: κ) σ H _ (fun q hq => List.mem_cons_of_mem _ (hb q hq)) (R.push r) fun w y M1 H1 q R1 r1 => ⟨y, M1, q, R1, r1⟩)) fun u' s1 ⟨w, H1, I1, rw', y, M1, q, R1, r1⟩ => ?_)
    refine thn (op_rel op pins s1 σ H1 v w u u' (fun z H2 => ∃ t, z = .bl t ∧ Q t H2) I1 rv rw' (q κ δ σ H1 v w _ R1.pop R1.top r1 fun z d M2 H2 ⟨t, ed, q2⟩ R2 r2 => by subst ed; cases r2; exact ⟨t, rfl, k t M2 H2 q2 R2⟩)) fun c s2 ⟨z, H2, I2, r2, t, e, q2⟩ => ?_
    subst e
    cases r2
    exact wpAny_truthy_bool ⟨H2, I2, q2⟩
  | op :: op' :: ops, b :: b' :: bs, x, v, u, M, κ, σ, H, s, pins, Q, h, I, rv, hb, R, r, k => by
    refine test_link (thn ((cE (X := X) (e := b)).run pins s σ H (fun w H1 => ∃ y M1, OpD (relOf op) x y M1 (toB fun t M2 => Br t (DLk B X (op' :: ops) (b' :: bs) y δ M2 ΦB) (ΦB false M2)) ∧ Rs ((v, x) :: κ) δ M1 σ H1 ∧ Rep M1.F H1 w y) I (h ((v, x) :: κ) σ H _ (fun q hq => List.mem_cons_of_mem _ (hb q hq)) (R.push r) fun w y M1 H1 q R1 r1 => ⟨y, M1, q, R1, r1⟩)) fun u' s1 ⟨w, H1, I1, rw', y, M1, q, R1, r1⟩ => ?_)
    refine thn (op_rel op pins s1 σ H1 v w u u' (fun z H2 => ∃ t M2, z = .bl t ∧ Br t (DLk B X (op' :: ops) (b' :: bs) y δ M2 ΦB) (ΦB false M2) ∧ Rs ((w, y) :: κ) δ M2 σ H2) I1 rv rw' (q ((w, y) :: κ) δ σ H1 v w _ (R1.pop.push r1) R1.top r1 fun z d M2 H2 ⟨t, ed, q2⟩ R2 r2 => by subst ed; cases r2; exact ⟨t, M2, rfl, q2, R2⟩)) fun c s2 ⟨z, H2, I2, r2, t, M2, e, q2, R2⟩ => ?_
    subst e
    cases r2
    refine wpAny_truthy_bool ?_
    cases t with
    | false => exact ite_ff ⟨H2, I2, k _ _ _ (q2.2 rfl) R2.pop⟩
    | true => exact ite_tt (lk_test (q2.1 rfl) I2 rw' hb R2.pop R2.top k)
  | [], _, _, _, _, _, _, _, _, _, _, _, h, _, _, _, _, _, _ => h.elim
  | [_], [], _, _, _, _, _, _, _, _, _, _, h, _, _, _, _, _, _ => h.elim
  | [_], _ :: _ :: _, _, _, _, _, _, _, _, _, _, _, h, _, _, _, _, _, _ => h.elim
  | _ :: _ :: _, [], _, _, _, _, _, _, _, _, _, _, h, _, _, _, _, _, _ => h.elim
  | _ :: _ :: _, [_], _, _, _, _, _, _, _, _, _, _, h, _, _, _, _, _, _ => h.elim
theorem lk_val : ∀ {ops : List CmpOp} {bs : List Expr} {x : D} {v : V} {u : Value} {M : Mem} {κ : List (V × D)} {σ : St} {H : Hp} {s : Shared} {pins : List (Addr × Obj)} {Q : VK}, DLk B X ops bs x δ M ΦB → Inv X pins σ H s → RelV v u → (∀ q ∈ B.ps, q ∈ κ) → Rs κ δ M σ H → Rep M.F H v x → (∀ t M' H', ΦB t M' → Rs κ δ M' σ H' → Q (.bl t) H') →
    wpAny (model X.prog X.w) X.A (compareChain pos u ops (evalEach bs X.env)) (EP X pins σ Q) X.xe s
  | [op], [b], x, v, u, M, κ, σ, H, s, pins, Q, h, I, rv, hb, R, r, k => by
    refine chain_last (thn ((cE (X := X) (e := b)).run pins s σ H (fun w H1 => ∃ y M1, OpD (relOf op) x y M1 (toB ΦB) ∧ Rs ((v, x) :: κ) δ M1 σ H1 ∧ Rep M1.F H1 w y) I (h ((v, x) :: κ) σ H _ (fun q hq => List.mem_cons_of_mem _ (hb q hq)) (R.push r) fun w y M1 H1 q R1 r1 => ⟨y, M1, q, R1, r1⟩)) fun u' s1 ⟨w, H1, I1, rw', y, M1, q, R1, r1⟩ => ?_)
    exact op_rel op pins s1 σ H1 v w u u' Q I1 rv rw' (q κ δ σ H1 v w _ R1.pop R1.top r1 fun z d M2 H2 ⟨t, ed, q2⟩ R2 r2 => by subst ed; cases r2; exact k t M2 H2 q2 R2)
  | op :: op' :: ops, b :: b' :: bs, x, v, u, M, κ, σ, H, s, pins, Q, h, I, rv, hb, R, r, k => by
    refine chain_link (thn ((cE (X := X) (e := b)).run pins s σ H (fun w H1 => ∃ y M1, OpD (relOf op) x y M1 (toB fun t M2 => Br t (DLk B X (op' :: ops) (b' :: bs) y δ M2 ΦB) (ΦB false M2)) ∧ Rs ((v, x) :: κ) δ M1 σ H1 ∧ Rep M1.F H1 w y) I (h ((v, x) :: κ) σ H _ (fun q hq => List.mem_cons_of_mem _ (hb q hq)) (R.push r) fun w y M1 H1 q R1 r1 => ⟨y, M1, q, R1, r1⟩)) fun u' s1 ⟨w, H1, I1, rw', y, M1, q, R1, r1⟩ => ?_)
    refine thn (op_rel op pins s1 σ H1 v w u u' (fun z H2 => ∃ t M2, z = .bl t ∧ Br t (DLk B X (op' :: ops) (b' :: bs) y δ M2 ΦB) (ΦB false M2) ∧ Rs ((w, y) :: κ) δ M2 σ H2) I1 rv rw' (q ((w, y) :: κ) δ σ H1 v w _ (R1.pop.push r1) R1.top r1 fun z d M2 H2 ⟨t, ed, q2⟩ R2 r2 => by subst ed; cases r2; exact ⟨t, M2, rfl, q2, R2⟩)) fun c s2 ⟨z, H2, I2, r2, t, M2, e, q2, R2⟩ => ?_
    subst e
    cases r2
    refine wpAny_truthy_bool ?_
    cases t with
    | false => exact ite_ff ⟨.bl false, H2, I2, rfl, k _ _ _ (q2.2 rfl) R2.pop⟩
    | true => exact ite_tt (lk_val (q2.1 rfl) I2 rw' hb R2.pop R2.top k)
  | [], _, _, _, _, _, _, _, _, _, _, _, h, _, _, _, _, _, _ => h.elim
  | [_], [], _, _, _, _, _, _, _, _, _, _, h, _, _, _, _, _, _ => h.elim
  | [_], _ :: _ :: _, _, _, _, _, _, _, _, _, _, _, h, _, _, _, _, _, _ => h.elim
  | _ :: _ :: _, [], _, _, _, _, _, _, _, _, _, _, h, _, _, _, _, _, _ => h.elim
  | _ :: _ :: _, [_], _, _, _, _, _, _, _, _, _, _, h, _, _, _, _, _, _ => h.elim
theorem dt_chn (h : DE B X a δ M fun x M1 => DLk B X (op :: op' :: ops) (b :: b' :: bs) x δ M1 ΦB) (hm : lastMarks (op :: op' :: ops) (b :: b' :: bs) = false := by with_unfolding_all rfl) : DT B X (.Compare a (op :: op' :: ops) (b :: b' :: bs) pos) δ M ΦB := by
  intro κ σ H Q hb R k
  unfold tT
  intro pins s I
  refine isTrue_chain (thn ((cE (X := X) (e := a)).run pins s σ H (fun v H1 => ∃ x M1, DLk B X (op :: op' :: ops) (b :: b' :: bs) x δ M1 ΦB ∧ Rs κ δ M1 σ H1 ∧ Rep M1.F H1 v x) I (h κ σ H _ hb R fun v x M1 H1 q R1 r1 => ⟨x, M1, q, R1, r1⟩)) fun u s1 ⟨v, H1, I1, rv, x, M1, q, R1, r1⟩ => ?_) hm
  exact lk_test q I1 rv hb R1 r1 fun t M' H' q' R' => k t M' H' q' R'
theorem de_chn (h : DE B X a δ M fun x M1 => DLk B X (op :: op' :: ops) (b :: b' :: bs) x δ M1 fun t M2 => Φ (.bl t) M2) (hm : lastMarks (op :: op' :: ops) (b :: b' :: bs) = false := by with_unfolding_all rfl) : DE B X (.Compare a (op :: op' :: ops) (b :: b' :: bs) pos) δ M Φ := by
  intro κ σ H Q hb R k
  unfold tE
  intro pins s I
  refine Compare_chain (thn ((cE (X := X) (e := a)).run pins s σ H (fun v H1 => ∃ x M1, (DLk B X (op :: op' :: ops) (b :: b' :: bs) x δ M1 fun t M2 => Φ (.bl t) M2) ∧ Rs κ δ M1 σ H1 ∧ Rep M1.F H1 v x) I (h κ σ H _ hb R fun v x M1 H1 q R1 r1 => ⟨x, M1, q, R1, r1⟩)) fun u s1 ⟨v, H1, I1, rv, x, M1, q, R1, r1⟩ => ?_) hm
  exact lk_val q I1 rv hb R1 r1 fun t M' H' q' R' => k _ _ M' H' q' R' (.bl _)
theorem lk1le {i : Int} (h : DE B X b δ M fun y M1 => OpD rLeU (.int i) y M1 (toB ΦB)) : DLk B X [.LtE] [b] (.int i) δ M ΦB := h
theorem lk1lt {i : Int} (h : DE B X b δ M fun y M1 => OpD rLtU (.int i) y M1 (toB ΦB)) : DLk B X [.Lt] [b] (.int i) δ M ΦB := h
theorem lk1gt {i : Int} (h : DE B X b δ M fun y M1 => OpD rGtU (.int i) y M1 (toB ΦB)) : DLk B X [.Gt] [b] (.int i) δ M ΦB := h
theorem lk1ge {i : Int} (h : DE B X b δ M fun y M1 => OpD rGeU (.int i) y M1 (toB ΦB)) : DLk B X [.GtE] [b] (.int i) δ M ΦB := h
theorem lkle (h : DE B X b δ M fun y M1 => OpD rLeU x y M1 (toB fun t M2 => Br t (DLk B X (op' :: ops) (b' :: bs) y δ M2 ΦB) (ΦB false M2))) : DLk B X (.LtE :: op' :: ops) (b :: b' :: bs) x δ M ΦB := h
theorem lklt (h : DE B X b δ M fun y M1 => OpD rLtU x y M1 (toB fun t M2 => Br t (DLk B X (op' :: ops) (b' :: bs) y δ M2 ΦB) (ΦB false M2))) : DLk B X (.Lt :: op' :: ops) (b :: b' :: bs) x δ M ΦB := h
theorem lkgt (h : DE B X b δ M fun y M1 => OpD rGtU x y M1 (toB fun t M2 => Br t (DLk B X (op' :: ops) (b' :: bs) y δ M2 ΦB) (ΦB false M2))) : DLk B X (.Gt :: op' :: ops) (b :: b' :: bs) x δ M ΦB := h
theorem lkge (h : DE B X b δ M fun y M1 => OpD rGeU x y M1 (toB fun t M2 => Br t (DLk B X (op' :: ops) (b' :: bs) y δ M2 ΦB) (ΦB false M2))) : DLk B X (.GtE :: op' :: ops) (b :: b' :: bs) x δ M ΦB := h
theorem idLk (h : DLk B X ops bs x δ M ΦB) : DLk B X ops bs x δ M ΦB := h
end
end Hl
namespace Hl
open PySem L2
open PyProof.Rows hiding St
section
variable {B : Bx} {X : Cx} {e a b c o : Expr} {es rest : List Expr} {kw : Keyword} {kws : List Keyword} {st : Stmt} {sts body suite : List Stmt} {δ δ' : Env'} {M : Mem} {Φ : D → Mem → Prop} {Ψ : DEnds} {pos pos' apos pp np : Pos} {d x y : D} {ΦL : List D → Mem → Prop}
theorem fld_o {K : PySem.W.Frag} {f : Str} {C : Addr} {ns : List Str} {fs : List D} (io : IsO M x C ns fs) (ff : FldP K C f) (l : (ns.zip fs).lookup f = some d) (k : Φ d M) : FldD K f x M Φ := .inl ⟨C, ns, fs, d, io, ff, l, k⟩
theorem mt_o {m k n : Nat} {mn : Str} {C : Addr} {ns ks : List Str} {fs : List D} {sel : Sel} {p : DSpE} {Ξ : XPost} (io : IsO M x C ns fs) (f : MethEX X k C mn n ks sel p) (hk : k ≤ m) (lt : Lets X B δ Ξ) (pl : PlA X pos es kws ks) (hn : ns.contains mn = false)
    (h : DAK B X es kws δ M fun ds zs M' => ds.length = n ∧ zs.length = ks.length ∧ p (selD sel (x :: ds ++ zs)) M' Φ Ξ) : MtE B X m pos es kws mn δ x M Φ := ⟨C, k, n, ks, sel, p, Ξ, f, hk, lt, pl, ⟨ns, fs, io, hn⟩, h⟩
/-- behind an expression the state may be looked at otherwise -/
theorem DE.vw (h : DE B X e δ M fun d M' => ∃ d2 M2, Vw d M' d2 M2 ∧ Φ d2 M2) : DE B X e δ M Φ := fun κ σ H Q hb R k => h κ σ H Q hb R fun v d M' H' ⟨d2, M2, hv, q⟩ R' r' => let ⟨R2, r2⟩ := hv κ δ σ H' v R' r'; k v d2 M2 H' q R2 r2
/-- what becomes of a new object: kept as a cell, or frozen -/
def Made (a : Addr) (Φ : D → Mem → Prop) : D → Mem → Prop := fun d M2 => d = .non ∧ ∃ d2 M3, Vw (.raw (.ref a)) M2 d2 M3 ∧ Φ d2 M3
theorem de_kU {k m n : Nat} {x : Str} {ks : List Str} {sel : Sel} {p : DSpE} {Ξ : XPost} {C : Addr} (j : Nat) (z : Cz X m) (f : MakeEX X k x C n ks sel p) (hk : k + 1 ≤ m) (hg : Gl X x) (lt : Lets X B δ Ξ)
    (h : DAK B X es kws δ M fun ds zs M' => ds.length = n ∧ zs.length = ks.length ∧ ∀ a, p (selD sel (.raw (.ref a) :: ds ++ zs)) (insM j (a, .obj C [] []) M') (Made a Φ) Ξ) (pl : PlA X pos es kws ks) (hdb : (x == ("__debug__" : Str)) = false := by decide) : DE B X (.Call (.Name x pp) es kws pos) δ M Φ :=
  .vw (de_kE j z f hk hg lt h pl hdb)
theorem Made.cell {a : Addr} (k : Φ (.raw (.ref a)) M) : Made a Φ .non M := ⟨rfl, _, _, .refl, k⟩
theorem Made.val {a C : Addr} {ns : List Str} {ds : List D} (j : Nat) (hm : M[j]? = some (a, .obj C ns ds)) (k : Φ (.obj C ns ds) (M.eraseIdx j)) : Made a Φ .non M := ⟨rfl, _, _, .frzO j hm, k⟩
end
end Hl
namespace Hl
open PySem L2
open PyProof.Rows hiding St
section
variable {B : Bx} {X : Cx} {e a b c o : Expr} {es rest : List Expr} {st : Stmt} {sts body suite : List Stmt} {δ δ' : Env'} {M : Mem} {Φ : D → Mem → Prop} {Ψ : DEnds} {pos pos' apos pp np px py pz pt pt2 : Pos} {d : D} {x y w : Str} {kt k2 : Nat}
theorem sws2 (hx : X.env.kindOf x = some .local) (hy : X.env.kindOf y = some .local) (hk : X.env.blockKind = .function) (hne : (x == y) = false) (hl : (py.line == px.line) = true) (h1 : ([a, b].any fun | .Starred .. => true | _ => false) = false) (h2 : [a, b].all (foldedForSure 8) = false) (h3 : [a, b].all (constantsAlone 8) = false) :
    swappedStores [.Tuple [.Name x px, .Name y py] kt pt] (.Tuple [a, b] k2 pt2) X.env = pure (some [x, y]) := by
  have hyx : (y == x) = false := by
    rw [Bool.eq_false_iff] at hne ⊢
    intro h; exact hne (by rw [beq_iff_eq] at h ⊢; exact h.symm)
  unfold swappedStores
  simp only [bind_pure_comp, pure_bind]
  rw [if_neg (by simp [hk])]
  rw [if_neg (by intro h; exact absurd (h1.symm.trans h) (by decide))]
  have hn : ([Expr.Name x px, Expr.Name y py].filterMap fun
    | .Name id pos => if X.env.kindOf id == some .local && pos.line == (([Expr.Name x px, Expr.Name y py].head?.map (·.pos.line)).getD 0) then some id else none
    | _ => none) = [x, y] := by
    have e2 : (([Expr.Name x px, Expr.Name y py].head?.map (·.pos.line)).getD 0) = px.line := rfl
    rw [e2]
    simp [hx, hy, beq_iff_eq.mp hl]
  generalize hg : List.filterMap _ _ = L
  have hL : L = [x, y] := hg.symm.trans hn
  subst hL
  rw [if_neg (by simp [List.eraseDups_cons, hyx]), if_neg (by rw [h2]; decide), if_neg (by rw [h3]; decide)]
theorem sws3 (hx : X.env.kindOf x = some .local) (hy : X.env.kindOf y = some .local) (hw : X.env.kindOf w = some .local) (hk : X.env.blockKind = .function) (h12 : (y == x) = false) (h13 : (w == x) = false) (h23 : (w == y) = false) (hl : (py.line == px.line) = true) (hl2 : (pz.line == px.line) = true) (h1 : ([a, b, c].any fun | .Starred .. => true | _ => false) = false) (h2 : [a, b, c].all (foldedForSure 8) = false) (h3 : [a, b, c].all (constantsAlone 8) = false) :
    swappedStores [.Tuple [.Name x px, .Name y py, .Name w pz] kt pt] (.Tuple [a, b, c] k2 pt2) X.env = pure (some [x, y, w]) := by
  unfold swappedStores
  simp only [bind_pure_comp, pure_bind]
  rw [if_neg (by simp [hk])]
  rw [if_neg (by intro h; exact absurd (h1.symm.trans h) (by decide))]
  have hn : ([Expr.Name x px, Expr.Name y py, Expr.Name w pz].filterMap fun
    | .Name id pos => if X.env.kindOf id == some .local && pos.line == (([Expr.Name x px, Expr.Name y py, Expr.Name w pz].head?.map (·.pos.line)).getD 0) then some id else none
    | _ => none) = [x, y, w] := by
    have e2 : (([Expr.Name x px, Expr.Name y py, Expr.Name w pz].head?.map (·.pos.line)).getD 0) = px.line := rfl
    rw [e2]
    simp [hx, hy, hw, beq_iff_eq.mp hl, beq_iff_eq.mp hl2]
  generalize hg : List.filterMap _ _ = L
  have hL : L = [x, y, w] := hg.symm.trans hn
  subst hL
  rw [if_neg (by simp [List.eraseDups_cons, h12, h13, h23]), if_neg (by rw [h2]; decide), if_neg (by rw [h3]; decide)]
/-- a tuple of constants: no names are swapped -/
theorem swsC {ts vs : List Expr} (h2 : vs.all (foldedForSure 8) = true) (h1 : (vs.any fun | .Starred .. => true | _ => false) = false) : swappedStores [.Tuple ts kt pt] (.Tuple vs k2 pt2) X.env = pure none := by
  unfold swappedStores
  simp only [bind_pure_comp, pure_bind]
  split
  · rfl
  · split
    · rfl
    · split
      · rfl
      · rfl
theorem blk_of {sc : Scope} (hs : X.env.scope = sc) (h : sc.kind = .function) : X.env.blockKind = .function := by
  unfold Env.blockKind
  rw [hs, h]; rfl
theorem ds_par2 {n i j : Nat} (z : Cz X n) (li : Lo X i x) (lj : Lo X j y) (hij : i ≠ j) (hx : X.env.kindOf x = some .local) (hy : X.env.kindOf y = some .local) (hk : X.env.blockKind = .function) (hne : (x == y) = false)
    (h : DA B X [a, b] δ M fun ds M1 => ∃ d1 d2, ds = [d1, d2] ∧ Sets δ i d1 fun δ1 => Sets δ1 j d2 fun δ2 => Ψ.nx δ2 M1)
    (hl : (py.line == px.line) = true := by rfl) (h1 : ([a, b].any fun | .Starred .. => true | _ => false) = false := by rfl) (h2 : [a, b].all (foldedForSure 8) = false := by rfl) (h3 : [a, b].all (constantsAlone 8) = false := by rfl)
    (hs : swapsWithSole [.Tuple [.Name x px, .Name y py] kt pt] (.Tuple [a, b] k2 pt2) pos.line X.env = pure false := by rfl) : DS B X (.Assign [.Tuple [.Name x px, .Name y py] kt pt] (.Tuple [a, b] k2 pt2) pos) δ M Ψ :=
  .of (ps_par z.calm z.nd li.at_ lj.at_ hij hx hy cA (sws2 hx hy hk hne hl h1 h2 h3) hs) fun κ σ H E hb R k => h κ σ H _ hb R fun vs ds M1 H1 ⟨d1, d2, e, q⟩ R1 r1 => by
    subst e
    cases r1 with
    | cons r1 r2 =>
      cases r2 with
      | cons r2 r3 =>
        cases r3
        exact ⟨_, _, rfl, k.nx _ _ _ _ q.get.get ((R1.put i r1).put j r2)⟩
theorem ds_par3 {n i j l : Nat} (z : Cz X n) (li : Lo X i x) (lj : Lo X j y) (ll : Lo X l w) (hij : i ≠ j) (hil : i ≠ l) (hjl : j ≠ l) (hx : X.env.kindOf x = some .local) (hy : X.env.kindOf y = some .local) (hw : X.env.kindOf w = some .local) (hk : X.env.blockKind = .function) (h12 : (y == x) = false) (h13 : (w == x) = false) (h23 : (w == y) = false)
    (h : DA B X [a, b, c] δ M fun ds M1 => ∃ d1 d2 d3, ds = [d1, d2, d3] ∧ Sets δ i d1 fun δ1 => Sets δ1 j d2 fun δ2 => Sets δ2 l d3 fun δ3 => Ψ.nx δ3 M1)
    (hl : (py.line == px.line) = true := by rfl) (hl2 : (pz.line == px.line) = true := by rfl) (h1 : ([a, b, c].any fun | .Starred .. => true | _ => false) = false := by rfl) (h2 : [a, b, c].all (foldedForSure 8) = false := by rfl) (h3 : [a, b, c].all (constantsAlone 8) = false := by rfl)
    (hs : swapsWithSole [.Tuple [.Name x px, .Name y py, .Name w pz] kt pt] (.Tuple [a, b, c] k2 pt2) pos.line X.env = pure false := by rfl) : DS B X (.Assign [.Tuple [.Name x px, .Name y py, .Name w pz] kt pt] (.Tuple [a, b, c] k2 pt2) pos) δ M Ψ :=
  .of (ps_par3 z.calm z.nd li.at_ lj.at_ ll.at_ hij hil hjl hx hy hw cA (sws3 hx hy hw hk h12 h13 h23 hl hl2 h1 h2 h3) hs) fun κ σ H E hb R k => h κ σ H _ hb R fun vs ds M1 H1 ⟨d1, d2, d3, e, q⟩ R1 r1 => by
    subst e
    cases r1 with
    | cons r1 r2 =>
      cases r2 with
      | cons r2 r3 =>
        cases r3 with
        | cons r3 r4 =>
          cases r4
          exact ⟨_, _, _, rfl, k.nx _ _ _ _ q.get.get.get (((R1.put i r1).put j r2).put l r3)⟩
theorem ex_2 {d1 d2 : D} {P : D → D → Prop} (h : P d1 d2) : ∃ a b, [d1, d2] = [a, b] ∧ P a b := ⟨d1, d2, rfl, h⟩
theorem ex_3 {d1 d2 d3 : D} {P : D → D → D → Prop} (h : P d1 d2 d3) : ∃ a b c, [d1, d2, d3] = [a, b, c] ∧ P a b c := ⟨d1, d2, d3, rfl, h⟩
/-- a, b = constants -/
theorem ds_asgC {ts vs : List Expr} {kt k2 : Nat} (h : DE B X (.Tuple vs k2 pt2) δ M fun d M' => DG B X (.Tuple ts kt pt) d δ M' Ψ.nx) (h2 : vs.all (foldedForSure 8) = true := by rfl) (h1 : (vs.any fun | .Starred .. => true | _ => false) = false := by rfl) (hs : swapsWithSole [.Tuple ts kt pt] (.Tuple vs k2 pt2) pos.line X.env = pure false := by rfl) (h3 : (assignEach [.Tuple ts kt pt] X.env).map (·.2) = [assign (.Tuple ts kt pt) X.env] := by rfl) : DS B X (.Assign [.Tuple ts kt pt] (.Tuple vs k2 pt2) pos) δ M Ψ := ds_asg h hs (swsC h2 h1) h3
end
end Hl
namespace Hl
open PySem L2
open PyProof.Rows hiding St
section
variable {B : Bx} {X : Cx} {e a b c o : Expr} {es rest : List Expr} {kw : Keyword} {kws : List Keyword} {st : Stmt} {sts body suite : List Stmt} {δ δ' : Env'} {M : Mem} {Φ : D → Mem → Prop} {Ψ : DEnds} {pos pos' apos pp np : Pos} {d x y : D} {ΦL : List D → Mem → Prop}
/-- cells that are not wanted any more -/
theorem ws_drop {ts : TS} {M2 : Mem} (hm : M2.Sublist M) (h : WS B ts δ M2 Ψ) : WS B ts δ M Ψ := h.view fun κ σ H R => R.less hm
/-- the names of keywords -/
def kwN : List Keyword → List Str
  | [] => []
  | ⟨some n, _, _⟩ :: ks => n :: kwN ks
  | ⟨none, _, _⟩ :: ks => kwN ks
/-! calls, the fact chosen by the call's shape -/
theorem de_fS {k m : Nat} {x : Str} {sel : Sel} {p : DSpE} {Ξ : XPost} (z : Cz X m) (f : DefEX X k x es.length (kwN kws) sel p) (hk : k ≤ m) (hg : Gl X x) (lt : Lets X B δ Ξ)
    (h : DAK B X es kws δ M fun ds zs M' => ds.length = es.length ∧ zs.length = (kwN kws).length ∧ p (selD sel (ds ++ zs)) M' Φ Ξ) (pl : PlA X pos es kws (kwN kws)) (hdb : (x == ("__debug__" : Str)) = false := by decide) : DE B X (.Call (.Name x pp) es kws pos) δ M Φ := de_fE z f hk hg lt h pl hdb
theorem de_kS {k m : Nat} {x : Str} {sel : Sel} {p : DSpE} {Ξ : XPost} {C : Addr} (j : Nat) (z : Cz X m) (f : MakeEX X k x C es.length (kwN kws) sel p) (hk : k + 1 ≤ m) (hg : Gl X x) (lt : Lets X B δ Ξ)
    (h : DAK B X es kws δ M fun ds zs M' => ds.length = es.length ∧ zs.length = (kwN kws).length ∧ ∀ a, p (selD sel (.raw (.ref a) :: ds ++ zs)) (insM j (a, .obj C [] []) M') (Made a Φ) Ξ) (pl : PlA X pos es kws (kwN kws)) (hdb : (x == ("__debug__" : Str)) = false := by decide) : DE B X (.Call (.Name x pp) es kws pos) δ M Φ := de_kU j z f hk hg lt h pl hdb
theorem mt_vS {m k : Nat} {mn : Str} {C : Addr} {ns : List Str} {fs : List D} {sel : Sel} {p : DSpE} {Ξ : XPost} (f : MethEX X k C mn es.length (kwN kws) sel p) (hk : k ≤ m) (lt : Lets X B δ Ξ) (pl : PlA X pos es kws (kwN kws)) (hn : ns.contains mn = false)
    (h : DAK B X es kws δ M fun ds zs M' => ds.length = es.length ∧ zs.length = (kwN kws).length ∧ p (selD sel (.obj C ns fs :: ds ++ zs)) M' Φ Ξ) : MtE B X m pos es kws mn δ (.obj C ns fs) M Φ := mt_v f hk lt pl hn h
theorem mt_cS {m k : Nat} {mn : Str} {C q : Addr} {ns : List Str} {fs : List D} {sel : Sel} {p : DSpE} {Ξ : XPost} (j : Nat) (hm : M[j]? = some (q, .obj C ns fs)) (f : MethEX X k C mn es.length (kwN kws) sel p) (hk : k ≤ m) (lt : Lets X B δ Ξ) (pl : PlA X pos es kws (kwN kws)) (hn : ns.contains mn = false)
    (h : DAK B X es kws δ M fun ds zs M' => ds.length = es.length ∧ zs.length = (kwN kws).length ∧ p (selD sel (.raw (.ref q) :: ds ++ zs)) M' Φ Ξ) : MtE B X m pos es kws mn δ (.raw (.ref q)) M Φ := mt_c j hm f hk lt pl hn h
theorem mt_oS {m k : Nat} {mn : Str} {C : Addr} {ns : List Str} {fs : List D} {sel : Sel} {p : DSpE} {Ξ : XPost} (io : IsO M x C ns fs) (f : MethEX X k C mn es.length (kwN kws) sel p) (hk : k ≤ m) (lt : Lets X B δ Ξ) (pl : PlA X pos es kws (kwN kws)) (hn : ns.contains mn = false)
    (h : DAK B X es kws δ M fun ds zs M' => ds.length = es.length ∧ zs.length = (kwN kws).length ∧ p (selD sel (x :: ds ++ zs)) M' Φ Ξ) : MtE B X m pos es kws mn δ x M Φ := mt_o io f hk lt pl hn h
end
end Hl
namespace Hl
open PySem L2
open PyProof.Rows hiding St
section
variable {B : Bx} {X : Cx} {e a b c o : Expr} {es rest : List Expr} {kw : Keyword} {kws : List Keyword} {st : Stmt} {sts body suite : List Stmt} {δ δ' : Env'} {M : Mem} {Φ : D → Mem → Prop} {Ψ : DEnds} {pos pos' apos pp np : Pos} {d x y : D} {ΦL : List D → Mem → Prop}
theorem Reps.rev {F : List Addr} {H : Hp} {vs : List V} {ds : List D} (r : Reps F H vs ds) : Reps F H vs.reverse ds.reverse := by
  induction ds generalizing vs with
  | nil => cases r; exact .nil
  | cons d ds ih =>
    cases r with
    | cons r1 r2 =>
      rw [List.reverse_cons, List.reverse_cons]
      exact (ih r2).append (.cons r1 .nil)
theorem Reps.repl {F : List Addr} {H : Hp} {vs : List V} {ds : List D} (r : Reps F H vs ds) : ∀ n : Nat, Reps F H (List.replicate n vs).flatten (List.replicate n ds).flatten
  | 0 => .nil
  | n + 1 => by
    rw [List.replicate_succ, List.replicate_succ, List.flatten_cons, List.flatten_cons]
    exact r.append (Reps.repl r n)
/-- xs[::-1] -/
theorem de_rev {k : Nat} {p1 p2 p3 : Pos} (h : DE B X a δ M fun x M1 => ∃ ds, IsL M1 x ds ∧ Φ (.lst ds.reverse) M1) : DE B X (.Subscript a (.Slice none none (some (.UnaryOp .USub (.Constant (.int 1) k p1) p2)) p3) pos) δ M Φ :=
  .of (pe_revL cE) fun κ σ H Q hb R k => h κ σ H _ hb R fun v x M1 H1 ⟨ds, il, q⟩ R1 r1 => by
    obtain ⟨a, us, rfl, e1, rr⟩ := il.sq R1 r1
    refine ⟨a, us, rfl, SqL.of e1, fun p hp => ?_⟩
    obtain ⟨R', r'⟩ := R1.lstV rr.rev hp
    exact k _ _ _ _ q R' r'
/-- min of three -/
theorem de_min3 {n : Nat} (z : Cz X n) {p : Pos} (g : Gn X "min") (h : DA B X [a, b, c] δ M fun ds M1 => CallD (rNuC3 nuMin3) ds M1 Φ) (he : starEach [a, b, c] X.env = (false, eval a X.env) :: starEach [b, c] X.env := by rfl) (hpl : (backTo pos (starEach [b, c] X.env)).any (·.1) = false := by rfl) : DE B X (.Call (.Name "min" p) [a, b, c] [] pos) δ M Φ := de_blt (call_min3Nu z.calm) g boot_min h (by decide) (by decide) he hpl
theorem cd_min3 {i j l : Int} (k : Φ (.int (min (min i j) l)) M) : CallD (rNuC3 nuMin3) [.int i, .int j, .int l] M Φ := fun κ δ σ H vs Q R rs f => by
  cases rs with
  | cons r1 r2 =>
    cases r1
    cases r2 with
    | cons r2 r3 =>
      cases r2
      cases r3 with
      | cons r3 r4 =>
        cases r3
        cases r4
        refine ⟨_, _, _, .int (min (min i j) l), rfl, ?_, f _ _ _ _ k R (.int _)⟩
        have h2 : ∀ a b : Int, nuMin2 (.int a) (.int b) = some (.int (min a b)) := fun a b => by
          show some (if decide (b < a) = true then V.int b else V.int a) = _
          by_cases h : b < a
          · rw [if_pos (by simpa using h), Int.min_eq_right (by omega)]
          · rw [if_neg (by simpa using h), Int.min_eq_left (by omega)]
        unfold nuMin3
        rw [h2]
        exact h2 _ _
/-- [..] * n -/
theorem od_rep {ds : List D} {n : Int} (h : -(2 ^ 63) ≤ n ∧ n < 2 ^ 63 ∧ ds.length * n.toNat ≤ sizeLine) (k : Φ (.lst (List.replicate n.toNat ds).flatten) M) : OpD rRep (.lst ds) (.int n) M Φ := fun κ δ σ H v w Q R rv rw' f => by
  cases rw'
  cases rv with
  | lst h1 e1 r1 =>
    refine ⟨_, n, _, rfl, rfl, e1, h.1, h.2.1, by rw [r1.length]; exact h.2.2, fun p hp => ?_⟩
    obtain ⟨R', r'⟩ := R.lstV (r1.repl n.toNat) hp
    exact f _ _ M _ k R' r'
theorem de_repD {p : Pos} (h : DE B X (.List es p) δ M fun x M1 => DE B X b δ M1 fun y M2 => OpD rRep x y M2 Φ) : DE B X (.BinOp (.List es p) .Mult b pos) δ M Φ := de_bin op_rep h
end
end Hl
namespace Hl
open PySem L2
open PyProof.Rows hiding St
section
variable {B : Bx} {X : Cx} {e a b c o : Expr} {es rest : List Expr} {kw : Keyword} {kws : List Keyword} {st : Stmt} {sts body suite : List Stmt} {δ δ' : Env'} {M : Mem} {Φ : D → Mem → Prop} {ΦB : Bool → Mem → Prop} {Ψ : DEnds} {pos pos' apos pp np : Pos} {d x y : D} {ΦL : List D → Mem → Prop}
/-! ### is True, is not True, is False, is not False -/
def rIsBl : R2 := fun x y H Q => ∃ a b, x = .bl a ∧ y = .bl b ∧ Q (.bl (decide (a = b))) H
def rNotBl : R2 := fun x y H Q => ∃ a b, x = .bl a ∧ y = .bl b ∧ Q (.bl (!decide (a = b))) H
theorem od_isB {i j : Bool} (k : Φ (.bl (decide (i = j))) M) : OpD rIsBl (.bl i) (.bl j) M Φ := fun κ δ σ H v w Q R rv rw' h => by
  cases rv; cases rw'
  exact ⟨i, j, rfl, rfl, h _ _ M H k R (.bl _)⟩
theorem od_notB {i j : Bool} (k : Φ (.bl (!decide (i = j))) M) : OpD rNotBl (.bl i) (.bl j) M Φ := fun κ δ σ H v w Q R rv rw' h => by
  cases rv; cases rw'
  exact ⟨i, j, rfl, rfl, h _ _ M H k R (.bl _)⟩
theorem de_isB {t : Bool} {n : Nat} {p : Pos} (h : DE B X a δ M fun x M1 => OpD rIsBl x (.bl t) M1 Φ) : DE B X (.Compare a [.Is] [.Constant (.bool t) n p] pos) δ M Φ := de_cmp op_is_bl (nomark _) (h.mono fun _ _ q => de_bl q)
theorem de_isnotB {t : Bool} {n : Nat} {p : Pos} (h : DE B X a δ M fun x M1 => OpD rNotBl x (.bl t) M1 Φ) : DE B X (.Compare a [.IsNot] [.Constant (.bool t) n p] pos) δ M Φ := de_cmp op_isnot_bl (nomark _) (h.mono fun _ _ q => de_bl q)
theorem dt_isB {t : Bool} {n : Nat} {p : Pos} (h : DE B X a δ M fun x M1 => OpD rIsBl x (.bl t) M1 (toB ΦB)) : DT B X (.Compare a [.Is] [.Constant (.bool t) n p] pos) δ M ΦB := dt_cmp op_is_bl (nomark _) (h.mono fun _ _ q => de_bl q)
theorem dt_isnotB {t : Bool} {n : Nat} {p : Pos} (h : DE B X a δ M fun x M1 => OpD rNotBl x (.bl t) M1 (toB ΦB)) : DT B X (.Compare a [.IsNot] [.Constant (.bool t) n p] pos) δ M ΦB := dt_cmp op_isnot_bl (nomark _) (h.mono fun _ _ q => de_bl q)
end
end Hl
namespace Hl
open PySem L2
end Hl
namespace Hl
open PySem L2
open PyProof.Rows hiding St
section
variable {B : Bx} {X : Cx} {e a b c o : Expr} {es rest : List Expr} {kw : Keyword} {kws : List Keyword} {st : Stmt} {sts body suite : List Stmt} {δ δ' : Env'} {M : Mem} {Φ : D → Mem → Prop} {ΦB : Bool → Mem → Prop} {Ψ : DEnds} {pos pos' apos pp np : Pos} {d x y : D} {ΦL : List D → Mem → Prop}
/-! ### insert -/
def rIns : V → List V → Hp → VK → Prop := fun x vs H Q => ∃ (l : Addr) (xs : List V) (i : Int) (y : V), x = .ref l ∧ vs = [.int i, y] ∧ H l = some (.lst xs) ∧ xs.length < sizeLine ∧ 0 ≤ i ∧ i < 2 ^ 63 ∧
    Q .non (upd H l (.lst (xs.take i.toNat ++ [y] ++ xs.drop i.toNat)))
theorem de_insert {cpos : Pos} (h : DE B X o δ M fun x M1 => (∃ ds, IsL M1 x ds) ∧ DA B X [a, b] δ M1 fun ys M2 => MtD X.K "list" rIns x ys M2 Φ)
    (hbase : attributeBase o "insert" X.env (eval o X.env) = eval o X.env := by rfl)
    (hfew : ((backTo cpos (starEach [a, b] X.env)).all (fun x => !x.1) && (backToKw cpos (keywordEach [] X.env)).all (fun x => x.1.isSome)
      && decide (([a, b] : List Expr).length + ([] : List Keyword).length + (if ([] : List Keyword).isEmpty then 0 else 1) < 30)) = true := by rfl)
    (hline : (apos.endLine == cpos.line) = true := by rfl) (hs : starEach [a, b] X.env = (false, eval a X.env) :: starEach [b] X.env := by rfl) (hplain : (backTo cpos (starEach [b] X.env)).any (·.1) = false := by rfl) :
    DE B X (.Call (.Attribute o "insert" apos) [a, b] [] cpos) δ M Φ := de_bml PySem.F.slot_list_insert PySem.F.type_list_insert mt_insert h hbase hfew hline hs hplain
/-- cells in another order -/
theorem ws_perm {ts : TS} {M2 : Mem} (hm : M.Perm M2) (h : WS B ts δ M2 Ψ) : WS B ts δ M Ψ := h.view fun κ σ H R => R.perm hm
end
end Hl
namespace Hl
open PySem L2
open PyProof.Rows hiding St
section
variable {B : Bx} {X : Cx} {e a b c o : Expr} {es rest : List Expr} {δ δ' : Env'} {M : Mem} {Φ : D → Mem → Prop} {Ψ : DEnds} {d x y : D} {ΦL : List D → Mem → Prop}
/-- a comprehension over a range whose items are drawn -/
theorem LcH.drawT {β : Type} {scope : Scope} {elt : Expr} {own : List (Str × Nat)} {tk : Tk} {k : Nat} {s g : Addr} {b : Nat} {n : Nat} (P : β → Prop) (f : β → D) (c : Nat) (hn : n ≤ 1000) (hb : c * n ≤ b)
    (h : ∀ (p : Addr) acc (i : Nat) (b1 : Nat), i < n → c ≤ b1 → ∃ δ2, bindK tk (.int (0 + (i : Int))) (wipeD δ (own.map (·.2))) = some δ2 ∧ ∀ X', Bk X X' scope → DE B X' elt δ2 (insM k (p, .lst acc) ((s, .st g b1) :: M)) fun d M2 => ∃ y b2, P y ∧ b1 ≤ b2 + c ∧ d = f y ∧ M2 = insM k (p, .lst acc) ((s, .st g b2) :: M))
    (q : ∀ (ys : List β) b', ys.length = n → (∀ y ∈ ys, P y) → b ≤ b' + c * n → ΦL (ys.map f) ((s, .st g b') :: M)) : LcH k B X scope elt [] own tk δ (rangeD 0 n) ((s, .st g b) :: M) ΦL := by
  refine ⟨fun i acc M1 => ∃ (ys : List β) (b1 : Nat), acc = ys.map f ∧ M1 = (s, .st g b1) :: M ∧ ys.length = i ∧ (∀ y ∈ ys, P y) ∧ b ≤ b1 + c * i, ⟨[], b, rfl, rfl, rfl, (fun y hy => nomatch hy), by omega⟩, ?_, ?_⟩
  · rintro p i x acc M1 hx ⟨ys, b1, rfl, rfl, hl, hP, hbb⟩
    obtain ⟨hi, rfl⟩ := range_get hx
    have hci : c * i + c ≤ c * n := by have := Nat.mul_le_mul_left c (show i + 1 ≤ n by omega); rw [Nat.mul_add, Nat.mul_one] at this; exact this
    obtain ⟨δ2, e1, tu⟩ := h p (ys.map f) i b1 hi (by omega)
    refine ⟨by rw [List.length_map]; exact Nat.lt_of_lt_of_le (show ys.length < 1001 by omega) (by decide), δ2, e1, fun X' bk => (tu X' bk).mono ?_⟩
    rintro d M2 ⟨y, b2, hy, hb2, rfl, rfl⟩
    refine ⟨_, rfl, ys ++ [y], b2, by simp, rfl, by simp [hl], fun z hz => ?_, by rw [Nat.mul_add, Nat.mul_one]; omega⟩
    rcases List.mem_append.mp hz with hz | hz
    · exact hP z hz
    · rw [List.mem_singleton.mp hz]; exact hy
  · rintro acc M1 ⟨ys, b1, rfl, rfl, hl, hP, hbb⟩
    rw [range_len] at hl hbb
    exact q ys b1 hl hP hbb
end
end Hl
namespace Hl
open PySem L2
open PyProof.Rows hiding St
end Hl
namespace Hl
open PySem L2
end Hl
namespace Hl
open PySem L2
open PyProof.Rows hiding St
section
variable {B : Bx} {X : Cx} {e a b c o : Expr} {es rest : List Expr} {kw : Keyword} {kws : List Keyword} {st : Stmt} {sts body suite : List Stmt} {δ δ' : Env'} {M : Mem} {Φ : D → Mem → Prop} {ΦB : Bool → Mem → Prop} {Ψ : DEnds} {pos pos' apos pp np : Pos} {d x y : D} {ΦL : List D → Mem → Prop}
/-! ### lists put together, as a new one -/
/-! ### extend -/
theorem Reps.put {F : List Addr} {H : Hp} {d : D} : ∀ {vs : List V} {ds : List D} {i : Nat} {v : V}, Reps F H vs ds → vs[i]? = some v → Rep F H v d → Reps F H vs (ds.set i d)
  | _, _, _, _, .nil, _, _ => .nil
  | _, _, 0, _, .cons _ t, e, r => by simp at e; subst e; exact .cons r t
  | _, _, i + 1, _, .cons q t, e, r => .cons q (Reps.put (i := i) t (by simpa using e) r)
end
end Hl
namespace Hl
open PySem L2
open PyProof.Rows hiding St
end Hl
namespace Hl
open PySem L2
open PyProof.Rows hiding St
/-! ### a cell that is not changed any more: a plain list from here on, wherever it stands -/
mutual
inductive Up (q : Addr) (es : List D) : D → D → Prop
  | here : Up q es (.raw (.ref q)) (.lst es)
  | tup {ds ds' : List D} : Ups q es ds ds' → Up q es (.tup ds) (.tup ds')
  | same (d : D) : Up q es d d
inductive Ups (q : Addr) (es : List D) : List D → List D → Prop
  | nil : Ups q es [] []
  | cons {d d' : D} {ds ds' : List D} : Up q es d d' → Ups q es ds ds' → Ups q es (d :: ds) (d' :: ds')
end
inductive UpO (q : Addr) (es : List D) : List (Option D) → List (Option D) → Prop
  | nil : UpO q es [] []
  | some {d d' : D} {ds ds' : List (Option D)} : Up q es d d' → UpO q es ds ds' → UpO q es (some d :: ds) (some d' :: ds')
  | none {ds ds' : List (Option D)} : UpO q es ds ds' → UpO q es (none :: ds) (none :: ds')
  | any {o : Option D} {ds ds' : List (Option D)} : UpO q es ds ds' → UpO q es (o :: ds) (o :: ds')
section
variable {F F' : List Addr} {H : Hp} {q : Addr} {es : List D}
mutual
theorem Rep.up (k : Fwd F H F' H) (r0 : Rep F' H (.ref q) (.lst es)) : ∀ {d d' : D} {v : V}, Up q es d d' → Rep F H v d → Rep F' H v d'
  | _, _, _, .here, r => by cases r; exact r0
  | _, _, _, .tup u, r => by
    cases r with
    | tup h e rs => exact .tup (k _ _ h e).1 e (Reps.ups k r0 u rs)
  | _, _, _, .same _, r => r.fwd k
theorem Reps.ups (k : Fwd F H F' H) (r0 : Rep F' H (.ref q) (.lst es)) : ∀ {ds ds' : List D} {vs : List V}, Ups q es ds ds' → Reps F H vs ds → Reps F' H vs ds'
  | _, _, _, .nil, r => by cases r; exact .nil
  | _, _, _, .cons u us, r => by
    cases r with
    | cons r1 rs => exact .cons (Rep.up k r0 u r1) (Reps.ups k r0 us rs)
end
end
section
variable {B : Bx} {X : Cx} {δ δ' : Env'} {M : Mem} {Ψ : DEnds} {d x y : D}
theorem Vw.up {q : Addr} {es : List D} (j : Nat) (e : M[j]? = some (q, .lst es)) (hu : Up q es d x) : Vw d M x (M.eraseIdx j) := fun _ _ _ H _ R r => by
  obtain ⟨R2, r2⟩ := R.frz e
  exact ⟨R2, Rep.up (Fwd.less fun x hx => (F_sub erase_sub).subset hx) r2 hu r⟩
end
/-! ### data within data, some of them cells -/
mutual
inductive IsD (M : Mem) : D → D → Prop
  | val (d : D) : IsD M d d
  | cell {p : Addr} {ds ds' : List D} (j : Nat) (h : M[j]? = some (p, .lst ds)) : IsDs M ds ds' → IsD M (.raw (.ref p)) (.lst ds')
  | lst {ds ds' : List D} : IsDs M ds ds' → IsD M (.lst ds) (.lst ds')
  | tup {ds ds' : List D} : IsDs M ds ds' → IsD M (.tup ds) (.tup ds')
inductive IsDs (M : Mem) : List D → List D → Prop
  | nil : IsDs M [] []
  | cons {d d' : D} {ds ds' : List D} : IsD M d d' → IsDs M ds ds' → IsDs M (d :: ds) (d' :: ds')
end
theorem IsDs.refl {M : Mem} : ∀ ds : List D, IsDs M ds ds
  | [] => .nil
  | d :: ds => .cons (.val d) (IsDs.refl ds)
theorem IsDs.map {M : Mem} {α : Type} {f g : α → D} : ∀ {l : List α}, (∀ x ∈ l, IsD M (f x) (g x)) → IsDs M (l.map f) (l.map g)
  | [], _ => .nil
  | x :: l, h => .cons (h x List.mem_cons_self) (IsDs.map fun y hy => h y (List.mem_cons_of_mem _ hy))
section
variable {M : Mem} {δ : Env'} {κ : List (V × D)} {σ : St} {H : Hp} {K : PySem.W.Frag}
mutual
theorem IsD.dp (R : Rs κ δ M σ H) : ∀ {x d : D} {v : V}, IsD M x d → Rep M.F H v x → okD d = true → Dp K H v (toPy d)
  | _, _, _, .val _, r, k => rep_dp r k
  | _, _, _, .cell j h hs, r, k => by
    cases r
    obtain ⟨vs, e, rs⟩ := R.at h
    exact .lst (SqL.of e) (IsDs.dp R hs rs k)
  | _, _, _, .lst hs, r, k => by
    cases r with
    | lst h e rs => exact .lst (SqL.of e) (IsDs.dp R hs rs k)
  | _, _, _, .tup hs, r, k => by
    cases r with
    | tup h e rs => exact .tup (SqT.of e) (IsDs.dp R hs rs k)
theorem IsDs.dp (R : Rs κ δ M σ H) : ∀ {xs ds : List D} {vs : List V}, IsDs M xs ds → Reps M.F H vs xs → okDs ds = true → DpAll K H vs (toPys ds)
  | _, _, _, .nil, r, _ => by cases r; exact .nil
  | _, _, _, .cons h hs, r, k => by
    cases r with
    | cons r rs =>
      have k := Bool.and_eq_true_iff.mp (show (_ && _) = true from k)
      exact .cons (IsD.dp R h r k.1) (IsDs.dp R hs rs k.2)
end
end
end Hl
namespace Hl
open PySem L2
open PyProof.Rows hiding St
section
variable {B : Bx} {X : Cx} {e a b c o : Expr} {es rest : List Expr} {δ δ' : Env'} {M : Mem} {Φ : D → Mem → Prop} {Ψ : DEnds} {pos pos' : Pos} {d x y : D}
/-! ### xs += ys, xs a cell -/
theorem ds_augL {i : Nat} {x : Str} {n : Nat} (z : Cz X n) (l : Lo X i x) (hd : δ[i]? = some (some d)) (h : DE B X e δ M fun y M' => OpD rExt2 d y M' fun v M2 => Sets δ i v fun δ' => Ψ.nx δ' M2) : DS B X (.AugAssign (.Name x pos') .Add e pos) δ M Ψ := ds_aug z l iop_ext hd h
theorem oi_ext {j : Nat} {p : Addr} {ds es : List D} (hm : M[j]? = some (p, .lst ds)) (hy : IsL M y es) (hl : ds.length + es.length ≤ sizeLine) (k : Φ (.raw (.ref p)) (M.set j (p, .lst (ds ++ es)))) : OpD rExt2 (.raw (.ref p)) y M Φ := fun κ δ σ H v w Q R rv rw' h => by
  cases rv
  obtain ⟨vs, e1, rr⟩ := R.at hm
  obtain ⟨b, zs, rfl, e2, rr2⟩ := hy.sq R rw'
  refine ⟨p, b, vs, zs, rfl, rfl, e1, e2, by rw [rr.length, rr2.length]; exact hl, h _ _ _ _ k ?_ (.raw _)⟩
  have hp : ∀ x, x ∉ M.F → upd H p (.lst (vs ++ zs)) x = H x := fun x hx => upd_ne fun z => hx (z ▸ R.mem hm p (by simp [own]))
  exact R.cell hm rfl (fun x hx => upd_ne (by simpa [own] using hx)) ⟨_, upd_same, (rr.append rr2).fwd (Fwd.same hp)⟩
end
end Hl
namespace Hl
open PySem L2
/-! ### a thing with its parts, opened and closed -/
end Hl
namespace Hl
open PySem L2
end Hl
namespace Hl
open PySem L2
section
variable {B : Bx} {X : Cx} {e a b c o : Expr} {es rest : List Expr} {st : Stmt} {sts body : List Stmt} {δ δ' : Env'} {M : Mem} {Φ : D → Mem → Prop} {Ψ : DEnds} {te ta tb : TE} {tt : TT} {pos pos' apos : Pos} {d x y : D} {ΦB : Bool → Mem → Prop} {ΦL : List D → Mem → Prop}
variable {tg iter : Expr}
/-- a fact of a memory that stays where cells come in -/
def Anc (P : Mem → Prop) : Prop := ∀ M M' : Mem, (∀ x ∈ M, x ∈ M') → P M → P M'
/-! ### walking a list that is a cell (and stays so) -/
end
end Hl
namespace Hl
open PySem L2
/-! ### data with a reference seen otherwise -/
section
variable {B : Bx} {X : Cx} {e a b c o : Expr} {es rest : List Expr} {st : Stmt} {sts body : List Stmt} {δ δ' : Env'} {M : Mem} {Φ : D → Mem → Prop} {Ψ : DEnds} {te ta tb : TE} {tt : TT} {pos pos' apos : Pos} {d x y : D} {ΦB : Bool → Mem → Prop} {ΦL : List D → Mem → Prop} {kvs : List (Key × D)} {k : Key}
variable {tg iter : Expr}
/-! ### a dict in the slots is frozen -/
/-! ### a dict is locked while a statement, or an expression, runs -/
theorem Rpl.F {p : Addr} {c c' : SC} {M' : Mem} (r : Rpl p c c' M M') : M'.F = M.F := by
  cases r with
  | cell j h => exact F_set h (by rw [own_up, own_up])
  | head j h => exact F_set h rfl
  | @part N b c0 j i h h2 => exact F_set h (by show b :: _ = b :: _; rw [map_set_fst h2])
/-! ### fields of things with parts -/
theorem fld_h {K : PySem.W.Frag} {f : Str} {C p : Addr} {ns : List Str} {fs : List D} {N : List (Addr × SC)} (j : Nat) (hm : M[j]? = some (p, .grp (.obj C ns fs) N)) (ff : FldP K C f) (l : (ns.zip fs).lookup f = some d) (k : Φ d M) : FldD K f (.raw (.ref p)) M Φ := fld_o (.inm (.inr (.inl ⟨_, List.mem_of_getElem? hm⟩))) ff l k
theorem fld_p {K : PySem.W.Frag} {f : Str} {C p b : Addr} {ns : List Str} {fs : List D} {c0 : SC} {N : List (Addr × SC)} (j : Nat) (hm : M[j]? = some (b, .grp c0 N)) (hp : (p, SC.obj C ns fs) ∈ N) (ff : FldP K C f) (l : (ns.zip fs).lookup f = some d) (k : Φ d M) : FldD K f (.raw (.ref p)) M Φ := fld_o (.inm (.inr (.inr ⟨_, _, _, List.mem_of_getElem? hm, hp⟩))) ff l k
/-! ### o.f += e -/
end
end Hl
namespace Hl
open PySem L2
section
variable {B : Bx} {X : Cx} {e a b c o : Expr} {es rest : List Expr} {kws : List Keyword} {st : Stmt} {sts body : List Stmt} {δ δ' : Env'} {M : Mem} {Φ : D → Mem → Prop} {Ψ : DEnds} {te ta tb : TE} {tt : TT} {pos pos' apos : Pos} {d x y : D} {ΦB : Bool → Mem → Prop} {ΦL : List D → Mem → Prop} {kvs : List (Key × D)} {k : Key}
/-! ### methods of things with parts, and of their parts -/
theorem mt_hS {m k : Nat} {mn : Str} {C q : Addr} {ns : List Str} {fs : List D} {N : List (Addr × SC)} {sel : Sel} {p : DSpE} {Ξ : XPost} (j : Nat) (hm : M[j]? = some (q, .grp (.obj C ns fs) N)) (f : MethEX X k C mn es.length (kwN kws) sel p) (hk : k ≤ m) (lt : Lets X B δ Ξ) (pl : PlA X pos es kws (kwN kws)) (hn : ns.contains mn = false)
    (h : DAK B X es kws δ M fun ds zs M' => ds.length = es.length ∧ zs.length = (kwN kws).length ∧ p (selD sel (.raw (.ref q) :: ds ++ zs)) M' Φ Ξ) : MtE B X m pos es kws mn δ (.raw (.ref q)) M Φ := mt_o (.inm (.inr (.inl ⟨_, List.mem_of_getElem? hm⟩))) f hk lt pl hn h
theorem mt_pS {m k : Nat} {mn : Str} {C q b : Addr} {ns : List Str} {fs : List D} {c0 : SC} {N : List (Addr × SC)} {sel : Sel} {p : DSpE} {Ξ : XPost} (j : Nat) (hm : M[j]? = some (b, .grp c0 N)) (hp : (q, SC.obj C ns fs) ∈ N) (f : MethEX X k C mn es.length (kwN kws) sel p) (hk : k ≤ m) (lt : Lets X B δ Ξ) (pl : PlA X pos es kws (kwN kws)) (hn : ns.contains mn = false)
    (h : DAK B X es kws δ M fun ds zs M' => ds.length = es.length ∧ zs.length = (kwN kws).length ∧ p (selD sel (.raw (.ref q) :: ds ++ zs)) M' Φ Ξ) : MtE B X m pos es kws mn δ (.raw (.ref q)) M Φ := mt_o (.inm (.inr (.inr ⟨_, _, _, List.mem_of_getElem? hm, hp⟩))) f hk lt pl hn h
end
/-! ### a promise about the first cells, with other cells ahead of them -/
end Hl
namespace Hl
open PySem L2
section
variable {B : Bx} {X : Cx} {e a b c o : Expr} {es rest : List Expr} {kws : List Keyword} {st : Stmt} {sts body : List Stmt} {δ δ' : Env'} {M : Mem} {Φ : D → Mem → Prop} {Ψ : DEnds} {te ta tb : TE} {tt : TT} {pos pos' apos cpos : Pos} {d x y : D} {ΦB : Bool → Mem → Prop} {ΦL : List D → Mem → Prop} {kvs : List (Key × D)} {k : Key}
/-! ### xs.count(y), xs.index(y) of truths -/
def rCountV (K : PySem.W.Frag) : V → List V → Hp → VK → Prop := fun x xs H Q => ∃ (a : Addr) (ys : List V) (y : V), x = V.ref a ∧ xs = [y] ∧ SqL K H a ys ∧ flatV y = true ∧ ys.all flatV = true ∧ Q (.int (ys.countP (fun z => eqV z y) : Nat)) H
theorem count_vals {y : V} : ∀ {ys : List V} {us : List Value}, Vals ys us → ys.all flatV = true → us.countP (eqU y) = ys.countP fun z => eqV z y
  | _, _, .nil, _ => rfl
  | z :: ys, u :: us, .cons r rs, f => by
    have f2 := Bool.and_eq_true_iff.mp (show (_ && _) = true from f)
    rw [List.countP_cons, List.countP_cons, count_vals rs f2.2, eqU_of r f2.1]
theorem mt_countV : MtR X "list.count" (rCountV X.K) := by
  intro pins s σ H x xs v us Q I rx rxs h
  obtain ⟨a, ys, y, rfl, rfl, hs, fy, fys, q⟩ := h
  cases rx
  cases rxs with
  | cons ry rt =>
    rename_i uy ut
    cases rt
    obtain ⟨its, rv, ⟨⟨cls, dd, data, sl⟩, n, ho, hc, hdn, hd⟩, hlen⟩ := I.list hs
    simp only at hc hd
    subst hc hd
    refine call_meets PySem.F.slot_list_count ⟨_, ho, rfl⟩ PySem.F.entry_list_count (PySem.F.args_list_count_2 _ _)
      (SeqAt.list_countAt a its.toArray n dd sl uy (eqU y)) ⟨ho, fun u' hu' => mem_eqAt ry fy rv fys u' (by simpa using hu'), ?_⟩
    refine ⟨.int _, H, I.tok _, ⟨s.toks, ?_⟩, q⟩
    show Value.int ((its.toArray.toList.countP (eqU y) : Nat) : Int) s.toks = _
    rw [List.toList_toArray, count_vals rv fys]
theorem de_count (h : DE B X o δ M fun x M1 => (∃ ds, IsL M1 x ds) ∧ DA B X [a] δ M1 fun ys M2 => MtD X.K "list" (rCountV X.K) x ys M2 Φ)
    (hbase : attributeBase o "count" X.env (eval o X.env) = eval o X.env := by rfl)
    (hfew : ((backTo cpos (starEach [a] X.env)).all (fun x => !x.1) && (backToKw cpos (keywordEach [] X.env)).all (fun x => x.1.isSome)
      && decide (([a] : List Expr).length + ([] : List Keyword).length + (if ([] : List Keyword).isEmpty then 0 else 1) < 30)) = true := by rfl)
    (hline : (apos.endLine == cpos.line) = true := by rfl) (hs : starEach [a] X.env = (false, eval a X.env) :: starEach [] X.env := by rfl) (hplain : (backTo cpos (starEach [] X.env)).any (·.1) = false := by rfl) :
    DE B X (.Call (.Attribute o "count" apos) [a] [] cpos) δ M Φ := de_bml PySem.F.slot_list_count PySem.F.type_list_count mt_countV h hbase hfew hline hs hplain
theorem de_index (h : DE B X o δ M fun x M1 => (∃ ds, IsL M1 x ds) ∧ DA B X [a] δ M1 fun ys M2 => MtD X.K "list" (rIndex X.K) x ys M2 Φ)
    (hbase : attributeBase o "index" X.env (eval o X.env) = eval o X.env := by rfl)
    (hfew : ((backTo cpos (starEach [a] X.env)).all (fun x => !x.1) && (backToKw cpos (keywordEach [] X.env)).all (fun x => x.1.isSome)
      && decide (([a] : List Expr).length + ([] : List Keyword).length + (if ([] : List Keyword).isEmpty then 0 else 1) < 30)) = true := by rfl)
    (hline : (apos.endLine == cpos.line) = true := by rfl) (hs : starEach [a] X.env = (false, eval a X.env) :: starEach [] X.env := by rfl) (hplain : (backTo cpos (starEach [] X.env)).any (·.1) = false := by rfl) :
    DE B X (.Call (.Attribute o "index" apos) [a] [] cpos) δ M Φ := de_bml PySem.F.slot_list_index PySem.F.type_list_index mt_index h hbase hfew hline hs hplain
/-! ### sep.join(texts) -/
theorem de_join (h : DE B X o δ M fun x M1 => ∃ z, x = .str z ∧ DE B X a δ M1 fun y M2 => ∃ ys : List Str, IsL M2 y (ys.map .str) ∧ (ys.map (·.length)).sum + ys.length * z.length ≤ 16777216 ∧ Φ (.str (Txt.join z ys)) M2)
    (hs : starEach [a] X.env = [(false, eval a X.env)] := by rfl) (hbase : attributeBase o "join" X.env (eval o X.env) = eval o X.env := by rfl) (hline : (apos.endLine == pos.line) = true := by rfl) : DE B X (.Call (.Attribute o "join" apos) [a] [] pos) δ M Φ :=
  .of (pe_join cE cE hs hbase hline) fun κ σ H Q hb R k => h κ σ H _ hb R fun v x M1 H1 ⟨z, ez, q1⟩ R1 r1 => by
    subst ez
    cases r1
    refine ⟨⟨z, rfl⟩, q1 κ σ H1 _ hb R1 fun vy y M2 H2 ⟨ys, il, hl, q2⟩ R2 r2 => ?_⟩
    obtain ⟨p, us, rfl, e1, rr⟩ := il.sq R2 r2
    have := rr.strs
    subst this
    exact ⟨z, p, ys, rfl, rfl, .inl (SqL.of e1), hl, k _ _ _ _ q2 R2 (.str _)⟩
end
/-! signs of a joined text -/
end Hl
namespace Hl
open PySem L2
/-! ### facts of classes, not to be looked into -/
structure KitP (K : PySem.W.Frag) (t u : Value) (b : Bool) : Prop where
  is : PySem.W.kitOne K t u = some b
structure ExmP (K : PySem.W.Frag) (t u : Value) (b : Bool) : Prop where
  is : PySem.W.exmOne K t u = some b
structure MgP (mg : Str → Option Value) (x : Str) (C : Addr) : Prop where
  is : mg x = some (.ref C)
section
variable {B : Bx} {X X' : Cx} {δ : Env'} {M : Mem} {Φ : D → Mem → Prop} {Ψ : DEnds} {d x y : D} {scope : Scope} {suite : List Stmt} {pos : Pos}
theorem isx_xP {K : PySem.W.Frag} {C : Addr} {ns : List Str} {fs : List D} {c : V} {u : Value} {b : Bool} (T : ExcP K C) (hc : ClsV c u) (hk : KitP K (.ref C) u b) (k : Φ (.bl b) M) : CallD (rIsiU K) [.exn C ns fs, .raw c] M Φ := isx_x T hc hk.is k
theorem isx_oP {K : PySem.W.Frag} {C : Addr} {ns : List Str} {fs : List D} {c : V} {u : Value} {b : Bool} (h : IsO M x C ns fs) (T : InsP K C) (hc : ClsV c u) (hk : KitP K (.ref C) u b) (k : Φ (.bl b) M) : CallD (rIsiU K) [x, .raw c] M Φ := isx_o h T hc hk.is k
theorem isx_bP {K : PySem.W.Frag} {S : String} {c : V} {u : Value} {b : Bool} (hx : tyD x = some S) (hc : ClsV c u) (hk : KitP K (.type S) u b) (k : Φ (.bl b) M) : CallD (rIsiU K) [x, .raw c] M Φ := isx_b hx hc hk.is k
theorem isx_t2P {K : PySem.W.Frag} {C : Addr} {ns : List Str} {fs : List D} {c1 c2 : V} {u1 u2 : Value} {b1 b2 : Bool} (T : ExcP K C) (h1 : ClsV c1 u1) (h2 : ClsV c2 u2) (k1 : KitP K (.ref C) u1 b1) (k2 : KitP K (.ref C) u2 b2) (k : Φ (.bl (b1 || b2)) M) : CallD (rIsiV K) [.exn C ns fs, .tup [.raw c1, .raw c2]] M Φ := isx_t2 T h1 h2 k1.is k2.is k
theorem exh_yesP {c0 C : Addr} {oi : Option Nat} {ns : List Str} {ds : List D} {r : List HdD} (hm : ExmP X.K (.ref C) (.ref c0) true) (h : ∀ a pn kp, DSs ⟨kp, fun _ _ _ _ _ => False⟩ (X.suite a pn) suite (envD oi δ (.exn C ns ds)) M (endsD oi Ψ)) : exH B X Ψ ((c0, oi, suite) :: r) C ns ds δ M := exh_yes hm.is h
theorem exh_noP {c0 C : Addr} {oi : Option Nat} {ns : List Str} {ds : List D} {r : List HdD} (hm : ExmP X.K (.ref C) (.ref c0) false) (h : exH B X Ψ r C ns ds δ M) : exH B X Ψ ((c0, oi, suite) :: r) C ns ds δ M := exh_no hm.is h
theorem de_gclsP {x : Str} {C : Addr} (hg : Gl X x) (hm : MgP X.mg x C) (k : Φ (.raw (.ref C)) M) (hd : (x == ("__debug__" : Str)) = false := by decide) : DE B X (.Name x pos) δ M Φ := de_gcls hg hm.is k hd
end
end Hl
namespace Hl
open PySem L2
/-! ### zip of two lists of one length -/
end Hl
namespace Hl
open PySem L2
open PyProof.Rows hiding St
/-! ### a list, a tuple, or a list that is a cell -/
inductive IsSq (M : Mem) : D → List D → Prop
  | lst (ds : List D) : IsSq M (.lst ds) ds
  | tup (ds : List D) : IsSq M (.tup ds) ds
  | cell {p : Addr} {ds : List D} (h : InM M p (.lst ds)) : IsSq M (.raw (.ref p)) ds
theorem anc_sq {y : D} {ds : List D} : Anc fun M => IsSq M y ds := fun M M' h k => by
  cases k with
  | lst => exact .lst _
  | tup => exact .tup _
  | cell h' => exact .cell (h'.mono h)
theorem IsSq.sq {κ : List (V × D)} {δ : Env'} {M : Mem} {σ : St} {H : Hp} {v : V} {x : D} {ds : List D} (h : IsSq M x ds) (R : Rs κ δ M σ H) (r : Rep M.F H v x) : ∃ p vs, v = .ref p ∧ (H p = some (.lst vs) ∨ H p = some (.tup vs)) ∧ Reps M.F H vs ds := by
  cases h with
  | lst => cases r with | lst h1 e1 r1 => exact ⟨_, _, rfl, .inl e1, r1⟩
  | tup => cases r with | tup h1 e1 r1 => exact ⟨_, _, rfl, .inr e1, r1⟩
  | cell h =>
    cases r
    obtain ⟨vs, e1, r1⟩ := h.ok R
    exact ⟨_, _, rfl, .inl e1, r1⟩
end Hl
namespace Hl
open PySem L2
section
variable {B : Bx} {X : Cx} {δ δ' : Env'} {M : Mem} {Φ : D → Mem → Prop} {d x y : D} {α : Type} {l : List α} {f : α → D} {i : Int}
theorem od_ixTE {K : PySem.W.Frag} (h : 0 ≤ i ∧ i < l.length) (k : ∀ y, l[i.toNat]? = some y → Φ (f y) M) : OpD (rIxU K) (.tup (l.map f)) (.int i) M Φ := by
  have hi : i.toNat < l.length := by omega
  obtain ⟨n, rfl⟩ : ∃ n : Nat, i = (n : Int) := ⟨i.toNat, by omega⟩
  have hn : n < l.length := by omega
  exact od_ixT (d := f l[n]) (at_mapN (by simp [hn])) (k _ (by simp [hn]))
end
end Hl
namespace Hl
open PySem L2
end Hl
namespace Hl
open PySem L2
open PyProof.Rows hiding St
section
variable {B : Bx} {X : Cx} {e a b c o : Expr} {es rest : List Expr} {δ δ' : Env'} {M M' : Mem} {Φ : D → Mem → Prop} {Ψ : DEnds} {pos pos' apos cpos : Pos} {d x y : D} {ΦL : List D → Mem → Prop}
/-! ### xs.clear() -/
def rClear : V → List V → Hp → VK → Prop := fun x vs H Q => ∃ l xs, x = .ref l ∧ vs = [] ∧ H l = some (.lst xs) ∧ Q .non (upd H l (.lst []))
theorem mt_clear : MtR X "list.clear" rClear := by
  intro pins s σ H x vs v us Q I rx rv h
  obtain ⟨l, xs, rfl, rfl, hH, q⟩ := h
  cases rx
  have hus := rv.zero
  subst hus
  obtain ⟨z, its, n, r, hl, e⟩ := I.lstM hH
  refine call_meets F.slot_list_clear ⟨_, e, rfl⟩ F.entry_list_clear (F.args_list_clear_1 _) (AutoSeq1.list_clear_list_0 l its.toArray n (by rw [List.size_toArray]; omega)) ⟨e, ?_⟩
  exact ⟨.non, _, I.lset (its' := []) hH e (by simp) .nil (Nat.zero_le _), rfl, q⟩
theorem de_bml0 {name : Str} {id : String} {r : V → List V → Hp → VK → Prop} (slot : Slot "list" name id) (hty : typeOf (.builtin id) = pure (.type "method_descriptor")) (hm : MtR X id r)
    (h : DE B X o δ M fun x M1 => (∃ ds, IsL M1 x ds) ∧ MtD X.K "list" r x [] M1 Φ)
    (hbase : attributeBase o name X.env (eval o X.env) = eval o X.env := by rfl) (hline : (apos.endLine == cpos.line) = true := by rfl) :
    DE B X (.Call (.Attribute o name apos) [] [] cpos) δ M Φ := .of (pe_bm0 PySem.F.plainAttrs_list slot hty hm cE hbase hline) fun κ σ H Q hb R k =>
  h κ σ H _ hb R fun v x M1 H1 ⟨⟨ds, il⟩, q⟩ R1 r1 => by
    obtain ⟨p, vs, ev, e1, rr⟩ := il.sq R1 r1
    refine ⟨by subst ev; exact .inl ⟨rfl, vs, SqL.of e1⟩, ?_⟩
    exact q κ δ σ H1 v [] Q R1 r1 .nil k
theorem de_clear (h : DE B X o δ M fun x M1 => (∃ ds, IsL M1 x ds) ∧ MtD X.K "list" rClear x [] M1 Φ)
    (hbase : attributeBase o "clear" X.env (eval o X.env) = eval o X.env := by rfl) (hline : (apos.endLine == cpos.line) = true := by rfl) :
    DE B X (.Call (.Attribute o "clear" apos) [] [] cpos) δ M Φ := de_bml0 PySem.F.slot_list_clear PySem.F.type_list_clear mt_clear h hbase hline
/-! ### a comprehension whose items are new cells, put behind all others -/
end
theorem IsO.mono {M M' : Mem} {x : D} {C : Addr} {ns : List Str} {ds : List D} (h : IsO M x C ns ds) (k : ∀ c ∈ M, c ∈ M') : IsO M' x C ns ds := by
  cases h with
  | val => exact .val _ _ _
  | cell j h => exact .inm ((InM.mono (M := M) (.inl (List.mem_of_getElem? h))) k)
  | inm h => exact .inm (h.mono k)
theorem IsSq.mono {M M' : Mem} {x : D} {ds : List D} (h : IsSq M x ds) (k : ∀ c ∈ M, c ∈ M') : IsSq M' x ds := anc_sq M M' k h
end Hl
namespace PySem.W
open PySem PySem.Calls PyProof.Rows Builtin
end PySem.W
namespace Hl
open PySem L2
open PyProof.Rows hiding St
end Hl
namespace Hl
open PySem L2
open PyProof.Rows hiding St
section
variable {B : Bx} {X : Cx} {e a b c o : Expr} {es rest : List Expr} {δ δ' : Env'} {M M' : Mem} {Φ : D → Mem → Prop} {pos pos' apos cpos : Pos} {d x y : D} {ΦL : List D → Mem → Prop}
/-! ### xs.pop() -/
theorem de_pop0 (h : DE B X o δ M fun x M1 => (∃ ds, IsL M1 x ds) ∧ MtD X.K "list" rPop x [] M1 Φ)
    (hbase : attributeBase o "pop" X.env (eval o X.env) = eval o X.env := by rfl) (hline : (apos.endLine == cpos.line) = true := by rfl) :
    DE B X (.Call (.Attribute o "pop" apos) [] [] cpos) δ M Φ := de_bml0 PySem.F.slot_list_pop PySem.F.type_list_pop mt_pop h hbase hline
/-! ### max of three -/
theorem de_max3 {n : Nat} (z : Cz X n) {p : Pos} (g : Gn X "max") (h : DA B X [a, b, c] δ M fun ds M1 => CallD (rNuC3 nuMax3) ds M1 Φ) (he : starEach [a, b, c] X.env = (false, eval a X.env) :: starEach [b, c] X.env := by rfl) (hpl : (backTo pos (starEach [b, c] X.env)).any (·.1) = false := by rfl) : DE B X (.Call (.Name "max" p) [a, b, c] [] pos) δ M Φ := de_blt (call_max3Nu z.calm) g boot_max h (by decide) (by decide) he hpl
theorem cd_max3 {i j l : Int} (k : Φ (.int (max (max i j) l)) M) : CallD (rNuC3 nuMax3) [.int i, .int j, .int l] M Φ := fun κ δ σ H vs Q R rs f => by
  cases rs with
  | cons r1 r2 =>
    cases r1
    cases r2 with
    | cons r2 r3 =>
      cases r2
      cases r3 with
      | cons r3 r4 =>
        cases r3
        cases r4
        refine ⟨_, _, _, .int (max (max i j) l), rfl, ?_, f _ _ _ _ k R (.int _)⟩
        have h2 : ∀ a b : Int, nuMax2 (.int a) (.int b) = some (.int (max a b)) := fun a b => by
          show some (if decide (a < b) = true then V.int b else V.int a) = _
          by_cases h : a < b
          · rw [if_pos (by simpa using h), Int.max_eq_right (by omega)]
          · rw [if_neg (by simpa using h), Int.max_eq_left (by omega)]
        unfold nuMax3
        rw [h2]
        exact h2 _ _
end
end Hl
namespace Hl
open PySem L2
open PyProof.Rows hiding St
/-! ### an exception made as a value -/
section
variable {X : Cx} {pins : List (Addr × Obj)} {σ : St} {H : Hp} {s s' : Shared}
theorem ep_mk {Q : XK} {Q' : VK} {u : Value} (m : MkP X pins σ Q u s') (q : ∀ cls d H' a, Q cls d H' → H' a = none → Q' (.ref a) (upd H' a (XO cls d a))) : EP X pins σ Q' u s' := by
  obtain ⟨a, oe, vs, sI, H', cls, d, rfl, J, k, hne, ha, hz, hd, h1, na, os, ag, r, q0⟩ := m
  refine ⟨.ref a, upd H' a (XO cls d a), ?_, rfl, q _ _ _ _ q0 na⟩
  exact Inv.landedX (B := PySem.W.hideAll sI.heap (frs X.stack)) J (fun b o e hb => PySem.W.hideAll_get _ e hb) (fun b o e => k b o (PySem.W.of_hideAll _ e)) (Heap.UpToSlots.of_keeps k) os ag na hne (xo_ok ha hz hd)
end
section
variable {X : Cx} {B : Bx} {δ : Env'} {M : Mem} {Φ : D → Mem → Prop} {e : Expr} {es : List Expr} {kws : List Keyword} {pos pp : Pos} {m : Nat}
theorem de_ofMk {t : St → Hp → XK → Prop} (hm : PMk X e t) (h : ∀ κ σ H, (∀ q ∈ B.ps, q ∈ κ) → Rs κ δ M σ H → t σ H fun cls d H' => ∃ C ns ds M', cls = .ref C ∧ Rs κ δ M' σ H' ∧ XRep M'.F H' d ns ds ∧ Φ (.exn C ns ds) M') : DE B X e δ M Φ := by
  intro κ σ H Q hb R k
  unfold tE
  intro pins s I
  refine wpAny_mono (hm pins s σ H _ I (h κ σ H hb R)) (fun u s1 mk => ep_mk mk fun cls d H' a ⟨C, ns, ds, M', e1, R1, x1, q⟩ na => ?_) fun _ _ x => x
  subst e1
  exact k _ _ M' _ q (R1.new na) (x1.held (R1.fresh na) na)
theorem de_exn0 {C : Addr} {x : Str} (T : Ex0 X.K X.mg x C) (hg : Gl X x) (h : Φ (.exn C [] []) M) (hdb : (x == ("__debug__" : Str)) = false := by decide) : DE B X (.Call (.Name x pp) [] [] pos) δ M Φ :=
  de_ofMk (pmk_own0 T hg hdb) fun κ σ H hb R => ⟨C, [], [], M, rfl, R, .inl ⟨rfl, rfl, rfl⟩, h⟩
end
/-! ### with keywords: type.__call__ on a class of exceptions -/
section
open PySem.W PySem.Calls PySem.HandSPX PyProof
variable {prog : Program} {w : World} {A : Around} {E : Value → Shared → Prop} {R : Result → Shared → Prop} {h : Heap} {g : Array GenState} {d : Drawn} {t : Nat} {os : OsState}
variable {nm q : Str} {C N : Addr} {bs bm bmB : List Value} {hdct : Bool} {sn : List Str} {sub : List Value} {ab : Bool} {col : Option Bool} {dd : Option Addr} {k0 k1 k2 k3 k5 : Option Value} {B newId initId : String} {kw : List (Str × Value)}
theorem check_newK {M : Model} (F : ExcBaseFacts B newId initId bmB) (hT : ∀ X : String, bm.contains (.type X) = bmB.contains (.type X)) {rest : List Value} {Q : Unit → Shared → Prop}
    (hC : h.get? C = some (excClassObj nm q C N bs bm hdct sn sub ab col dd k0 k1 k2 k3 k5 newId)) (hq : Q () ⟨h, g, d, t, os⟩) : wpAny M A (checkBuiltinCall newId ⟨.ref C :: rest, kw⟩) Q E ⟨h, g, d, t, os⟩ := by
  have hcont : (Value.ref C :: bm).contains (.type B) = true := by rw [List.contains_cons, hT, F.hasB, Bool.or_true]
  have hstar := F.noStar
  simp only [checkBuiltinCall, F.newKind, F.newSplit, F.newRow]
  repeat (first | refine wpAny_loadPart_at hC ?_ | (refine wpAny_isSubtype_exc hC ?_; rw [hcont]) | refine wpAny_staticBase_exc hC ?_ | refine wpAny_madeBy_exc hC ?_ | simp only [bne_self_eq_false, Bool.false_eq_true, if_false] | wp_step)
  exact hq
theorem newK (F : ExcBaseFacts B newId initId bmB) (hT : ∀ X : String, bm.contains (.type X) = bmB.contains (.type X)) {rest : List Value}
    (hC : h.get? C = some (excClassObj nm q C N bs bm hdct sn sub ab col dd k0 k1 k2 k3 k5 newId))
    (hq : R (.ok (.ret (.ref (h.objs.size + 1)))) ⟨(h.push { cls := .type "tuple", data := .seq rest.toArray }).push
      { cls := .ref C, data := .fields #[.ref h.objs.size, .none, .none, .none, .bool false, .none] }, g, d, t, os⟩) (hrest : rest.length ≤ sizeLine) :
    codeAny (model prog w) A (.builtin newId ⟨.ref C :: rest, kw⟩) R ⟨h, g, d, t, os⟩ := by
  have hends := F.ends
  have hcB : (Value.ref C :: bm).contains (.type B) = true := by rw [List.contains_cons, hT, F.hasB, Bool.or_true]
  have hcA : (Value.ref C :: bm).contains (.type "AttributeError") = false := by rw [List.contains_cons, hT, F.noAttr]; rfl
  have hcN : (Value.ref C :: bm).contains (.type "NameError") = false := by rw [List.contains_cons, hT, F.noName]; rfl
  refine codeAny_builtinAt F.entry ?_
  unfold Builtin.«BaseException.__new__»
  refine PySem.wpAt_bind ?_
  show PySem.wpAt _ _ _ (stack >>= _) _ _ _
  refine PySem.wpAt_bind (PySem.wpAt_stack fun p below => PySem.wpAt_of_wpAny ?_)
  wp_walk
  refine PySem.wpAt_of_wpAny ?_
  rw [F.owner]
  repeat (first | with_reducible refine wpAny_madeHere_exc F.canon hC ?_ | with_reducible refine wpAny_loadPart_at hC ?_ | (with_reducible refine wpAny_isSubtype_exc hC ?_; first | rw [hcB] | rw [hcA] | rw [hcN]) | wp_step)
  show R _ _
  rw [Heap.size_push]
  exact hq
theorem type_callK (F : ExcBaseFacts B newId initId bmB) (hT : ∀ X : String, bm.contains (.type X) = bmB.contains (.type X)) {rest : List Value} {fI : Addr} {Q : Fin → Shared → Prop}
    (hC : h.get? C = some (excClassObj nm q C N bs bm hdct sn sub ab col dd k0 k1 k2 k3 k5 newId))
    (hi : W.Looks (model prog w) h (typeLookup (.ref C) "__init__") (some (.ref fI))) (hb : ∀ self, W.Looks (model prog w) h (bindSpecial (.ref fI) self) (.ref fI, [self])) (hrest : rest.length ≤ sizeLine)
    (hq : codeAny (model prog w) A (.call (.ref fI) ⟨.ref (h.objs.size + 1) :: rest, kw⟩)
      (fun r s' => match r with | .ok (.ret v) => v = .none ∧ Q (.done (.ret (.ref (h.objs.size + 1)))) s' | .ok _ => False | .error e => E e s')
      ⟨(h.push (W.kdv_tup rest)).push (excO C h.objs.size), g, d, t, os⟩) :
    wpAny (model prog w) A (Builtin.«type.__call__» ⟨.ref C :: rest, kw⟩) Q E ⟨h, g, d, t, os⟩ := by
  repeat (first | with_reducible refine wpAny_loadPart_at hC ?_ | with_reducible refine wpAny_madeBy_exc hC ?_ | wp_step)
  refine codeAny_call_builtin_code (Code.quiet_builtin _ F.quiet) (check_newK F hT hC ?_)
  refine newK F hT hC ?_ hrest
  show wpAny _ _ _ _ _ _
  have k : ∀ b o, h.get? b = some o → ((h.push (W.kdv_tup rest)).push (excO C h.objs.size)).get? b = some o := fun b o e => Heap.get?_push_of_some _ (Heap.get?_push_of_some _ e)
  have hC₁ := k _ _ hC
  have hget : ((h.push (W.kdv_tup rest)).push (excO C h.objs.size)).get? (h.objs.size + 1) = some (excO C h.objs.size) := by heap_get
  have hcC : (Value.ref C :: bm).contains (.ref C) = true := by simp
  have i1 := hi.keeps k
  have b1 := (hb (.ref (h.objs.size + 1))).keeps k
  unfold isInstance
  repeat (first | with_reducible refine wpAny_loadPart_at hget ?_ | (with_reducible refine wpAny_isSubtype_exc hC₁ ?_; rw [hcC]) | wp_step)
  show wpAny _ _ (typeLookup (.ref C) _) _ _ _
  refine i1.at ?_
  refine wpAny_holding (wpAny_bind (b1.at ?_))
  refine wpAny_bind (wpAny_call (codeAny_mono hq fun r s' z => ?_))
  rcases r with e | (v | _ | _ | _) <;> first | exact z | exact z.elim | skip
  obtain ⟨rfl, z⟩ := z
  first
    | exact wpAny_pure (wpAny_pure z)
    | (wp_walk; exact z)
theorem check_tcK {M : Model} {rest : List Value} {Q : Unit → Shared → Prop} (hC : h.get? C = some (excClassObj nm q C N bs bm hdct sn sub ab col dd k0 k1 k2 k3 k5 newId))
    (hq : Q () ⟨h, g, d, t, os⟩) : wpAny M A (checkBuiltinCall "type.__call__" ⟨.ref C :: rest, kw⟩) Q E ⟨h, g, d, t, os⟩ := by
  have f3 := tc_sub
  have hT : (⟨h, g, d, t, os⟩ : Shared).TypeIs (.ref C) "type" := ⟨_, hC, rfl⟩
  simp only [checkBuiltinCall, tc_kind, tc_split]
  repeat (any_goals (first | assumption | with_reducible refine wpAny_loadPart_at hC ?_ | with_reducible refine wpAny_onRaise ?_ | with_reducible refine wpAny_map ?_ | wp_step))
theorem call_ownK (F : ExcBaseFacts B newId initId bmB) (hT : ∀ X : String, bm.contains (.type X) = bmB.contains (.type X)) {rest : List Value} {fI : Addr}
    (hC : h.get? C = some (excClassObj nm q C N bs bm hdct sn sub ab col dd k0 k1 k2 k3 k5 newId))
    (hi : W.Looks (model prog w) h (typeLookup (.ref C) "__init__") (some (.ref fI))) (hb : ∀ self, W.Looks (model prog w) h (bindSpecial (.ref fI) self) (.ref fI, [self])) (hrest : rest.length ≤ sizeLine)
    (hq : codeAny (model prog w) (A.under (.builtin "type.__call__" ⟨.ref C :: rest, kw⟩)) (.call (.ref fI) ⟨.ref (h.objs.size + 1) :: rest, kw⟩) (W.InitBack (h.objs.size + 1) R)
      ⟨(h.push (W.kdv_tup rest)).push (excO C h.objs.size), g, d, t, os⟩) :
    codeAny (model prog w) A (.call (.ref C) ⟨rest, kw⟩) R ⟨h, g, d, t, os⟩ := by
  have f1 := tc_lookup
  have f2 := tc_bind (.ref C)
  have hTy : (⟨h, g, d, t, os⟩ : Shared).TypeIs (.ref C) "type" := ⟨_, hC, rfl⟩
  refine codeAny_of_tree ?_
  show wpAny _ _ (callAny (.ref C) _) _ _ _
  repeat (any_goals (first | assumption | with_reducible refine wpAny_loadPart_at hC ?_ | wp_step))
  refine ⟨rfl, ?_⟩
  refine codeAny_call_builtin_at (Code.quiet_builtin _ (by decide +kernel)) entry_typeCall (check_tcK hC (type_callK F hT hC hi hb hrest ?_))
  refine codeAny_mono hq fun r s' z => ?_
  rcases r with e | (v | _ | _ | _) <;> exact z
end
/-- an own exception class whose __init__ keeps its arguments, called with arguments by place and by name -/
structure ExN (P : Program) (w : World) (K : PySem.W.Frag) (mg : Str → Option Value) (base : Heap) (x : Str) (C : Addr) (ns : List Str) (n : Nat) (ks : List Str) (sel : Sel) : Prop where
  gC : mg x = some (.ref C)
  T : OexC K C
  ex : ∃ fI fd ps, PySem.W.findIn K (.ref C) "__init__" = some (some (.ref fI)) ∧ PySem.W.typeIn K (.ref fI) = some (.type "function") ∧ CallB K fd ps (n + 1) ks (.inl 0 :: sel) ∧ FnOk P w K mg base CX0 1 fI fd ps (spXI C ns)
section
open PySem.W PySem.Calls PySem.HandSPX
variable {X : Cx} {B : Bx} {δ : Env'} {M : Mem} {Φ : D → Mem → Prop} {e : Expr} {es : List Expr} {kws : List Keyword} {pos pp : Pos} {m : Nat}
theorem de_exnN {C : Addr} {x : Str} {n : Nat} {ns ks : List Str} {sel : Sel} (z : Cz X m) (hn : 2 ≤ m) (T : ExN X.prog X.w X.K X.mg X.base x C ns n ks sel) (hg : Gl X x)
    (h : DAK B X es kws δ M fun ds zs M' => ds.length = n ∧ n ≤ 1000 ∧ zs.length = ks.length ∧ sel.length = ns.length ∧ ∀ x, Φ (.exn C ns.reverse (selD sel (x :: (ds ++ zs))).reverse) M') (pl : PlA X pos es kws ks)
    (hdb : (x == ("__debug__" : Str)) = false := by decide) : DE B X (.Call (.Name x pp) es kws pos) δ M Φ := by
  obtain ⟨fI, fd, ps, iC, tI, cb, F1⟩ := T.ex
  obtain ⟨nm, q, N, bs, bm, sn, sub, ab, col, dd, k0, k1, k2, k3, k5, hC, hbm⟩ := T.T.cls
  intro κ σ H Q hb R kk
  unfold tE
  intro pins s I
  refine wpAny_Call_Name_kw (ld_glob I hg T.gC ?_ hdb)
  refine dak_run (first := []) T.T.kC pl h I hb R fun us ws s2 vs zs ds zd M2 H2 I2 rv rz ⟨l1, l0, l2, l3, q⟩ R2 r1 r2 => ?_
  show wpAny _ _ (call (.ref C) us (ks.zip ws)) _ _ _
  obtain ⟨hp, g, dr, tk, os⟩ := s2
  have hsz : hp.objs.size ≤ hp.objs.size + 1 := Nat.le_succ _
  have na : H2 (hp.objs.size + 1) = none := I2.hok.fresh hsz
  have k2 : ∀ b o, hp.get? b = some o → ((hp.push (PySem.W.kdv_tup us)).push (PySem.HandSPX.excO C hp.objs.size)).get? b = some o := fun b o e => Heap.get?_push_of_some _ (Heap.get?_push_of_some _ e)
  have hget : ((hp.push (PySem.W.kdv_tup us)).push (PySem.HandSPX.excO C hp.objs.size)).get? (hp.objs.size + 1) = some (PySem.HandSPX.excO C hp.objs.size) := by heap_get
  have I3 : Inv X pins σ (upd H2 (hp.objs.size + 1) (exo (hp.objs.size + 1) C none)) ⟨(hp.push (PySem.W.kdv_tup us)).push (PySem.HandSPX.excO C hp.objs.size), g, dr, tk, os⟩ :=
    I2.laid (t' := tk) (a := hp.objs.size + 1) (o := exo (hp.objs.size + 1) C none) (h' := (hp.push (PySem.W.kdv_tup us)).push (PySem.HandSPX.excO C hp.objs.size)) k2 hsz (exo_ok hget)
  obtain ⟨a, ea0⟩ : ∃ a, a = hp.objs.size + 1 := ⟨_, rfl⟩
  rw [← ea0] at hsz na hget I3
  obtain ⟨all, so, b⟩ := cb.to ⟨_, g, dr, tk, os⟩ (.ref a :: us) ws I3.kIn (by rw [List.length_cons, ← rv.length, r1.length, l1]) (by rw [← rz.length, r2.length, l2])
  have rr : Vals (V.ref a :: (vs ++ zs)) (Value.ref a :: (us ++ ws)) := .cons rfl (rv.append rz)
  have r3 := so.vals rr
  obtain ⟨u0, all', rfl, so'⟩ : ∃ u0 all', all = u0 :: all' ∧ SelOk (.ref a :: (us ++ ws)) sel all' := by cases so; exact ⟨_, _, rfl, by assumption⟩
  have hR3 : Rs κ δ M2 σ (upd H2 a (exo a C none)) := R2.new na
  let QX : XK := fun cls d H' => ∃ C' ns' ds' M', cls = .ref C' ∧ Rs κ δ M' σ H' ∧ XRep M'.F H' d ns' ds' ∧ Φ (.exn C' ns' ds') M'
  have hl3 : (selV sel (V.ref a :: (vs ++ zs))).length = ns.length := by rw [← l3]; exact List.length_map ..
  have rp : Reps M2.F H2 (selV sel (V.ref a :: (vs ++ zs))) (selD sel (.raw (.ref a) :: (ds ++ zd))) :=
    SelOk.reps (us := .ref a :: (us ++ ws)) rr.length (.cons (.raw _) (r1.append r2)) so'
  have hq : spXI C ns (selV (.inl 0 :: sel) (V.ref a :: (vs ++ zs))) (upd H2 a (exo a C none)) (fun v H' => v = .non ∧ ∃ (d : Addr) (fs : List (Str × V)), H' a = some (exo a C (some d)) ∧ H' d = some (exd d fs) ∧ H2 d = none ∧ QX (.ref C) (some d) (upd (del H' a) d (.xd fs))) (fun _ _ _ => False) := by
    refine ⟨a, selV sel (V.ref a :: (vs ++ zs)), rfl, hl3, upd_same, fun dx H' n1 n2 e1 e2 e3 => ?_⟩
    have ndx : H2 dx = none := by rw [upd_ne n2] at n1; exact n1
    refine ⟨rfl, dx, _, e1, e2, ndx, ?_⟩
    have eq : upd (del H' a) dx (.xd (ns.reverse.zip (selV sel (V.ref a :: (vs ++ zs))).reverse)) = upd H2 dx (.xd (ns.reverse.zip (selV sel (V.ref a :: (vs ++ zs))).reverse)) := by
      funext b
      by_cases hb : b = dx
      · subst hb; rw [upd_same, upd_same]
      · rw [upd_ne hb, upd_ne hb]
        by_cases ha : b = a
        · subst ha; rw [del_same, na]
        · rw [del_ne ha, e3 b ha hb, upd_ne ha]
    rw [eq]
    exact ⟨C, ns.reverse, _, M2, rfl, R2.new ndx, .inr ⟨dx, _, rfl, R2.fresh ndx, upd_same, by rw [List.length_reverse, List.length_reverse, hl3], (Reps.reverse rp).fwd (Fwd.new ndx)⟩, q _⟩
  have hus : us.length ≤ sizeLine := by
    rw [← rv.length, r1.length, l1, sizeLine_eq]
    omega
  subst ea0
  refine wpAny_call (call_ownK F.excBase_ValueError (fun Y => PySem.HandSPX.refsVE_contains Y bm hbm) (I2.kIn _ _ hC) (PySem.W.looks_findIn I2.kIn iC) (fun self => PySem.W.bind_fn I2.kIn self tI) hus
    (codeAny_mono (F1.run _ X.stack _ _ ⟨Value.ref (hp.objs.size + 1) :: us, ks.zip ws⟩ _ _ _ (fun _ _ _ => False) ((z.room.mono hn).make C us (ks.zip ws)) (I3.env0.make C us (ks.zip ws)) b r3 hq) fun r s' hq' => ?_))
  cases r with
  | error er => exact hq'.elim
  | ok fl =>
    cases fl with
    | ret u =>
      obtain ⟨v, H3, os2, bare2, un2, hok2, rv', ev, d, fs, ea, ed, hd1, q2⟩ := hq'
      subst ev
      obtain ⟨h2, g2, d2, t2, os'⟩ := s'
      refine ⟨rv', ep_mk (mk_end (raises_own T.T.exC T.T.tyC) I2 (Nat.le_succ _) k2 un2 hok2 os2 bare2 ea ed hd1 q2) fun cls d' H' a' ⟨C', ns', ds', M', e1, R1', x1, q'⟩ na' => ?_⟩
      subst e1
      exact kk _ _ M' _ q' (R1'.new na') (x1.held (R1'.fresh na') na')
    | next => exact False.elim hq'
    | brk => exact False.elim hq'
    | cont => exact False.elim hq'
/-- an exception laid, by the call's shape -/
@[irreducible] def XnP (C : Addr) (ns : List Str) (sel : Sel) (n m : Nat) (Φ : D → Mem → Prop) (ds zs : List D) (M : Mem) : Prop := ds.length = n ∧ zs.length = m ∧ ∀ x, Φ (.exn C ns.reverse (selD sel (x :: (ds ++ zs))).reverse) M
theorem XnP.out {C : Addr} {ns : List Str} {sel : Sel} {n k : Nat} {ds zs : List D} (h : XnP C ns sel n k Φ ds zs M) : ds.length = n ∧ zs.length = k ∧ ∀ x, Φ (.exn C ns.reverse (selD sel (x :: (ds ++ zs))).reverse) M := by unfold XnP at h; exact h
theorem XnP.of {C : Addr} {ns : List Str} {sel : Sel} {n k : Nat} {ds zs : List D} (h : ds.length = n ∧ zs.length = k ∧ ∀ x, Φ (.exn C ns.reverse (selD sel (x :: (ds ++ zs))).reverse) M) : XnP C ns sel n k Φ ds zs M := by unfold XnP; exact h
theorem de_exnS {C : Addr} {x : Str} {ns : List Str} {sel : Sel} (z : Cz X m) (T : ExN X.prog X.w X.K X.mg X.base x C ns es.length (kwN kws) sel) (hn : 2 ≤ m) (h0 : es.length ≤ 1000) (h1 : sel.length = ns.length) (hg : Gl X x)
    (h : DAK B X es kws δ M fun ds zs M' => XnP C ns sel es.length (kwN kws).length Φ ds zs M') (pl : PlA X pos es kws (kwN kws))
    (hdb : (x == ("__debug__" : Str)) = false := by decide) : DE B X (.Call (.Name x pp) es kws pos) δ M Φ := by
  refine de_exnN z hn T hg ?_ pl hdb
  cases es <;> cases kws
  · have h := XnP.out h
    exact ⟨h.1, by simp, h.2.1, h1, h.2.2⟩
  · exact fun κ σ H Q hb R k => h κ σ H Q hb R fun vs ds M' H' q => k vs ds M' H' ⟨(XnP.out q).1, h0, (XnP.out q).2.1, h1, (XnP.out q).2.2⟩
  · exact fun κ σ H Q hb R k => h κ σ H Q hb R fun vs ds M' H' q => k vs ds M' H' ⟨(XnP.out q).1, h0, (XnP.out q).2.1, h1, (XnP.out q).2.2⟩
  · exact fun κ σ H Q hb R k => h κ σ H Q hb R fun vs ds M' H' q => k vs ds M' H' fun κ2 σ2 H2 Q2 hb2 R2 k2 => q κ2 σ2 H2 Q2 hb2 R2 fun vs2 ds2 M2 H2' q2 => k2 vs2 ds2 M2 H2' ⟨(XnP.out q2).1, h0, (XnP.out q2).2.1, h1, (XnP.out q2).2.2⟩
theorem xn_10 {C : Addr} {f : Str} {d : D} (h : Φ (.exn C [f] [d]) M) : XnP C [f] [.inl 1] 1 0 Φ [d] [] M := .of ⟨rfl, rfl, fun _ => h⟩
theorem xn_01 {C : Addr} {f : Str} {d : D} (h : Φ (.exn C [f] [d]) M) : XnP C [f] [.inl 1] 0 1 Φ [] [d] M := .of ⟨rfl, rfl, fun _ => h⟩
theorem xn_02 {C : Addr} {f g : Str} {d e : D} (h : Φ (.exn C [g, f] [d, e]) M) : XnP C [f, g] [.inl 2, .inl 1] 0 2 Φ [] [d, e] M := .of ⟨rfl, rfl, fun _ => h⟩
theorem xn_04 {C : Addr} {f g i j : Str} {d e a b : D} (h : Φ (.exn C [j, i, g, f] [e, d, b, a]) M) : XnP C [f, g, i, j] [.inl 3, .inl 4, .inl 1, .inl 2] 0 4 Φ [] [d, e, a, b] M := .of ⟨rfl, rfl, fun _ => h⟩
theorem idXn {C : Addr} {ns : List Str} {sel : Sel} {n k : Nat} {ds zs : List D} (h : XnP C ns sel n k Φ ds zs M) : XnP C ns sel n k Φ ds zs M := h
end
end Hl
namespace Hl
open PySem L2
open PyProof.Rows hiding St
/-! ### a, b, c = x, y, z where a name is a cell: no names are swapped -/
section
variable {B : Bx} {X : Cx} {e a b c o : Expr} {es rest : List Expr} {δ δ' : Env'} {M : Mem} {Φ : D → Mem → Prop} {Ψ : DEnds} {pos pos' apos pp np px py pz pt pt2 : Pos} {d : D} {x y w : Str} {kt k2 : Nat}
theorem fm_lt {α β : Type} {f : α → Option β} : ∀ {l : List α}, (∃ a ∈ l, f a = none) → (l.filterMap f).length < l.length
  | [], h => by obtain ⟨a, h, _⟩ := h; cases h
  | a :: l, h => by
    have hle : (l.filterMap f).length ≤ l.length := List.length_filterMap_le ..
    cases e : f a with
    | none => rw [List.filterMap_cons_none e, List.length_cons]; omega
    | some v =>
      rw [List.filterMap_cons_some e, List.length_cons, List.length_cons]
      obtain ⟨z, hz, hn⟩ := h
      rcases List.mem_cons.mp hz with rfl | hz
      · rw [e] at hn; cases hn
      · have := fm_lt (f := f) (l := l) ⟨z, hz, hn⟩; omega
theorem sws_cell {ts vs : List Expr} (hm : Expr.Name y py ∈ ts) (hy : X.env.kindOf y = some .cell) : swappedStores [.Tuple ts kt pt] (.Tuple vs k2 pt2) X.env = pure none := by
  unfold swappedStores
  simp only [bind_pure_comp, pure_bind]
  split
  · rfl
  · split
    · rfl
    · rw [if_pos]
      have := fm_lt (f := fun e : Expr => match e with
        | .Name id pos => if X.env.kindOf id == some .local && pos.line == ((ts.head?.map (·.pos.line)).getD 0) then some id else none
        | _ => none) (l := ts) ⟨_, hm, by dsimp only; rw [hy]; rfl⟩
      rw [Bool.or_eq_true]
      exact .inl (bne_iff_ne.mpr (Nat.ne_of_lt this))
theorem ds_asgN {ts vs : List Expr} (hm : Expr.Name y py ∈ ts) (hy : X.env.kindOf y = some .cell) (h : DE B X (.Tuple vs k2 pt2) δ M fun d M' => DG B X (.Tuple ts kt pt) d δ M' Ψ.nx) (hs : swapsWithSole [.Tuple ts kt pt] (.Tuple vs k2 pt2) pos.line X.env = pure false := by rfl) (h3 : (assignEach [.Tuple ts kt pt] X.env).map (·.2) = [assign (.Tuple ts kt pt) X.env] := by rfl) : DS B X (.Assign [.Tuple ts kt pt] (.Tuple vs k2 pt2) pos) δ M Ψ := ds_asg h hs (sws_cell hm hy) h3
end
end Hl
namespace Lw
open PySem L2 Hl
/-! ### the steps of a walk by data -/
local macro_rules | `(tactic| walk_at "lo") => `(tactic| first | assumption | exact LoP.toNmP (by assumption))
local macro_rules | `(tactic| walk_at "e1") => `(tactic| first
  | (refine idName ?_; first | refine de_name (by walk_at "lo") (by rfl) ?_ | refine de_gint (by assumption) ?_ | refine de_gstr (by assumption) ?_ | walk_at "tyn" | refine de_gclsP (by assumption) (by assumption) ?_)
  | (refine idCst ?_; first | refine de_int ?_ | refine de_str ?_ | refine de_bl ?_ | refine de_non ?_)
  | (refine idBin ?_; first | refine de_repD ?_ | refine de_add ?_ | refine de_sub ?_ | refine de_mul ?_ | refine de_div ?_ | refine de_mod ?_ | refine de_pow ?_)
  | (refine idCmp ?_; first | refine de_lt ?_ | refine de_le ?_ | refine de_gt ?_ | refine de_ge ?_ | refine de_eq (by assumption) ?_ | refine de_ne (by assumption) ?_ | refine de_isB ?_ | refine de_is ?_ | refine de_isnotB ?_ | refine de_isnot ?_ | refine de_in (by assumption) ?_ | refine de_notin (by assumption) ?_ | refine de_le2C ?_ | refine de_le2 ?_)
  | refine de_rev ?_ | refine de_slice ?_
  | refine de_ix (by assumption) ?_
  | (refine idCallN ?_; first | walk_at "call" | refine de_len (by assumption) ?_ | refine de_min2 (by assumption) (by assumption) ?_ | refine de_min3 (by assumption) (by assumption) ?_ | refine de_max2 (by assumption) (by assumption) ?_ | refine de_isiV (by assumption) ?_ | refine de_sum (by assumption) (by assumption) ?_ | refine de_list (by assumption) ?_ | refine de_tuple (by assumption) ?_ | refine de_maxDef (by assumption) (by assumption) ?_ (un64 (by assumption)) | refine de_minL (by assumption) (by assumption) ?_ | refine de_maxL (by assumption) (by assumption) ?_ | refine de_all (by assumption) (by assumption) ?_)
  | (refine idAttr ?_; refine de_fld ?_)
  | (refine idCallA ?_; first | refine de_append ?_ | refine de_insert ?_ | refine de_pop ?_ | walk_at "bm" | refine de_mU (by assumption) ?_)
  | refine de_and ?_ | refine de_or ?_ | refine de_not ?_ | refine de_one ?_ | refine de_if ?_ | refine de_neg ?_
  | refine de_tup ?_ | refine de_lst ?_)
open PyProof.Rows in
local macro_rules | `(tactic| walk_at "tyn") => `(tactic| first | refine de_tyN (T := "int") (by assumption) boot_int ?_ | refine de_tyN (T := "ValueError") (by assumption) (by decide +kernel) ?_ | refine de_tyN (T := "str") (by assumption) (by decide +kernel) ?_ | refine de_tyN (T := "bool") (by assumption) boot_bool ?_ | refine de_tyN (T := "list") (by assumption) boot_list ?_ | refine de_tyN (T := "tuple") (by assumption) boot_tuple ?_)
local macro_rules | `(tactic| walk_at "clsv") => `(tactic| first | exact .own _ | exact .ty _)
local macro_rules | `(tactic| walk_at "stf") => `(tactic| fail "no rule")
local macro_rules | `(tactic| walk_at "cl") => `(tactic| fail "no callee")
local macro_rules | `(tactic| walk_at "call") => `(tactic| first | refine de_call (by assumption) (by assumption) (by decide) (by assumption) ?_ | refine de_callK (by assumption) (by assumption) (by decide) (by assumption) ?_ | refine de_fS (by assumption) (by assumption) (by decide) (by assumption) (by walk_at "lets") ?_ (by walk_at "pla") | refine de_kS 0 (by assumption) (by assumption) (by decide) (by assumption) (by walk_at "lets") ?_ (by walk_at "pla"))
local macro_rules | `(tactic| walk_at "lets") => `(tactic| first | exact lets_at (by assumption) | exact lets_no)
local macro_rules | `(tactic| walk_at "pla") => `(tactic| first | exact rfl | exact ⟨rfl, rfl, rfl⟩ | exact ⟨rfl, rfl, rfl, rfl⟩)
local macro_rules | `(tactic| walk_at "bm") => `(tactic| first | refine de_dget2 (by assumption) ?_)
local macro_rules | `(tactic| walk_at "fld") => `(tactic| first | refine fld_v (by assumption) rfl ?_ | refine fld_x (by assumption) rfl ?_ | refine fld_c 0 rfl (by assumption) rfl ?_ | refine fld_c 1 rfl (by assumption) rfl ?_ | refine fld_c 2 rfl (by assumption) rfl ?_ | refine fld_c 3 rfl (by assumption) rfl ?_ | refine fld_c 4 rfl (by assumption) rfl ?_ | refine fld_c 5 rfl (by assumption) rfl ?_ | refine fld_c 6 rfl (by assumption) rfl ?_ | refine fld_c 7 rfl (by assumption) rfl ?_ | refine fld_c 8 rfl (by assumption) rfl ?_ | refine fld_h 0 rfl (by assumption) rfl ?_ | refine fld_h 1 rfl (by assumption) rfl ?_ | refine fld_h 2 rfl (by assumption) rfl ?_ | refine fld_h 3 rfl (by assumption) rfl ?_ | refine fld_h 4 rfl (by assumption) rfl ?_ | refine fld_p 0 rfl (by assumption) (by assumption) rfl ?_ | refine fld_p 1 rfl (by assumption) (by assumption) rfl ?_ | refine fld_p 2 rfl (by assumption) (by assumption) rfl ?_ | refine fld_p 3 rfl (by assumption) (by assumption) rfl ?_)
local macro_rules | `(tactic| walk_at "mt") => `(tactic| first | refine mt_vS (by assumption) (by decide) (by walk_at "lets") (by walk_at "pla") (by rfl) ?_ | refine mt_cS 0 rfl (by assumption) (by decide) (by walk_at "lets") (by walk_at "pla") (by rfl) ?_ | refine mt_cS 1 rfl (by assumption) (by decide) (by walk_at "lets") (by walk_at "pla") (by rfl) ?_ | refine mt_cS 2 rfl (by assumption) (by decide) (by walk_at "lets") (by walk_at "pla") (by rfl) ?_ | refine mt_cS 3 rfl (by assumption) (by decide) (by walk_at "lets") (by walk_at "pla") (by rfl) ?_ | refine mt_cS 4 rfl (by assumption) (by decide) (by walk_at "lets") (by walk_at "pla") (by rfl) ?_ | refine mt_cS 5 rfl (by assumption) (by decide) (by walk_at "lets") (by walk_at "pla") (by rfl) ?_ | refine mt_cS 6 rfl (by assumption) (by decide) (by walk_at "lets") (by walk_at "pla") (by rfl) ?_ | refine mt_cS 7 rfl (by assumption) (by decide) (by walk_at "lets") (by walk_at "pla") (by rfl) ?_ | refine mt_cS 8 rfl (by assumption) (by decide) (by walk_at "lets") (by walk_at "pla") (by rfl) ?_ | refine mt_hS 0 rfl (by assumption) (by decide) (by walk_at "lets") (by walk_at "pla") (by rfl) ?_ | refine mt_hS 1 rfl (by assumption) (by decide) (by walk_at "lets") (by walk_at "pla") (by rfl) ?_ | refine mt_hS 2 rfl (by assumption) (by decide) (by walk_at "lets") (by walk_at "pla") (by rfl) ?_ | refine mt_hS 3 rfl (by assumption) (by decide) (by walk_at "lets") (by walk_at "pla") (by rfl) ?_ | refine mt_hS 4 rfl (by assumption) (by decide) (by walk_at "lets") (by walk_at "pla") (by rfl) ?_ | refine mt_pS 0 rfl (by assumption) (by assumption) (by decide) (by walk_at "lets") (by walk_at "pla") (by rfl) ?_ | refine mt_pS 1 rfl (by assumption) (by assumption) (by decide) (by walk_at "lets") (by walk_at "pla") (by rfl) ?_ | refine mt_pS 2 rfl (by assumption) (by assumption) (by decide) (by walk_at "lets") (by walk_at "pla") (by rfl) ?_ | refine mt_pS 3 rfl (by assumption) (by assumption) (by decide) (by walk_at "lets") (by walk_at "pla") (by rfl) ?_)
local macro_rules | `(tactic| walk_at "ar") => `(tactic| first | refine ar_id rfl ?_ | refine ar_idM rfl ?_ | refine ar_idN rfl (fun _ => ?_) | refine ar_gM rfl rfl ?_ | refine ar_gN rfl rfl (fun _ => ?_) | refine ar_g rfl rfl ?_)
local macro_rules | `(tactic| walk_at "nef") => `(tactic| exact eq_false (by decide))
local macro_rules | `(tactic| walk_at "stf0") => `(tactic| first | refine sf_n0 0 rfl (by assumption) ?_ | refine sf_n1 0 rfl (by assumption) (by walk_at "nef") ?_ | refine sf_n2 0 rfl (by assumption) (by walk_at "nef") (by walk_at "nef") ?_ | refine sf_n3 0 rfl (by assumption) (by walk_at "nef") (by walk_at "nef") (by walk_at "nef") ?_ | refine sf_n4 0 rfl (by assumption) (by walk_at "nef") (by walk_at "nef") (by walk_at "nef") (by walk_at "nef") ?_ | refine sf_n5 0 rfl (by assumption) (by walk_at "nef") (by walk_at "nef") (by walk_at "nef") (by walk_at "nef") (by walk_at "nef") ?_)
local macro_rules | `(tactic| walk_at "pow") => `(tactic| first | refine p10_1 ?_ | refine p10_2 ?_ | refine p10_3 ?_ | refine p10_4 ?_ | refine p10_5 ?_ | refine p10_6 ?_ | refine p10_7 ?_ | refine p10_8 ?_ | refine p10_9 ?_ | refine p10_10 ?_ | refine p10_11 ?_ | refine p10_12 ?_ | refine p10_13 ?_ | refine p10_14 ?_ | refine p10_15 ?_ | refine p10_16 ?_ | refine p10_17 ?_ | refine p10_18 ?_ | refine p10_19 ?_ | refine p10_20 ?_ | refine p10_21 ?_ | refine p10_22 ?_ | refine p10_23 ?_ | refine p10_24 ?_ | refine p10_25 ?_ | refine p10_26 ?_ | refine p10_27 ?_ | refine p10_28 ?_ | refine p10_29 ?_ | refine p10_30 ?_ | refine p10_31 ?_ | refine p10_32 ?_ | refine p10_33 ?_ | refine p10_34 ?_ | refine p10_35 ?_ | refine p10_36 ?_ | refine p10_37 ?_ | refine p10_38 ?_ | refine p10_39 ?_ | refine p10_40 ?_ | refine p10_41 ?_ | refine p10_42 ?_ | refine p10_43 ?_ | refine p10_44 ?_ | refine p10_45 ?_)
local macro_rules | `(tactic| walk_at "lenb") => `(tactic| (refine len_lt ?_; first | omega | (simp only [List.length_map, List.length_append, List.length_cons, List.length_nil, List.length_range, List.length_replicate]; omega)))
local macro_rules | `(tactic| walk_at "pos") => `(tactic| first | assumption | omega | (refine ⟨?_, ?_⟩ <;> first | assumption | omega) | (refine ⟨?_, ?_, ?_⟩ <;> first | assumption | omega))
local macro_rules | `(tactic| walk_at "neg") => `(tactic| first | assumption | omega | (intro hh; simp_all; done))
local macro_rules | `(tactic| walk_at "ixauto") => `(tactic| first | refine od_ixT rfl ?_ | refine od_ixTE (by walk_at "rng") (fun _ _ => ?_) | refine od_ixE (by walk_at "rng") (fun _ _ => ?_) | refine od_ixEC 0 rfl (by walk_at "rng") (fun _ _ => ?_) | refine od_ixEC 1 rfl (by walk_at "rng") (fun _ _ => ?_) | refine od_ixEC 2 rfl (by walk_at "rng") (fun _ _ => ?_) | refine od_ixEC 3 rfl (by walk_at "rng") (fun _ _ => ?_))
local macro_rules | `(tactic| walk_at "islauto") => `(tactic| first
  | refine isl_c 0 rfl ?_ | refine isl_c 1 rfl ?_ | refine isl_c 2 rfl ?_ | refine isl_c 3 rfl ?_ | refine isl_c 4 rfl ?_ | refine isl_c 5 rfl ?_ | (refine idSet ?_; first | refine sd_listE 0 rfl (by walk_at "rng") rfl ?_ | refine sd_listE 1 rfl (by walk_at "rng") rfl ?_ | refine sd_listE 2 rfl (by walk_at "rng") rfl ?_ | refine sd_listE 3 rfl (by walk_at "rng") rfl ?_ | refine sd_dictI 0 rfl (by walk_at "lenb") ?_ | refine sd_dictI 1 rfl (by walk_at "lenb") ?_ | refine sd_dictI 2 rfl (by walk_at "lenb") ?_ | refine sd_dictS 0 rfl (by walk_at "lenb") ?_ | refine sd_dictS 1 rfl (by walk_at "lenb") ?_ | refine sd_dictS 2 rfl (by walk_at "lenb") ?_) | refine isd_c 0 rfl ?_ | refine isd_c 1 rfl ?_ | refine isd_c 2 rfl ?_ | refine isd_c 3 rfl ?_ | refine dg_i 0 rfl ?_ | refine dg_i 1 rfl ?_ | refine dg_i 2 rfl ?_ | refine dg_i 3 rfl ?_ | refine dg_s 0 rfl ?_ | refine dg_s 1 rfl ?_ | refine dg_s 2 rfl ?_ | refine dg_s 3 rfl ?_
  | (refine idApp ?_; first | refine mt_app (j := 0) rfl (by walk_at "lenb") ?_ | refine mt_app (j := 1) rfl (by walk_at "lenb") ?_ | refine mt_app (j := 2) rfl (by walk_at "lenb") ?_ | refine mt_app (j := 3) rfl (by walk_at "lenb") ?_ | refine mt_app (j := 4) rfl (by walk_at "lenb") ?_ | refine mt_app (j := 5) rfl (by walk_at "lenb") ?_))
local macro_rules | `(tactic| walk_at "t") => `(tactic| first | (refine idLk ?_; first | refine lkle ?_ | refine lklt ?_ | refine lk1le ?_ | refine lk1lt ?_ | refine lkgt ?_ | refine lkge ?_ | refine lk1gt ?_ | refine lk1ge ?_) | (refine idTC ?_; refine dt_chn ?_) | (refine idCmp ?_; refine de_chn ?_) | (refine idFld ?_; refine fld_o (by assumption) (by assumption) rfl ?_) | (refine idMt ?_; refine mt_oS (by assumption) (by assumption) (by decide) (by walk_at "lets") (by walk_at "pla") (by rfl) ?_) | (refine idC ?_; first | refine cd_lenLM (.val _) ?_ | refine cd_lenLM (.cell 0 rfl) ?_ | refine cd_lenLM (.cell 1 rfl) ?_ | refine cd_lenLM (.cell 2 rfl) ?_) | walk_at "s" | (refine idOx ?_; walk_at "ixauto") | walk_at "islauto")
local macro_rules | `(tactic| walk_at "rng") => `(tactic| first | exact ⟨by omega, by omega⟩ | exact ⟨by simp; omega, by simp; omega⟩)
local macro_rules | `(tactic| walk_at "ox") => `(tactic| fail "no rule")
local macro_rules | `(tactic| walk_at "o1") => `(tactic| first
  | (refine idOx ?_; first | refine st_great ?_ | refine st_rest ?_ | refine st_turn ?_ | refine st_seed ?_ | refine st_cells ?_ | walk_at "ox")
  | refine od_addI ?_ | refine od_sub ?_ | refine od_lt ?_ | refine od_le ?_ | refine od_gt ?_ | refine od_ge ?_ | refine od_eqI ?_ | refine od_neI ?_ | refine od_isN ?_ | refine od_isB ?_ | refine od_notB ?_ | refine od_notN ?_ | refine oi_addI ?_ | refine od_inS ?_ | refine od_notinS ?_ | refine od_inN (.val _) ?_ | refine od_notinN (.val _) ?_ | refine od_mod (by omega) ?_ | refine od_mulS (by omega) ?_ | refine od_divS (by omega) (by omega) ?_ | walk_at "pow" | walk_at "ox")
local macro_rules | `(tactic| walk_at "set") => `(tactic| first | refine se0 ?_ | refine se1 ?_ | refine se2 ?_ | refine se3 ?_ | refine se4 ?_ | refine se5 ?_ | refine se6 ?_ | refine se7 ?_ | refine se8 ?_ | refine se9 ?_ | refine se10 ?_ | refine se11 ?_ | refine se12 ?_ | refine se13 ?_ | refine se14 ?_ | refine se15 ?_ | refine se16 ?_ | refine se17 ?_ | refine se18 ?_ | refine se19 ?_ | refine se20 ?_ | refine se21 ?_ | refine se22 ?_ | refine se23 ?_ | refine se24 ?_ | refine se25 ?_ | refine se26 ?_ | refine se27 ?_ | refine se28 ?_ | refine se29 ?_ | refine se30 ?_ | refine se31 ?_ | refine se32 ?_ | refine se33 ?_ | refine se34 ?_ | refine se35 ?_)
local macro_rules | `(tactic| walk_at "br") => `(tactic| first | refine Br.yes ?_ | refine Br.no ?_ | refine Br.decT (by omega) ?_ | refine Br.decF (by omega) ?_ | refine Br.ndecT (by omega) ?_ | refine Br.ndecF (by omega) ?_ | refine Br.dec (fun _ => ?_) (fun _ => ?_) | refine Br.ndec (fun _ => ?_) (fun _ => ?_) | refine Br.neg ?_ | refine Br.mk (fun _ => ?_) (fun _ => ?_))
local macro_rules | `(tactic| walk_at "s") => `(tactic| first
  | (refine idE ?_; walk_at "e1")
  | (refine idO ?_; walk_at "o1")
  | (refine idA ?_; first | refine da_cons ?_ | refine da_nil ?_)
  | (refine idSs ?_; first | refine ds_cons ?_ | refine ds_nil ?_)
  | (refine idSl ?_; walk_at "set")
  | (refine idFld ?_; walk_at "fld")
  | refine endA ?_
  | (refine idUns ?_; first | refine ua0 ?_ | refine ua1 ?_ | refine ua2 ?_ | refine ua3 ?_ | refine ua4 ?_ | refine ua5 ?_ | refine ua6 ?_ | refine ua7 ?_ | refine ua8 ?_ | refine ua9 ?_ | refine ua10 ?_ | refine ua11 ?_ | refine ua12 ?_ | refine ua13 ?_ | refine ua14 ?_ | refine ua15 ?_ | refine ua16 ?_ | refine ua17 ?_ | refine ua18 ?_ | refine ua19 ?_ | refine ua20 ?_ | refine ua21 ?_ | refine ua22 ?_ | refine ua23 ?_)
  | refine exh_yesP (by assumption) (fun _ _ _ => ?_) | refine exh_noP (by assumption) ?_
  | (refine idMt ?_; walk_at "mt")
  | (refine idStF ?_; first | walk_at "stf0" | walk_at "stf")
  | (refine idDAK ?_; first | refine dak_en ?_ | refine dak_nn ?_ | refine dak_nk ?_ | refine dak_ek ?_)
  | walk_at "ar"
  | (refine idS ?_; first
    | (refine idAsg ?_; first | refine ds_set (by assumption) (by assumption) ?_ | refine ds_setN (by assumption) (by assumption) ?_ | refine ds_fldU ?_ | refine ds_par2 (by assumption) (by assumption) (by assumption) (by decide) (kind_of (by assumption) (by decide +kernel)) (kind_of (by assumption) (by decide +kernel)) (blk_of (by assumption) (by decide +kernel)) (by decide) ?_ | refine ds_par3 (by assumption) (by assumption) (by assumption) (by assumption) (by decide) (by decide) (by decide) (kind_of (by assumption) (by decide +kernel)) (kind_of (by assumption) (by decide +kernel)) (kind_of (by assumption) (by decide +kernel)) (blk_of (by assumption) (by decide +kernel)) (by decide) (by decide) (by decide) ?_ | refine ds_asgC ?_ | refine ds_asg ?_)
    | (refine idRaise ?_; first | refine ds_raise (by assumption) (by assumption) (by assumption) (by assumption) ?_ | refine ds_raiseI (by assumption) (by decide) (by assumption) (by assumption) (by assumption) ?_ | refine ds_raise0 (by assumption) (by assumption) (by assumption) (by assumption) ?_)
    | refine ds_ret ?_ | refine ds_if ?_ | refine ds_expr ?_
    | refine ds_augAdd (by assumption) (by assumption) (by rfl) ?_ | refine ds_augSub (by assumption) (by assumption) (by rfl) ?_
    | refine ds_pass ?_ | refine ds_retN ?_ | refine ds_break ?_ | refine ds_continue ?_)
  | (refine idBr ?_; walk_at "br")
  | refine toB.mk ?_
  | (refine idTC ?_; first | refine dt_lt ?_ | refine dt_le ?_ | refine dt_gt ?_ | refine dt_ge ?_ | refine dt_eq (by assumption) ?_ | refine dt_ne (by assumption) ?_ | refine dt_isB ?_ | refine dt_is ?_ | refine dt_isnotB ?_ | refine dt_isnot ?_ | refine dt_in (by assumption) ?_ | refine dt_notin (by assumption) ?_ | refine dt_val ?_)
  | (refine idT ?_; first | refine dt_not ?_ | refine dt_and ?_ | refine dt_or ?_ | refine dt_val ?_)
  | (refine idW ?_; first | refine dw_and1 ?_ | refine dw_or1 ?_ | refine dw_and ?_ | refine dw_or ?_)
  | (refine idC ?_; first | refine cd_min2 ?_ | refine cd_min3 ?_ | refine cd_max2 ?_ | (refine CallD.inl (CallD.inl ?_); first | refine isi_ii ?_ | refine isi_ib ?_ | refine isi_bb ?_ | refine isi_bi ?_ | refine isi_ll ?_ | refine isi_tt ?_ | refine isi_ni ?_ | refine isi_nb ?_ | refine isi_nt ?_) | refine CallD.inl (isx_xP (by assumption) (by walk_at "clsv") (by assumption) ?_) | refine CallD.inl (isx_oP (.val _ _ _) (by assumption) (by walk_at "clsv") (by assumption) ?_) | refine CallD.inl (isx_bP rfl (by walk_at "clsv") (by assumption) ?_) | refine isx_t2P (by assumption) (by walk_at "clsv") (by walk_at "clsv") (by assumption) (by assumption) ?_ | refine cd_lenL (.val _) ?_ | refine cd_lenT ?_ | refine cd_lenX ?_ | walk_at "ox")
  | (refine idG ?_; first | refine dg_name (by assumption) (by assumption) ?_ | refine dg_sub (by assumption) ?_ | refine dg_tup (by assumption) (by rfl) ?_)
  | (refine idGs ?_; first | refine dgs_cons ?_ | refine dgs_nil ?_)
  | (refine idK ?_; first | refine dk_cons ?_ | refine dk_nil ?_)
  | refine DPt.no ?_ | refine DPt.so ?_
  | refine len_and (Nat.le_of_ble_eq_true rfl) ?_ | refine len_andI rfl (Nat.le_of_ble_eq_true rfl) ?_
  | walk_at "cl"
  | refine ex_i ?_ | refine ex_2 ?_ | refine ex_3 ?_ | refine ex_l ?_ | refine ex_ii ?_ | refine ex_t ?_ | refine ex_s ?_ | refine ex_x ?_
  | (refine idSet ?_; first | refine set_rest ?_ | refine set_turn ?_ | refine set_seed ?_ | walk_at "ox"))
section
variable {B : Bx} {X : Cx} {e c tg it : Expr} {s1 s2 sts : List Stmt} {δ : Env'} {M : Mem} {Ψ : DEnds} {p p' : Pos}
theorem stIf (h : DSs B X (.If c s1 s2 p :: sts) δ M Ψ) : DSs B X (.If c s1 s2 p :: sts) δ M Ψ := h
theorem stFor (h : DSs B X (.For tg it s1 s2 p :: sts) δ M Ψ) : DSs B X (.For tg it s1 s2 p :: sts) δ M Ψ := h
theorem stTry {hs : List ExceptHandler} {s3 : List Stmt} (h : DSs B X (.Try s1 hs s2 s3 p :: sts) δ M Ψ) : DSs B X (.Try s1 hs s2 s3 p :: sts) δ M Ψ := h
theorem stSet (x : Str) (h : DSs B X (.Assign [.Name x p'] e p :: sts) δ M Ψ) : DSs B X (.Assign [.Name x p'] e p :: sts) δ M Ψ := h
theorem stAug (x : Str) {op : Operator} (h : DSs B X (.AugAssign (.Name x p') op e p :: sts) δ M Ψ) : DSs B X (.AugAssign (.Name x p') op e p :: sts) δ M Ψ := h
end
local macro_rules | `(tactic| walk_at "up") => `(tactic| repeat' first | exact UpO.nil | exact Ups.nil | exact Up.here | apply UpO.some | apply UpO.none | apply UpO.any | apply Up.tup | apply Ups.cons | exact Up.same _)
local macro_rules | `(tactic| walk_at "o1") => `(tactic| refine od_addT (Nat.le_of_ble_eq_true rfl) ?_)
local macro_rules | `(tactic| walk_at "bm") => `(tactic| first | refine de_join ?_ | refine de_count ?_ | refine de_index ?_ | refine de_clear ?_ | refine de_pop0 ?_)
local macro_rules | `(tactic| walk_at "call") => `(tactic| first | refine de_max3 (by assumption) (by assumption) ?_ | refine de_exnS (by assumption) (by assumption) (by decide) (by decide) (by rfl) (by assumption) ?_ (by walk_at "pla") | refine de_exn0 (by assumption) (by assumption) ?_)
local macro_rules | `(tactic| walk_at "t") => `(tactic| (refine idXn ?_; first | refine xn_10 ?_ | refine xn_01 ?_ | refine xn_02 ?_ | refine xn_04 ?_))
local macro_rules | `(tactic| walk_at "cl") => `(tactic| refine cd_max3 ?_)
def top (i : Nat) : Stmt := PySem.Challenge.pw_hourlanes_k09_refusals_apart.main.body.getD i (.Pass ⟨0, 0, 0, 0⟩)
local macro_rules | `(tactic| walk_at "cl") => `(tactic| first | refine c_take (by omega) (by omega) (by omega) (fun _ _ _ => ?_) | refine c_begun (by omega) (fun _ _ => ?_))
abbrev s_law_take : Stmt := top 22
def n_law_take : List Str := ["_law_state", "_law_many", "_law_found", "_law_turn", "_law_cell", "_law_seed", "_law_mixed"]
theorem sc_law_take : FnScope n_law_take ["_law_state", "_law_many"] (defScope s_law_take) := ⟨rfl, rfl, rfl, by decide +kernel, rfl, by decide +kernel, by decide +kernel⟩
theorem d_law_take {P : Program} {w : World} {K : PySem.W.Frag} {mg : Str → Option Value} {base : Heap} {f : Addr} {fd : FuncData} (F : Fun K "_law_take" "_law_take" s_law_take f fd)
    (G_len : mg "len" = none) : FnOk P w K mg base CX0 1 f fd ["_law_state", "_law_many"] (lift pTake) := by
  refine fnok_of (N := n_law_take) (k := 0) F sc_law_take (fun ds M Φ h => by obtain ⟨s, g, b, n, M', rfl, rfl, hn, hn2, k⟩ := h; rfl) fun X B I ds M Φ h => ?_
  obtain ⟨s, g, b, n, M', rfl, rfl, hn, hn2, k⟩ := h
  obtain ⟨rfl, rfl, rfl, rfl, rfl, hN, hs, hf, z, xe⟩ := I
  have hp := passes_of xe
  have n0 : Lo X 0 "_law_state" := lo_of hN hs hf (by decide +kernel)
  have n1 : Lo X 1 "_law_many" := lo_of hN hs hf (by decide +kernel)
  have n2 : Lo X 2 "_law_found" := lo_of hN hs hf (by decide +kernel)
  have n3 : Lo X 3 "_law_turn" := lo_of hN hs hf (by decide +kernel)
  have n4 : Lo X 4 "_law_cell" := lo_of hN hs hf (by decide +kernel)
  have n5 : Lo X 5 "_law_seed" := lo_of hN hs hf (by decide +kernel)
  have n6 : Lo X 6 "_law_mixed" := lo_of hN hs hf (by decide +kernel)
  have g_len : Gn X "len" := gn_of hs (by decide +kernel) G_len
  clear F hf
  change DSs _ X (_ :: _) [_, _, _, _, _, _, _] _ _
  refine ws_stOpen fun gs r t e cs ok => ?_
  have hr := ok.hr
  have hn2 : n < 2 ^ 1000 := hn2
  have ht := ok.ht
  have htb := ok.htb
  have he := ok.he
  have he2 := ok.he2
  repeat' walk_at "s"
  · -- rest is 0
    refine od_neNil (.cell 1 rfl) (okE_ints _) ?_
    repeat' walk_at "s"
    · -- no great cells: a number mixed
      rw [List.length_map]
      have hc1 := ok.hc1
      have hc2 := ok.hc2
      repeat' walk_at "s"
      obtain ⟨c, hc, ec⟩ := at_int (cs := cs) (i := t % (cs.length : Nat)) (Int.emod_nonneg _ (by omega)) (Int.emod_lt_of_pos _ (by omega))
      refine od_ixL ec ?_
      obtain ⟨hc0, hc3⟩ := ok.hcs c hc
      have m1 := Int.emod_nonneg (e * 48271 + c * (2 * t + 3) + t ^ (3 : Int).toNat) (show (2147483647 : Int) ≠ 0 by decide)
      have m2 := Int.emod_lt_of_pos (e * 48271 + c * (2 * t + 3) + t ^ (3 : Int).toNat) (show (0 : Int) < 2147483647 by decide)
      have m3 := Int.emod_nonneg (((e * 48271 + c * (2 * t + 3) + t ^ (3 : Int).toNat) % 2147483647) ^ (2 : Int).toNat) (show (2147483629 : Int) ≠ 0 by decide)
      have m4 := Int.emod_lt_of_pos (((e * 48271 + c * (2 * t + 3) + t ^ (3 : Int).toNat) % 2147483647) ^ (2 : Int).toNat) (show (0 : Int) < 2147483629 by decide)
      generalize hS : (e * 48271 + c * (2 * t + 3) + t ^ (3 : Int).toNat) % 2147483647 = S at m1 m2 m3 m4
      generalize hU : S ^ (2 : Int).toNat % 2147483629 = U at m3 m4
      repeat' walk_at "s"
      refine od_pow ⟨by decide, by decide, by omega⟩ ?_
      repeat' walk_at "s"
      rw [hS]
      repeat' walk_at "s"
      refine od_pow ⟨by decide, by decide, by omega⟩ ?_
      repeat' walk_at "s"
      rw [hU]
      repeat' walk_at "s"
      refine od_pow ⟨by decide, by decide, by omega⟩ ?_
      repeat' walk_at "s"
      refine ⟨_, _, .stc (b := b) ⟨ok.hgs, hr, by omega, by omega, m1, m2, ok.hcs, ok.hc1, ok.hc2⟩, k _ (Int.emod_nonneg _ (by omega)) (Int.emod_lt_of_pos _ (by omega))⟩
    · -- the next great cell
      rename_i hg
      cases gs with
      | nil => exact absurd hg (by decide)
      | cons g0 gs =>
        refine ⟨⟨_, .cell 1 rfl⟩, ?_⟩
        repeat' walk_at "s"
        refine mt_popD (j := 1) (m := 0) (d := .int g0) (ds := .int g0 :: gs.map .int) rfl (by decide) (by decide) (seqIndex_of (by decide) (by simp)) rfl ?_
        have h0 : 0 < g0 := ok.hgs g0 List.mem_cons_self
        have ok1 : ∀ r', 0 ≤ r' → StOk b gs r' t e cs := fun r' hr' => ⟨fun x hx => ok.hgs x (List.mem_cons_of_mem _ hx), hr', ok.ht, by omega, ok.he, ok.he2, ok.hcs, ok.hc1, ok.hc2⟩
        repeat' walk_at "s"
        exact ⟨_, _, .stc (ok1 _ (Int.ediv_nonneg (by omega) (by omega))), k _ (Int.emod_nonneg _ (by omega)) (Int.emod_lt_of_pos _ (by omega))⟩
  · exact ⟨_, _, .stc (b := b) ⟨ok.hgs, Int.ediv_nonneg (by omega) (by omega), ht, by omega, he, he2, ok.hcs, ok.hc1, ok.hc2⟩, k _ (Int.emod_nonneg _ (by omega)) (Int.emod_lt_of_pos _ (by omega))⟩
abbrev s_law_begun : Stmt := top 21
def n_law_begun : List Str := ["_law_script", "_law_cell"]
theorem sc_law_begun : FnScope n_law_begun ["_law_script"] (defScope s_law_begun) := ⟨rfl, rfl, rfl, by decide +kernel, rfl, by decide +kernel, by decide +kernel⟩
theorem d_law_begun {P : Program} {w : World} {K : PySem.W.Frag} {mg : Str → Option Value} {base : Heap} {f : Addr} {fd : FuncData} (F : Fun K "_law_begun" "_law_begun" s_law_begun f fd)
     : FnOk P w K mg base CX0 1 f fd ["_law_script"] (lift (pBegun K)) := by
  refine fnok_of (N := n_law_begun) (k := 0) F sc_law_begun (fun ds M Φ h => by obtain ⟨ns, rfl, hl, k⟩ := h; rfl) fun X B I ds M Φ h => ?_
  obtain ⟨ns, rfl, hl, k⟩ := h
  obtain ⟨rfl, rfl, rfl, rfl, rfl, hN, hs, hf, z, xe⟩ := I
  have hp := passes_of xe
  have n0 : Lo X 0 "_law_script" := lo_of hN hs hf (by decide +kernel)
  clear F hf
  change DSs _ X (_ :: _) [_, _] _ _
  refine ds_one (ds_ret (de_disp 0 rfl rfl rfl (by simp) (by decide) fun p => ?_))
  simp only [DPs]
  repeat' walk_at "s"
  refine DE.own 1 (df_lc 0 z hN hs [("_law_cell", 1)] (.one 1) (by decide +kernel) (by decide) (fun X' bk => pg_one bk z (bk.lo hN hs (by decide +kernel))) ?_)
  refine di_scr ?_
  repeat' walk_at "s"
  refine LcH.pure bigF (by rw [List.length_map]; exact Nat.le_trans hl (by decide)) (fun q acc x hx => ?_) ?_
  · obtain ⟨n, hn, rfl⟩ := List.mem_map.mp hx
    refine ⟨_, rfl, fun X' bk => ?_⟩
    have c0 : Lo X' 1 "_law_cell" := bk.lo hN hs (by decide +kernel)
    have z' := bk.z z
    repeat' walk_at "s"
    · rename_i h
      intro X' bk
      have c0 : Lo X' 1 "_law_cell" := bk.lo hN hs (by decide +kernel)
      have z' := bk.z z
      repeat' walk_at "s"
      exact ⟨(if_pos h).symm, rfl⟩
    · rename_i h
      exact ⟨(if_neg h).symm, rfl⟩
  intro g
  rw [big_map]
  repeat' walk_at "s"
  refine DE.f (df_lc 0 z hN hs [("_law_cell", 1)] (.one 1) (by decide +kernel) (by decide) (fun X' bk => pg_one bk z (bk.lo hN hs (by decide +kernel))) ?_)
  refine di_scr ?_
  repeat' walk_at "s"
  refine LcH.pure modF (by rw [List.length_map]; exact Nat.le_trans hl (by decide)) (fun q acc x hx => ?_) ?_
  · obtain ⟨n, hn, rfl⟩ := List.mem_map.mp hx
    refine ⟨_, rfl, fun X' bk => ?_⟩
    have c0 : Lo X' 1 "_law_cell" := bk.lo hN hs (by decide +kernel)
    have z' := bk.z z
    repeat' walk_at "s"
    exact ⟨rfl, rfl⟩
  rw [rest_map]
  repeat' walk_at "s"
  refine od_addL (by simp; exact Nat.le_trans (Nat.succ_le_succ hl) (by decide)) ?_
  refine ⟨0, [(.inr "great", .raw (.ref g)), (.inr "rest", .int 0), (.inr "turn", .int 0), (.inr "seed", .int 7), (.inr "cells", .lst (((ns.map fun n => n % 2147483629) ++ [77]).map .int))], rfl, by rw [List.map_append]; rfl, by show 5 ≤ 15; decide, ?_⟩
  exact ⟨_, _, .stc (begun_ok ns hl), k _ _⟩
def pPick : DSp := fun ds M Φ => ∃ s g b M' x, ds = [.raw (.ref s), x] ∧ M = (s, .st g b) :: M' ∧ 1 ≤ b ∧ ((∃ l : List D, x = .lst l ∧ 0 < l.length ∧ l.length ≤ 1000 ∧ ∀ d ∈ l, Φ d ((s, .st g (b - 1)) :: M')) ∨ (∃ t : Str, x = .str t ∧ 0 < t.length ∧ t.length ≤ 1000 ∧ ∀ c ∈ t.cps.toList, Φ (.str ⟨#[c]⟩) ((s, .st g (b - 1)) :: M')))
theorem c_pickS {t : Str} {s g : Addr} {b : Nat} {M : Mem} {Φ : D → Mem → Prop} (hb : 1 ≤ b) (h0 : 0 < t.length) (h1 : t.length ≤ 1000) (k : ∀ c ∈ t.cps.toList, Φ (.str ⟨#[c]⟩) ((s, .st g (b - 1)) :: M)) : pPick [.raw (.ref s), .str t] ((s, .st g b) :: M) Φ :=
  ⟨s, g, b, M, _, rfl, rfl, hb, .inr ⟨_, rfl, h0, h1, k⟩⟩
abbrev s_law_pick : Stmt := top 23
def n_law_pick : List Str := ["_law_state", "_law_some"]
theorem sc_law_pick : FnScope n_law_pick ["_law_state", "_law_some"] (defScope s_law_pick) := ⟨rfl, rfl, rfl, by decide +kernel, rfl, by decide +kernel, by decide +kernel⟩
theorem d_law_pick {P : Program} {w : World} {K : PySem.W.Frag} {mg : Str → Option Value} {base : Heap} {f : Addr} {fd : FuncData} (F : Fun K "_law_pick" "_law_pick" s_law_pick f fd)
    (D_law_take : Def P w K mg base 1 "_law_take" ["_law_state", "_law_many"] pTake) (G_len : mg "len" = none) : FnOk P w K mg base CX0 2 f fd ["_law_state", "_law_some"] (lift pPick) := by
  refine fnok_of (N := n_law_pick) (k := 1) F sc_law_pick (fun ds M Φ h => by obtain ⟨s, g, b, M', x, rfl, rfl, hb, hx⟩ := h; rfl) fun X B I ds M Φ h => ?_
  obtain ⟨s, g, b, M', x, rfl, rfl, hb, hx⟩ := h
  obtain ⟨rfl, rfl, rfl, rfl, rfl, hN, hs, hf, z, xe⟩ := I
  have hp := passes_of xe
  have n0 : Lo X 0 "_law_state" := lo_of hN hs hf (by decide +kernel)
  have n1 : Lo X 1 "_law_some" := lo_of hN hs hf (by decide +kernel)
  have l_law_take : Gl X "_law_take" := gl_of hs (by decide +kernel)
  have g_len : Gn X "len" := gn_of hs (by decide +kernel) G_len
  clear F hf
  change DSs _ X (_ :: _) [_, _] _ _
  rcases hx with ⟨l, rfl, h0, h1, k⟩ | ⟨t, rfl, h0, h1, k⟩
  · repeat' walk_at "t"
    rename_i r hr0 hr1
    have hl : r.toNat < l.length := by omega
    refine od_ixL (d := l[r.toNat]) ?_ ?_
    · obtain ⟨n, rfl⟩ : ∃ n : Nat, r = (n : Int) := ⟨r.toNat, by omega⟩
      exact atI_nat (by simp)
    · exact ⟨_, _, .refl, k _ (List.getElem_mem hl)⟩
  · repeat' walk_at "t"
    refine cd_lenS (Nat.le_trans h1 (by decide)) ?_
    repeat' walk_at "t"
    rename_i r hr0 hr1
    obtain ⟨c, ec⟩ := at_sign (z := t) (i := r) hr0 hr1
    refine od_ixS (Nat.le_trans h1 (by decide)) ec ?_
    refine ⟨_, _, .refl, k c ?_⟩
    obtain ⟨n, rfl⟩ : ∃ n : Nat, r = (n : Int) := ⟨r.toNat, by omega⟩
    unfold atI at ec
    cases e : ixN t.cps.toList.length (n : Int) with
    | none => rw [e] at ec; cases ec
    | some m => rw [e] at ec; exact List.mem_of_getElem? ec
structure J where
  size : Int
  rate : Int
  mouth : Int
structure JOk (j : J) : Prop where
  r1 : 1 ≤ j.rate
  rm : j.rate ≤ j.mouth
  ms : j.mouth ≤ j.size
  sz : j.size ≤ 1000000000
abbrev jNs : List Str := ["size", "rate", "mouth"]
abbrev fNs : List Str := ["jar", "marks"]
abbrev jD (c : Addr) (j : J) : D := .obj c jNs [.int j.size, .int j.rate, .int j.mouth]
abbrev fFs (c : Addr) (j : J) (m : Int) : List D := [jD c j, .int m]
abbrev fD (cF cJ : Addr) (j : J) (m : Int) : D := .obj cF fNs (fFs cJ j m)
def mayF (j : J) (m : Int) : Int := min j.mouth m
def comeF (j : J) (m n : Int) : Int := min j.size (m - n + j.rate)
def aheadF (j : J) (m t : Int) : Int := min j.size (m + j.rate * t)
def pJarI (cJ cX : Addr) : DSpE := fun ds M Φ Ξ => ∃ a s r m M', ds = [.raw (.ref a), .int s, .int r, .int m] ∧ M = (a, .obj cJ [] []) :: M' ∧ (JOk ⟨s, r, m⟩ → Φ .non ((a, .obj cJ jNs [.int s, .int r, .int m]) :: M')) ∧ (¬ JOk ⟨s, r, m⟩ → Ξ cX [] [] M')
def pTold (cJ : Addr) : DSpE := fun ds M Φ _ => ∃ j, ds = [jD cJ j] ∧ Φ (.tup [.int j.size, .int j.rate, .int j.mouth]) M
def marksOf (j : J) : D → Option Int
  | .non => some j.size
  | .int i => some i
  | _ => none
def pFlowI (cF cJ cX : Addr) : DSpE := fun ds M Φ Ξ => ∃ a j mv m M', ds = [.raw (.ref a), jD cJ j, mv] ∧ marksOf j mv = some m ∧ M = (a, .obj cF [] []) :: M' ∧ ((0 ≤ m ∧ m ≤ j.size) → Φ .non ((a, .obj cF fNs (fFs cJ j m)) :: M')) ∧ (¬ (0 ≤ m ∧ m ≤ j.size) → Ξ cX [] [] M')
def pMay (cF cJ : Addr) : DSpE := fun ds M Φ _ => ∃ x j m, ds = [x] ∧ IsO M x cF fNs (fFs cJ j m) ∧ Φ (.int (mayF j m)) M
def pCome (cF cJ cX : Addr) : DSpE := fun ds M Φ Ξ => ∃ p j m n, ∃ i : Nat, ds = [.raw (.ref p), .int n] ∧ M[i]? = some (p, .obj cF fNs (fFs cJ j m)) ∧ ((0 ≤ n ∧ n ≤ mayF j m) → Φ (.int (comeF j m n)) (M.set i (p, .obj cF fNs (fFs cJ j (comeF j m n))))) ∧ (¬ (0 ≤ n ∧ n ≤ mayF j m) → Ξ cX ["bound", "name"] [.int (mayF j m), .str ""] M)
def pAhead (cF cJ cX : Addr) : DSpE := fun ds M Φ Ξ => ∃ x j m t, ds = [x, .int t] ∧ IsO M x cF fNs (fFs cJ j m) ∧ JOk j ∧ (0 ≤ t → Φ (.int (aheadF j m t)) M) ∧ (t < 0 → Ξ cX [] [] M)
theorem c_jar {cJ cX a : Addr} {s r m : Int} {M : Mem} {Φ : D → Mem → Prop} {Ξ : XPost} (h : JOk ⟨s, r, m⟩) (k : Φ (jD cJ ⟨s, r, m⟩) M) : pJarI cJ cX [.raw (.ref a), .int s, .int r, .int m] (insM 0 (a, .obj cJ [] []) M) (Made a Φ) Ξ := ⟨a, s, r, m, M, rfl, rfl, fun _ => .val 0 rfl k, fun z => absurd h z⟩
theorem c_told {cJ : Addr} {j : J} {M : Mem} {Φ : D → Mem → Prop} {Ξ : XPost} (k : Φ (.tup [.int j.size, .int j.rate, .int j.mouth]) M) : pTold cJ [jD cJ j] M Φ Ξ := ⟨j, rfl, k⟩
theorem c_may {cF cJ : Addr} {x : D} {j : J} {m : Int} {M : Mem} {Φ : D → Mem → Prop} {Ξ : XPost} (io : IsO M x cF fNs (fFs cJ j m)) (k : Φ (.int (mayF j m)) M) : pMay cF cJ [x] M Φ Ξ := ⟨x, j, m, rfl, io, k⟩
theorem c_mayV {cF cJ : Addr} {j : J} {m : Int} {M : Mem} {Φ : D → Mem → Prop} {Ξ : XPost} (k : Φ (.int (mayF j m)) M) : pMay cF cJ [fD cF cJ j m] M Φ Ξ := c_may (.val _ _ _) k
local macro_rules | `(tactic| walk_at "cl") => `(tactic| first | refine c_told ?_ | refine c_mayV ?_ | refine c_may (by assumption) ?_)
abbrev s_Jar__init : Stmt := inClass (top 19) 0
def n_Jar__init : List Str := ["self", "size", "rate", "mouth"]
theorem sc_Jar__init : FnScope n_Jar__init ["self", "size", "rate", "mouth"] (defScope s_Jar__init) := ⟨rfl, rfl, rfl, by decide +kernel, rfl, by decide +kernel, by decide +kernel⟩
theorem d_Jar__init {P : Program} {w : World} {K : PySem.W.Frag} {mg : Str → Option Value} {base : Heap} {c_NoJar c_Jar : Addr} {f : Addr} {fd : FuncData} (F : FunG K "__init__" "Jar.__init__" s_Jar__init f fd)
    (C_MOST : ∃ t, mg "MOST" = some (.int 1000000000 t)) (X_NoJar : Ex0 K mg "NoJar" c_NoJar) (A_Jar_size : FldP K c_Jar "size") (A_Jar_rate : FldP K c_Jar "rate") (A_Jar_mouth : FldP K c_Jar "mouth") : FnOk P w K mg base (L2.CX P w) 1 f fd ["self", "size", "rate", "mouth"] (liftE (pJarI c_Jar c_NoJar)) := by
  refine fnokG_of (N := n_Jar__init) (k := 0) F sc_Jar__init (fun ds M Φ Ξ h => by obtain ⟨a, s, r, m, M', rfl, rfl, k, kx⟩ := h; rfl) fun X kp ds M Φ Ξ h I => ?_
  obtain ⟨a, s, r, m, M', rfl, rfl, k, kx⟩ := h
  obtain ⟨rfl, rfl, rfl, rfl, rfl, hN, hs, hf, z, hp, tk, hst, hfr⟩ := I
  have nd := z.nd
  have n0 : Lo X 0 "self" := lo_of hN hs hf (by decide +kernel)
  have n1 : Lo X 1 "size" := lo_of hN hs hf (by decide +kernel)
  have n2 : Lo X 2 "rate" := lo_of hN hs hf (by decide +kernel)
  have n3 : Lo X 3 "mouth" := lo_of hN hs hf (by decide +kernel)
  have c_MOST : Gc X "MOST" (.int 1000000000) := gc_int hs (by decide +kernel) C_MOST
  have l_NoJar : Gl X "NoJar" := gl_of hs (by decide +kernel)
  clear F hf
  change DSs _ X (_ :: _) [_, _, _, _] _ _
  repeat' walk_at "t"
  all_goals first
    | exact ⟨_, _, .sub (List.sublist_cons_self _ _), kx fun h => by have h1 := h.r1; have h2 := h.rm; have h3 := h.ms; have h4 := h.sz; dsimp only at h1 h2 h3 h4; omega⟩
    | exact ⟨_, _, .refl, k ⟨by dsimp only; omega, by dsimp only; omega, by dsimp only; omega, by dsimp only; omega⟩⟩
abbrev s_Flow__init : Stmt := inClass (top 16) 0
def n_Flow__init : List Str := ["self", "jar", "marks"]
theorem sc_Flow__init : FnScope n_Flow__init ["self", "jar", "marks"] (defScope s_Flow__init) := ⟨rfl, rfl, rfl, by decide +kernel, rfl, by decide +kernel, by decide +kernel⟩
theorem d_Flow__init {P : Program} {w : World} {K : PySem.W.Frag} {mg : Str → Option Value} {base : Heap} {c_Jar c_NoJar c_Flow : Addr} {f : Addr} {fd : FuncData} (F : FunG K "__init__" "Flow.__init__" s_Flow__init f fd)
    (A_Jar_size : FldP K c_Jar "size") (X_NoJar : Ex0 K mg "NoJar" c_NoJar) (A_Flow_jar : FldP K c_Flow "jar") (A_Flow_marks : FldP K c_Flow "marks") : FnOk P w K mg base (L2.CX P w) 1 f fd ["self", "jar", "marks"] (liftE (pFlowI c_Flow c_Jar c_NoJar)) := by
  refine fnokG_of (N := n_Flow__init) (k := 0) F sc_Flow__init (fun ds M Φ Ξ h => by obtain ⟨a, j, mv, m, M', rfl, em, rfl, k, kx⟩ := h; rfl) fun X kp ds M Φ Ξ h I => ?_
  obtain ⟨a, j, mv, m, M', rfl, em, rfl, k, kx⟩ := h
  obtain ⟨rfl, rfl, rfl, rfl, rfl, hN, hs, hf, z, hp, tk, hst, hfr⟩ := I
  have nd := z.nd
  have n0 : Lo X 0 "self" := lo_of hN hs hf (by decide +kernel)
  have n1 : Lo X 1 "jar" := lo_of hN hs hf (by decide +kernel)
  have n2 : Lo X 2 "marks" := lo_of hN hs hf (by decide +kernel)
  have l_NoJar : Gl X "NoJar" := gl_of hs (by decide +kernel)
  clear F hf
  change DSs _ X (_ :: _) [_, _, _] _ _
  repeat' ((fail_if_success refine stIf ?_); walk_at "t")
  refine ds_cutC [2] (fun vs M1 => ([some (.int m)] = vs ∧ (a, .obj c_Flow [] []) :: M' = M1)) ?_ ?_
  · cases mv with
    | non =>
      cases em
      repeat' walk_at "t"
      exact ⟨[_], rfl, rfl, rfl⟩
    | int i =>
      cases em
      repeat' walk_at "t"
      exact ⟨[_], rfl, rfl, rfl⟩
    | _ => cases em
  · rintro vs δ M1 ⟨rfl, rfl⟩ hδ
    obtain rfl : δ = [_, _, _] := hδ
    repeat' walk_at "t"
    all_goals first
      | exact ⟨_, _, .sub (List.sublist_cons_self _ _), kx (by omega)⟩
      | exact ⟨_, _, .refl, k (by omega)⟩
abbrev s_Flow_may : Stmt := inClass (top 16) 1
def n_Flow_may : List Str := ["self"]
theorem sc_Flow_may : FnScope n_Flow_may ["self"] (defScope s_Flow_may) := ⟨rfl, rfl, rfl, by decide +kernel, rfl, by decide +kernel, by decide +kernel⟩
theorem d_Flow_may {P : Program} {w : World} {K : PySem.W.Frag} {mg : Str → Option Value} {base : Heap} {c_Jar c_Flow : Addr} {f : Addr} {fd : FuncData} (F : FunG K "may" "Flow.may" s_Flow_may f fd)
    (G_min : mg "min" = none) (A_Jar_mouth : FldP K c_Jar "mouth") (A_Flow_jar : FldP K c_Flow "jar") (A_Flow_marks : FldP K c_Flow "marks") : FnOk P w K mg base (L2.CX P w) 1 f fd ["self"] (liftE (pMay c_Flow c_Jar)) := by
  refine fnokG_of (N := n_Flow_may) (k := 0) F sc_Flow_may (fun ds M Φ Ξ h => by obtain ⟨x, j, m, rfl, io, k⟩ := h; rfl) fun X kp ds M Φ Ξ h I => ?_
  obtain ⟨x, j, m, rfl, io, k⟩ := h
  obtain ⟨rfl, rfl, rfl, rfl, rfl, hN, hs, hf, z, hp, tk, hst, hfr⟩ := I
  have nd := z.nd
  have n0 : Lo X 0 "self" := lo_of hN hs hf (by decide +kernel)
  have g_min : Gn X "min" := gn_of hs (by decide +kernel) G_min
  clear F hf
  change DSs _ X (_ :: _) [_] _ _
  repeat' walk_at "t"
  exact ⟨_, _, .refl, k⟩
abbrev s_Flow_come : Stmt := inClass (top 16) 2
def n_Flow_come : List Str := ["self", "many"]
theorem sc_Flow_come : FnScope n_Flow_come ["self", "many"] (defScope s_Flow_come) := ⟨rfl, rfl, rfl, by decide +kernel, rfl, by decide +kernel, by decide +kernel⟩
theorem d_Flow_come {P : Program} {w : World} {K : PySem.W.Frag} {mg : Str → Option Value} {base : Heap} {c_Flow c_TooMany c_Jar : Addr} {f : Addr} {fd : FuncData} (F : FunG K "come" "Flow.come" s_Flow_come f fd)
    (M_Flow_may_0 : MethE P w K mg base 1 c_Flow "may" 0 [] (selN 1) (pMay c_Flow c_Jar)) (X_TooMany : ExI P w K mg base "TooMany" c_TooMany ["name", "bound"]) (A_Flow_marks : FldP K c_Flow "marks") (G_min : mg "min" = none) (A_Jar_size : FldP K c_Jar "size") (A_Flow_jar : FldP K c_Flow "jar") (A_Jar_rate : FldP K c_Jar "rate") : FnOk P w K mg base (L2.CX P w) 3 f fd ["self", "many"] (liftE (pCome c_Flow c_Jar c_TooMany)) := by
  refine fnokG_of (N := n_Flow_come) (k := 2) F sc_Flow_come (fun ds M Φ Ξ h => by obtain ⟨p, j, m, n, i, rfl, hm, k, kx⟩ := h; rfl) fun X kp ds M Φ Ξ h I => ?_
  obtain ⟨p, j, m, n, i, rfl, hm, k, kx⟩ := h
  obtain ⟨rfl, rfl, rfl, rfl, rfl, hN, hs, hf, z, hp, tk, hst, hfr⟩ := I
  have nd := z.nd
  have n0 : Lo X 0 "self" := lo_of hN hs hf (by decide +kernel)
  have n1 : Lo X 1 "many" := lo_of hN hs hf (by decide +kernel)
  have l_TooMany : Gl X "TooMany" := gl_of hs (by decide +kernel)
  have g_min : Gn X "min" := gn_of hs (by decide +kernel) G_min
  clear F hf
  change DSs _ X (_ :: _) [_, _] _ _
  have io : IsO M (.raw (.ref p)) c_Flow fNs (fFs c_Jar j m) := .cell i hm
  repeat' walk_at "t"
  any_goals exact ⟨_, _, .refl, kx (by omega)⟩
  rename_i h1 h2
  refine sf_u2_1 i hm (by assumption) (by walk_at "nef") ?_
  have hi : i < M.length := (List.getElem?_eq_some_iff.mp hm).1
  have io2 : IsO (M.set i (p, .obj c_Flow fNs (fFs c_Jar j (comeF j m n)))) (.raw (.ref p)) c_Flow fNs (fFs c_Jar j (comeF j m n)) := .cell i (by rw [List.getElem?_set_self hi])
  repeat' walk_at "t"
  exact ⟨_, _, .refl, k (by omega)⟩
abbrev s_Flow_ahead : Stmt := inClass (top 16) 3
def n_Flow_ahead : List Str := ["self", "ticks"]
theorem sc_Flow_ahead : FnScope n_Flow_ahead ["self", "ticks"] (defScope s_Flow_ahead) := ⟨rfl, rfl, rfl, by decide +kernel, rfl, by decide +kernel, by decide +kernel⟩
theorem d_Flow_ahead {P : Program} {w : World} {K : PySem.W.Frag} {mg : Str → Option Value} {base : Heap} {c_NoTick c_Jar c_Flow : Addr} {f : Addr} {fd : FuncData} (F : FunG K "ahead" "Flow.ahead" s_Flow_ahead f fd)
    (X_NoTick : Ex0 K mg "NoTick" c_NoTick) (G_min : mg "min" = none) (A_Jar_size : FldP K c_Jar "size") (A_Flow_jar : FldP K c_Flow "jar") (A_Flow_marks : FldP K c_Flow "marks") (A_Jar_rate : FldP K c_Jar "rate") : FnOk P w K mg base (L2.CX P w) 1 f fd ["self", "ticks"] (liftE (pAhead c_Flow c_Jar c_NoTick)) := by
  refine fnokG_of (N := n_Flow_ahead) (k := 0) F sc_Flow_ahead (fun ds M Φ Ξ h => by obtain ⟨x, j, m, t, rfl, io, hj, k, kx⟩ := h; rfl) fun X kp ds M Φ Ξ h I => ?_
  obtain ⟨x, j, m, t, rfl, io, hj, k, kx⟩ := h
  obtain ⟨rfl, rfl, rfl, rfl, rfl, hN, hs, hf, z, hp, tk, hst, hfr⟩ := I
  have nd := z.nd
  have n0 : Lo X 0 "self" := lo_of hN hs hf (by decide +kernel)
  have n1 : Lo X 1 "ticks" := lo_of hN hs hf (by decide +kernel)
  have l_NoTick : Gl X "NoTick" := gl_of hs (by decide +kernel)
  have g_min : Gn X "min" := gn_of hs (by decide +kernel) G_min
  clear F hf
  change DSs _ X (_ :: _) [_, _] _ _
  have hr1 := hj.r1
  have hrm := hj.rm
  have hms := hj.ms
  have hsz := hj.sz
  repeat' walk_at "t"
  · exact ⟨_, _, .refl, kx (by omega)⟩
  · exact ⟨_, _, .refl, k (by omega)⟩
def xAll (a b c d e f g h i j k l : Addr) : List Addr := [a, b, c, d, e, f, g, h, i, j, k, l]
def pPlaces (cs : List Addr) : DSpE := fun ds M Φ _ => ∃ C ns fs, ∃ k : Nat, ds = [.exn C ns fs] ∧ k < 12 ∧ cs[k]? = some C ∧ Φ (.lst [.int k]) M
theorem c_places {cs : List Addr} {C : Addr} {ns : List Str} {fs : List D} (k : Nat) {M : Mem} {Φ : D → Mem → Prop} {Ξ : XPost} (hk : k < 12) (hc : cs[k]? = some C) (q : Φ (.lst [.int k]) M) : pPlaces cs [.exn C ns fs] M Φ Ξ := ⟨C, ns, fs, k, rfl, hk, hc, q⟩
def pNameX : DSp := fun ds M Φ => ∃ s g b M', ds = [.raw (.ref s)] ∧ M = (s, .st g b) :: M' ∧ 20 ≤ b ∧ ∀ (t : Str) (b' : Nat), b ≤ b' + 10 → t.length ≤ 9 → okD (.str t) = true → Φ (.str t) ((s, .st g b') :: M')
theorem c_nameX {s g : Addr} {b : Nat} {M : Mem} {Φ : D → Mem → Prop} (h : 20 ≤ b) (k : ∀ (t : Str) (b' : Nat), b ≤ b' + 10 → t.length ≤ 9 → okD (.str t) = true → Φ (.str t) ((s, .st g b') :: M)) : pNameX [.raw (.ref s)] ((s, .st g b) :: M) Φ := ⟨s, g, b, M, rfl, rfl, h, k⟩
theorem okDs_mem {α : Type} {f : α → D} : ∀ (l : List α), (∀ x ∈ l, okD (f x) = true) → okDs (l.map f) = true
  | [], _ => rfl
  | x :: l, h => by show (okD (f x) && okDs (l.map f)) = true; rw [h x (.head _), okDs_mem l fun y hy => h y (.tail _ hy)]; rfl
theorem ok_much {t : Str} {lo mo e : Int} {ys : List (Str × Int)} (ht : okD (.str t) = true) (hys : ∀ y ∈ ys, okD (.str y.1) = true) : okE (.lst [.lst [.int 9], .str t, .int lo, .int e, .lst (ys.map fun r => D.tup [.str r.1, .int lo, .int mo, .int r.2])]) = true := by
  have h1 : okDs (ys.map fun r => D.tup [.str r.1, .int lo, .int mo, .int r.2]) = true := okDs_mem ys fun y hy => by
    show (okD (.str y.1) && (true && (true && (true && true)))) = true
    rw [hys y hy]; rfl
  have h2 : PyData.depthAll (toPys (ys.map fun r => D.tup [.str r.1, .int lo, .int mo, .int r.2])) ≤ 1 := depth_map (fun x => Nat.le_refl 1) ys
  show ((okDs [.int 9] && (okD (.str t) && (true && (true && (okDs (ys.map fun r => D.tup [.str r.1, .int lo, .int mo, .int r.2]) && true))))) && decide (PyData.depthAll (toPys [.lst [.int 9], .str t, .int lo, .int e, .lst (ys.map fun r => D.tup [.str r.1, .int lo, .int mo, .int r.2])]) + 1 ≤ 64)) = true
  rw [h1, ht, decide_eq_true]
  · rfl
  · show max 1 (max 0 (max 0 (max 0 (max (PyData.depthAll (toPys (ys.map fun r => D.tup [.str r.1, .int lo, .int mo, .int r.2])) + 1) 0)))) + 1 ≤ 64
    omega
theorem ok_tooX (x : Int) : okE (.tup [.str "", .int x]) = true := by
  have h : okD (.str "") = true := by decide +kernel
  show ((okD (.str "") && true) && _) = true
  rw [h]; rfl
def refD (cNJ cNT cTM : Addr) (j : J) (m : Int) : Nat → D
  | 0 => .exn cNJ [] []
  | 1 => .exn cNJ [] []
  | 2 => .exn cNT [] []
  | _ => .exn cTM ["bound", "name"] [.int (mayF j m), .str ""]
def pRefused (cF cJ cNJ cNT cTM : Addr) : DSpE := fun ds M Φ _ => ∃ (w : Nat) (j : J) (m n : Int) (p : Addr) (i : Nat), ds = [.int w, jD cJ j, .int n, .raw (.ref p)] ∧ M[i]? = some (p, .obj cF fNs (fFs cJ j m)) ∧ w < 4 ∧ JOk j ∧ 0 ≤ m ∧ m ≤ j.size ∧ 0 ≤ n ∧ Φ (refD cNJ cNT cTM j m w) M
def pAlone : DSpE := fun ds M Φ _ => ∃ s g b M', ds = [.raw (.ref s)] ∧ M = (s, .st g b) :: M' ∧ 100 ≤ b ∧ ∀ b', b ≤ b' + 20 → Φ (.bl true) ((s, .st g b') :: M')
def pMuch : DSpE := fun ds M Φ _ => ∃ s g b M', ds = [.raw (.ref s)] ∧ M = (s, .st g b) :: M' ∧ 200 ≤ b ∧ ∀ b', b ≤ b' + 100 → Φ (.bl true) ((s, .st g b') :: M')
abbrev signs : Str := "abcdefghijklmnopqrstuvwxyzABCXYZ0189 .,-+*/_!?"
theorem sign_lt {c : Nat} (h : c ∈ signs.cps.toList) : c < 1114112 := by
  have : signs.cps.toList.all (fun c => decide (c < 1114112)) = true := by decide +kernel
  exact of_decide_eq_true (List.all_eq_true.mp this c h)
theorem ix_k {i a : Nat} (ha : a ∈ List.range 12) : atI ((List.range 12).map fun q => D.bl (decide (i = q))) (0 + (a : Int)) = some (.bl (decide (i = a))) := by
  have h := List.mem_range.mp ha
  rw [Int.zero_add]
  exact atI_nat (by rw [List.getElem?_map, List.getElem?_range h]; rfl)
local macro_rules | `(tactic| walk_at "ixauto") => `(tactic| refine od_ixL (ix_k (by assumption)) ?_)
theorem one_of {i : Nat} (hi : i < 12) : (List.range 12).filterMap (fun a => if i = a then some (0 + (a : Int)) else none) = [(i : Int)] := by
  rcases (show i = 0 ∨ i = 1 ∨ i = 2 ∨ i = 3 ∨ i = 4 ∨ i = 5 ∨ i = 6 ∨ i = 7 ∨ i = 8 ∨ i = 9 ∨ i = 10 ∨ i = 11 by omega) with rfl | rfl | rfl | rfl | rfl | rfl | rfl | rfl | rfl | rfl | rfl | rfl <;> rfl
local macro_rules | `(tactic| walk_at "cl") => `(tactic| first | refine c_places 0 (by decide) rfl ?_ | refine c_places 1 (by decide) rfl ?_ | refine c_places 2 (by decide) rfl ?_ | refine c_places 3 (by decide) rfl ?_ | refine c_places 4 (by decide) rfl ?_ | refine c_places 5 (by decide) rfl ?_ | refine c_places 6 (by decide) rfl ?_ | refine c_places 7 (by decide) rfl ?_ | refine c_places 8 (by decide) rfl ?_ | refine c_places 9 (by decide) rfl ?_ | refine c_places 10 (by decide) rfl ?_ | refine c_places 11 (by decide) rfl ?_)
local macro_rules | `(tactic| walk_at "ox") => `(tactic| refine od_neSame (.val _) (.val _) (by rfl) ?_)
abbrev s_law_places : Stmt := top 24
def n_law_places : List Str := ["_law_e", "_law_found", "_law_k"]
theorem sc_law_places : FnScope n_law_places ["_law_e"] (defScope s_law_places) := ⟨rfl, rfl, rfl, by decide +kernel, rfl, by decide +kernel, by decide +kernel⟩
theorem d_law_places {P : Program} {w : World} {K : PySem.W.Frag} {mg : Str → Option Value} {base : Heap} {c_NoJar c_NoTick c_NoLane c_NoName c_Taken c_Unknown c_NoWay c_NoLot c_TooMany c_TooMuch c_NoText c_NoBook c_LaneError : Addr} {f : Addr} {fd : FuncData} (F : FunG K "_law_places" "_law_places" s_law_places f fd)
    (KT_NoJar_NoJar : KitP K (.ref c_NoJar) (.ref c_NoJar) true) (EP_NoJar : ExcP K c_NoJar) (KT_NoTick_NoJar : KitP K (.ref c_NoTick) (.ref c_NoJar) false) (EP_NoTick : ExcP K c_NoTick) (KT_NoLane_NoJar : KitP K (.ref c_NoLane) (.ref c_NoJar) false) (EP_NoLane : ExcP K c_NoLane) (KT_NoName_NoJar : KitP K (.ref c_NoName) (.ref c_NoJar) false) (EP_NoName : ExcP K c_NoName) (KT_Taken_NoJar : KitP K (.ref c_Taken) (.ref c_NoJar) false) (EP_Taken : ExcP K c_Taken) (KT_Unknown_NoJar : KitP K (.ref c_Unknown) (.ref c_NoJar) false) (EP_Unknown : ExcP K c_Unknown) (KT_NoWay_NoJar : KitP K (.ref c_NoWay) (.ref c_NoJar) false) (EP_NoWay : ExcP K c_NoWay) (KT_NoLot_NoJar : KitP K (.ref c_NoLot) (.ref c_NoJar) false) (EP_NoLot : ExcP K c_NoLot) (KT_TooMany_NoJar : KitP K (.ref c_TooMany) (.ref c_NoJar) false) (EP_TooMany : ExcP K c_TooMany) (KT_TooMuch_NoJar : KitP K (.ref c_TooMuch) (.ref c_NoJar) false) (EP_TooMuch : ExcP K c_TooMuch) (KT_NoText_NoJar : KitP K (.ref c_NoText) (.ref c_NoJar) false) (EP_NoText : ExcP K c_NoText) (KT_NoBook_NoJar : KitP K (.ref c_NoBook) (.ref c_NoJar) false) (EP_NoBook : ExcP K c_NoBook) (KT_NoneType_NoJar : KitP K (.type "NoneType") (.ref c_NoJar) false) (G_isinstance : mg "isinstance" = none) (Q_NoJar : MgP mg "NoJar" c_NoJar) (KT_NoJar_NoTick : KitP K (.ref c_NoJar) (.ref c_NoTick) false) (KT_NoTick_NoTick : KitP K (.ref c_NoTick) (.ref c_NoTick) true) (KT_NoLane_NoTick : KitP K (.ref c_NoLane) (.ref c_NoTick) false) (KT_NoName_NoTick : KitP K (.ref c_NoName) (.ref c_NoTick) false) (KT_Taken_NoTick : KitP K (.ref c_Taken) (.ref c_NoTick) false) (KT_Unknown_NoTick : KitP K (.ref c_Unknown) (.ref c_NoTick) false) (KT_NoWay_NoTick : KitP K (.ref c_NoWay) (.ref c_NoTick) false) (KT_NoLot_NoTick : KitP K (.ref c_NoLot) (.ref c_NoTick) false) (KT_TooMany_NoTick : KitP K (.ref c_TooMany) (.ref c_NoTick) false) (KT_TooMuch_NoTick : KitP K (.ref c_TooMuch) (.ref c_NoTick) false) (KT_NoText_NoTick : KitP K (.ref c_NoText) (.ref c_NoTick) false) (KT_NoBook_NoTick : KitP K (.ref c_NoBook) (.ref c_NoTick) false) (KT_NoneType_NoTick : KitP K (.type "NoneType") (.ref c_NoTick) false) (Q_NoTick : MgP mg "NoTick" c_NoTick) (KT_NoJar_NoLane : KitP K (.ref c_NoJar) (.ref c_NoLane) false) (KT_NoTick_NoLane : KitP K (.ref c_NoTick) (.ref c_NoLane) false) (KT_NoLane_NoLane : KitP K (.ref c_NoLane) (.ref c_NoLane) true) (KT_NoName_NoLane : KitP K (.ref c_NoName) (.ref c_NoLane) false) (KT_Taken_NoLane : KitP K (.ref c_Taken) (.ref c_NoLane) false) (KT_Unknown_NoLane : KitP K (.ref c_Unknown) (.ref c_NoLane) false) (KT_NoWay_NoLane : KitP K (.ref c_NoWay) (.ref c_NoLane) false) (KT_NoLot_NoLane : KitP K (.ref c_NoLot) (.ref c_NoLane) false) (KT_TooMany_NoLane : KitP K (.ref c_TooMany) (.ref c_NoLane) false) (KT_TooMuch_NoLane : KitP K (.ref c_TooMuch) (.ref c_NoLane) false) (KT_NoText_NoLane : KitP K (.ref c_NoText) (.ref c_NoLane) false) (KT_NoBook_NoLane : KitP K (.ref c_NoBook) (.ref c_NoLane) false) (KT_NoneType_NoLane : KitP K (.type "NoneType") (.ref c_NoLane) false) (Q_NoLane : MgP mg "NoLane" c_NoLane) (KT_NoJar_NoName : KitP K (.ref c_NoJar) (.ref c_NoName) false) (KT_NoTick_NoName : KitP K (.ref c_NoTick) (.ref c_NoName) false) (KT_NoLane_NoName : KitP K (.ref c_NoLane) (.ref c_NoName) false) (KT_NoName_NoName : KitP K (.ref c_NoName) (.ref c_NoName) true) (KT_Taken_NoName : KitP K (.ref c_Taken) (.ref c_NoName) false) (KT_Unknown_NoName : KitP K (.ref c_Unknown) (.ref c_NoName) false) (KT_NoWay_NoName : KitP K (.ref c_NoWay) (.ref c_NoName) false) (KT_NoLot_NoName : KitP K (.ref c_NoLot) (.ref c_NoName) false) (KT_TooMany_NoName : KitP K (.ref c_TooMany) (.ref c_NoName) false) (KT_TooMuch_NoName : KitP K (.ref c_TooMuch) (.ref c_NoName) false) (KT_NoText_NoName : KitP K (.ref c_NoText) (.ref c_NoName) false) (KT_NoBook_NoName : KitP K (.ref c_NoBook) (.ref c_NoName) false) (KT_NoneType_NoName : KitP K (.type "NoneType") (.ref c_NoName) false) (Q_NoName : MgP mg "NoName" c_NoName) (KT_NoJar_Taken : KitP K (.ref c_NoJar) (.ref c_Taken) false) (KT_NoTick_Taken : KitP K (.ref c_NoTick) (.ref c_Taken) false) (KT_NoLane_Taken : KitP K (.ref c_NoLane) (.ref c_Taken) false) (KT_NoName_Taken : KitP K (.ref c_NoName) (.ref c_Taken) false) (KT_Taken_Taken : KitP K (.ref c_Taken) (.ref c_Taken) true) (KT_Unknown_Taken : KitP K (.ref c_Unknown) (.ref c_Taken) false) (KT_NoWay_Taken : KitP K (.ref c_NoWay) (.ref c_Taken) false) (KT_NoLot_Taken : KitP K (.ref c_NoLot) (.ref c_Taken) false) (KT_TooMany_Taken : KitP K (.ref c_TooMany) (.ref c_Taken) false) (KT_TooMuch_Taken : KitP K (.ref c_TooMuch) (.ref c_Taken) false) (KT_NoText_Taken : KitP K (.ref c_NoText) (.ref c_Taken) false) (KT_NoBook_Taken : KitP K (.ref c_NoBook) (.ref c_Taken) false) (KT_NoneType_Taken : KitP K (.type "NoneType") (.ref c_Taken) false) (Q_Taken : MgP mg "Taken" c_Taken) (KT_NoJar_Unknown : KitP K (.ref c_NoJar) (.ref c_Unknown) false) (KT_NoTick_Unknown : KitP K (.ref c_NoTick) (.ref c_Unknown) false) (KT_NoLane_Unknown : KitP K (.ref c_NoLane) (.ref c_Unknown) false) (KT_NoName_Unknown : KitP K (.ref c_NoName) (.ref c_Unknown) false) (KT_Taken_Unknown : KitP K (.ref c_Taken) (.ref c_Unknown) false) (KT_Unknown_Unknown : KitP K (.ref c_Unknown) (.ref c_Unknown) true) (KT_NoWay_Unknown : KitP K (.ref c_NoWay) (.ref c_Unknown) false) (KT_NoLot_Unknown : KitP K (.ref c_NoLot) (.ref c_Unknown) false) (KT_TooMany_Unknown : KitP K (.ref c_TooMany) (.ref c_Unknown) false) (KT_TooMuch_Unknown : KitP K (.ref c_TooMuch) (.ref c_Unknown) false) (KT_NoText_Unknown : KitP K (.ref c_NoText) (.ref c_Unknown) false) (KT_NoBook_Unknown : KitP K (.ref c_NoBook) (.ref c_Unknown) false) (KT_NoneType_Unknown : KitP K (.type "NoneType") (.ref c_Unknown) false) (Q_Unknown : MgP mg "Unknown" c_Unknown) (KT_NoJar_NoWay : KitP K (.ref c_NoJar) (.ref c_NoWay) false) (KT_NoTick_NoWay : KitP K (.ref c_NoTick) (.ref c_NoWay) false) (KT_NoLane_NoWay : KitP K (.ref c_NoLane) (.ref c_NoWay) false) (KT_NoName_NoWay : KitP K (.ref c_NoName) (.ref c_NoWay) false) (KT_Taken_NoWay : KitP K (.ref c_Taken) (.ref c_NoWay) false) (KT_Unknown_NoWay : KitP K (.ref c_Unknown) (.ref c_NoWay) false) (KT_NoWay_NoWay : KitP K (.ref c_NoWay) (.ref c_NoWay) true) (KT_NoLot_NoWay : KitP K (.ref c_NoLot) (.ref c_NoWay) false) (KT_TooMany_NoWay : KitP K (.ref c_TooMany) (.ref c_NoWay) false) (KT_TooMuch_NoWay : KitP K (.ref c_TooMuch) (.ref c_NoWay) false) (KT_NoText_NoWay : KitP K (.ref c_NoText) (.ref c_NoWay) false) (KT_NoBook_NoWay : KitP K (.ref c_NoBook) (.ref c_NoWay) false) (KT_NoneType_NoWay : KitP K (.type "NoneType") (.ref c_NoWay) false) (Q_NoWay : MgP mg "NoWay" c_NoWay) (KT_NoJar_NoLot : KitP K (.ref c_NoJar) (.ref c_NoLot) false) (KT_NoTick_NoLot : KitP K (.ref c_NoTick) (.ref c_NoLot) false) (KT_NoLane_NoLot : KitP K (.ref c_NoLane) (.ref c_NoLot) false) (KT_NoName_NoLot : KitP K (.ref c_NoName) (.ref c_NoLot) false) (KT_Taken_NoLot : KitP K (.ref c_Taken) (.ref c_NoLot) false) (KT_Unknown_NoLot : KitP K (.ref c_Unknown) (.ref c_NoLot) false) (KT_NoWay_NoLot : KitP K (.ref c_NoWay) (.ref c_NoLot) false) (KT_NoLot_NoLot : KitP K (.ref c_NoLot) (.ref c_NoLot) true) (KT_TooMany_NoLot : KitP K (.ref c_TooMany) (.ref c_NoLot) false) (KT_TooMuch_NoLot : KitP K (.ref c_TooMuch) (.ref c_NoLot) false) (KT_NoText_NoLot : KitP K (.ref c_NoText) (.ref c_NoLot) false) (KT_NoBook_NoLot : KitP K (.ref c_NoBook) (.ref c_NoLot) false) (KT_NoneType_NoLot : KitP K (.type "NoneType") (.ref c_NoLot) false) (Q_NoLot : MgP mg "NoLot" c_NoLot) (KT_NoJar_TooMany : KitP K (.ref c_NoJar) (.ref c_TooMany) false) (KT_NoTick_TooMany : KitP K (.ref c_NoTick) (.ref c_TooMany) false) (KT_NoLane_TooMany : KitP K (.ref c_NoLane) (.ref c_TooMany) false) (KT_NoName_TooMany : KitP K (.ref c_NoName) (.ref c_TooMany) false) (KT_Taken_TooMany : KitP K (.ref c_Taken) (.ref c_TooMany) false) (KT_Unknown_TooMany : KitP K (.ref c_Unknown) (.ref c_TooMany) false) (KT_NoWay_TooMany : KitP K (.ref c_NoWay) (.ref c_TooMany) false) (KT_NoLot_TooMany : KitP K (.ref c_NoLot) (.ref c_TooMany) false) (KT_TooMany_TooMany : KitP K (.ref c_TooMany) (.ref c_TooMany) true) (KT_TooMuch_TooMany : KitP K (.ref c_TooMuch) (.ref c_TooMany) false) (KT_NoText_TooMany : KitP K (.ref c_NoText) (.ref c_TooMany) false) (KT_NoBook_TooMany : KitP K (.ref c_NoBook) (.ref c_TooMany) false) (KT_NoneType_TooMany : KitP K (.type "NoneType") (.ref c_TooMany) false) (Q_TooMany : MgP mg "TooMany" c_TooMany) (KT_NoJar_TooMuch : KitP K (.ref c_NoJar) (.ref c_TooMuch) false) (KT_NoTick_TooMuch : KitP K (.ref c_NoTick) (.ref c_TooMuch) false) (KT_NoLane_TooMuch : KitP K (.ref c_NoLane) (.ref c_TooMuch) false) (KT_NoName_TooMuch : KitP K (.ref c_NoName) (.ref c_TooMuch) false) (KT_Taken_TooMuch : KitP K (.ref c_Taken) (.ref c_TooMuch) false) (KT_Unknown_TooMuch : KitP K (.ref c_Unknown) (.ref c_TooMuch) false) (KT_NoWay_TooMuch : KitP K (.ref c_NoWay) (.ref c_TooMuch) false) (KT_NoLot_TooMuch : KitP K (.ref c_NoLot) (.ref c_TooMuch) false) (KT_TooMany_TooMuch : KitP K (.ref c_TooMany) (.ref c_TooMuch) false) (KT_TooMuch_TooMuch : KitP K (.ref c_TooMuch) (.ref c_TooMuch) true) (KT_NoText_TooMuch : KitP K (.ref c_NoText) (.ref c_TooMuch) false) (KT_NoBook_TooMuch : KitP K (.ref c_NoBook) (.ref c_TooMuch) false) (KT_NoneType_TooMuch : KitP K (.type "NoneType") (.ref c_TooMuch) false) (Q_TooMuch : MgP mg "TooMuch" c_TooMuch) (KT_NoJar_NoText : KitP K (.ref c_NoJar) (.ref c_NoText) false) (KT_NoTick_NoText : KitP K (.ref c_NoTick) (.ref c_NoText) false) (KT_NoLane_NoText : KitP K (.ref c_NoLane) (.ref c_NoText) false) (KT_NoName_NoText : KitP K (.ref c_NoName) (.ref c_NoText) false) (KT_Taken_NoText : KitP K (.ref c_Taken) (.ref c_NoText) false) (KT_Unknown_NoText : KitP K (.ref c_Unknown) (.ref c_NoText) false) (KT_NoWay_NoText : KitP K (.ref c_NoWay) (.ref c_NoText) false) (KT_NoLot_NoText : KitP K (.ref c_NoLot) (.ref c_NoText) false) (KT_TooMany_NoText : KitP K (.ref c_TooMany) (.ref c_NoText) false) (KT_TooMuch_NoText : KitP K (.ref c_TooMuch) (.ref c_NoText) false) (KT_NoText_NoText : KitP K (.ref c_NoText) (.ref c_NoText) true) (KT_NoBook_NoText : KitP K (.ref c_NoBook) (.ref c_NoText) false) (KT_NoneType_NoText : KitP K (.type "NoneType") (.ref c_NoText) false) (Q_NoText : MgP mg "NoText" c_NoText) (KT_NoJar_NoBook : KitP K (.ref c_NoJar) (.ref c_NoBook) false) (KT_NoTick_NoBook : KitP K (.ref c_NoTick) (.ref c_NoBook) false) (KT_NoLane_NoBook : KitP K (.ref c_NoLane) (.ref c_NoBook) false) (KT_NoName_NoBook : KitP K (.ref c_NoName) (.ref c_NoBook) false) (KT_Taken_NoBook : KitP K (.ref c_Taken) (.ref c_NoBook) false) (KT_Unknown_NoBook : KitP K (.ref c_Unknown) (.ref c_NoBook) false) (KT_NoWay_NoBook : KitP K (.ref c_NoWay) (.ref c_NoBook) false) (KT_NoLot_NoBook : KitP K (.ref c_NoLot) (.ref c_NoBook) false) (KT_TooMany_NoBook : KitP K (.ref c_TooMany) (.ref c_NoBook) false) (KT_TooMuch_NoBook : KitP K (.ref c_TooMuch) (.ref c_NoBook) false) (KT_NoText_NoBook : KitP K (.ref c_NoText) (.ref c_NoBook) false) (KT_NoBook_NoBook : KitP K (.ref c_NoBook) (.ref c_NoBook) true) (KT_NoneType_NoBook : KitP K (.type "NoneType") (.ref c_NoBook) false) (Q_NoBook : MgP mg "NoBook" c_NoBook) (KT_NoJar_LaneError : KitP K (.ref c_NoJar) (.ref c_LaneError) true) (KT_NoTick_LaneError : KitP K (.ref c_NoTick) (.ref c_LaneError) true) (KT_NoLane_LaneError : KitP K (.ref c_NoLane) (.ref c_LaneError) true) (KT_NoName_LaneError : KitP K (.ref c_NoName) (.ref c_LaneError) true) (KT_Taken_LaneError : KitP K (.ref c_Taken) (.ref c_LaneError) true) (KT_Unknown_LaneError : KitP K (.ref c_Unknown) (.ref c_LaneError) true) (KT_NoWay_LaneError : KitP K (.ref c_NoWay) (.ref c_LaneError) true) (KT_NoLot_LaneError : KitP K (.ref c_NoLot) (.ref c_LaneError) true) (KT_TooMany_LaneError : KitP K (.ref c_TooMany) (.ref c_LaneError) true) (KT_TooMuch_LaneError : KitP K (.ref c_TooMuch) (.ref c_LaneError) true) (KT_NoText_LaneError : KitP K (.ref c_NoText) (.ref c_LaneError) true) (KT_NoBook_LaneError : KitP K (.ref c_NoBook) (.ref c_LaneError) true) (KT_NoneType_LaneError : KitP K (.type "NoneType") (.ref c_LaneError) false) (Q_LaneError : MgP mg "LaneError" c_LaneError) (KT_NoJar_ValueError : KitP K (.ref c_NoJar) (.type "ValueError") true) (KT_NoTick_ValueError : KitP K (.ref c_NoTick) (.type "ValueError") true) (KT_NoLane_ValueError : KitP K (.ref c_NoLane) (.type "ValueError") true) (KT_NoName_ValueError : KitP K (.ref c_NoName) (.type "ValueError") true) (KT_Taken_ValueError : KitP K (.ref c_Taken) (.type "ValueError") true) (KT_Unknown_ValueError : KitP K (.ref c_Unknown) (.type "ValueError") true) (KT_NoWay_ValueError : KitP K (.ref c_NoWay) (.type "ValueError") true) (KT_NoLot_ValueError : KitP K (.ref c_NoLot) (.type "ValueError") true) (KT_TooMany_ValueError : KitP K (.ref c_TooMany) (.type "ValueError") true) (KT_TooMuch_ValueError : KitP K (.ref c_TooMuch) (.type "ValueError") true) (KT_NoText_ValueError : KitP K (.ref c_NoText) (.type "ValueError") true) (KT_NoBook_ValueError : KitP K (.ref c_NoBook) (.type "ValueError") true) (G_ValueError : mg "ValueError" = none) (G_range : mg "range" = none) : FnOk P w K mg base (L2.CX P w) 1 f fd ["_law_e"] (liftE (pPlaces (xAll c_NoJar c_NoTick c_NoLane c_NoName c_Taken c_Unknown c_NoWay c_NoLot c_TooMany c_TooMuch c_NoText c_NoBook))) := by
  refine fnokG_of (N := n_law_places) (k := 0) F sc_law_places (fun ds M Φ Ξ h => by obtain ⟨C, ns, fs, i, rfl, hi, hC, k⟩ := h; rfl) fun X kp ds M Φ Ξ h I => ?_
  obtain ⟨C, ns, fs, i, rfl, hi, hC, k⟩ := h
  obtain ⟨rfl, rfl, rfl, rfl, rfl, hN, hs, hf, z, hp, tk, hst, hfr⟩ := I
  have nd := z.nd
  have n0 : Lo X 0 "_law_e" := lo_of hN hs hf (by decide +kernel)
  have n1 : Lo X 1 "_law_found" := lo_of hN hs hf (by decide +kernel)
  have g_isinstance : Gn X "isinstance" := gn_of hs (by decide +kernel) G_isinstance
  have l_NoJar : Gl X "NoJar" := gl_of hs (by decide +kernel)
  have l_NoTick : Gl X "NoTick" := gl_of hs (by decide +kernel)
  have l_NoLane : Gl X "NoLane" := gl_of hs (by decide +kernel)
  have l_NoName : Gl X "NoName" := gl_of hs (by decide +kernel)
  have l_Taken : Gl X "Taken" := gl_of hs (by decide +kernel)
  have l_Unknown : Gl X "Unknown" := gl_of hs (by decide +kernel)
  have l_NoWay : Gl X "NoWay" := gl_of hs (by decide +kernel)
  have l_NoLot : Gl X "NoLot" := gl_of hs (by decide +kernel)
  have l_TooMany : Gl X "TooMany" := gl_of hs (by decide +kernel)
  have l_TooMuch : Gl X "TooMuch" := gl_of hs (by decide +kernel)
  have l_NoText : Gl X "NoText" := gl_of hs (by decide +kernel)
  have l_NoBook : Gl X "NoBook" := gl_of hs (by decide +kernel)
  have l_LaneError : Gl X "LaneError" := gl_of hs (by decide +kernel)
  have g_ValueError : Gn X "ValueError" := gn_of hs (by decide +kernel) G_ValueError
  have g_range : Gn X "range" := gn_of hs (by decide +kernel) G_range
  clear F hf
  change DSs _ X (_ :: _) [_, _, _] _ _
  have hh : ExcP X.K C ∧ KitP X.K (.ref C) (.ref c_NoJar) (decide (i = 0)) ∧ KitP X.K (.ref C) (.ref c_NoTick) (decide (i = 1)) ∧ KitP X.K (.ref C) (.ref c_NoLane) (decide (i = 2)) ∧ KitP X.K (.ref C) (.ref c_NoName) (decide (i = 3)) ∧ KitP X.K (.ref C) (.ref c_Taken) (decide (i = 4)) ∧ KitP X.K (.ref C) (.ref c_Unknown) (decide (i = 5)) ∧ KitP X.K (.ref C) (.ref c_NoWay) (decide (i = 6)) ∧ KitP X.K (.ref C) (.ref c_NoLot) (decide (i = 7)) ∧ KitP X.K (.ref C) (.ref c_TooMany) (decide (i = 8)) ∧ KitP X.K (.ref C) (.ref c_TooMuch) (decide (i = 9)) ∧ KitP X.K (.ref C) (.ref c_NoText) (decide (i = 10)) ∧ KitP X.K (.ref C) (.ref c_NoBook) (decide (i = 11)) ∧ KitP X.K (.ref C) (.ref c_LaneError) true ∧ KitP X.K (.ref C) (.type "ValueError") true := by
    rcases (show i = 0 ∨ i = 1 ∨ i = 2 ∨ i = 3 ∨ i = 4 ∨ i = 5 ∨ i = 6 ∨ i = 7 ∨ i = 8 ∨ i = 9 ∨ i = 10 ∨ i = 11 by omega) with rfl | rfl | rfl | rfl | rfl | rfl | rfl | rfl | rfl | rfl | rfl | rfl
    all_goals
      cases hC
      exact ⟨by assumption, by assumption, by assumption, by assumption, by assumption, by assumption, by assumption, by assumption, by assumption, by assumption, by assumption, by assumption, by assumption, by assumption, by assumption⟩
  obtain ⟨hx, h0, h1, h2, h3, h4, h5, h6, h7, h8, h9, h10, h11, h12, h13⟩ := hh
  repeat' ((fail_if_success refine (stSet "_law_found") ?_); walk_at "t")
  first | refine ds_cons (ds_own 0 z n1 (df_lst ?_)) | refine ds_own 0 z n1 (df_lst ?_)
  repeat' walk_at "t"
  intro q
  repeat' ((fail_if_success refine (stAug "_law_found") ?_); walk_at "t")
  refine ds_cons ?_
  refine ds_augL z n1 (by rfl) ?_
  repeat' walk_at "t"
  refine oi_ext (j := 0) rfl (.val _) (show 8 ≤ sizeLine by decide) ?_
  repeat' ((fail_if_success refine (stAug "_law_found") ?_); walk_at "t")
  refine ds_cons ?_
  refine ds_augL z n1 (by rfl) ?_
  repeat' walk_at "t"
  refine oi_ext (j := 0) rfl (.val _) (show 12 ≤ sizeLine by decide) ?_
  repeat' ((fail_if_success refine stIf ?_); walk_at "t")
  refine ws_frz 1 0 rfl rfl ?_
  show DSs _ X _ [_, some (.lst ((List.range 12).map fun q => .bl (decide (i = q)))), _] M _
  repeat' walk_at "t"
  refine DE.f (df_lc 0 z hN hs [("_law_k", 2)] (.one 2) (by decide +kernel) (by decide) (fun X' bk => pg_one bk z (bk.lo hN hs (by decide +kernel))) (di_range1 (by assumption) ?_))
  repeat' walk_at "t"
  refine ⟨by decide, by decide, ?_⟩
  refine LcH.pureT ((List.range 12)) ((fun k : Nat => .int (0 + (k : Nat)))) (fun a => if i = a then some ((0 + (a : Int))) else none) (.int) (Nat.le_trans (show List.length _ ≤ 1000 by first | omega | (simp; done) | (simp; omega)) (by decide)) (fun q acc a ha => ?_) ?_
  · refine ⟨_, rfl, fun X' bk => ?_⟩
    have c2 : Lo X' 2 "_law_k" := bk.lo hN hs (by decide +kernel)
    have c1 : Nm X' 1 "_law_found" := bk.nm hN hs (by decide +kernel)
    have z' := bk.z z
    repeat' walk_at "t"
    all_goals first
      | (intro X' bk; (have c2 : Lo X' 2 "_law_k" := bk.lo hN hs (by decide +kernel)); (have c1 : Nm X' 1 "_law_found" := bk.nm hN hs (by decide +kernel)); (have z' := bk.z z); (repeat' walk_at "t"); exact ⟨by rw [if_pos (by walk_at "pos")]; rfl, rfl⟩)
      | exact ⟨by rw [if_neg (by walk_at "neg")]; rfl, rfl⟩
  rw [one_of hi]
  exact ⟨_, _, .refl, k⟩
abbrev s_law_name : Stmt := top 25
def n_law_name : List Str := ["_law_state", "_law_some", "_law_word", "_law_turn"]
theorem sc_law_name : FnScope n_law_name ["_law_state"] (defScope s_law_name) := ⟨rfl, rfl, rfl, by decide +kernel, rfl, by decide +kernel, by decide +kernel⟩
theorem d_law_name {P : Program} {w : World} {K : PySem.W.Frag} {mg : Str → Option Value} {base : Heap} {f : Addr} {fd : FuncData} (F : Fun K "_law_name" "_law_name" s_law_name f fd)
    (G_range : mg "range" = none) (D_law_take : Def P w K mg base 1 "_law_take" ["_law_state", "_law_many"] pTake) (D_law_pick : Def P w K mg base 2 "_law_pick" ["_law_state", "_law_some"] pPick) : FnOk P w K mg base CX0 3 f fd ["_law_state"] (lift pNameX) := by
  refine fnok_of (N := n_law_name) (k := 2) F sc_law_name (fun ds M Φ h => by obtain ⟨s, g, b, M', rfl, rfl, hb, k⟩ := h; rfl) fun X B I ds M Φ h => ?_
  obtain ⟨s, g, b, M', rfl, rfl, hb, k⟩ := h
  obtain ⟨rfl, rfl, rfl, rfl, rfl, hN, hs, hf, z, xe⟩ := I
  have hp := passes_of xe
  have n0 : Lo X 0 "_law_state" := lo_of hN hs hf (by decide +kernel)
  have n1 : Lo X 1 "_law_some" := lo_of hN hs hf (by decide +kernel)
  have n2 : Lo X 2 "_law_word" := lo_of hN hs hf (by decide +kernel)
  have n3 : Lo X 3 "_law_turn" := lo_of hN hs hf (by decide +kernel)
  have g_range : Gn X "range" := gn_of hs (by decide +kernel) G_range
  have l_law_take : Gl X "_law_take" := gl_of hs (by decide +kernel)
  have l_law_pick : Gl X "_law_pick" := gl_of hs (by decide +kernel)
  clear F hf
  change DSs _ X (_ :: _) [_, _, _, _] _ _
  repeat' ((fail_if_success refine stFor ?_); walk_at "t")
  first | refine ds_cons (ds_forC [2, 3] z (by assumption) (di_range1 (by assumption) ?_)) | refine ds_forC [2, 3] z (by assumption) (di_range1 (by assumption) ?_)
  repeat' walk_at "t"
  refine ⟨by omega, by omega, fun i vs M1 => (∃ (b' : Nat) (t : Str) (o3 : Option D), [some (.str t), o3] = vs ∧ (s, .st g b') :: M' = M1 ∧ (b ≤ b' + 1 + i) ∧ (t.length = i) ∧ (∀ c ∈ t.cps.toList, c < 1114112)), ⟨_, Str.ofString "", _, rfl, rfl, (by omega), (rfl), (fun c hc => by rw [show (Str.ofString "").cps.toList = [] from rfl] at hc; cases hc)⟩, ?_, ?_⟩
  · rintro i x vs δ M1 hx ⟨b', t, o3, rfl, rfl, hb', ht, hs⟩ hδ
    obtain rfl : δ = [_, _, _, o3] := hδ
    obtain ⟨hi, rfl⟩ := range_get hx
    repeat' walk_at "t"
    refine c_pickS (by omega) (by decide +kernel) (by decide +kernel) fun c hc => ?_
    repeat' walk_at "t"
    refine od_addS (Nat.le_trans (show t.length + 1 ≤ 100 by omega) (by decide)) ?_
    repeat' walk_at "t"
    have hlen : (t ++ (⟨#[c]⟩ : Str)).length = i + 1 := by
      show (t.cps ++ #[c]).size = i + 1
      rw [Array.size_append]
      show t.length + 1 = i + 1
      rw [ht]
    have hsg : ∀ d ∈ (t ++ (⟨#[c]⟩ : Str)).cps.toList, d < 1114112 := fun d hd => by
      have hd : d ∈ (t.cps ++ #[c]).toList := hd
      rw [Array.toList_append] at hd
      rcases List.mem_append.mp hd with h | h
      · exact hs d h
      · obtain rfl : d = c := by simpa using h
        exact sign_lt hc
    exact ⟨[_, _], rfl, _, t ++ (⟨#[c]⟩ : Str), _, rfl, rfl, (by omega), (hlen), (hsg)⟩
  · rintro vs δ M1 ⟨b', t, o3, rfl, rfl, hb', ht, hs⟩ hδ
    obtain rfl : δ = [_, _, _, o3] := hδ
    try simp only [range_len, List.length_map, enum_len] at ht hs
    have hrl : ∀ n : Nat, (rangeD 0 n).length = n := fun n => by simp [rangeD]
    rw [hrl] at hb'
    repeat' walk_at "t"
    refine ⟨_, _, .refl, k t b' (by omega) (by omega) ?_⟩
    show t.cps.all (fun c => decide (c < 0x110000)) = true
    rw [Array.all_eq_true']
    intro c hc
    exact decide_eq_true (hs c (Array.mem_toList_iff.mpr hc))
abbrev s_law_refused : Stmt := top 26
def n_law_refused : List Str := ["_law_way", "_law_jar", "_law_number", "_law_flow", "_law_fault", "_law_e"]
theorem sc_law_refused : FnScope n_law_refused ["_law_way", "_law_jar", "_law_number", "_law_flow"] (defScope s_law_refused) := ⟨rfl, rfl, rfl, by decide +kernel, rfl, by decide +kernel, by decide +kernel⟩
theorem d_law_refused {P : Program} {w : World} {K : PySem.W.Frag} {mg : Str → Option Value} {base : Heap} {c_Jar c_Flow c_LaneError c_Taken c_NoWay c_TooMuch c_NoLane c_Unknown c_TooMany c_NoTick c_NoLot c_NoText c_NoBook c_NoJar c_NoName : Addr} {f : Addr} {fd : FuncData} (F : FunG K "_law_refused" "_law_refused" s_law_refused f fd)
    (N_Jar_3 : MakeE P w K mg base 1 "Jar" c_Jar 3 [] (selN 4) (pJarI c_Jar c_NoJar)) (N_Flow_2 : MakeE P w K mg base 1 "Flow" c_Flow 2 [] (selN 3) (pFlowI c_Flow c_Jar c_NoJar)) (A_Jar_size : FldP K c_Jar "size") (M_Flow_ahead_1 : MethE P w K mg base 1 c_Flow "ahead" 1 [] (selN 2) (pAhead c_Flow c_Jar c_NoTick)) (M_Flow_come_1 : MethE P w K mg base 3 c_Flow "come" 1 [] (selN 2) (pCome c_Flow c_Jar c_TooMany)) (M_Flow_may_0 : MethE P w K mg base 1 c_Flow "may" 0 [] (selN 1) (pMay c_Flow c_Jar)) (Q_LaneError : MgP mg "LaneError" c_LaneError) (XM_Taken_LaneError : ExmP K (.ref c_Taken) (.ref c_LaneError) true) (XM_NoWay_LaneError : ExmP K (.ref c_NoWay) (.ref c_LaneError) true) (XM_TooMuch_LaneError : ExmP K (.ref c_TooMuch) (.ref c_LaneError) true) (XM_NoLane_LaneError : ExmP K (.ref c_NoLane) (.ref c_LaneError) true) (XM_Unknown_LaneError : ExmP K (.ref c_Unknown) (.ref c_LaneError) true) (XM_TooMany_LaneError : ExmP K (.ref c_TooMany) (.ref c_LaneError) true) (XM_NoTick_LaneError : ExmP K (.ref c_NoTick) (.ref c_LaneError) true) (XM_NoLot_LaneError : ExmP K (.ref c_NoLot) (.ref c_LaneError) true) (XM_NoText_LaneError : ExmP K (.ref c_NoText) (.ref c_LaneError) true) (XM_NoBook_LaneError : ExmP K (.ref c_NoBook) (.ref c_LaneError) true) (XM_NoJar_LaneError : ExmP K (.ref c_NoJar) (.ref c_LaneError) true) (XM_NoName_LaneError : ExmP K (.ref c_NoName) (.ref c_LaneError) true) : FnOk P w K mg base (L2.CX P w) 4 f fd ["_law_way", "_law_jar", "_law_number", "_law_flow"] (liftE (pRefused c_Flow c_Jar c_NoJar c_NoTick c_TooMany)) := by
  refine fnokG_of (N := n_law_refused) (k := 3) F sc_law_refused (fun ds M Φ Ξ h => by obtain ⟨v, j, m, n, p, i, rfl, hm, hv, hj, hm0, hm1, hn, k⟩ := h; rfl) fun X kp ds M Φ Ξ h I => ?_
  obtain ⟨v, j, m, n, p, i, rfl, hm, hv, hj, hm0, hm1, hn, k⟩ := h
  obtain ⟨rfl, rfl, rfl, rfl, rfl, hN, hs, hf, z, hp, tk, hst, hfr⟩ := I
  have nd := z.nd
  have n0 : Lo X 0 "_law_way" := lo_of hN hs hf (by decide +kernel)
  have n1 : Lo X 1 "_law_jar" := lo_of hN hs hf (by decide +kernel)
  have n2 : Lo X 2 "_law_number" := lo_of hN hs hf (by decide +kernel)
  have n3 : Lo X 3 "_law_flow" := lo_of hN hs hf (by decide +kernel)
  have n4 : Lo X 4 "_law_fault" := lo_of hN hs hf (by decide +kernel)
  have n5 : Lo X 5 "_law_e" := lo_of hN hs hf (by decide +kernel)
  have l_Jar : Gl X "Jar" := gl_of hs (by decide +kernel)
  have l_Flow : Gl X "Flow" := gl_of hs (by decide +kernel)
  have l_LaneError : Gl X "LaneError" := gl_of hs (by decide +kernel)
  clear F hf
  change DSs _ X (_ :: _) [_, _, _, _, _, _] _ _
  have io : IsO M (.raw (.ref p)) c_Flow fNs (fFs c_Jar j m) := .cell i hm
  have hr1 := hj.r1
  have hrm := hj.rm
  have hms := hj.ms
  repeat' ((fail_if_success refine stTry ?_); walk_at "t")
  refine ds_cutC [4, 5] (fun vs M1 => (∃  (o5 : Option D), [some (refD c_NoJar c_NoTick c_TooMany j m v), o5] = vs ∧ M = M1)) ?_ ?_
  · repeat' ((fail_if_success refine stTry ?_); walk_at "t")
    first | refine ds_cons (ds_try [(c_LaneError, some 5, _)] hst hfr z.nd tk ⟨⟨l_LaneError, by decide, Q_LaneError.is⟩, rfl, ⟨n5.at_, kind_of hs (by decide +kernel)⟩, trivial⟩ (fun pn xe kp' hp' tk' => ?_)) | refine ds_try [(c_LaneError, some 5, _)] hst hfr z.nd tk ⟨⟨l_LaneError, by decide, Q_LaneError.is⟩, rfl, ⟨n5.at_, kind_of hs (by decide +kernel)⟩, trivial⟩ (fun pn xe kp' hp' tk' => ?_)
    rcases (show v = 0 ∨ v = 1 ∨ v = 2 ∨ v = 3 by omega) with rfl | rfl | rfl | rfl
    · repeat' walk_at "t"
      refine ⟨_, _, _, _, _, rfl, rfl, fun h => absurd h.ms (by dsimp only; omega), fun _ => ?_⟩
      repeat' walk_at "t"
      exact ⟨[_, _], rfl, _, rfl, rfl⟩
    · repeat' walk_at "t"
      refine ⟨_, j, _, _, M, rfl, rfl, rfl, fun h => absurd h (by omega), fun _ => ?_⟩
      repeat' walk_at "t"
      exact ⟨[_, _], rfl, _, rfl, rfl⟩
    · repeat' walk_at "t"
      refine ⟨_, j, m, _, rfl, io, hj, fun h => by omega, fun _ => ?_⟩
      repeat' walk_at "t"
      exact ⟨[_, _], rfl, _, rfl, rfl⟩
    · repeat' walk_at "t"
      refine ⟨p, j, m, _, i, rfl, hm, fun h => by omega, fun _ => ?_⟩
      repeat' walk_at "t"
      exact ⟨[_, _], rfl, _, rfl, rfl⟩
  · rintro vs δ M1 ⟨o5, rfl, rfl⟩ hδ
    obtain rfl : δ = [_, _, _, _, _, o5] := hδ
    repeat' walk_at "t"
    exact ⟨_, _, .refl, k⟩
abbrev s_law_alone : Stmt := top 27
def n_law_alone : List Str := ["_law_state", "_law_word", "_law_number", "_law_one", "_law_two", "_law_three"]
theorem sc_law_alone : FnScope n_law_alone ["_law_state"] (defScope s_law_alone) := ⟨rfl, rfl, rfl, by decide +kernel, rfl, by decide +kernel, by decide +kernel⟩
theorem d_law_alone {P : Program} {w : World} {K : PySem.W.Frag} {mg : Str → Option Value} {base : Heap} {c_NoJar c_NoTick c_NoLane c_NoName c_Taken c_Unknown c_TooMany c_NoWay c_NoLot c_NoText c_NoBook : Addr} {f : Addr} {fd : FuncData} (F : FunG K "_law_alone" "_law_alone" s_law_alone f fd)
    (D_law_name : Def P w K mg base 3 "_law_name" ["_law_state"] pNameX) (D_law_take : Def P w K mg base 1 "_law_take" ["_law_state", "_law_many"] pTake) (E_law_places_1 : DefE P w K mg base 1 "_law_places" 1 [] (selN 1) (pPlaces (xAll c_NoJar c_NoTick c_NoLane c_NoName c_Taken c_Unknown c_NoWay c_NoLot c_TooMany c_TooMuch c_NoText c_NoBook))) (X_NoJar : Ex0 K mg "NoJar" c_NoJar) (X_NoTick : Ex0 K mg "NoTick" c_NoTick) (X_NoLane : Ex0 K mg "NoLane" c_NoLane) (X_NoName : ExI P w K mg base "NoName" c_NoName ["name"]) (XN_NoName_0_name : ExN P w K mg base "NoName" c_NoName ["name"] 0 ["name"] [.inl 1]) (X_Taken : ExI P w K mg base "Taken" c_Taken ["name"]) (XN_Taken_1 : ExN P w K mg base "Taken" c_Taken ["name"] 1 [] [.inl 1]) (X_Unknown : ExI P w K mg base "Unknown" c_Unknown ["name"]) (XN_Unknown_0_name : ExN P w K mg base "Unknown" c_Unknown ["name"] 0 ["name"] [.inl 1]) (A_NoName_name : XfP K c_NoName "name") (A_Taken_name : XfP K c_Taken "name") (A_Unknown_name : XfP K c_Unknown "name") (A_TooMany_name : XfP K c_TooMany "name") (X_NoWay : ExI P w K mg base "NoWay" c_NoWay ["place"]) (XN_NoWay_0_place : ExN P w K mg base "NoWay" c_NoWay ["place"] 0 ["place"] [.inl 1]) (X_NoLot : ExI P w K mg base "NoLot" c_NoLot ["place"]) (XN_NoLot_1 : ExN P w K mg base "NoLot" c_NoLot ["place"] 1 [] [.inl 1]) (A_NoWay_place : XfP K c_NoWay "place") (A_NoLot_place : XfP K c_NoLot "place") (X_NoText : ExI P w K mg base "NoText" c_NoText ["row"]) (XN_NoText_1 : ExN P w K mg base "NoText" c_NoText ["row"] 1 [] [.inl 1]) (X_NoBook : ExI P w K mg base "NoBook" c_NoBook ["row"]) (XN_NoBook_0_row : ExN P w K mg base "NoBook" c_NoBook ["row"] 0 ["row"] [.inl 1]) (A_NoText_row : XfP K c_NoText "row") (A_NoBook_row : XfP K c_NoBook "row") (X_TooMany : ExI P w K mg base "TooMany" c_TooMany ["name", "bound"]) (XN_TooMany_0_bound_name : ExN P w K mg base "TooMany" c_TooMany ["name", "bound"] 0 ["bound", "name"] [.inl 2, .inl 1]) (A_TooMany_bound : XfP K c_TooMany "bound") : FnOk P w K mg base (L2.CX P w) 4 f fd ["_law_state"] (liftE pAlone) := by
  refine fnokG_of (N := n_law_alone) (k := 3) F sc_law_alone (fun ds M Φ Ξ h => by obtain ⟨s, g, b, M', rfl, rfl, hb, k⟩ := h; rfl) fun X kp ds M Φ Ξ h I => ?_
  obtain ⟨s, g, b, M', rfl, rfl, hb, k⟩ := h
  obtain ⟨rfl, rfl, rfl, rfl, rfl, hN, hs, hf, z, hp, tk, hst, hfr⟩ := I
  have nd := z.nd
  have n0 : Lo X 0 "_law_state" := lo_of hN hs hf (by decide +kernel)
  have n1 : Lo X 1 "_law_word" := lo_of hN hs hf (by decide +kernel)
  have n2 : Lo X 2 "_law_number" := lo_of hN hs hf (by decide +kernel)
  have n3 : Lo X 3 "_law_one" := lo_of hN hs hf (by decide +kernel)
  have n4 : Lo X 4 "_law_two" := lo_of hN hs hf (by decide +kernel)
  have n5 : Lo X 5 "_law_three" := lo_of hN hs hf (by decide +kernel)
  have l_law_name : Gl X "_law_name" := gl_of hs (by decide +kernel)
  have l_law_take : Gl X "_law_take" := gl_of hs (by decide +kernel)
  have l_law_places : Gl X "_law_places" := gl_of hs (by decide +kernel)
  have l_NoJar : Gl X "NoJar" := gl_of hs (by decide +kernel)
  have l_NoTick : Gl X "NoTick" := gl_of hs (by decide +kernel)
  have l_NoLane : Gl X "NoLane" := gl_of hs (by decide +kernel)
  have l_NoName : Gl X "NoName" := gl_of hs (by decide +kernel)
  have l_Taken : Gl X "Taken" := gl_of hs (by decide +kernel)
  have l_Unknown : Gl X "Unknown" := gl_of hs (by decide +kernel)
  have l_NoWay : Gl X "NoWay" := gl_of hs (by decide +kernel)
  have l_NoLot : Gl X "NoLot" := gl_of hs (by decide +kernel)
  have l_NoText : Gl X "NoText" := gl_of hs (by decide +kernel)
  have l_NoBook : Gl X "NoBook" := gl_of hs (by decide +kernel)
  have l_TooMany : Gl X "TooMany" := gl_of hs (by decide +kernel)
  clear F hf
  change DSs _ X (_ :: _) [_, _, _, _, _, _] _ _
  repeat' walk_at "t"
  refine c_nameX (by omega) fun t b' hb' htl hto => ?_
  repeat' walk_at "t"
  have ht3 : okE (.lst [.str t, .str t, .str t]) = true := by
    show ((okD (.str t) && (okD (.str t) && (okD (.str t) && true))) && _) = true
    rw [hto]; rfl
  refine od_rep ⟨by decide, by decide, show 1 * 3 ≤ sizeLine by decide⟩ ?_
  refine od_neSame (x' := .lst [.str t, .str t, .str t]) (.val _) (.val _) ht3 ?_
  repeat' walk_at "t"
  refine od_eqSame (x' := .lst [.lst [.int 8], .str t, .int _]) (.val _) (.val _) ?_ ?_
  · show ((okDs [.int 8] && (okD (.str t) && (true && true))) && _) = true
    rw [hto]; rfl
  exact ⟨_, _, .refl, k _ (by omega)⟩
abbrev s_law_much : Stmt := top 28
def n_law_much : List Str := ["_law_state", "_law_word", "_law_begin", "_law_more", "_law_told", "_law_one", "_law_turn"]
theorem sc_law_much : FnScope n_law_much ["_law_state"] (defScope s_law_much) := ⟨rfl, rfl, rfl, by decide +kernel, rfl, by decide +kernel, by decide +kernel⟩
theorem d_law_much {P : Program} {w : World} {K : PySem.W.Frag} {mg : Str → Option Value} {base : Heap} {c_TooMuch : Addr} {f : Addr} {fd : FuncData} (F : FunG K "_law_much" "_law_much" s_law_much f fd)
    (D_law_name : Def P w K mg base 3 "_law_name" ["_law_state"] pNameX) (D_law_take : Def P w K mg base 1 "_law_take" ["_law_state", "_law_many"] pTake) (G_range : mg "range" = none) (X_TooMuch : ExI P w K mg base "TooMuch" c_TooMuch ["lane", "first", "end", "rows"]) (XN_TooMuch_0_end_rows_lane_first : ExN P w K mg base "TooMuch" c_TooMuch ["lane", "first", "end", "rows"] 0 ["end", "rows", "lane", "first"] [.inl 3, .inl 4, .inl 1, .inl 2]) (G_list : mg "list" = none) (E_law_places_1 : DefE P w K mg base 1 "_law_places" 1 [] (selN 1) (pPlaces (xAll c_NoJar c_NoTick c_NoLane c_NoName c_Taken c_Unknown c_NoWay c_NoLot c_TooMany c_TooMuch c_NoText c_NoBook))) (A_TooMuch_lane : XfP K c_TooMuch "lane") (A_TooMuch_first : XfP K c_TooMuch "first") (A_TooMuch_end : XfP K c_TooMuch "end") (A_TooMuch_rows : XfP K c_TooMuch "rows") : FnOk P w K mg base (L2.CX P w) 4 f fd ["_law_state"] (liftE pMuch) := by
  refine fnokG_of (N := n_law_much) (k := 3) F sc_law_much (fun ds M Φ Ξ h => by obtain ⟨s, g, b, M', rfl, rfl, hb, k⟩ := h; rfl) fun X kp ds M Φ Ξ h I => ?_
  obtain ⟨s, g, b, M', rfl, rfl, hb, k⟩ := h
  obtain ⟨rfl, rfl, rfl, rfl, rfl, hN, hs, hf, z, hp, tk, hst, hfr⟩ := I
  have nd := z.nd
  have n0 : Lo X 0 "_law_state" := lo_of hN hs hf (by decide +kernel)
  have n1 : Lo X 1 "_law_word" := lo_of hN hs hf (by decide +kernel)
  have n2 : Lo X 2 "_law_begin" := lo_of hN hs hf (by decide +kernel)
  have n3 : Lo X 3 "_law_more" := lo_of hN hs hf (by decide +kernel)
  have n4 : Lo X 4 "_law_told" := lo_of hN hs hf (by decide +kernel)
  have n5 : Lo X 5 "_law_one" := lo_of hN hs hf (by decide +kernel)
  have l_law_name : Gl X "_law_name" := gl_of hs (by decide +kernel)
  have l_law_take : Gl X "_law_take" := gl_of hs (by decide +kernel)
  have g_range : Gn X "range" := gn_of hs (by decide +kernel) G_range
  have l_TooMuch : Gl X "TooMuch" := gl_of hs (by decide +kernel)
  have g_list : Gn X "list" := gn_of hs (by decide +kernel) G_list
  have l_law_places : Gl X "_law_places" := gl_of hs (by decide +kernel)
  clear F hf
  change DSs _ X (_ :: _) [_, _, _, _, _, _, _] _ _
  refine ds_cons (ds_asgN (y := "_law_begin") (.tail _ (.head _)) (by unfold Env.kindOf; rw [hs]; rfl) ?_)
  repeat' walk_at "t"
  refine c_nameX (by omega) fun t b' hb' htl hto => ?_
  repeat' walk_at "t"
  rename_i lo hlo0 hlo1 mo hmo0 hmo1
  repeat' ((fail_if_success refine (stSet "_law_told") ?_); walk_at "t")
  first | refine ds_cons (ds_lc 1 z n4 hN hs [("_law_turn", 6)] (.one 6) (by decide +kernel) (by decide) (fun X' bk => pg_one bk z (bk.lo hN hs (by decide +kernel))) (by decide +kernel) (by decide +kernel) (by decide +kernel) (by decide +kernel) (di_range1 (by assumption) ?_)) | refine ds_lc 1 z n4 hN hs [("_law_turn", 6)] (.one 6) (by decide +kernel) (by decide) (fun X' bk => pg_one bk z (bk.lo hN hs (by decide +kernel))) (by decide +kernel) (by decide +kernel) (by decide +kernel) (by decide +kernel) (di_range1 (by assumption) ?_)
  repeat' walk_at "t"
  rename_i nt hnt0 hnt1
  refine ⟨by omega, by omega, ?_⟩
  refine LcH.drawT (β := (Str × Int)) (fun r => okD (.str r.1) = true) ((fun r => D.tup [.str r.1, .int lo, .int (1 + mo), .int r.2])) 22 (by omega) (by omega) (fun q acc i b1 hi hb1 => ?_) ?_
  · refine ⟨_, rfl, fun X' bk => ?_⟩
    have c6 : Lo X' 6 "_law_turn" := bk.lo hN hs (by decide +kernel)
    have c0 : Nm X' 0 "_law_state" := bk.nm hN hs (by decide +kernel)
    have c2 : Nm X' 2 "_law_begin" := bk.nm hN hs (by decide +kernel)
    have c3 : Nm X' 3 "_law_more" := bk.nm hN hs (by decide +kernel)
    have z' := bk.z z
    have D_law_name' := bk.df D_law_name
    have l_law_name' : Gl X' "_law_name" := bk.gl hs (by decide +kernel)
    have D_law_take' := bk.df D_law_take
    have l_law_take' : Gl X' "_law_take" := bk.gl hs (by decide +kernel)
    repeat' walk_at "t"
    refine c_nameX (by omega) fun u b2 hb2 hul huo => ?_
    repeat' walk_at "t"
    rename_i ct hct0 hct1
    exact ⟨(u, 1 + ct), _, huo, by omega, rfl, rfl⟩
  intro ys b2 hyl hys hb2
  repeat' walk_at "t"
  refine ⟨_, .val _, ?_⟩
  repeat' walk_at "t"
  refine od_eqSame (x' := .lst [.lst [.int 9], .str t, .int lo, .int (lo + (1 + mo)), .lst (ys.map fun r => D.tup [.str r.1, .int lo, .int (1 + mo), .int r.2])]) (.val _) (.val _) (ok_much hto hys) ?_
  have hnt : nt.toNat ≤ 3 := by omega
  have hb2 : b' - 1 - 1 - 1 ≤ b2 + 22 * nt.toNat := hb2
  exact ⟨_, _, .refl, k _ (by omega)⟩
abbrev s_law : Stmt := top 29
def n_law : List Str := ["_law_script", "_law_state", "_law_turn", "_law_rate", "_law_jar", "_law_flow", "_law_way", "_law_fault"]
theorem sc_law : FnScope n_law ["_law_script"] (defScope s_law) := ⟨rfl, rfl, rfl, by decide +kernel, rfl, by decide +kernel, by decide +kernel⟩
theorem d_law {P : Program} {w : World} {K : PySem.W.Frag} {mg : Str → Option Value} {base : Heap} {c_Jar c_Flow c_NoName c_Taken c_Unknown c_TooMany : Addr} {f : Addr} {fd : FuncData} (F : FunG K "law" "law" s_law f fd)
    (D_law_begun : Def P w K mg base 1 "_law_begun" ["_law_script"] (pBegun K)) (G_range : mg "range" = none) (E_law_alone_1 : DefE P w K mg base 4 "_law_alone" 1 [] (selN 1) pAlone) (E_law_much_1 : DefE P w K mg base 4 "_law_much" 1 [] (selN 1) pMuch) (D_law_take : Def P w K mg base 1 "_law_take" ["_law_state", "_law_many"] pTake) (N_Jar_3 : MakeE P w K mg base 1 "Jar" c_Jar 3 [] (selN 4) (pJarI c_Jar c_NoJar)) (N_Flow_2 : MakeE P w K mg base 1 "Flow" c_Flow 2 [] (selN 3) (pFlowI c_Flow c_Jar c_NoJar)) (A_Jar_size : FldP K c_Jar "size") (E_law_refused_4 : DefE P w K mg base 4 "_law_refused" 4 [] (selN 4) (pRefused c_Flow c_Jar c_NoJar c_NoTick c_TooMany)) (E_law_places_1 : DefE P w K mg base 1 "_law_places" 1 [] (selN 1) (pPlaces (xAll c_NoJar c_NoTick c_NoLane c_NoName c_Taken c_Unknown c_NoWay c_NoLot c_TooMany c_TooMuch c_NoText c_NoBook))) (A_NoName_name : XfP K c_NoName "name") (A_Taken_name : XfP K c_Taken "name") (A_Unknown_name : XfP K c_Unknown "name") (A_TooMany_name : XfP K c_TooMany "name") (A_TooMany_bound : XfP K c_TooMany "bound") (M_Flow_may_0 : MethE P w K mg base 1 c_Flow "may" 0 [] (selN 1) (pMay c_Flow c_Jar)) : FnOk P w K mg base (L2.CX P w) 5 f fd ["_law_script"] (liftE (pLawE K)) := by
  refine fnokG_of (N := n_law) (k := 4) F sc_law (fun ds M Φ Ξ h => by obtain ⟨ns, rfl, hl, k⟩ := h; rfl) fun X kp ds M Φ Ξ h I => ?_
  obtain ⟨ns, rfl, hl, k⟩ := h
  obtain ⟨rfl, rfl, rfl, rfl, rfl, hN, hs, hf, z, hp, tk, hst, hfr⟩ := I
  have nd := z.nd
  have n0 : Lo X 0 "_law_script" := lo_of hN hs hf (by decide +kernel)
  have n1 : Lo X 1 "_law_state" := lo_of hN hs hf (by decide +kernel)
  have n2 : Lo X 2 "_law_turn" := lo_of hN hs hf (by decide +kernel)
  have n3 : Lo X 3 "_law_rate" := lo_of hN hs hf (by decide +kernel)
  have n4 : Lo X 4 "_law_jar" := lo_of hN hs hf (by decide +kernel)
  have n5 : Lo X 5 "_law_flow" := lo_of hN hs hf (by decide +kernel)
  have n6 : Lo X 6 "_law_way" := lo_of hN hs hf (by decide +kernel)
  have n7 : Lo X 7 "_law_fault" := lo_of hN hs hf (by decide +kernel)
  have l_law_begun : Gl X "_law_begun" := gl_of hs (by decide +kernel)
  have g_range : Gn X "range" := gn_of hs (by decide +kernel) G_range
  have l_law_alone : Gl X "_law_alone" := gl_of hs (by decide +kernel)
  have l_law_much : Gl X "_law_much" := gl_of hs (by decide +kernel)
  have l_law_take : Gl X "_law_take" := gl_of hs (by decide +kernel)
  have l_Jar : Gl X "Jar" := gl_of hs (by decide +kernel)
  have l_Flow : Gl X "Flow" := gl_of hs (by decide +kernel)
  have l_law_refused : Gl X "_law_refused" := gl_of hs (by decide +kernel)
  have l_law_places : Gl X "_law_places" := gl_of hs (by decide +kernel)
  clear F hf
  change DSs _ X (_ :: _) [_, _, _, _, _, _, _, _] _ _
  repeat' ((fail_if_success refine stFor ?_); walk_at "t")
  rename_i s g
  repeat' ((fail_if_success refine stFor ?_); walk_at "t")
  first | refine ds_cons (ds_forC [2, 3, 4, 5, 6, 7] z (by assumption) (di_range1 (by assumption) ?_)) | refine ds_forC [2, 3, 4, 5, 6, 7] z (by assumption) (di_range1 (by assumption) ?_)
  repeat' walk_at "t"
  refine ⟨by omega, by omega, fun i vs M1 => (∃ (b : Nat) (o2 o3 o4 o5 o6 o7 : Option D), [o2, o3, o4, o5, o6, o7] = vs ∧ (s, .st g b) :: M = M1 ∧ (999999990000 ≤ b + 1000 * i)), ⟨_, _, _, _, _, _, _, rfl, rfl, (by first | rfl | omega | (simp; done) | (simp; omega))⟩, ?_, ?_⟩
  · rintro i x vs δ M1 hx ⟨b, o2, o3, o4, o5, o6, o7, rfl, rfl, hb⟩ hδ
    obtain rfl : δ = [_, _, o2, o3, o4, o5, o6, o7] := hδ
    obtain ⟨hi, rfl⟩ := range_get hx
    repeat' walk_at "t"
    refine ⟨s, g, b, M, rfl, rfl, by omega, fun b1 hb1 => ?_⟩
    repeat' walk_at "t"
    refine ⟨s, g, b1, M, rfl, rfl, by omega, fun b2 hb2 => ?_⟩
    repeat' walk_at "t"
    rename_i r0 hr00 hr01 r1 hr10 hr11 ja
    have hj : JOk ⟨1 + r0 + r1, 1 + r0, 1 + r0⟩ := ⟨by dsimp only; omega, by dsimp only; omega, by dsimp only; omega, by dsimp only; omega⟩
    refine c_jar hj ?_
    generalize (⟨1 + r0 + r1, 1 + r0, 1 + r0⟩ : J) = j at hj ⊢
    have hms := hj.ms
    have hrm := hj.rm
    have hr1 := hj.r1
    have hsz := hj.sz
    repeat' walk_at "t"
    rename_i mk hmk0 hmk1 p
    refine ⟨p, j, .int mk, mk, _, rfl, rfl, rfl, fun _ => .cell ?_, fun h => absurd ⟨hmk0, by omega⟩ h⟩
    repeat' ((fail_if_success refine stFor ?_); walk_at "t")
    refine ws_perm (M2 := (s, .st g (b2 - 1 - 1 - 1)) :: (p, .obj c_Flow fNs (fFs c_Jar j mk)) :: M) (List.Perm.swap _ _ _) ?_
    repeat' ((fail_if_success refine stFor ?_); walk_at "t")
    first | refine ds_cons (ds_forC [6, 7] z (by assumption) (di_range1 (by assumption) ?_)) | refine ds_forC [6, 7] z (by assumption) (di_range1 (by assumption) ?_)
    repeat' walk_at "t"
    refine ⟨by omega, by omega, fun q vs M1 => (∃ (b3 : Nat) (o6 o7 : Option D), [o6, o7] = vs ∧ (s, .st g b3) :: (p, .obj c_Flow fNs (fFs c_Jar j mk)) :: M = M1 ∧ (b2 ≤ b3 + 3 + q)), ⟨_, _, _, rfl, rfl, (by first | rfl | omega | (simp; done) | (simp; omega))⟩, ?_, ?_⟩
    · rintro q x vs δ M1 hx ⟨b3, o6, o7, rfl, rfl, hb3⟩ hδ
      obtain rfl : δ = [_, _, _, _, _, _, o6, o7] := hδ
      obtain ⟨hq, rfl⟩ := range_get hx
      rcases (show q = 0 ∨ q = 1 ∨ q = 2 ∨ q = 3 by omega) with rfl | rfl | rfl | rfl
      · repeat' walk_at "t"
        rename_i n hn0 hn1
        refine ⟨0, _, _, n, p, 1, rfl, rfl, by decide, hj, hmk0, by omega, hn0, ?_⟩
        repeat' walk_at "t"
        refine od_ixL rfl ?_
        repeat' walk_at "t"
        exact ⟨[_, _], rfl, _, _, _, rfl, rfl, (by omega)⟩
      · repeat' walk_at "t"
        rename_i n hn0 hn1
        refine ⟨1, _, _, n, p, 1, rfl, rfl, by decide, hj, hmk0, by omega, hn0, ?_⟩
        repeat' walk_at "t"
        refine od_ixL rfl ?_
        repeat' walk_at "t"
        exact ⟨[_, _], rfl, _, _, _, rfl, rfl, (by omega)⟩
      · repeat' walk_at "t"
        rename_i n hn0 hn1
        refine ⟨2, _, _, n, p, 1, rfl, rfl, by decide, hj, hmk0, by omega, hn0, ?_⟩
        repeat' walk_at "t"
        refine od_ixL rfl ?_
        repeat' walk_at "t"
        exact ⟨[_, _], rfl, _, _, _, rfl, rfl, (by omega)⟩
      · repeat' walk_at "t"
        rename_i n hn0 hn1
        refine ⟨3, _, _, n, p, 1, rfl, rfl, by decide, hj, hmk0, by omega, hn0, ?_⟩
        repeat' walk_at "t"
        refine od_ixL rfl ?_
        repeat' walk_at "t"
        refine ⟨_, _, _, rfl, .cell 1 rfl, ?_⟩
        repeat' walk_at "t"
        refine od_neSame (x' := .tup [.str "", .int (mayF j mk)]) (.val _) (.val _) (ok_tooX _) ?_
        repeat' walk_at "t"
        exact ⟨[_, _], rfl, _, _, _, rfl, rfl, (by omega)⟩
    · rintro vs δ M1 ⟨b3, o6, o7, rfl, rfl, hb3⟩ hδ
      obtain rfl : δ = [_, _, _, _, _, _, o6, o7] := hδ
      try simp only [range_len, List.length_map, enum_len] at hb3
      have hb3 : b2 ≤ b3 + 3 + 4 := hb3
      refine ws_drop (M2 := (s, .st g b3) :: M) ((List.sublist_cons_self _ _).cons₂ _) ?_
      repeat' walk_at "t"
      exact ⟨[_, _, _, _, _, _], rfl, _, _, _, _, _, _, _, rfl, rfl, (by omega)⟩
  · rintro vs δ M1 ⟨b, o2, o3, o4, o5, o6, o7, rfl, rfl, hb⟩ hδ
    obtain rfl : δ = [_, _, o2, o3, o4, o5, o6, o7] := hδ
    try simp only [range_len, List.length_map, enum_len] at hb
    repeat' walk_at "t"
    exact ⟨_, _, .sub (List.sublist_cons_self _ _), k⟩
abbrev s_NoName__init : Stmt := inClass (top 6) 0
def n_NoName__init : List Str := ["self", "name"]
theorem sc_NoName__init : FnScope n_NoName__init ["self", "name"] (defScope s_NoName__init) := ⟨rfl, rfl, rfl, by decide +kernel, rfl, by decide +kernel, by decide +kernel⟩
theorem x_NoName__init {P : Program} {w : World} {K : PySem.W.Frag} {mg : Str → Option Value} {base : Heap} {C f : Addr} {fd : FuncData} (F : Fun K "__init__" "NoName.__init__" s_NoName__init f fd) (T : OexC K C) (N_name : PySem.W.findIn K (.ref C) "name" = some none) : FnOk P w K mg base CX0 1 f fd ["self", "name"] (spXI C ["name"]) := by
  refine F.ok sc_NoName__init (fun vs H Q E hl => ?_) fun cdv A outer s H vs Q E hr hl => ?_
  · obtain ⟨a, args, rfl, hl, _⟩ := hl
    simpa using hl
  · obtain ⟨a, args, rfl, hl, ha, kk⟩ := hl
    match args, hl with
    | [v0], _ =>
      refine ⟨_, pss_one (ps_ost (pv 0) (pv 1)), ?_⟩
      refine ⟨_, rfl, _, rfl, a, C, rfl, T, N_name, .inl ⟨ha, fun dx n1 n2 => ?_⟩⟩
      exact kk dx _ n1 n2 (by repeat (first | exact upd_same | rw [upd_ne n2] | rw [upd_ne (Ne.symm n2)])) (by repeat (first | exact upd_same | rw [upd_ne n2] | rw [upd_ne (Ne.symm n2)])) (fun b h1 h2 => by simp only [upd_ne h1, upd_ne h2])
abbrev s_Taken__init : Stmt := inClass (top 7) 0
def n_Taken__init : List Str := ["self", "name"]
theorem sc_Taken__init : FnScope n_Taken__init ["self", "name"] (defScope s_Taken__init) := ⟨rfl, rfl, rfl, by decide +kernel, rfl, by decide +kernel, by decide +kernel⟩
theorem x_Taken__init {P : Program} {w : World} {K : PySem.W.Frag} {mg : Str → Option Value} {base : Heap} {C f : Addr} {fd : FuncData} (F : Fun K "__init__" "Taken.__init__" s_Taken__init f fd) (T : OexC K C) (N_name : PySem.W.findIn K (.ref C) "name" = some none) : FnOk P w K mg base CX0 1 f fd ["self", "name"] (spXI C ["name"]) := by
  refine F.ok sc_Taken__init (fun vs H Q E hl => ?_) fun cdv A outer s H vs Q E hr hl => ?_
  · obtain ⟨a, args, rfl, hl, _⟩ := hl
    simpa using hl
  · obtain ⟨a, args, rfl, hl, ha, kk⟩ := hl
    match args, hl with
    | [v0], _ =>
      refine ⟨_, pss_one (ps_ost (pv 0) (pv 1)), ?_⟩
      refine ⟨_, rfl, _, rfl, a, C, rfl, T, N_name, .inl ⟨ha, fun dx n1 n2 => ?_⟩⟩
      exact kk dx _ n1 n2 (by repeat (first | exact upd_same | rw [upd_ne n2] | rw [upd_ne (Ne.symm n2)])) (by repeat (first | exact upd_same | rw [upd_ne n2] | rw [upd_ne (Ne.symm n2)])) (fun b h1 h2 => by simp only [upd_ne h1, upd_ne h2])
abbrev s_Unknown__init : Stmt := inClass (top 8) 0
def n_Unknown__init : List Str := ["self", "name"]
theorem sc_Unknown__init : FnScope n_Unknown__init ["self", "name"] (defScope s_Unknown__init) := ⟨rfl, rfl, rfl, by decide +kernel, rfl, by decide +kernel, by decide +kernel⟩
theorem x_Unknown__init {P : Program} {w : World} {K : PySem.W.Frag} {mg : Str → Option Value} {base : Heap} {C f : Addr} {fd : FuncData} (F : Fun K "__init__" "Unknown.__init__" s_Unknown__init f fd) (T : OexC K C) (N_name : PySem.W.findIn K (.ref C) "name" = some none) : FnOk P w K mg base CX0 1 f fd ["self", "name"] (spXI C ["name"]) := by
  refine F.ok sc_Unknown__init (fun vs H Q E hl => ?_) fun cdv A outer s H vs Q E hr hl => ?_
  · obtain ⟨a, args, rfl, hl, _⟩ := hl
    simpa using hl
  · obtain ⟨a, args, rfl, hl, ha, kk⟩ := hl
    match args, hl with
    | [v0], _ =>
      refine ⟨_, pss_one (ps_ost (pv 0) (pv 1)), ?_⟩
      refine ⟨_, rfl, _, rfl, a, C, rfl, T, N_name, .inl ⟨ha, fun dx n1 n2 => ?_⟩⟩
      exact kk dx _ n1 n2 (by repeat (first | exact upd_same | rw [upd_ne n2] | rw [upd_ne (Ne.symm n2)])) (by repeat (first | exact upd_same | rw [upd_ne n2] | rw [upd_ne (Ne.symm n2)])) (fun b h1 h2 => by simp only [upd_ne h1, upd_ne h2])
abbrev s_NoWay__init : Stmt := inClass (top 9) 0
def n_NoWay__init : List Str := ["self", "place"]
theorem sc_NoWay__init : FnScope n_NoWay__init ["self", "place"] (defScope s_NoWay__init) := ⟨rfl, rfl, rfl, by decide +kernel, rfl, by decide +kernel, by decide +kernel⟩
theorem x_NoWay__init {P : Program} {w : World} {K : PySem.W.Frag} {mg : Str → Option Value} {base : Heap} {C f : Addr} {fd : FuncData} (F : Fun K "__init__" "NoWay.__init__" s_NoWay__init f fd) (T : OexC K C) (N_place : PySem.W.findIn K (.ref C) "place" = some none) : FnOk P w K mg base CX0 1 f fd ["self", "place"] (spXI C ["place"]) := by
  refine F.ok sc_NoWay__init (fun vs H Q E hl => ?_) fun cdv A outer s H vs Q E hr hl => ?_
  · obtain ⟨a, args, rfl, hl, _⟩ := hl
    simpa using hl
  · obtain ⟨a, args, rfl, hl, ha, kk⟩ := hl
    match args, hl with
    | [v0], _ =>
      refine ⟨_, pss_one (ps_ost (pv 0) (pv 1)), ?_⟩
      refine ⟨_, rfl, _, rfl, a, C, rfl, T, N_place, .inl ⟨ha, fun dx n1 n2 => ?_⟩⟩
      exact kk dx _ n1 n2 (by repeat (first | exact upd_same | rw [upd_ne n2] | rw [upd_ne (Ne.symm n2)])) (by repeat (first | exact upd_same | rw [upd_ne n2] | rw [upd_ne (Ne.symm n2)])) (fun b h1 h2 => by simp only [upd_ne h1, upd_ne h2])
abbrev s_NoLot__init : Stmt := inClass (top 10) 0
def n_NoLot__init : List Str := ["self", "place"]
theorem sc_NoLot__init : FnScope n_NoLot__init ["self", "place"] (defScope s_NoLot__init) := ⟨rfl, rfl, rfl, by decide +kernel, rfl, by decide +kernel, by decide +kernel⟩
theorem x_NoLot__init {P : Program} {w : World} {K : PySem.W.Frag} {mg : Str → Option Value} {base : Heap} {C f : Addr} {fd : FuncData} (F : Fun K "__init__" "NoLot.__init__" s_NoLot__init f fd) (T : OexC K C) (N_place : PySem.W.findIn K (.ref C) "place" = some none) : FnOk P w K mg base CX0 1 f fd ["self", "place"] (spXI C ["place"]) := by
  refine F.ok sc_NoLot__init (fun vs H Q E hl => ?_) fun cdv A outer s H vs Q E hr hl => ?_
  · obtain ⟨a, args, rfl, hl, _⟩ := hl
    simpa using hl
  · obtain ⟨a, args, rfl, hl, ha, kk⟩ := hl
    match args, hl with
    | [v0], _ =>
      refine ⟨_, pss_one (ps_ost (pv 0) (pv 1)), ?_⟩
      refine ⟨_, rfl, _, rfl, a, C, rfl, T, N_place, .inl ⟨ha, fun dx n1 n2 => ?_⟩⟩
      exact kk dx _ n1 n2 (by repeat (first | exact upd_same | rw [upd_ne n2] | rw [upd_ne (Ne.symm n2)])) (by repeat (first | exact upd_same | rw [upd_ne n2] | rw [upd_ne (Ne.symm n2)])) (fun b h1 h2 => by simp only [upd_ne h1, upd_ne h2])
abbrev s_NoText__init : Stmt := inClass (top 13) 0
def n_NoText__init : List Str := ["self", "row"]
theorem sc_NoText__init : FnScope n_NoText__init ["self", "row"] (defScope s_NoText__init) := ⟨rfl, rfl, rfl, by decide +kernel, rfl, by decide +kernel, by decide +kernel⟩
theorem x_NoText__init {P : Program} {w : World} {K : PySem.W.Frag} {mg : Str → Option Value} {base : Heap} {C f : Addr} {fd : FuncData} (F : Fun K "__init__" "NoText.__init__" s_NoText__init f fd) (T : OexC K C) (N_row : PySem.W.findIn K (.ref C) "row" = some none) : FnOk P w K mg base CX0 1 f fd ["self", "row"] (spXI C ["row"]) := by
  refine F.ok sc_NoText__init (fun vs H Q E hl => ?_) fun cdv A outer s H vs Q E hr hl => ?_
  · obtain ⟨a, args, rfl, hl, _⟩ := hl
    simpa using hl
  · obtain ⟨a, args, rfl, hl, ha, kk⟩ := hl
    match args, hl with
    | [v0], _ =>
      refine ⟨_, pss_one (ps_ost (pv 0) (pv 1)), ?_⟩
      refine ⟨_, rfl, _, rfl, a, C, rfl, T, N_row, .inl ⟨ha, fun dx n1 n2 => ?_⟩⟩
      exact kk dx _ n1 n2 (by repeat (first | exact upd_same | rw [upd_ne n2] | rw [upd_ne (Ne.symm n2)])) (by repeat (first | exact upd_same | rw [upd_ne n2] | rw [upd_ne (Ne.symm n2)])) (fun b h1 h2 => by simp only [upd_ne h1, upd_ne h2])
abbrev s_NoBook__init : Stmt := inClass (top 14) 0
def n_NoBook__init : List Str := ["self", "row"]
theorem sc_NoBook__init : FnScope n_NoBook__init ["self", "row"] (defScope s_NoBook__init) := ⟨rfl, rfl, rfl, by decide +kernel, rfl, by decide +kernel, by decide +kernel⟩
theorem x_NoBook__init {P : Program} {w : World} {K : PySem.W.Frag} {mg : Str → Option Value} {base : Heap} {C f : Addr} {fd : FuncData} (F : Fun K "__init__" "NoBook.__init__" s_NoBook__init f fd) (T : OexC K C) (N_row : PySem.W.findIn K (.ref C) "row" = some none) : FnOk P w K mg base CX0 1 f fd ["self", "row"] (spXI C ["row"]) := by
  refine F.ok sc_NoBook__init (fun vs H Q E hl => ?_) fun cdv A outer s H vs Q E hr hl => ?_
  · obtain ⟨a, args, rfl, hl, _⟩ := hl
    simpa using hl
  · obtain ⟨a, args, rfl, hl, ha, kk⟩ := hl
    match args, hl with
    | [v0], _ =>
      refine ⟨_, pss_one (ps_ost (pv 0) (pv 1)), ?_⟩
      refine ⟨_, rfl, _, rfl, a, C, rfl, T, N_row, .inl ⟨ha, fun dx n1 n2 => ?_⟩⟩
      exact kk dx _ n1 n2 (by repeat (first | exact upd_same | rw [upd_ne n2] | rw [upd_ne (Ne.symm n2)])) (by repeat (first | exact upd_same | rw [upd_ne n2] | rw [upd_ne (Ne.symm n2)])) (fun b h1 h2 => by simp only [upd_ne h1, upd_ne h2])
abbrev s_TooMany__init : Stmt := inClass (top 11) 0
def n_TooMany__init : List Str := ["self", "name", "bound"]
theorem sc_TooMany__init : FnScope n_TooMany__init ["self", "name", "bound"] (defScope s_TooMany__init) := ⟨rfl, rfl, rfl, by decide +kernel, rfl, by decide +kernel, by decide +kernel⟩
theorem x_TooMany__init {P : Program} {w : World} {K : PySem.W.Frag} {mg : Str → Option Value} {base : Heap} {C f : Addr} {fd : FuncData} (F : Fun K "__init__" "TooMany.__init__" s_TooMany__init f fd) (T : OexC K C) (N_name : PySem.W.findIn K (.ref C) "name" = some none) (N_bound : PySem.W.findIn K (.ref C) "bound" = some none) : FnOk P w K mg base CX0 1 f fd ["self", "name", "bound"] (spXI C ["name", "bound"]) := by
  refine F.ok sc_TooMany__init (fun vs H Q E hl => ?_) fun cdv A outer s H vs Q E hr hl => ?_
  · obtain ⟨a, args, rfl, hl, _⟩ := hl
    simpa using hl
  · obtain ⟨a, args, rfl, hl, ha, kk⟩ := hl
    match args, hl with
    | [v0, v1], _ =>
      refine ⟨_, pss_cons (ps_ost (pv 0) (pv 1)) (pss_one (ps_ost (pv 0) (pv 2))), ?_⟩
      refine ⟨_, rfl, _, rfl, a, C, rfl, T, N_name, .inl ⟨ha, fun dx n1 n2 => ?_⟩⟩
      refine ⟨_, rfl, _, rfl, a, C, rfl, T, N_bound, .inr ⟨dx, _, (by repeat (first | exact upd_same | rw [upd_ne n2] | rw [upd_ne (Ne.symm n2)])), (by repeat (first | exact upd_same | rw [upd_ne n2] | rw [upd_ne (Ne.symm n2)])), by simp, ?_⟩⟩
      exact kk dx _ n1 n2 (by repeat (first | exact upd_same | rw [upd_ne n2] | rw [upd_ne (Ne.symm n2)])) (by repeat (first | exact upd_same | rw [upd_ne n2] | rw [upd_ne (Ne.symm n2)])) (fun b h1 h2 => by simp only [upd_ne h1, upd_ne h2])
abbrev s_TooMuch__init : Stmt := inClass (top 12) 0
def n_TooMuch__init : List Str := ["self", "lane", "first", "end", "rows"]
theorem sc_TooMuch__init : FnScope n_TooMuch__init ["self", "lane", "first", "end", "rows"] (defScope s_TooMuch__init) := ⟨rfl, rfl, rfl, by decide +kernel, rfl, by decide +kernel, by decide +kernel⟩
theorem x_TooMuch__init {P : Program} {w : World} {K : PySem.W.Frag} {mg : Str → Option Value} {base : Heap} {C f : Addr} {fd : FuncData} (F : Fun K "__init__" "TooMuch.__init__" s_TooMuch__init f fd) (T : OexC K C) (N_lane : PySem.W.findIn K (.ref C) "lane" = some none) (N_first : PySem.W.findIn K (.ref C) "first" = some none) (N_end : PySem.W.findIn K (.ref C) "end" = some none) (N_rows : PySem.W.findIn K (.ref C) "rows" = some none) : FnOk P w K mg base CX0 1 f fd ["self", "lane", "first", "end", "rows"] (spXI C ["lane", "first", "end", "rows"]) := by
  refine F.ok sc_TooMuch__init (fun vs H Q E hl => ?_) fun cdv A outer s H vs Q E hr hl => ?_
  · obtain ⟨a, args, rfl, hl, _⟩ := hl
    simpa using hl
  · obtain ⟨a, args, rfl, hl, ha, kk⟩ := hl
    match args, hl with
    | [v0, v1, v2, v3], _ =>
      refine ⟨_, pss_cons (ps_ost (pv 0) (pv 1)) (pss_cons (ps_ost (pv 0) (pv 2)) (pss_cons (ps_ost (pv 0) (pv 3)) (pss_one (ps_ost (pv 0) (pv 4))))), ?_⟩
      refine ⟨_, rfl, _, rfl, a, C, rfl, T, N_lane, .inl ⟨ha, fun dx n1 n2 => ?_⟩⟩
      refine ⟨_, rfl, _, rfl, a, C, rfl, T, N_first, .inr ⟨dx, _, (by repeat (first | exact upd_same | rw [upd_ne n2] | rw [upd_ne (Ne.symm n2)])), (by repeat (first | exact upd_same | rw [upd_ne n2] | rw [upd_ne (Ne.symm n2)])), by simp, ?_⟩⟩
      refine ⟨_, rfl, _, rfl, a, C, rfl, T, N_end, .inr ⟨dx, _, (by repeat (first | exact upd_same | rw [upd_ne n2] | rw [upd_ne (Ne.symm n2)])), (by repeat (first | exact upd_same | rw [upd_ne n2] | rw [upd_ne (Ne.symm n2)])), by simp, ?_⟩⟩
      refine ⟨_, rfl, _, rfl, a, C, rfl, T, N_rows, .inr ⟨dx, _, (by repeat (first | exact upd_same | rw [upd_ne n2] | rw [upd_ne (Ne.symm n2)])), (by repeat (first | exact upd_same | rw [upd_ne n2] | rw [upd_ne (Ne.symm n2)])), by simp, ?_⟩⟩
      exact kk dx _ n1 n2 (by repeat (first | exact upd_same | rw [upd_ne n2] | rw [upd_ne (Ne.symm n2)])) (by repeat (first | exact upd_same | rw [upd_ne n2] | rw [upd_ne (Ne.symm n2)])) (fun b h1 h2 => by simp only [upd_ne h1, upd_ne h2])
theorem all_mk {l : PySem.W.OpenLaw} {w : World} {K : PySem.W.Frag} {h : Heap} {mg : Str → Option Value} {fa f1 f2 f3 f4 f5 f6 f7 f8 f9 f10 f11 f12 f13 f14 c_NoJar c_NoTick c_NoLane c_NoName c_Taken c_Unknown c_NoWay c_NoLot c_TooMany c_TooMuch c_NoText c_NoBook c_LaneError c_Jar c_Flow : Addr} (X : K.In h) (G : h.Ns mainGlobals mg) (hfa : mg "law" = some (.ref fa))
    (ac_NoJar : PySem.W.nsIn K mainGlobals "NoJar" = some (some (.ref c_NoJar)))
    (ac_NoTick : PySem.W.nsIn K mainGlobals "NoTick" = some (some (.ref c_NoTick)))
    (ac_NoLane : PySem.W.nsIn K mainGlobals "NoLane" = some (some (.ref c_NoLane)))
    (ac_NoName : PySem.W.nsIn K mainGlobals "NoName" = some (some (.ref c_NoName)))
    (ac_Taken : PySem.W.nsIn K mainGlobals "Taken" = some (some (.ref c_Taken)))
    (ac_Unknown : PySem.W.nsIn K mainGlobals "Unknown" = some (some (.ref c_Unknown)))
    (ac_NoWay : PySem.W.nsIn K mainGlobals "NoWay" = some (some (.ref c_NoWay)))
    (ac_NoLot : PySem.W.nsIn K mainGlobals "NoLot" = some (some (.ref c_NoLot)))
    (ac_TooMany : PySem.W.nsIn K mainGlobals "TooMany" = some (some (.ref c_TooMany)))
    (ac_TooMuch : PySem.W.nsIn K mainGlobals "TooMuch" = some (some (.ref c_TooMuch)))
    (ac_NoText : PySem.W.nsIn K mainGlobals "NoText" = some (some (.ref c_NoText)))
    (ac_NoBook : PySem.W.nsIn K mainGlobals "NoBook" = some (some (.ref c_NoBook)))
    (ac_LaneError : PySem.W.nsIn K mainGlobals "LaneError" = some (some (.ref c_LaneError)))
    (ac_Jar : PySem.W.nsIn K mainGlobals "Jar" = some (some (.ref c_Jar)))
    (ac_Flow : PySem.W.nsIn K mainGlobals "Flow" = some (some (.ref c_Flow)))
    {od1 an1 : Option Addr} {sl1 : Array (Option Value)} {oc1 kV1 dc1 pm1 cd1 ct1 : Value}
    (a1 : PySem.W.nsIn K mainGlobals "_law_begun" = some (some (.ref f1)))
    (l1 : K.lookup f1 = some ⟨oc1, od1, .func (PySem.W.fnOf "_law_begun" "_law_begun" (defArgs s_law_begun) (defBody s_law_begun) (defScope s_law_begun) .none kV1 dc1 pm1 an1 cd1 ct1), sl1⟩)
    (c1 : PySem.W.codeIn K cd1 "_law_begun" = true)
    (k1 : PySem.W.keepIn K (.ref f1) = true)
    {od2 an2 : Option Addr} {sl2 : Array (Option Value)} {oc2 kV2 dc2 pm2 cd2 ct2 : Value}
    (a2 : PySem.W.nsIn K mainGlobals "_law_take" = some (some (.ref f2)))
    (l2 : K.lookup f2 = some ⟨oc2, od2, .func (PySem.W.fnOf "_law_take" "_law_take" (defArgs s_law_take) (defBody s_law_take) (defScope s_law_take) .none kV2 dc2 pm2 an2 cd2 ct2), sl2⟩)
    (c2 : PySem.W.codeIn K cd2 "_law_take" = true)
    (k2 : PySem.W.keepIn K (.ref f2) = true)
    {od3 an3 : Option Addr} {sl3 : Array (Option Value)} {oc3 kV3 dc3 pm3 cd3 ct3 : Value}
    (a3 : PySem.W.nsIn K mainGlobals "_law_pick" = some (some (.ref f3)))
    (l3 : K.lookup f3 = some ⟨oc3, od3, .func (PySem.W.fnOf "_law_pick" "_law_pick" (defArgs s_law_pick) (defBody s_law_pick) (defScope s_law_pick) .none kV3 dc3 pm3 an3 cd3 ct3), sl3⟩)
    (c3 : PySem.W.codeIn K cd3 "_law_pick" = true)
    (k3 : PySem.W.keepIn K (.ref f3) = true)
    {od4 an4 : Option Addr} {sl4 : Array (Option Value)} {oc4 kV4 dc4 pm4 cd4 ct4 : Value}
    (a4 : PySem.W.nsIn K mainGlobals "_law_name" = some (some (.ref f4)))
    (l4 : K.lookup f4 = some ⟨oc4, od4, .func (PySem.W.fnOf "_law_name" "_law_name" (defArgs s_law_name) (defBody s_law_name) (defScope s_law_name) .none kV4 dc4 pm4 an4 cd4 ct4), sl4⟩)
    (c4 : PySem.W.codeIn K cd4 "_law_name" = true)
    (k4 : PySem.W.keepIn K (.ref f4) = true)
    {od5 an5 : Option Addr} {sl5 : Array (Option Value)} {oc5 kV5 dc5 pm5 cd5 ct5 : Value}
    (a5 : PySem.W.nsIn K mainGlobals "_law_places" = some (some (.ref f5)))
    (l5 : K.lookup f5 = some ⟨oc5, od5, .func (PySem.W.fnOf "_law_places" "_law_places" (defArgs s_law_places) (defBody s_law_places) (defScope s_law_places) .none kV5 dc5 pm5 an5 cd5 ct5), sl5⟩)
    (c5 : PySem.W.codeIn K cd5 "_law_places" = true)
    (k5 : PySem.W.keepIn K (.ref f5) = true)
    {od6 an6 : Option Addr} {sl6 : Array (Option Value)} {oc6 kV6 dc6 pm6 cd6 ct6 : Value}
    (a6 : PySem.W.nsIn K mainGlobals "_law_alone" = some (some (.ref f6)))
    (l6 : K.lookup f6 = some ⟨oc6, od6, .func (PySem.W.fnOf "_law_alone" "_law_alone" (defArgs s_law_alone) (defBody s_law_alone) (defScope s_law_alone) .none kV6 dc6 pm6 an6 cd6 ct6), sl6⟩)
    (c6 : PySem.W.codeIn K cd6 "_law_alone" = true)
    (k6 : PySem.W.keepIn K (.ref f6) = true)
    {od7 an7 : Option Addr} {sl7 : Array (Option Value)} {oc7 kV7 dc7 pm7 cd7 ct7 : Value}
    (a7 : PySem.W.nsIn K mainGlobals "_law_much" = some (some (.ref f7)))
    (l7 : K.lookup f7 = some ⟨oc7, od7, .func (PySem.W.fnOf "_law_much" "_law_much" (defArgs s_law_much) (defBody s_law_much) (defScope s_law_much) .none kV7 dc7 pm7 an7 cd7 ct7), sl7⟩)
    (c7 : PySem.W.codeIn K cd7 "_law_much" = true)
    (k7 : PySem.W.keepIn K (.ref f7) = true)
    {od8 an8 : Option Addr} {sl8 : Array (Option Value)} {oc8 kV8 dc8 pm8 cd8 ct8 : Value}
    (a8 : PySem.W.findIn K (.ref c_Jar) "__init__" = some (some (.ref f8)))
    (n8 : PySem.W.isFn K (.ref f8) = true)
    (l8 : K.lookup f8 = some ⟨oc8, od8, .func (PySem.W.fnOf "__init__" "Jar.__init__" (defArgs s_Jar__init) (defBody s_Jar__init) (defScope s_Jar__init) .none kV8 dc8 pm8 an8 cd8 ct8), sl8⟩)
    (c8 : PySem.W.codeIn K cd8 "Jar.__init__" = true)
    (k8 : PySem.W.keepIn K (.ref f8) = true)
    {od9 an9 : Option Addr} {sl9 : Array (Option Value)} {oc9 kV9 dc9 pm9 cd9 ct9 : Value}
    (a9 : PySem.W.findIn K (.ref c_Flow) "__init__" = some (some (.ref f9)))
    (n9 : PySem.W.isFn K (.ref f9) = true)
    {T9 : Addr} {Td9 : Option Addr} {Tc9 : Value} {Tn9 : Nat} {Ts9 : Array (Option Value)}
    (l9 : K.lookup f9 = some ⟨oc9, od9, .func (PySem.W.fnOf "__init__" "Flow.__init__" (defArgs s_Flow__init) (defBody s_Flow__init) (defScope s_Flow__init) (.ref T9) kV9 dc9 pm9 an9 cd9 ct9), sl9⟩)
    (lT9 : K.lookup T9 = some ⟨Tc9, Td9, .seq #[.none] Tn9, Ts9⟩)
    (c9 : PySem.W.codeIn K cd9 "Flow.__init__" = true)
    (k9 : PySem.W.keepIn K (.ref f9) = true)
    {od10 an10 : Option Addr} {sl10 : Array (Option Value)} {oc10 kV10 dc10 pm10 cd10 ct10 : Value}
    (a10 : PySem.W.findIn K (.ref c_Flow) "ahead" = some (some (.ref f10)))
    (n10 : PySem.W.isFn K (.ref f10) = true)
    (l10 : K.lookup f10 = some ⟨oc10, od10, .func (PySem.W.fnOf "ahead" "Flow.ahead" (defArgs s_Flow_ahead) (defBody s_Flow_ahead) (defScope s_Flow_ahead) .none kV10 dc10 pm10 an10 cd10 ct10), sl10⟩)
    (c10 : PySem.W.codeIn K cd10 "Flow.ahead" = true)
    (k10 : PySem.W.keepIn K (.ref f10) = true)
    {od11 an11 : Option Addr} {sl11 : Array (Option Value)} {oc11 kV11 dc11 pm11 cd11 ct11 : Value}
    (a11 : PySem.W.findIn K (.ref c_Flow) "may" = some (some (.ref f11)))
    (n11 : PySem.W.isFn K (.ref f11) = true)
    (l11 : K.lookup f11 = some ⟨oc11, od11, .func (PySem.W.fnOf "may" "Flow.may" (defArgs s_Flow_may) (defBody s_Flow_may) (defScope s_Flow_may) .none kV11 dc11 pm11 an11 cd11 ct11), sl11⟩)
    (c11 : PySem.W.codeIn K cd11 "Flow.may" = true)
    (k11 : PySem.W.keepIn K (.ref f11) = true)
    {od12 an12 : Option Addr} {sl12 : Array (Option Value)} {oc12 kV12 dc12 pm12 cd12 ct12 : Value}
    (a12 : PySem.W.findIn K (.ref c_Flow) "come" = some (some (.ref f12)))
    (n12 : PySem.W.isFn K (.ref f12) = true)
    {T12 : Addr} {Td12 : Option Addr} {Tc12 : Value} {Tn12 : Nat} {Ts12 : Array (Option Value)}
    (l12 : K.lookup f12 = some ⟨oc12, od12, .func (PySem.W.fnOf "come" "Flow.come" (defArgs s_Flow_come) (defBody s_Flow_come) (defScope s_Flow_come) (.ref T12) kV12 dc12 pm12 an12 cd12 ct12), sl12⟩)
    {tt12_0 : Tok}
    (lT12 : K.lookup T12 = some ⟨Tc12, Td12, .seq #[(.int 0 tt12_0)] Tn12, Ts12⟩)
    (c12 : PySem.W.codeIn K cd12 "Flow.come" = true)
    (k12 : PySem.W.keepIn K (.ref f12) = true)
    {od13 an13 : Option Addr} {sl13 : Array (Option Value)} {oc13 kV13 dc13 pm13 cd13 ct13 : Value}
    (a13 : PySem.W.nsIn K mainGlobals "_law_refused" = some (some (.ref f13)))
    (l13 : K.lookup f13 = some ⟨oc13, od13, .func (PySem.W.fnOf "_law_refused" "_law_refused" (defArgs s_law_refused) (defBody s_law_refused) (defScope s_law_refused) .none kV13 dc13 pm13 an13 cd13 ct13), sl13⟩)
    (c13 : PySem.W.codeIn K cd13 "_law_refused" = true)
    (k13 : PySem.W.keepIn K (.ref f13) = true)
    {od14 an14 : Option Addr} {sl14 : Array (Option Value)} {oc14 kV14 dc14 pm14 cd14 ct14 : Value}
    (a14 : PySem.W.nsIn K mainGlobals "law" = some (some (.ref f14)))
    (l14 : K.lookup f14 = some ⟨oc14, od14, .func (PySem.W.fnOf "law" "law" (defArgs s_law) (defBody s_law) (defScope s_law) .none kV14 dc14 pm14 an14 cd14 ct14), sl14⟩)
    (c14 : PySem.W.codeIn K cd14 "law" = true)
    (k14 : PySem.W.keepIn K (.ref f14) = true)
    (z_len : PySem.W.nsIn K mainGlobals "len" = some none)
    (z_range : PySem.W.nsIn K mainGlobals "range" = some none)
    (sb_NoJar_NoJar : PySem.W.subIn K (.ref c_NoJar) (.ref c_NoJar) = some true)
    (xhd_NoJar : PySem.W.hasDictIn K c_NoJar = true)
    (xt0_NoJar : PySem.W.typeIn K (.ref c_NoJar) = some (.type "type"))
    (xk_NoJar : PySem.W.keepIn K (.ref c_NoJar) = true)
    (xs_NoJar : PySem.W.subIn K (.ref c_NoJar) (.type "BaseException") = some true)
    (xt_NoJar : PySem.W.typeIn K (.ref c_NoJar) = some (.type "type"))
    (xga_NoJar : PySem.W.findIn K (.ref c_NoJar) "__getattribute__" = some (some (.builtin "BaseException.__getattribute__")))
    (xgg_NoJar : PySem.W.findIn K (.ref c_NoJar) "__getattr__" = some none)
    (ob1 : PySem.W.specialIn K (.builtin "object.__class__") "__get__" = some (some (.builtin "getset_descriptor.__get__")))
    (ob2 : PySem.W.takesIn K (.builtin "object.__class__") = some true)
    (eha_NoJar : PySem.W.findIn K (.ref c_NoJar) "__class__" = some (some (.builtin "object.__class__")))
    (ehm_NoJar : PySem.W.mroIn K c_NoJar (.type "object") = some true)
    (sb_NoTick_NoJar : PySem.W.subIn K (.ref c_NoTick) (.ref c_NoJar) = some false)
    (xk_NoTick : PySem.W.keepIn K (.ref c_NoTick) = true)
    (xs_NoTick : PySem.W.subIn K (.ref c_NoTick) (.type "BaseException") = some true)
    (xt_NoTick : PySem.W.typeIn K (.ref c_NoTick) = some (.type "type"))
    (xga_NoTick : PySem.W.findIn K (.ref c_NoTick) "__getattribute__" = some (some (.builtin "BaseException.__getattribute__")))
    (xgg_NoTick : PySem.W.findIn K (.ref c_NoTick) "__getattr__" = some none)
    (xhd_NoTick : PySem.W.hasDictIn K c_NoTick = true)
    (eha_NoTick : PySem.W.findIn K (.ref c_NoTick) "__class__" = some (some (.builtin "object.__class__")))
    (ehm_NoTick : PySem.W.mroIn K c_NoTick (.type "object") = some true)
    (sb_NoLane_NoJar : PySem.W.subIn K (.ref c_NoLane) (.ref c_NoJar) = some false)
    (xk_NoLane : PySem.W.keepIn K (.ref c_NoLane) = true)
    (xs_NoLane : PySem.W.subIn K (.ref c_NoLane) (.type "BaseException") = some true)
    (xt_NoLane : PySem.W.typeIn K (.ref c_NoLane) = some (.type "type"))
    (xga_NoLane : PySem.W.findIn K (.ref c_NoLane) "__getattribute__" = some (some (.builtin "BaseException.__getattribute__")))
    (xgg_NoLane : PySem.W.findIn K (.ref c_NoLane) "__getattr__" = some none)
    (xhd_NoLane : PySem.W.hasDictIn K c_NoLane = true)
    (eha_NoLane : PySem.W.findIn K (.ref c_NoLane) "__class__" = some (some (.builtin "object.__class__")))
    (ehm_NoLane : PySem.W.mroIn K c_NoLane (.type "object") = some true)
    (sb_NoName_NoJar : PySem.W.subIn K (.ref c_NoName) (.ref c_NoJar) = some false)
    (xk_NoName : PySem.W.keepIn K (.ref c_NoName) = true)
    (xs_NoName : PySem.W.subIn K (.ref c_NoName) (.type "BaseException") = some true)
    (xt_NoName : PySem.W.typeIn K (.ref c_NoName) = some (.type "type"))
    (xga_NoName : PySem.W.findIn K (.ref c_NoName) "__getattribute__" = some (some (.builtin "BaseException.__getattribute__")))
    (xgg_NoName : PySem.W.findIn K (.ref c_NoName) "__getattr__" = some none)
    (xhd_NoName : PySem.W.hasDictIn K c_NoName = true)
    (eha_NoName : PySem.W.findIn K (.ref c_NoName) "__class__" = some (some (.builtin "object.__class__")))
    (ehm_NoName : PySem.W.mroIn K c_NoName (.type "object") = some true)
    (sb_Taken_NoJar : PySem.W.subIn K (.ref c_Taken) (.ref c_NoJar) = some false)
    (xk_Taken : PySem.W.keepIn K (.ref c_Taken) = true)
    (xs_Taken : PySem.W.subIn K (.ref c_Taken) (.type "BaseException") = some true)
    (xt_Taken : PySem.W.typeIn K (.ref c_Taken) = some (.type "type"))
    (xga_Taken : PySem.W.findIn K (.ref c_Taken) "__getattribute__" = some (some (.builtin "BaseException.__getattribute__")))
    (xgg_Taken : PySem.W.findIn K (.ref c_Taken) "__getattr__" = some none)
    (xhd_Taken : PySem.W.hasDictIn K c_Taken = true)
    (eha_Taken : PySem.W.findIn K (.ref c_Taken) "__class__" = some (some (.builtin "object.__class__")))
    (ehm_Taken : PySem.W.mroIn K c_Taken (.type "object") = some true)
    (sb_Unknown_NoJar : PySem.W.subIn K (.ref c_Unknown) (.ref c_NoJar) = some false)
    (xk_Unknown : PySem.W.keepIn K (.ref c_Unknown) = true)
    (xs_Unknown : PySem.W.subIn K (.ref c_Unknown) (.type "BaseException") = some true)
    (xt_Unknown : PySem.W.typeIn K (.ref c_Unknown) = some (.type "type"))
    (xga_Unknown : PySem.W.findIn K (.ref c_Unknown) "__getattribute__" = some (some (.builtin "BaseException.__getattribute__")))
    (xgg_Unknown : PySem.W.findIn K (.ref c_Unknown) "__getattr__" = some none)
    (xhd_Unknown : PySem.W.hasDictIn K c_Unknown = true)
    (eha_Unknown : PySem.W.findIn K (.ref c_Unknown) "__class__" = some (some (.builtin "object.__class__")))
    (ehm_Unknown : PySem.W.mroIn K c_Unknown (.type "object") = some true)
    (sb_NoWay_NoJar : PySem.W.subIn K (.ref c_NoWay) (.ref c_NoJar) = some false)
    (xk_NoWay : PySem.W.keepIn K (.ref c_NoWay) = true)
    (xs_NoWay : PySem.W.subIn K (.ref c_NoWay) (.type "BaseException") = some true)
    (xt_NoWay : PySem.W.typeIn K (.ref c_NoWay) = some (.type "type"))
    (xga_NoWay : PySem.W.findIn K (.ref c_NoWay) "__getattribute__" = some (some (.builtin "BaseException.__getattribute__")))
    (xgg_NoWay : PySem.W.findIn K (.ref c_NoWay) "__getattr__" = some none)
    (xhd_NoWay : PySem.W.hasDictIn K c_NoWay = true)
    (eha_NoWay : PySem.W.findIn K (.ref c_NoWay) "__class__" = some (some (.builtin "object.__class__")))
    (ehm_NoWay : PySem.W.mroIn K c_NoWay (.type "object") = some true)
    (sb_NoLot_NoJar : PySem.W.subIn K (.ref c_NoLot) (.ref c_NoJar) = some false)
    (xk_NoLot : PySem.W.keepIn K (.ref c_NoLot) = true)
    (xs_NoLot : PySem.W.subIn K (.ref c_NoLot) (.type "BaseException") = some true)
    (xt_NoLot : PySem.W.typeIn K (.ref c_NoLot) = some (.type "type"))
    (xga_NoLot : PySem.W.findIn K (.ref c_NoLot) "__getattribute__" = some (some (.builtin "BaseException.__getattribute__")))
    (xgg_NoLot : PySem.W.findIn K (.ref c_NoLot) "__getattr__" = some none)
    (xhd_NoLot : PySem.W.hasDictIn K c_NoLot = true)
    (eha_NoLot : PySem.W.findIn K (.ref c_NoLot) "__class__" = some (some (.builtin "object.__class__")))
    (ehm_NoLot : PySem.W.mroIn K c_NoLot (.type "object") = some true)
    (sb_TooMany_NoJar : PySem.W.subIn K (.ref c_TooMany) (.ref c_NoJar) = some false)
    (xk_TooMany : PySem.W.keepIn K (.ref c_TooMany) = true)
    (xs_TooMany : PySem.W.subIn K (.ref c_TooMany) (.type "BaseException") = some true)
    (xt_TooMany : PySem.W.typeIn K (.ref c_TooMany) = some (.type "type"))
    (xga_TooMany : PySem.W.findIn K (.ref c_TooMany) "__getattribute__" = some (some (.builtin "BaseException.__getattribute__")))
    (xgg_TooMany : PySem.W.findIn K (.ref c_TooMany) "__getattr__" = some none)
    (xhd_TooMany : PySem.W.hasDictIn K c_TooMany = true)
    (eha_TooMany : PySem.W.findIn K (.ref c_TooMany) "__class__" = some (some (.builtin "object.__class__")))
    (ehm_TooMany : PySem.W.mroIn K c_TooMany (.type "object") = some true)
    (sb_TooMuch_NoJar : PySem.W.subIn K (.ref c_TooMuch) (.ref c_NoJar) = some false)
    (xk_TooMuch : PySem.W.keepIn K (.ref c_TooMuch) = true)
    (xs_TooMuch : PySem.W.subIn K (.ref c_TooMuch) (.type "BaseException") = some true)
    (xt_TooMuch : PySem.W.typeIn K (.ref c_TooMuch) = some (.type "type"))
    (xga_TooMuch : PySem.W.findIn K (.ref c_TooMuch) "__getattribute__" = some (some (.builtin "BaseException.__getattribute__")))
    (xgg_TooMuch : PySem.W.findIn K (.ref c_TooMuch) "__getattr__" = some none)
    (xhd_TooMuch : PySem.W.hasDictIn K c_TooMuch = true)
    (eha_TooMuch : PySem.W.findIn K (.ref c_TooMuch) "__class__" = some (some (.builtin "object.__class__")))
    (ehm_TooMuch : PySem.W.mroIn K c_TooMuch (.type "object") = some true)
    (sb_NoText_NoJar : PySem.W.subIn K (.ref c_NoText) (.ref c_NoJar) = some false)
    (xk_NoText : PySem.W.keepIn K (.ref c_NoText) = true)
    (xs_NoText : PySem.W.subIn K (.ref c_NoText) (.type "BaseException") = some true)
    (xt_NoText : PySem.W.typeIn K (.ref c_NoText) = some (.type "type"))
    (xga_NoText : PySem.W.findIn K (.ref c_NoText) "__getattribute__" = some (some (.builtin "BaseException.__getattribute__")))
    (xgg_NoText : PySem.W.findIn K (.ref c_NoText) "__getattr__" = some none)
    (xhd_NoText : PySem.W.hasDictIn K c_NoText = true)
    (eha_NoText : PySem.W.findIn K (.ref c_NoText) "__class__" = some (some (.builtin "object.__class__")))
    (ehm_NoText : PySem.W.mroIn K c_NoText (.type "object") = some true)
    (sb_NoBook_NoJar : PySem.W.subIn K (.ref c_NoBook) (.ref c_NoJar) = some false)
    (xk_NoBook : PySem.W.keepIn K (.ref c_NoBook) = true)
    (xs_NoBook : PySem.W.subIn K (.ref c_NoBook) (.type "BaseException") = some true)
    (xt_NoBook : PySem.W.typeIn K (.ref c_NoBook) = some (.type "type"))
    (xga_NoBook : PySem.W.findIn K (.ref c_NoBook) "__getattribute__" = some (some (.builtin "BaseException.__getattribute__")))
    (xgg_NoBook : PySem.W.findIn K (.ref c_NoBook) "__getattr__" = some none)
    (xhd_NoBook : PySem.W.hasDictIn K c_NoBook = true)
    (eha_NoBook : PySem.W.findIn K (.ref c_NoBook) "__class__" = some (some (.builtin "object.__class__")))
    (ehm_NoBook : PySem.W.mroIn K c_NoBook (.type "object") = some true)
    (sb_NoneType_NoJar : PySem.W.subIn K (.type "NoneType") (.ref c_NoJar) = some false)
    (z_isinstance : PySem.W.nsIn K mainGlobals "isinstance" = some none)
    (sb_NoJar_NoTick : PySem.W.subIn K (.ref c_NoJar) (.ref c_NoTick) = some false)
    (sb_NoTick_NoTick : PySem.W.subIn K (.ref c_NoTick) (.ref c_NoTick) = some true)
    (sb_NoLane_NoTick : PySem.W.subIn K (.ref c_NoLane) (.ref c_NoTick) = some false)
    (sb_NoName_NoTick : PySem.W.subIn K (.ref c_NoName) (.ref c_NoTick) = some false)
    (sb_Taken_NoTick : PySem.W.subIn K (.ref c_Taken) (.ref c_NoTick) = some false)
    (sb_Unknown_NoTick : PySem.W.subIn K (.ref c_Unknown) (.ref c_NoTick) = some false)
    (sb_NoWay_NoTick : PySem.W.subIn K (.ref c_NoWay) (.ref c_NoTick) = some false)
    (sb_NoLot_NoTick : PySem.W.subIn K (.ref c_NoLot) (.ref c_NoTick) = some false)
    (sb_TooMany_NoTick : PySem.W.subIn K (.ref c_TooMany) (.ref c_NoTick) = some false)
    (sb_TooMuch_NoTick : PySem.W.subIn K (.ref c_TooMuch) (.ref c_NoTick) = some false)
    (sb_NoText_NoTick : PySem.W.subIn K (.ref c_NoText) (.ref c_NoTick) = some false)
    (sb_NoBook_NoTick : PySem.W.subIn K (.ref c_NoBook) (.ref c_NoTick) = some false)
    (sb_NoneType_NoTick : PySem.W.subIn K (.type "NoneType") (.ref c_NoTick) = some false)
    (sb_NoJar_NoLane : PySem.W.subIn K (.ref c_NoJar) (.ref c_NoLane) = some false)
    (sb_NoLane_NoLane : PySem.W.subIn K (.ref c_NoLane) (.ref c_NoLane) = some true)
    (sb_NoTick_NoLane : PySem.W.subIn K (.ref c_NoTick) (.ref c_NoLane) = some false)
    (sb_NoName_NoLane : PySem.W.subIn K (.ref c_NoName) (.ref c_NoLane) = some false)
    (sb_Taken_NoLane : PySem.W.subIn K (.ref c_Taken) (.ref c_NoLane) = some false)
    (sb_Unknown_NoLane : PySem.W.subIn K (.ref c_Unknown) (.ref c_NoLane) = some false)
    (sb_NoWay_NoLane : PySem.W.subIn K (.ref c_NoWay) (.ref c_NoLane) = some false)
    (sb_NoLot_NoLane : PySem.W.subIn K (.ref c_NoLot) (.ref c_NoLane) = some false)
    (sb_TooMany_NoLane : PySem.W.subIn K (.ref c_TooMany) (.ref c_NoLane) = some false)
    (sb_TooMuch_NoLane : PySem.W.subIn K (.ref c_TooMuch) (.ref c_NoLane) = some false)
    (sb_NoText_NoLane : PySem.W.subIn K (.ref c_NoText) (.ref c_NoLane) = some false)
    (sb_NoBook_NoLane : PySem.W.subIn K (.ref c_NoBook) (.ref c_NoLane) = some false)
    (sb_NoneType_NoLane : PySem.W.subIn K (.type "NoneType") (.ref c_NoLane) = some false)
    (sb_NoJar_NoName : PySem.W.subIn K (.ref c_NoJar) (.ref c_NoName) = some false)
    (sb_NoName_NoName : PySem.W.subIn K (.ref c_NoName) (.ref c_NoName) = some true)
    (sb_NoTick_NoName : PySem.W.subIn K (.ref c_NoTick) (.ref c_NoName) = some false)
    (sb_NoLane_NoName : PySem.W.subIn K (.ref c_NoLane) (.ref c_NoName) = some false)
    (sb_Taken_NoName : PySem.W.subIn K (.ref c_Taken) (.ref c_NoName) = some false)
    (sb_Unknown_NoName : PySem.W.subIn K (.ref c_Unknown) (.ref c_NoName) = some false)
    (sb_NoWay_NoName : PySem.W.subIn K (.ref c_NoWay) (.ref c_NoName) = some false)
    (sb_NoLot_NoName : PySem.W.subIn K (.ref c_NoLot) (.ref c_NoName) = some false)
    (sb_TooMany_NoName : PySem.W.subIn K (.ref c_TooMany) (.ref c_NoName) = some false)
    (sb_TooMuch_NoName : PySem.W.subIn K (.ref c_TooMuch) (.ref c_NoName) = some false)
    (sb_NoText_NoName : PySem.W.subIn K (.ref c_NoText) (.ref c_NoName) = some false)
    (sb_NoBook_NoName : PySem.W.subIn K (.ref c_NoBook) (.ref c_NoName) = some false)
    (sb_NoneType_NoName : PySem.W.subIn K (.type "NoneType") (.ref c_NoName) = some false)
    (sb_NoJar_Taken : PySem.W.subIn K (.ref c_NoJar) (.ref c_Taken) = some false)
    (sb_Taken_Taken : PySem.W.subIn K (.ref c_Taken) (.ref c_Taken) = some true)
    (sb_NoTick_Taken : PySem.W.subIn K (.ref c_NoTick) (.ref c_Taken) = some false)
    (sb_NoLane_Taken : PySem.W.subIn K (.ref c_NoLane) (.ref c_Taken) = some false)
    (sb_NoName_Taken : PySem.W.subIn K (.ref c_NoName) (.ref c_Taken) = some false)
    (sb_Unknown_Taken : PySem.W.subIn K (.ref c_Unknown) (.ref c_Taken) = some false)
    (sb_NoWay_Taken : PySem.W.subIn K (.ref c_NoWay) (.ref c_Taken) = some false)
    (sb_NoLot_Taken : PySem.W.subIn K (.ref c_NoLot) (.ref c_Taken) = some false)
    (sb_TooMany_Taken : PySem.W.subIn K (.ref c_TooMany) (.ref c_Taken) = some false)
    (sb_TooMuch_Taken : PySem.W.subIn K (.ref c_TooMuch) (.ref c_Taken) = some false)
    (sb_NoText_Taken : PySem.W.subIn K (.ref c_NoText) (.ref c_Taken) = some false)
    (sb_NoBook_Taken : PySem.W.subIn K (.ref c_NoBook) (.ref c_Taken) = some false)
    (sb_NoneType_Taken : PySem.W.subIn K (.type "NoneType") (.ref c_Taken) = some false)
    (sb_NoJar_Unknown : PySem.W.subIn K (.ref c_NoJar) (.ref c_Unknown) = some false)
    (sb_Unknown_Unknown : PySem.W.subIn K (.ref c_Unknown) (.ref c_Unknown) = some true)
    (sb_NoTick_Unknown : PySem.W.subIn K (.ref c_NoTick) (.ref c_Unknown) = some false)
    (sb_NoLane_Unknown : PySem.W.subIn K (.ref c_NoLane) (.ref c_Unknown) = some false)
    (sb_NoName_Unknown : PySem.W.subIn K (.ref c_NoName) (.ref c_Unknown) = some false)
    (sb_Taken_Unknown : PySem.W.subIn K (.ref c_Taken) (.ref c_Unknown) = some false)
    (sb_NoWay_Unknown : PySem.W.subIn K (.ref c_NoWay) (.ref c_Unknown) = some false)
    (sb_NoLot_Unknown : PySem.W.subIn K (.ref c_NoLot) (.ref c_Unknown) = some false)
    (sb_TooMany_Unknown : PySem.W.subIn K (.ref c_TooMany) (.ref c_Unknown) = some false)
    (sb_TooMuch_Unknown : PySem.W.subIn K (.ref c_TooMuch) (.ref c_Unknown) = some false)
    (sb_NoText_Unknown : PySem.W.subIn K (.ref c_NoText) (.ref c_Unknown) = some false)
    (sb_NoBook_Unknown : PySem.W.subIn K (.ref c_NoBook) (.ref c_Unknown) = some false)
    (sb_NoneType_Unknown : PySem.W.subIn K (.type "NoneType") (.ref c_Unknown) = some false)
    (sb_NoJar_NoWay : PySem.W.subIn K (.ref c_NoJar) (.ref c_NoWay) = some false)
    (sb_NoWay_NoWay : PySem.W.subIn K (.ref c_NoWay) (.ref c_NoWay) = some true)
    (sb_NoTick_NoWay : PySem.W.subIn K (.ref c_NoTick) (.ref c_NoWay) = some false)
    (sb_NoLane_NoWay : PySem.W.subIn K (.ref c_NoLane) (.ref c_NoWay) = some false)
    (sb_NoName_NoWay : PySem.W.subIn K (.ref c_NoName) (.ref c_NoWay) = some false)
    (sb_Taken_NoWay : PySem.W.subIn K (.ref c_Taken) (.ref c_NoWay) = some false)
    (sb_Unknown_NoWay : PySem.W.subIn K (.ref c_Unknown) (.ref c_NoWay) = some false)
    (sb_NoLot_NoWay : PySem.W.subIn K (.ref c_NoLot) (.ref c_NoWay) = some false)
    (sb_TooMany_NoWay : PySem.W.subIn K (.ref c_TooMany) (.ref c_NoWay) = some false)
    (sb_TooMuch_NoWay : PySem.W.subIn K (.ref c_TooMuch) (.ref c_NoWay) = some false)
    (sb_NoText_NoWay : PySem.W.subIn K (.ref c_NoText) (.ref c_NoWay) = some false)
    (sb_NoBook_NoWay : PySem.W.subIn K (.ref c_NoBook) (.ref c_NoWay) = some false)
    (sb_NoneType_NoWay : PySem.W.subIn K (.type "NoneType") (.ref c_NoWay) = some false)
    (sb_NoJar_NoLot : PySem.W.subIn K (.ref c_NoJar) (.ref c_NoLot) = some false)
    (sb_NoLot_NoLot : PySem.W.subIn K (.ref c_NoLot) (.ref c_NoLot) = some true)
    (sb_NoTick_NoLot : PySem.W.subIn K (.ref c_NoTick) (.ref c_NoLot) = some false)
    (sb_NoLane_NoLot : PySem.W.subIn K (.ref c_NoLane) (.ref c_NoLot) = some false)
    (sb_NoName_NoLot : PySem.W.subIn K (.ref c_NoName) (.ref c_NoLot) = some false)
    (sb_Taken_NoLot : PySem.W.subIn K (.ref c_Taken) (.ref c_NoLot) = some false)
    (sb_Unknown_NoLot : PySem.W.subIn K (.ref c_Unknown) (.ref c_NoLot) = some false)
    (sb_NoWay_NoLot : PySem.W.subIn K (.ref c_NoWay) (.ref c_NoLot) = some false)
    (sb_TooMany_NoLot : PySem.W.subIn K (.ref c_TooMany) (.ref c_NoLot) = some false)
    (sb_TooMuch_NoLot : PySem.W.subIn K (.ref c_TooMuch) (.ref c_NoLot) = some false)
    (sb_NoText_NoLot : PySem.W.subIn K (.ref c_NoText) (.ref c_NoLot) = some false)
    (sb_NoBook_NoLot : PySem.W.subIn K (.ref c_NoBook) (.ref c_NoLot) = some false)
    (sb_NoneType_NoLot : PySem.W.subIn K (.type "NoneType") (.ref c_NoLot) = some false)
    (sb_NoJar_TooMany : PySem.W.subIn K (.ref c_NoJar) (.ref c_TooMany) = some false)
    (sb_TooMany_TooMany : PySem.W.subIn K (.ref c_TooMany) (.ref c_TooMany) = some true)
    (sb_NoTick_TooMany : PySem.W.subIn K (.ref c_NoTick) (.ref c_TooMany) = some false)
    (sb_NoLane_TooMany : PySem.W.subIn K (.ref c_NoLane) (.ref c_TooMany) = some false)
    (sb_NoName_TooMany : PySem.W.subIn K (.ref c_NoName) (.ref c_TooMany) = some false)
    (sb_Taken_TooMany : PySem.W.subIn K (.ref c_Taken) (.ref c_TooMany) = some false)
    (sb_Unknown_TooMany : PySem.W.subIn K (.ref c_Unknown) (.ref c_TooMany) = some false)
    (sb_NoWay_TooMany : PySem.W.subIn K (.ref c_NoWay) (.ref c_TooMany) = some false)
    (sb_NoLot_TooMany : PySem.W.subIn K (.ref c_NoLot) (.ref c_TooMany) = some false)
    (sb_TooMuch_TooMany : PySem.W.subIn K (.ref c_TooMuch) (.ref c_TooMany) = some false)
    (sb_NoText_TooMany : PySem.W.subIn K (.ref c_NoText) (.ref c_TooMany) = some false)
    (sb_NoBook_TooMany : PySem.W.subIn K (.ref c_NoBook) (.ref c_TooMany) = some false)
    (sb_NoneType_TooMany : PySem.W.subIn K (.type "NoneType") (.ref c_TooMany) = some false)
    (sb_NoJar_TooMuch : PySem.W.subIn K (.ref c_NoJar) (.ref c_TooMuch) = some false)
    (sb_TooMuch_TooMuch : PySem.W.subIn K (.ref c_TooMuch) (.ref c_TooMuch) = some true)
    (sb_NoTick_TooMuch : PySem.W.subIn K (.ref c_NoTick) (.ref c_TooMuch) = some false)
    (sb_NoLane_TooMuch : PySem.W.subIn K (.ref c_NoLane) (.ref c_TooMuch) = some false)
    (sb_NoName_TooMuch : PySem.W.subIn K (.ref c_NoName) (.ref c_TooMuch) = some false)
    (sb_Taken_TooMuch : PySem.W.subIn K (.ref c_Taken) (.ref c_TooMuch) = some false)
    (sb_Unknown_TooMuch : PySem.W.subIn K (.ref c_Unknown) (.ref c_TooMuch) = some false)
    (sb_NoWay_TooMuch : PySem.W.subIn K (.ref c_NoWay) (.ref c_TooMuch) = some false)
    (sb_NoLot_TooMuch : PySem.W.subIn K (.ref c_NoLot) (.ref c_TooMuch) = some false)
    (sb_TooMany_TooMuch : PySem.W.subIn K (.ref c_TooMany) (.ref c_TooMuch) = some false)
    (sb_NoText_TooMuch : PySem.W.subIn K (.ref c_NoText) (.ref c_TooMuch) = some false)
    (sb_NoBook_TooMuch : PySem.W.subIn K (.ref c_NoBook) (.ref c_TooMuch) = some false)
    (sb_NoneType_TooMuch : PySem.W.subIn K (.type "NoneType") (.ref c_TooMuch) = some false)
    (sb_NoJar_NoText : PySem.W.subIn K (.ref c_NoJar) (.ref c_NoText) = some false)
    (sb_NoText_NoText : PySem.W.subIn K (.ref c_NoText) (.ref c_NoText) = some true)
    (sb_NoTick_NoText : PySem.W.subIn K (.ref c_NoTick) (.ref c_NoText) = some false)
    (sb_NoLane_NoText : PySem.W.subIn K (.ref c_NoLane) (.ref c_NoText) = some false)
    (sb_NoName_NoText : PySem.W.subIn K (.ref c_NoName) (.ref c_NoText) = some false)
    (sb_Taken_NoText : PySem.W.subIn K (.ref c_Taken) (.ref c_NoText) = some false)
    (sb_Unknown_NoText : PySem.W.subIn K (.ref c_Unknown) (.ref c_NoText) = some false)
    (sb_NoWay_NoText : PySem.W.subIn K (.ref c_NoWay) (.ref c_NoText) = some false)
    (sb_NoLot_NoText : PySem.W.subIn K (.ref c_NoLot) (.ref c_NoText) = some false)
    (sb_TooMany_NoText : PySem.W.subIn K (.ref c_TooMany) (.ref c_NoText) = some false)
    (sb_TooMuch_NoText : PySem.W.subIn K (.ref c_TooMuch) (.ref c_NoText) = some false)
    (sb_NoBook_NoText : PySem.W.subIn K (.ref c_NoBook) (.ref c_NoText) = some false)
    (sb_NoneType_NoText : PySem.W.subIn K (.type "NoneType") (.ref c_NoText) = some false)
    (sb_NoJar_NoBook : PySem.W.subIn K (.ref c_NoJar) (.ref c_NoBook) = some false)
    (sb_NoBook_NoBook : PySem.W.subIn K (.ref c_NoBook) (.ref c_NoBook) = some true)
    (sb_NoTick_NoBook : PySem.W.subIn K (.ref c_NoTick) (.ref c_NoBook) = some false)
    (sb_NoLane_NoBook : PySem.W.subIn K (.ref c_NoLane) (.ref c_NoBook) = some false)
    (sb_NoName_NoBook : PySem.W.subIn K (.ref c_NoName) (.ref c_NoBook) = some false)
    (sb_Taken_NoBook : PySem.W.subIn K (.ref c_Taken) (.ref c_NoBook) = some false)
    (sb_Unknown_NoBook : PySem.W.subIn K (.ref c_Unknown) (.ref c_NoBook) = some false)
    (sb_NoWay_NoBook : PySem.W.subIn K (.ref c_NoWay) (.ref c_NoBook) = some false)
    (sb_NoLot_NoBook : PySem.W.subIn K (.ref c_NoLot) (.ref c_NoBook) = some false)
    (sb_TooMany_NoBook : PySem.W.subIn K (.ref c_TooMany) (.ref c_NoBook) = some false)
    (sb_TooMuch_NoBook : PySem.W.subIn K (.ref c_TooMuch) (.ref c_NoBook) = some false)
    (sb_NoText_NoBook : PySem.W.subIn K (.ref c_NoText) (.ref c_NoBook) = some false)
    (sb_NoneType_NoBook : PySem.W.subIn K (.type "NoneType") (.ref c_NoBook) = some false)
    (sb_NoJar_LaneError : PySem.W.subIn K (.ref c_NoJar) (.ref c_LaneError) = some true)
    (sb_LaneError_LaneError : PySem.W.subIn K (.ref c_LaneError) (.ref c_LaneError) = some true)
    (xhd_LaneError : PySem.W.hasDictIn K c_LaneError = true)
    (xt0_LaneError : PySem.W.typeIn K (.ref c_LaneError) = some (.type "type"))
    (sb_NoTick_LaneError : PySem.W.subIn K (.ref c_NoTick) (.ref c_LaneError) = some true)
    (sb_NoLane_LaneError : PySem.W.subIn K (.ref c_NoLane) (.ref c_LaneError) = some true)
    (sb_NoName_LaneError : PySem.W.subIn K (.ref c_NoName) (.ref c_LaneError) = some true)
    (sb_Taken_LaneError : PySem.W.subIn K (.ref c_Taken) (.ref c_LaneError) = some true)
    (sb_Unknown_LaneError : PySem.W.subIn K (.ref c_Unknown) (.ref c_LaneError) = some true)
    (sb_NoWay_LaneError : PySem.W.subIn K (.ref c_NoWay) (.ref c_LaneError) = some true)
    (sb_NoLot_LaneError : PySem.W.subIn K (.ref c_NoLot) (.ref c_LaneError) = some true)
    (sb_TooMany_LaneError : PySem.W.subIn K (.ref c_TooMany) (.ref c_LaneError) = some true)
    (sb_TooMuch_LaneError : PySem.W.subIn K (.ref c_TooMuch) (.ref c_LaneError) = some true)
    (sb_NoText_LaneError : PySem.W.subIn K (.ref c_NoText) (.ref c_LaneError) = some true)
    (sb_NoBook_LaneError : PySem.W.subIn K (.ref c_NoBook) (.ref c_LaneError) = some true)
    (sb_NoneType_LaneError : PySem.W.subIn K (.type "NoneType") (.ref c_LaneError) = some false)
    (sb_NoJar_ValueError : PySem.W.subIn K (.ref c_NoJar) (.type "ValueError") = some true)
    (km_NoJar_ValueError : PySem.W.kitMeta "ValueError" = true)
    (sb_NoTick_ValueError : PySem.W.subIn K (.ref c_NoTick) (.type "ValueError") = some true)
    (km_NoTick_ValueError : PySem.W.kitMeta "ValueError" = true)
    (sb_NoLane_ValueError : PySem.W.subIn K (.ref c_NoLane) (.type "ValueError") = some true)
    (km_NoLane_ValueError : PySem.W.kitMeta "ValueError" = true)
    (sb_NoName_ValueError : PySem.W.subIn K (.ref c_NoName) (.type "ValueError") = some true)
    (km_NoName_ValueError : PySem.W.kitMeta "ValueError" = true)
    (sb_Taken_ValueError : PySem.W.subIn K (.ref c_Taken) (.type "ValueError") = some true)
    (km_Taken_ValueError : PySem.W.kitMeta "ValueError" = true)
    (sb_Unknown_ValueError : PySem.W.subIn K (.ref c_Unknown) (.type "ValueError") = some true)
    (km_Unknown_ValueError : PySem.W.kitMeta "ValueError" = true)
    (sb_NoWay_ValueError : PySem.W.subIn K (.ref c_NoWay) (.type "ValueError") = some true)
    (km_NoWay_ValueError : PySem.W.kitMeta "ValueError" = true)
    (sb_NoLot_ValueError : PySem.W.subIn K (.ref c_NoLot) (.type "ValueError") = some true)
    (km_NoLot_ValueError : PySem.W.kitMeta "ValueError" = true)
    (sb_TooMany_ValueError : PySem.W.subIn K (.ref c_TooMany) (.type "ValueError") = some true)
    (km_TooMany_ValueError : PySem.W.kitMeta "ValueError" = true)
    (sb_TooMuch_ValueError : PySem.W.subIn K (.ref c_TooMuch) (.type "ValueError") = some true)
    (km_TooMuch_ValueError : PySem.W.kitMeta "ValueError" = true)
    (sb_NoText_ValueError : PySem.W.subIn K (.ref c_NoText) (.type "ValueError") = some true)
    (km_NoText_ValueError : PySem.W.kitMeta "ValueError" = true)
    (sb_NoBook_ValueError : PySem.W.subIn K (.ref c_NoBook) (.type "ValueError") = some true)
    (km_NoBook_ValueError : PySem.W.kitMeta "ValueError" = true)
    (z_ValueError : PySem.W.nsIn K mainGlobals "ValueError" = some none)
    (xq_NoJar : PySem.W.excIn K c_NoJar [.type "ValueError", .type "Exception", .type "BaseException", .type "object"] "ValueError.__new__" = true)
    (xq_NoTick : PySem.W.excIn K c_NoTick [.type "ValueError", .type "Exception", .type "BaseException", .type "object"] "ValueError.__new__" = true)
    (xq_NoLane : PySem.W.excIn K c_NoLane [.type "ValueError", .type "Exception", .type "BaseException", .type "object"] "ValueError.__new__" = true)
    {nm_NoName q_NoName : Str} {N_NoName : Addr} {bs_NoName bm_NoName sub_NoName : List Value} {sn_NoName : List Str} {ab_NoName : Bool} {col_NoName : Option Bool} {dd_NoName : Option Addr} {m0_NoName m1_NoName m2_NoName m3_NoName m5_NoName : Option Value} {fI_NoName : Addr}
    (xL_NoName : K.lookup c_NoName = some (excClassObj nm_NoName q_NoName c_NoName N_NoName bs_NoName bm_NoName true sn_NoName sub_NoName ab_NoName col_NoName dd_NoName m0_NoName m1_NoName m2_NoName m3_NoName m5_NoName "ValueError.__new__"))
    (xr_NoName : PySem.HandSPX.refsVE bm_NoName = true)
    (xsa_NoName : PySem.W.findIn K (.ref c_NoName) "__setattr__" = some (some (.builtin "object.__setattr__")))
    (xi_NoName : PySem.W.findIn K (.ref c_NoName) "__init__" = some (some (.ref fI_NoName)))
    (xti_NoName : PySem.W.typeIn K (.ref fI_NoName) = some (.type "function"))
    (xki_NoName : PySem.W.keepIn K (.ref fI_NoName) = true)
    {odI_NoName anI_NoName : Option Addr} {slI_NoName : Array (Option Value)} {ocI_NoName kVI_NoName dcI_NoName pmI_NoName cdI_NoName ctI_NoName : Value}
    (xl_NoName : K.lookup fI_NoName = some ⟨ocI_NoName, odI_NoName, .func (PySem.W.fnOf "__init__" "NoName.__init__" (defArgs s_NoName__init) (defBody s_NoName__init) (defScope s_NoName__init) .none kVI_NoName dcI_NoName pmI_NoName anI_NoName cdI_NoName ctI_NoName), slI_NoName⟩)
    (xc_NoName : PySem.W.codeIn K cdI_NoName "NoName.__init__" = true)
    (xn_NoName_name : PySem.W.findIn K (.ref c_NoName) "name" = some none)
    {nm_Taken q_Taken : Str} {N_Taken : Addr} {bs_Taken bm_Taken sub_Taken : List Value} {sn_Taken : List Str} {ab_Taken : Bool} {col_Taken : Option Bool} {dd_Taken : Option Addr} {m0_Taken m1_Taken m2_Taken m3_Taken m5_Taken : Option Value} {fI_Taken : Addr}
    (xL_Taken : K.lookup c_Taken = some (excClassObj nm_Taken q_Taken c_Taken N_Taken bs_Taken bm_Taken true sn_Taken sub_Taken ab_Taken col_Taken dd_Taken m0_Taken m1_Taken m2_Taken m3_Taken m5_Taken "ValueError.__new__"))
    (xr_Taken : PySem.HandSPX.refsVE bm_Taken = true)
    (xsa_Taken : PySem.W.findIn K (.ref c_Taken) "__setattr__" = some (some (.builtin "object.__setattr__")))
    (xi_Taken : PySem.W.findIn K (.ref c_Taken) "__init__" = some (some (.ref fI_Taken)))
    (xti_Taken : PySem.W.typeIn K (.ref fI_Taken) = some (.type "function"))
    (xki_Taken : PySem.W.keepIn K (.ref fI_Taken) = true)
    {odI_Taken anI_Taken : Option Addr} {slI_Taken : Array (Option Value)} {ocI_Taken kVI_Taken dcI_Taken pmI_Taken cdI_Taken ctI_Taken : Value}
    (xl_Taken : K.lookup fI_Taken = some ⟨ocI_Taken, odI_Taken, .func (PySem.W.fnOf "__init__" "Taken.__init__" (defArgs s_Taken__init) (defBody s_Taken__init) (defScope s_Taken__init) .none kVI_Taken dcI_Taken pmI_Taken anI_Taken cdI_Taken ctI_Taken), slI_Taken⟩)
    (xc_Taken : PySem.W.codeIn K cdI_Taken "Taken.__init__" = true)
    (xn_Taken_name : PySem.W.findIn K (.ref c_Taken) "name" = some none)
    {nm_Unknown q_Unknown : Str} {N_Unknown : Addr} {bs_Unknown bm_Unknown sub_Unknown : List Value} {sn_Unknown : List Str} {ab_Unknown : Bool} {col_Unknown : Option Bool} {dd_Unknown : Option Addr} {m0_Unknown m1_Unknown m2_Unknown m3_Unknown m5_Unknown : Option Value} {fI_Unknown : Addr}
    (xL_Unknown : K.lookup c_Unknown = some (excClassObj nm_Unknown q_Unknown c_Unknown N_Unknown bs_Unknown bm_Unknown true sn_Unknown sub_Unknown ab_Unknown col_Unknown dd_Unknown m0_Unknown m1_Unknown m2_Unknown m3_Unknown m5_Unknown "ValueError.__new__"))
    (xr_Unknown : PySem.HandSPX.refsVE bm_Unknown = true)
    (xsa_Unknown : PySem.W.findIn K (.ref c_Unknown) "__setattr__" = some (some (.builtin "object.__setattr__")))
    (xi_Unknown : PySem.W.findIn K (.ref c_Unknown) "__init__" = some (some (.ref fI_Unknown)))
    (xti_Unknown : PySem.W.typeIn K (.ref fI_Unknown) = some (.type "function"))
    (xki_Unknown : PySem.W.keepIn K (.ref fI_Unknown) = true)
    {odI_Unknown anI_Unknown : Option Addr} {slI_Unknown : Array (Option Value)} {ocI_Unknown kVI_Unknown dcI_Unknown pmI_Unknown cdI_Unknown ctI_Unknown : Value}
    (xl_Unknown : K.lookup fI_Unknown = some ⟨ocI_Unknown, odI_Unknown, .func (PySem.W.fnOf "__init__" "Unknown.__init__" (defArgs s_Unknown__init) (defBody s_Unknown__init) (defScope s_Unknown__init) .none kVI_Unknown dcI_Unknown pmI_Unknown anI_Unknown cdI_Unknown ctI_Unknown), slI_Unknown⟩)
    (xc_Unknown : PySem.W.codeIn K cdI_Unknown "Unknown.__init__" = true)
    (xn_Unknown_name : PySem.W.findIn K (.ref c_Unknown) "name" = some none)
    (yA_NoName_name : PySem.W.findIn K (.ref c_NoName) "name" = some none)
    (yA_Taken_name : PySem.W.findIn K (.ref c_Taken) "name" = some none)
    (yA_Unknown_name : PySem.W.findIn K (.ref c_Unknown) "name" = some none)
    (yA_TooMany_name : PySem.W.findIn K (.ref c_TooMany) "name" = some none)
    {nm_NoWay q_NoWay : Str} {N_NoWay : Addr} {bs_NoWay bm_NoWay sub_NoWay : List Value} {sn_NoWay : List Str} {ab_NoWay : Bool} {col_NoWay : Option Bool} {dd_NoWay : Option Addr} {m0_NoWay m1_NoWay m2_NoWay m3_NoWay m5_NoWay : Option Value} {fI_NoWay : Addr}
    (xL_NoWay : K.lookup c_NoWay = some (excClassObj nm_NoWay q_NoWay c_NoWay N_NoWay bs_NoWay bm_NoWay true sn_NoWay sub_NoWay ab_NoWay col_NoWay dd_NoWay m0_NoWay m1_NoWay m2_NoWay m3_NoWay m5_NoWay "ValueError.__new__"))
    (xr_NoWay : PySem.HandSPX.refsVE bm_NoWay = true)
    (xsa_NoWay : PySem.W.findIn K (.ref c_NoWay) "__setattr__" = some (some (.builtin "object.__setattr__")))
    (xi_NoWay : PySem.W.findIn K (.ref c_NoWay) "__init__" = some (some (.ref fI_NoWay)))
    (xti_NoWay : PySem.W.typeIn K (.ref fI_NoWay) = some (.type "function"))
    (xki_NoWay : PySem.W.keepIn K (.ref fI_NoWay) = true)
    {odI_NoWay anI_NoWay : Option Addr} {slI_NoWay : Array (Option Value)} {ocI_NoWay kVI_NoWay dcI_NoWay pmI_NoWay cdI_NoWay ctI_NoWay : Value}
    (xl_NoWay : K.lookup fI_NoWay = some ⟨ocI_NoWay, odI_NoWay, .func (PySem.W.fnOf "__init__" "NoWay.__init__" (defArgs s_NoWay__init) (defBody s_NoWay__init) (defScope s_NoWay__init) .none kVI_NoWay dcI_NoWay pmI_NoWay anI_NoWay cdI_NoWay ctI_NoWay), slI_NoWay⟩)
    (xc_NoWay : PySem.W.codeIn K cdI_NoWay "NoWay.__init__" = true)
    (xn_NoWay_place : PySem.W.findIn K (.ref c_NoWay) "place" = some none)
    {nm_NoLot q_NoLot : Str} {N_NoLot : Addr} {bs_NoLot bm_NoLot sub_NoLot : List Value} {sn_NoLot : List Str} {ab_NoLot : Bool} {col_NoLot : Option Bool} {dd_NoLot : Option Addr} {m0_NoLot m1_NoLot m2_NoLot m3_NoLot m5_NoLot : Option Value} {fI_NoLot : Addr}
    (xL_NoLot : K.lookup c_NoLot = some (excClassObj nm_NoLot q_NoLot c_NoLot N_NoLot bs_NoLot bm_NoLot true sn_NoLot sub_NoLot ab_NoLot col_NoLot dd_NoLot m0_NoLot m1_NoLot m2_NoLot m3_NoLot m5_NoLot "ValueError.__new__"))
    (xr_NoLot : PySem.HandSPX.refsVE bm_NoLot = true)
    (xsa_NoLot : PySem.W.findIn K (.ref c_NoLot) "__setattr__" = some (some (.builtin "object.__setattr__")))
    (xi_NoLot : PySem.W.findIn K (.ref c_NoLot) "__init__" = some (some (.ref fI_NoLot)))
    (xti_NoLot : PySem.W.typeIn K (.ref fI_NoLot) = some (.type "function"))
    (xki_NoLot : PySem.W.keepIn K (.ref fI_NoLot) = true)
    {odI_NoLot anI_NoLot : Option Addr} {slI_NoLot : Array (Option Value)} {ocI_NoLot kVI_NoLot dcI_NoLot pmI_NoLot cdI_NoLot ctI_NoLot : Value}
    (xl_NoLot : K.lookup fI_NoLot = some ⟨ocI_NoLot, odI_NoLot, .func (PySem.W.fnOf "__init__" "NoLot.__init__" (defArgs s_NoLot__init) (defBody s_NoLot__init) (defScope s_NoLot__init) .none kVI_NoLot dcI_NoLot pmI_NoLot anI_NoLot cdI_NoLot ctI_NoLot), slI_NoLot⟩)
    (xc_NoLot : PySem.W.codeIn K cdI_NoLot "NoLot.__init__" = true)
    (xn_NoLot_place : PySem.W.findIn K (.ref c_NoLot) "place" = some none)
    (yA_NoWay_place : PySem.W.findIn K (.ref c_NoWay) "place" = some none)
    (yA_NoLot_place : PySem.W.findIn K (.ref c_NoLot) "place" = some none)
    {nm_NoText q_NoText : Str} {N_NoText : Addr} {bs_NoText bm_NoText sub_NoText : List Value} {sn_NoText : List Str} {ab_NoText : Bool} {col_NoText : Option Bool} {dd_NoText : Option Addr} {m0_NoText m1_NoText m2_NoText m3_NoText m5_NoText : Option Value} {fI_NoText : Addr}
    (xL_NoText : K.lookup c_NoText = some (excClassObj nm_NoText q_NoText c_NoText N_NoText bs_NoText bm_NoText true sn_NoText sub_NoText ab_NoText col_NoText dd_NoText m0_NoText m1_NoText m2_NoText m3_NoText m5_NoText "ValueError.__new__"))
    (xr_NoText : PySem.HandSPX.refsVE bm_NoText = true)
    (xsa_NoText : PySem.W.findIn K (.ref c_NoText) "__setattr__" = some (some (.builtin "object.__setattr__")))
    (xi_NoText : PySem.W.findIn K (.ref c_NoText) "__init__" = some (some (.ref fI_NoText)))
    (xti_NoText : PySem.W.typeIn K (.ref fI_NoText) = some (.type "function"))
    (xki_NoText : PySem.W.keepIn K (.ref fI_NoText) = true)
    {odI_NoText anI_NoText : Option Addr} {slI_NoText : Array (Option Value)} {ocI_NoText kVI_NoText dcI_NoText pmI_NoText cdI_NoText ctI_NoText : Value}
    (xl_NoText : K.lookup fI_NoText = some ⟨ocI_NoText, odI_NoText, .func (PySem.W.fnOf "__init__" "NoText.__init__" (defArgs s_NoText__init) (defBody s_NoText__init) (defScope s_NoText__init) .none kVI_NoText dcI_NoText pmI_NoText anI_NoText cdI_NoText ctI_NoText), slI_NoText⟩)
    (xc_NoText : PySem.W.codeIn K cdI_NoText "NoText.__init__" = true)
    (xn_NoText_row : PySem.W.findIn K (.ref c_NoText) "row" = some none)
    {nm_NoBook q_NoBook : Str} {N_NoBook : Addr} {bs_NoBook bm_NoBook sub_NoBook : List Value} {sn_NoBook : List Str} {ab_NoBook : Bool} {col_NoBook : Option Bool} {dd_NoBook : Option Addr} {m0_NoBook m1_NoBook m2_NoBook m3_NoBook m5_NoBook : Option Value} {fI_NoBook : Addr}
    (xL_NoBook : K.lookup c_NoBook = some (excClassObj nm_NoBook q_NoBook c_NoBook N_NoBook bs_NoBook bm_NoBook true sn_NoBook sub_NoBook ab_NoBook col_NoBook dd_NoBook m0_NoBook m1_NoBook m2_NoBook m3_NoBook m5_NoBook "ValueError.__new__"))
    (xr_NoBook : PySem.HandSPX.refsVE bm_NoBook = true)
    (xsa_NoBook : PySem.W.findIn K (.ref c_NoBook) "__setattr__" = some (some (.builtin "object.__setattr__")))
    (xi_NoBook : PySem.W.findIn K (.ref c_NoBook) "__init__" = some (some (.ref fI_NoBook)))
    (xti_NoBook : PySem.W.typeIn K (.ref fI_NoBook) = some (.type "function"))
    (xki_NoBook : PySem.W.keepIn K (.ref fI_NoBook) = true)
    {odI_NoBook anI_NoBook : Option Addr} {slI_NoBook : Array (Option Value)} {ocI_NoBook kVI_NoBook dcI_NoBook pmI_NoBook cdI_NoBook ctI_NoBook : Value}
    (xl_NoBook : K.lookup fI_NoBook = some ⟨ocI_NoBook, odI_NoBook, .func (PySem.W.fnOf "__init__" "NoBook.__init__" (defArgs s_NoBook__init) (defBody s_NoBook__init) (defScope s_NoBook__init) .none kVI_NoBook dcI_NoBook pmI_NoBook anI_NoBook cdI_NoBook ctI_NoBook), slI_NoBook⟩)
    (xc_NoBook : PySem.W.codeIn K cdI_NoBook "NoBook.__init__" = true)
    (xn_NoBook_row : PySem.W.findIn K (.ref c_NoBook) "row" = some none)
    (yA_NoText_row : PySem.W.findIn K (.ref c_NoText) "row" = some none)
    (yA_NoBook_row : PySem.W.findIn K (.ref c_NoBook) "row" = some none)
    {nm_TooMany q_TooMany : Str} {N_TooMany : Addr} {bs_TooMany bm_TooMany sub_TooMany : List Value} {sn_TooMany : List Str} {ab_TooMany : Bool} {col_TooMany : Option Bool} {dd_TooMany : Option Addr} {m0_TooMany m1_TooMany m2_TooMany m3_TooMany m5_TooMany : Option Value} {fI_TooMany : Addr}
    (xL_TooMany : K.lookup c_TooMany = some (excClassObj nm_TooMany q_TooMany c_TooMany N_TooMany bs_TooMany bm_TooMany true sn_TooMany sub_TooMany ab_TooMany col_TooMany dd_TooMany m0_TooMany m1_TooMany m2_TooMany m3_TooMany m5_TooMany "ValueError.__new__"))
    (xr_TooMany : PySem.HandSPX.refsVE bm_TooMany = true)
    (xsa_TooMany : PySem.W.findIn K (.ref c_TooMany) "__setattr__" = some (some (.builtin "object.__setattr__")))
    (xi_TooMany : PySem.W.findIn K (.ref c_TooMany) "__init__" = some (some (.ref fI_TooMany)))
    (xti_TooMany : PySem.W.typeIn K (.ref fI_TooMany) = some (.type "function"))
    (xki_TooMany : PySem.W.keepIn K (.ref fI_TooMany) = true)
    {odI_TooMany anI_TooMany : Option Addr} {slI_TooMany : Array (Option Value)} {ocI_TooMany kVI_TooMany dcI_TooMany pmI_TooMany cdI_TooMany ctI_TooMany : Value}
    (xl_TooMany : K.lookup fI_TooMany = some ⟨ocI_TooMany, odI_TooMany, .func (PySem.W.fnOf "__init__" "TooMany.__init__" (defArgs s_TooMany__init) (defBody s_TooMany__init) (defScope s_TooMany__init) .none kVI_TooMany dcI_TooMany pmI_TooMany anI_TooMany cdI_TooMany ctI_TooMany), slI_TooMany⟩)
    (xc_TooMany : PySem.W.codeIn K cdI_TooMany "TooMany.__init__" = true)
    (xn_TooMany_name : PySem.W.findIn K (.ref c_TooMany) "name" = some none)
    (xn_TooMany_bound : PySem.W.findIn K (.ref c_TooMany) "bound" = some none)
    (yA_TooMany_bound : PySem.W.findIn K (.ref c_TooMany) "bound" = some none)
    {nm_TooMuch q_TooMuch : Str} {N_TooMuch : Addr} {bs_TooMuch bm_TooMuch sub_TooMuch : List Value} {sn_TooMuch : List Str} {ab_TooMuch : Bool} {col_TooMuch : Option Bool} {dd_TooMuch : Option Addr} {m0_TooMuch m1_TooMuch m2_TooMuch m3_TooMuch m5_TooMuch : Option Value} {fI_TooMuch : Addr}
    (xL_TooMuch : K.lookup c_TooMuch = some (excClassObj nm_TooMuch q_TooMuch c_TooMuch N_TooMuch bs_TooMuch bm_TooMuch true sn_TooMuch sub_TooMuch ab_TooMuch col_TooMuch dd_TooMuch m0_TooMuch m1_TooMuch m2_TooMuch m3_TooMuch m5_TooMuch "ValueError.__new__"))
    (xr_TooMuch : PySem.HandSPX.refsVE bm_TooMuch = true)
    (xsa_TooMuch : PySem.W.findIn K (.ref c_TooMuch) "__setattr__" = some (some (.builtin "object.__setattr__")))
    (xi_TooMuch : PySem.W.findIn K (.ref c_TooMuch) "__init__" = some (some (.ref fI_TooMuch)))
    (xti_TooMuch : PySem.W.typeIn K (.ref fI_TooMuch) = some (.type "function"))
    (xki_TooMuch : PySem.W.keepIn K (.ref fI_TooMuch) = true)
    {odI_TooMuch anI_TooMuch : Option Addr} {slI_TooMuch : Array (Option Value)} {ocI_TooMuch kVI_TooMuch dcI_TooMuch pmI_TooMuch cdI_TooMuch ctI_TooMuch : Value}
    (xl_TooMuch : K.lookup fI_TooMuch = some ⟨ocI_TooMuch, odI_TooMuch, .func (PySem.W.fnOf "__init__" "TooMuch.__init__" (defArgs s_TooMuch__init) (defBody s_TooMuch__init) (defScope s_TooMuch__init) .none kVI_TooMuch dcI_TooMuch pmI_TooMuch anI_TooMuch cdI_TooMuch ctI_TooMuch), slI_TooMuch⟩)
    (xc_TooMuch : PySem.W.codeIn K cdI_TooMuch "TooMuch.__init__" = true)
    (xn_TooMuch_lane : PySem.W.findIn K (.ref c_TooMuch) "lane" = some none)
    (xn_TooMuch_first : PySem.W.findIn K (.ref c_TooMuch) "first" = some none)
    (xn_TooMuch_end : PySem.W.findIn K (.ref c_TooMuch) "end" = some none)
    (xn_TooMuch_rows : PySem.W.findIn K (.ref c_TooMuch) "rows" = some none)
    (z_list : PySem.W.nsIn K mainGlobals "list" = some none)
    (yA_TooMuch_lane : PySem.W.findIn K (.ref c_TooMuch) "lane" = some none)
    (yA_TooMuch_first : PySem.W.findIn K (.ref c_TooMuch) "first" = some none)
    (yA_TooMuch_end : PySem.W.findIn K (.ref c_TooMuch) "end" = some none)
    (yA_TooMuch_rows : PySem.W.findIn K (.ref c_TooMuch) "rows" = some none)
    {t_MOST : Tok}
    (v_MOST : PySem.W.nsIn K mainGlobals "MOST" = some (some (.int 1000000000 t_MOST)))
    (pg_Jar : PySem.W.plainGet K c_Jar Str.empty = true)
    (hd_Jar : PySem.W.hasDictIn K c_Jar = true)
    (po_Jar : PySem.W.plainOver K c_Jar = true)
    (sa_Jar : PySem.W.findIn K (.ref c_Jar) "__setattr__" = some (some (.builtin "object.__setattr__")))
    (yA_Jar_size : PySem.W.findIn K (.ref c_Jar) "size" = some none)
    (yA_Jar_rate : PySem.W.findIn K (.ref c_Jar) "rate" = some none)
    (yA_Jar_mouth : PySem.W.findIn K (.ref c_Jar) "mouth" = some none)
    (pg_Flow : PySem.W.plainGet K c_Flow Str.empty = true)
    (hd_Flow : PySem.W.hasDictIn K c_Flow = true)
    (po_Flow : PySem.W.plainOver K c_Flow = true)
    (sa_Flow : PySem.W.findIn K (.ref c_Flow) "__setattr__" = some (some (.builtin "object.__setattr__")))
    (yA_Flow_jar : PySem.W.findIn K (.ref c_Flow) "jar" = some none)
    (yA_Flow_marks : PySem.W.findIn K (.ref c_Flow) "marks" = some none)
    (z_min : PySem.W.nsIn K mainGlobals "min" = some none)
    (mk_Jar : PySem.W.makesIn K c_Jar = true)
    (mkk_Jar : PySem.W.keepIn K (.ref c_Jar) = true)
    (mk_Flow : PySem.W.makesIn K c_Flow = true)
    (mkk_Flow : PySem.W.keepIn K (.ref c_Flow) = true)
    (xk_LaneError : PySem.W.keepIn K (.ref c_LaneError) = true)
    (xs_LaneError : PySem.W.subIn K (.ref c_LaneError) (.type "BaseException") = some true)
    (xt_LaneError : PySem.W.typeIn K (.ref c_LaneError) = some (.type "type"))
    : ∃ fd : FuncData, (∀ (s : Shared) (v : Value), BindsTo s fd ⟨[v], []⟩ [("_law_script", v)]) ∧ ∀ base : Heap, K.In base → base.Ns mainGlobals mg → FnOk l.prog w K mg base (L2.CX l.prog w) 5 fa fd ["_law_script"] (liftE (pLawE K)) := by
  have e := hfa.symm.trans (PySem.W.mg_of X G a14)
  cases e
  have G_len : mg "len" = none := PySem.W.mg_none_of X G z_len
  have G_range : mg "range" = none := PySem.W.mg_none_of X G z_range
  have KT_NoJar_NoJar : KitP K (.ref c_NoJar) (.ref c_NoJar) true := ⟨kit_same⟩
  have EP_NoJar : ExcP K c_NoJar := ⟨cls_some xhd_NoJar, xga_NoJar, xgg_NoJar, xs_NoJar, eha_NoJar, ob1, ob2, ehm_NoJar⟩
  have KT_NoTick_NoJar : KitP K (.ref c_NoTick) (.ref c_NoJar) false := ⟨kit_ref xhd_NoJar xt0_NoJar sb_NoTick_NoJar sb_NoJar_NoJar⟩
  have EP_NoTick : ExcP K c_NoTick := ⟨cls_some xhd_NoTick, xga_NoTick, xgg_NoTick, xs_NoTick, eha_NoTick, ob1, ob2, ehm_NoTick⟩
  have KT_NoLane_NoJar : KitP K (.ref c_NoLane) (.ref c_NoJar) false := ⟨kit_ref xhd_NoJar xt0_NoJar sb_NoLane_NoJar sb_NoJar_NoJar⟩
  have EP_NoLane : ExcP K c_NoLane := ⟨cls_some xhd_NoLane, xga_NoLane, xgg_NoLane, xs_NoLane, eha_NoLane, ob1, ob2, ehm_NoLane⟩
  have KT_NoName_NoJar : KitP K (.ref c_NoName) (.ref c_NoJar) false := ⟨kit_ref xhd_NoJar xt0_NoJar sb_NoName_NoJar sb_NoJar_NoJar⟩
  have EP_NoName : ExcP K c_NoName := ⟨cls_some xhd_NoName, xga_NoName, xgg_NoName, xs_NoName, eha_NoName, ob1, ob2, ehm_NoName⟩
  have KT_Taken_NoJar : KitP K (.ref c_Taken) (.ref c_NoJar) false := ⟨kit_ref xhd_NoJar xt0_NoJar sb_Taken_NoJar sb_NoJar_NoJar⟩
  have EP_Taken : ExcP K c_Taken := ⟨cls_some xhd_Taken, xga_Taken, xgg_Taken, xs_Taken, eha_Taken, ob1, ob2, ehm_Taken⟩
  have KT_Unknown_NoJar : KitP K (.ref c_Unknown) (.ref c_NoJar) false := ⟨kit_ref xhd_NoJar xt0_NoJar sb_Unknown_NoJar sb_NoJar_NoJar⟩
  have EP_Unknown : ExcP K c_Unknown := ⟨cls_some xhd_Unknown, xga_Unknown, xgg_Unknown, xs_Unknown, eha_Unknown, ob1, ob2, ehm_Unknown⟩
  have KT_NoWay_NoJar : KitP K (.ref c_NoWay) (.ref c_NoJar) false := ⟨kit_ref xhd_NoJar xt0_NoJar sb_NoWay_NoJar sb_NoJar_NoJar⟩
  have EP_NoWay : ExcP K c_NoWay := ⟨cls_some xhd_NoWay, xga_NoWay, xgg_NoWay, xs_NoWay, eha_NoWay, ob1, ob2, ehm_NoWay⟩
  have KT_NoLot_NoJar : KitP K (.ref c_NoLot) (.ref c_NoJar) false := ⟨kit_ref xhd_NoJar xt0_NoJar sb_NoLot_NoJar sb_NoJar_NoJar⟩
  have EP_NoLot : ExcP K c_NoLot := ⟨cls_some xhd_NoLot, xga_NoLot, xgg_NoLot, xs_NoLot, eha_NoLot, ob1, ob2, ehm_NoLot⟩
  have KT_TooMany_NoJar : KitP K (.ref c_TooMany) (.ref c_NoJar) false := ⟨kit_ref xhd_NoJar xt0_NoJar sb_TooMany_NoJar sb_NoJar_NoJar⟩
  have EP_TooMany : ExcP K c_TooMany := ⟨cls_some xhd_TooMany, xga_TooMany, xgg_TooMany, xs_TooMany, eha_TooMany, ob1, ob2, ehm_TooMany⟩
  have KT_TooMuch_NoJar : KitP K (.ref c_TooMuch) (.ref c_NoJar) false := ⟨kit_ref xhd_NoJar xt0_NoJar sb_TooMuch_NoJar sb_NoJar_NoJar⟩
  have EP_TooMuch : ExcP K c_TooMuch := ⟨cls_some xhd_TooMuch, xga_TooMuch, xgg_TooMuch, xs_TooMuch, eha_TooMuch, ob1, ob2, ehm_TooMuch⟩
  have KT_NoText_NoJar : KitP K (.ref c_NoText) (.ref c_NoJar) false := ⟨kit_ref xhd_NoJar xt0_NoJar sb_NoText_NoJar sb_NoJar_NoJar⟩
  have EP_NoText : ExcP K c_NoText := ⟨cls_some xhd_NoText, xga_NoText, xgg_NoText, xs_NoText, eha_NoText, ob1, ob2, ehm_NoText⟩
  have KT_NoBook_NoJar : KitP K (.ref c_NoBook) (.ref c_NoJar) false := ⟨kit_ref xhd_NoJar xt0_NoJar sb_NoBook_NoJar sb_NoJar_NoJar⟩
  have EP_NoBook : ExcP K c_NoBook := ⟨cls_some xhd_NoBook, xga_NoBook, xgg_NoBook, xs_NoBook, eha_NoBook, ob1, ob2, ehm_NoBook⟩
  have KT_NoneType_NoJar : KitP K (.type "NoneType") (.ref c_NoJar) false := ⟨kit_ref xhd_NoJar xt0_NoJar sb_NoneType_NoJar sb_NoJar_NoJar⟩
  have G_isinstance : mg "isinstance" = none := PySem.W.mg_none_of X G z_isinstance
  have Q_NoJar : MgP mg "NoJar" c_NoJar := ⟨PySem.W.mg_of X G ac_NoJar⟩
  have KT_NoJar_NoTick : KitP K (.ref c_NoJar) (.ref c_NoTick) false := ⟨kit_ref xhd_NoTick xt_NoTick sb_NoJar_NoTick sb_NoTick_NoTick⟩
  have KT_NoTick_NoTick : KitP K (.ref c_NoTick) (.ref c_NoTick) true := ⟨kit_same⟩
  have KT_NoLane_NoTick : KitP K (.ref c_NoLane) (.ref c_NoTick) false := ⟨kit_ref xhd_NoTick xt_NoTick sb_NoLane_NoTick sb_NoTick_NoTick⟩
  have KT_NoName_NoTick : KitP K (.ref c_NoName) (.ref c_NoTick) false := ⟨kit_ref xhd_NoTick xt_NoTick sb_NoName_NoTick sb_NoTick_NoTick⟩
  have KT_Taken_NoTick : KitP K (.ref c_Taken) (.ref c_NoTick) false := ⟨kit_ref xhd_NoTick xt_NoTick sb_Taken_NoTick sb_NoTick_NoTick⟩
  have KT_Unknown_NoTick : KitP K (.ref c_Unknown) (.ref c_NoTick) false := ⟨kit_ref xhd_NoTick xt_NoTick sb_Unknown_NoTick sb_NoTick_NoTick⟩
  have KT_NoWay_NoTick : KitP K (.ref c_NoWay) (.ref c_NoTick) false := ⟨kit_ref xhd_NoTick xt_NoTick sb_NoWay_NoTick sb_NoTick_NoTick⟩
  have KT_NoLot_NoTick : KitP K (.ref c_NoLot) (.ref c_NoTick) false := ⟨kit_ref xhd_NoTick xt_NoTick sb_NoLot_NoTick sb_NoTick_NoTick⟩
  have KT_TooMany_NoTick : KitP K (.ref c_TooMany) (.ref c_NoTick) false := ⟨kit_ref xhd_NoTick xt_NoTick sb_TooMany_NoTick sb_NoTick_NoTick⟩
  have KT_TooMuch_NoTick : KitP K (.ref c_TooMuch) (.ref c_NoTick) false := ⟨kit_ref xhd_NoTick xt_NoTick sb_TooMuch_NoTick sb_NoTick_NoTick⟩
  have KT_NoText_NoTick : KitP K (.ref c_NoText) (.ref c_NoTick) false := ⟨kit_ref xhd_NoTick xt_NoTick sb_NoText_NoTick sb_NoTick_NoTick⟩
  have KT_NoBook_NoTick : KitP K (.ref c_NoBook) (.ref c_NoTick) false := ⟨kit_ref xhd_NoTick xt_NoTick sb_NoBook_NoTick sb_NoTick_NoTick⟩
  have KT_NoneType_NoTick : KitP K (.type "NoneType") (.ref c_NoTick) false := ⟨kit_ref xhd_NoTick xt_NoTick sb_NoneType_NoTick sb_NoTick_NoTick⟩
  have Q_NoTick : MgP mg "NoTick" c_NoTick := ⟨PySem.W.mg_of X G ac_NoTick⟩
  have KT_NoJar_NoLane : KitP K (.ref c_NoJar) (.ref c_NoLane) false := ⟨kit_ref xhd_NoLane xt_NoLane sb_NoJar_NoLane sb_NoLane_NoLane⟩
  have KT_NoTick_NoLane : KitP K (.ref c_NoTick) (.ref c_NoLane) false := ⟨kit_ref xhd_NoLane xt_NoLane sb_NoTick_NoLane sb_NoLane_NoLane⟩
  have KT_NoLane_NoLane : KitP K (.ref c_NoLane) (.ref c_NoLane) true := ⟨kit_same⟩
  have KT_NoName_NoLane : KitP K (.ref c_NoName) (.ref c_NoLane) false := ⟨kit_ref xhd_NoLane xt_NoLane sb_NoName_NoLane sb_NoLane_NoLane⟩
  have KT_Taken_NoLane : KitP K (.ref c_Taken) (.ref c_NoLane) false := ⟨kit_ref xhd_NoLane xt_NoLane sb_Taken_NoLane sb_NoLane_NoLane⟩
  have KT_Unknown_NoLane : KitP K (.ref c_Unknown) (.ref c_NoLane) false := ⟨kit_ref xhd_NoLane xt_NoLane sb_Unknown_NoLane sb_NoLane_NoLane⟩
  have KT_NoWay_NoLane : KitP K (.ref c_NoWay) (.ref c_NoLane) false := ⟨kit_ref xhd_NoLane xt_NoLane sb_NoWay_NoLane sb_NoLane_NoLane⟩
  have KT_NoLot_NoLane : KitP K (.ref c_NoLot) (.ref c_NoLane) false := ⟨kit_ref xhd_NoLane xt_NoLane sb_NoLot_NoLane sb_NoLane_NoLane⟩
  have KT_TooMany_NoLane : KitP K (.ref c_TooMany) (.ref c_NoLane) false := ⟨kit_ref xhd_NoLane xt_NoLane sb_TooMany_NoLane sb_NoLane_NoLane⟩
  have KT_TooMuch_NoLane : KitP K (.ref c_TooMuch) (.ref c_NoLane) false := ⟨kit_ref xhd_NoLane xt_NoLane sb_TooMuch_NoLane sb_NoLane_NoLane⟩
  have KT_NoText_NoLane : KitP K (.ref c_NoText) (.ref c_NoLane) false := ⟨kit_ref xhd_NoLane xt_NoLane sb_NoText_NoLane sb_NoLane_NoLane⟩
  have KT_NoBook_NoLane : KitP K (.ref c_NoBook) (.ref c_NoLane) false := ⟨kit_ref xhd_NoLane xt_NoLane sb_NoBook_NoLane sb_NoLane_NoLane⟩
  have KT_NoneType_NoLane : KitP K (.type "NoneType") (.ref c_NoLane) false := ⟨kit_ref xhd_NoLane xt_NoLane sb_NoneType_NoLane sb_NoLane_NoLane⟩
  have Q_NoLane : MgP mg "NoLane" c_NoLane := ⟨PySem.W.mg_of X G ac_NoLane⟩
  have KT_NoJar_NoName : KitP K (.ref c_NoJar) (.ref c_NoName) false := ⟨kit_ref xhd_NoName xt_NoName sb_NoJar_NoName sb_NoName_NoName⟩
  have KT_NoTick_NoName : KitP K (.ref c_NoTick) (.ref c_NoName) false := ⟨kit_ref xhd_NoName xt_NoName sb_NoTick_NoName sb_NoName_NoName⟩
  have KT_NoLane_NoName : KitP K (.ref c_NoLane) (.ref c_NoName) false := ⟨kit_ref xhd_NoName xt_NoName sb_NoLane_NoName sb_NoName_NoName⟩
  have KT_NoName_NoName : KitP K (.ref c_NoName) (.ref c_NoName) true := ⟨kit_same⟩
  have KT_Taken_NoName : KitP K (.ref c_Taken) (.ref c_NoName) false := ⟨kit_ref xhd_NoName xt_NoName sb_Taken_NoName sb_NoName_NoName⟩
  have KT_Unknown_NoName : KitP K (.ref c_Unknown) (.ref c_NoName) false := ⟨kit_ref xhd_NoName xt_NoName sb_Unknown_NoName sb_NoName_NoName⟩
  have KT_NoWay_NoName : KitP K (.ref c_NoWay) (.ref c_NoName) false := ⟨kit_ref xhd_NoName xt_NoName sb_NoWay_NoName sb_NoName_NoName⟩
  have KT_NoLot_NoName : KitP K (.ref c_NoLot) (.ref c_NoName) false := ⟨kit_ref xhd_NoName xt_NoName sb_NoLot_NoName sb_NoName_NoName⟩
  have KT_TooMany_NoName : KitP K (.ref c_TooMany) (.ref c_NoName) false := ⟨kit_ref xhd_NoName xt_NoName sb_TooMany_NoName sb_NoName_NoName⟩
  have KT_TooMuch_NoName : KitP K (.ref c_TooMuch) (.ref c_NoName) false := ⟨kit_ref xhd_NoName xt_NoName sb_TooMuch_NoName sb_NoName_NoName⟩
  have KT_NoText_NoName : KitP K (.ref c_NoText) (.ref c_NoName) false := ⟨kit_ref xhd_NoName xt_NoName sb_NoText_NoName sb_NoName_NoName⟩
  have KT_NoBook_NoName : KitP K (.ref c_NoBook) (.ref c_NoName) false := ⟨kit_ref xhd_NoName xt_NoName sb_NoBook_NoName sb_NoName_NoName⟩
  have KT_NoneType_NoName : KitP K (.type "NoneType") (.ref c_NoName) false := ⟨kit_ref xhd_NoName xt_NoName sb_NoneType_NoName sb_NoName_NoName⟩
  have Q_NoName : MgP mg "NoName" c_NoName := ⟨PySem.W.mg_of X G ac_NoName⟩
  have KT_NoJar_Taken : KitP K (.ref c_NoJar) (.ref c_Taken) false := ⟨kit_ref xhd_Taken xt_Taken sb_NoJar_Taken sb_Taken_Taken⟩
  have KT_NoTick_Taken : KitP K (.ref c_NoTick) (.ref c_Taken) false := ⟨kit_ref xhd_Taken xt_Taken sb_NoTick_Taken sb_Taken_Taken⟩
  have KT_NoLane_Taken : KitP K (.ref c_NoLane) (.ref c_Taken) false := ⟨kit_ref xhd_Taken xt_Taken sb_NoLane_Taken sb_Taken_Taken⟩
  have KT_NoName_Taken : KitP K (.ref c_NoName) (.ref c_Taken) false := ⟨kit_ref xhd_Taken xt_Taken sb_NoName_Taken sb_Taken_Taken⟩
  have KT_Taken_Taken : KitP K (.ref c_Taken) (.ref c_Taken) true := ⟨kit_same⟩
  have KT_Unknown_Taken : KitP K (.ref c_Unknown) (.ref c_Taken) false := ⟨kit_ref xhd_Taken xt_Taken sb_Unknown_Taken sb_Taken_Taken⟩
  have KT_NoWay_Taken : KitP K (.ref c_NoWay) (.ref c_Taken) false := ⟨kit_ref xhd_Taken xt_Taken sb_NoWay_Taken sb_Taken_Taken⟩
  have KT_NoLot_Taken : KitP K (.ref c_NoLot) (.ref c_Taken) false := ⟨kit_ref xhd_Taken xt_Taken sb_NoLot_Taken sb_Taken_Taken⟩
  have KT_TooMany_Taken : KitP K (.ref c_TooMany) (.ref c_Taken) false := ⟨kit_ref xhd_Taken xt_Taken sb_TooMany_Taken sb_Taken_Taken⟩
  have KT_TooMuch_Taken : KitP K (.ref c_TooMuch) (.ref c_Taken) false := ⟨kit_ref xhd_Taken xt_Taken sb_TooMuch_Taken sb_Taken_Taken⟩
  have KT_NoText_Taken : KitP K (.ref c_NoText) (.ref c_Taken) false := ⟨kit_ref xhd_Taken xt_Taken sb_NoText_Taken sb_Taken_Taken⟩
  have KT_NoBook_Taken : KitP K (.ref c_NoBook) (.ref c_Taken) false := ⟨kit_ref xhd_Taken xt_Taken sb_NoBook_Taken sb_Taken_Taken⟩
  have KT_NoneType_Taken : KitP K (.type "NoneType") (.ref c_Taken) false := ⟨kit_ref xhd_Taken xt_Taken sb_NoneType_Taken sb_Taken_Taken⟩
  have Q_Taken : MgP mg "Taken" c_Taken := ⟨PySem.W.mg_of X G ac_Taken⟩
  have KT_NoJar_Unknown : KitP K (.ref c_NoJar) (.ref c_Unknown) false := ⟨kit_ref xhd_Unknown xt_Unknown sb_NoJar_Unknown sb_Unknown_Unknown⟩
  have KT_NoTick_Unknown : KitP K (.ref c_NoTick) (.ref c_Unknown) false := ⟨kit_ref xhd_Unknown xt_Unknown sb_NoTick_Unknown sb_Unknown_Unknown⟩
  have KT_NoLane_Unknown : KitP K (.ref c_NoLane) (.ref c_Unknown) false := ⟨kit_ref xhd_Unknown xt_Unknown sb_NoLane_Unknown sb_Unknown_Unknown⟩
  have KT_NoName_Unknown : KitP K (.ref c_NoName) (.ref c_Unknown) false := ⟨kit_ref xhd_Unknown xt_Unknown sb_NoName_Unknown sb_Unknown_Unknown⟩
  have KT_Taken_Unknown : KitP K (.ref c_Taken) (.ref c_Unknown) false := ⟨kit_ref xhd_Unknown xt_Unknown sb_Taken_Unknown sb_Unknown_Unknown⟩
  have KT_Unknown_Unknown : KitP K (.ref c_Unknown) (.ref c_Unknown) true := ⟨kit_same⟩
  have KT_NoWay_Unknown : KitP K (.ref c_NoWay) (.ref c_Unknown) false := ⟨kit_ref xhd_Unknown xt_Unknown sb_NoWay_Unknown sb_Unknown_Unknown⟩
  have KT_NoLot_Unknown : KitP K (.ref c_NoLot) (.ref c_Unknown) false := ⟨kit_ref xhd_Unknown xt_Unknown sb_NoLot_Unknown sb_Unknown_Unknown⟩
  have KT_TooMany_Unknown : KitP K (.ref c_TooMany) (.ref c_Unknown) false := ⟨kit_ref xhd_Unknown xt_Unknown sb_TooMany_Unknown sb_Unknown_Unknown⟩
  have KT_TooMuch_Unknown : KitP K (.ref c_TooMuch) (.ref c_Unknown) false := ⟨kit_ref xhd_Unknown xt_Unknown sb_TooMuch_Unknown sb_Unknown_Unknown⟩
  have KT_NoText_Unknown : KitP K (.ref c_NoText) (.ref c_Unknown) false := ⟨kit_ref xhd_Unknown xt_Unknown sb_NoText_Unknown sb_Unknown_Unknown⟩
  have KT_NoBook_Unknown : KitP K (.ref c_NoBook) (.ref c_Unknown) false := ⟨kit_ref xhd_Unknown xt_Unknown sb_NoBook_Unknown sb_Unknown_Unknown⟩
  have KT_NoneType_Unknown : KitP K (.type "NoneType") (.ref c_Unknown) false := ⟨kit_ref xhd_Unknown xt_Unknown sb_NoneType_Unknown sb_Unknown_Unknown⟩
  have Q_Unknown : MgP mg "Unknown" c_Unknown := ⟨PySem.W.mg_of X G ac_Unknown⟩
  have KT_NoJar_NoWay : KitP K (.ref c_NoJar) (.ref c_NoWay) false := ⟨kit_ref xhd_NoWay xt_NoWay sb_NoJar_NoWay sb_NoWay_NoWay⟩
  have KT_NoTick_NoWay : KitP K (.ref c_NoTick) (.ref c_NoWay) false := ⟨kit_ref xhd_NoWay xt_NoWay sb_NoTick_NoWay sb_NoWay_NoWay⟩
  have KT_NoLane_NoWay : KitP K (.ref c_NoLane) (.ref c_NoWay) false := ⟨kit_ref xhd_NoWay xt_NoWay sb_NoLane_NoWay sb_NoWay_NoWay⟩
  have KT_NoName_NoWay : KitP K (.ref c_NoName) (.ref c_NoWay) false := ⟨kit_ref xhd_NoWay xt_NoWay sb_NoName_NoWay sb_NoWay_NoWay⟩
  have KT_Taken_NoWay : KitP K (.ref c_Taken) (.ref c_NoWay) false := ⟨kit_ref xhd_NoWay xt_NoWay sb_Taken_NoWay sb_NoWay_NoWay⟩
  have KT_Unknown_NoWay : KitP K (.ref c_Unknown) (.ref c_NoWay) false := ⟨kit_ref xhd_NoWay xt_NoWay sb_Unknown_NoWay sb_NoWay_NoWay⟩
  have KT_NoWay_NoWay : KitP K (.ref c_NoWay) (.ref c_NoWay) true := ⟨kit_same⟩
  have KT_NoLot_NoWay : KitP K (.ref c_NoLot) (.ref c_NoWay) false := ⟨kit_ref xhd_NoWay xt_NoWay sb_NoLot_NoWay sb_NoWay_NoWay⟩
  have KT_TooMany_NoWay : KitP K (.ref c_TooMany) (.ref c_NoWay) false := ⟨kit_ref xhd_NoWay xt_NoWay sb_TooMany_NoWay sb_NoWay_NoWay⟩
  have KT_TooMuch_NoWay : KitP K (.ref c_TooMuch) (.ref c_NoWay) false := ⟨kit_ref xhd_NoWay xt_NoWay sb_TooMuch_NoWay sb_NoWay_NoWay⟩
  have KT_NoText_NoWay : KitP K (.ref c_NoText) (.ref c_NoWay) false := ⟨kit_ref xhd_NoWay xt_NoWay sb_NoText_NoWay sb_NoWay_NoWay⟩
  have KT_NoBook_NoWay : KitP K (.ref c_NoBook) (.ref c_NoWay) false := ⟨kit_ref xhd_NoWay xt_NoWay sb_NoBook_NoWay sb_NoWay_NoWay⟩
  have KT_NoneType_NoWay : KitP K (.type "NoneType") (.ref c_NoWay) false := ⟨kit_ref xhd_NoWay xt_NoWay sb_NoneType_NoWay sb_NoWay_NoWay⟩
  have Q_NoWay : MgP mg "NoWay" c_NoWay := ⟨PySem.W.mg_of X G ac_NoWay⟩
  have KT_NoJar_NoLot : KitP K (.ref c_NoJar) (.ref c_NoLot) false := ⟨kit_ref xhd_NoLot xt_NoLot sb_NoJar_NoLot sb_NoLot_NoLot⟩
  have KT_NoTick_NoLot : KitP K (.ref c_NoTick) (.ref c_NoLot) false := ⟨kit_ref xhd_NoLot xt_NoLot sb_NoTick_NoLot sb_NoLot_NoLot⟩
  have KT_NoLane_NoLot : KitP K (.ref c_NoLane) (.ref c_NoLot) false := ⟨kit_ref xhd_NoLot xt_NoLot sb_NoLane_NoLot sb_NoLot_NoLot⟩
  have KT_NoName_NoLot : KitP K (.ref c_NoName) (.ref c_NoLot) false := ⟨kit_ref xhd_NoLot xt_NoLot sb_NoName_NoLot sb_NoLot_NoLot⟩
  have KT_Taken_NoLot : KitP K (.ref c_Taken) (.ref c_NoLot) false := ⟨kit_ref xhd_NoLot xt_NoLot sb_Taken_NoLot sb_NoLot_NoLot⟩
  have KT_Unknown_NoLot : KitP K (.ref c_Unknown) (.ref c_NoLot) false := ⟨kit_ref xhd_NoLot xt_NoLot sb_Unknown_NoLot sb_NoLot_NoLot⟩
  have KT_NoWay_NoLot : KitP K (.ref c_NoWay) (.ref c_NoLot) false := ⟨kit_ref xhd_NoLot xt_NoLot sb_NoWay_NoLot sb_NoLot_NoLot⟩
  have KT_NoLot_NoLot : KitP K (.ref c_NoLot) (.ref c_NoLot) true := ⟨kit_same⟩
  have KT_TooMany_NoLot : KitP K (.ref c_TooMany) (.ref c_NoLot) false := ⟨kit_ref xhd_NoLot xt_NoLot sb_TooMany_NoLot sb_NoLot_NoLot⟩
  have KT_TooMuch_NoLot : KitP K (.ref c_TooMuch) (.ref c_NoLot) false := ⟨kit_ref xhd_NoLot xt_NoLot sb_TooMuch_NoLot sb_NoLot_NoLot⟩
  have KT_NoText_NoLot : KitP K (.ref c_NoText) (.ref c_NoLot) false := ⟨kit_ref xhd_NoLot xt_NoLot sb_NoText_NoLot sb_NoLot_NoLot⟩
  have KT_NoBook_NoLot : KitP K (.ref c_NoBook) (.ref c_NoLot) false := ⟨kit_ref xhd_NoLot xt_NoLot sb_NoBook_NoLot sb_NoLot_NoLot⟩
  have KT_NoneType_NoLot : KitP K (.type "NoneType") (.ref c_NoLot) false := ⟨kit_ref xhd_NoLot xt_NoLot sb_NoneType_NoLot sb_NoLot_NoLot⟩
  have Q_NoLot : MgP mg "NoLot" c_NoLot := ⟨PySem.W.mg_of X G ac_NoLot⟩
  have KT_NoJar_TooMany : KitP K (.ref c_NoJar) (.ref c_TooMany) false := ⟨kit_ref xhd_TooMany xt_TooMany sb_NoJar_TooMany sb_TooMany_TooMany⟩
  have KT_NoTick_TooMany : KitP K (.ref c_NoTick) (.ref c_TooMany) false := ⟨kit_ref xhd_TooMany xt_TooMany sb_NoTick_TooMany sb_TooMany_TooMany⟩
  have KT_NoLane_TooMany : KitP K (.ref c_NoLane) (.ref c_TooMany) false := ⟨kit_ref xhd_TooMany xt_TooMany sb_NoLane_TooMany sb_TooMany_TooMany⟩
  have KT_NoName_TooMany : KitP K (.ref c_NoName) (.ref c_TooMany) false := ⟨kit_ref xhd_TooMany xt_TooMany sb_NoName_TooMany sb_TooMany_TooMany⟩
  have KT_Taken_TooMany : KitP K (.ref c_Taken) (.ref c_TooMany) false := ⟨kit_ref xhd_TooMany xt_TooMany sb_Taken_TooMany sb_TooMany_TooMany⟩
  have KT_Unknown_TooMany : KitP K (.ref c_Unknown) (.ref c_TooMany) false := ⟨kit_ref xhd_TooMany xt_TooMany sb_Unknown_TooMany sb_TooMany_TooMany⟩
  have KT_NoWay_TooMany : KitP K (.ref c_NoWay) (.ref c_TooMany) false := ⟨kit_ref xhd_TooMany xt_TooMany sb_NoWay_TooMany sb_TooMany_TooMany⟩
  have KT_NoLot_TooMany : KitP K (.ref c_NoLot) (.ref c_TooMany) false := ⟨kit_ref xhd_TooMany xt_TooMany sb_NoLot_TooMany sb_TooMany_TooMany⟩
  have KT_TooMany_TooMany : KitP K (.ref c_TooMany) (.ref c_TooMany) true := ⟨kit_same⟩
  have KT_TooMuch_TooMany : KitP K (.ref c_TooMuch) (.ref c_TooMany) false := ⟨kit_ref xhd_TooMany xt_TooMany sb_TooMuch_TooMany sb_TooMany_TooMany⟩
  have KT_NoText_TooMany : KitP K (.ref c_NoText) (.ref c_TooMany) false := ⟨kit_ref xhd_TooMany xt_TooMany sb_NoText_TooMany sb_TooMany_TooMany⟩
  have KT_NoBook_TooMany : KitP K (.ref c_NoBook) (.ref c_TooMany) false := ⟨kit_ref xhd_TooMany xt_TooMany sb_NoBook_TooMany sb_TooMany_TooMany⟩
  have KT_NoneType_TooMany : KitP K (.type "NoneType") (.ref c_TooMany) false := ⟨kit_ref xhd_TooMany xt_TooMany sb_NoneType_TooMany sb_TooMany_TooMany⟩
  have Q_TooMany : MgP mg "TooMany" c_TooMany := ⟨PySem.W.mg_of X G ac_TooMany⟩
  have KT_NoJar_TooMuch : KitP K (.ref c_NoJar) (.ref c_TooMuch) false := ⟨kit_ref xhd_TooMuch xt_TooMuch sb_NoJar_TooMuch sb_TooMuch_TooMuch⟩
  have KT_NoTick_TooMuch : KitP K (.ref c_NoTick) (.ref c_TooMuch) false := ⟨kit_ref xhd_TooMuch xt_TooMuch sb_NoTick_TooMuch sb_TooMuch_TooMuch⟩
  have KT_NoLane_TooMuch : KitP K (.ref c_NoLane) (.ref c_TooMuch) false := ⟨kit_ref xhd_TooMuch xt_TooMuch sb_NoLane_TooMuch sb_TooMuch_TooMuch⟩
  have KT_NoName_TooMuch : KitP K (.ref c_NoName) (.ref c_TooMuch) false := ⟨kit_ref xhd_TooMuch xt_TooMuch sb_NoName_TooMuch sb_TooMuch_TooMuch⟩
  have KT_Taken_TooMuch : KitP K (.ref c_Taken) (.ref c_TooMuch) false := ⟨kit_ref xhd_TooMuch xt_TooMuch sb_Taken_TooMuch sb_TooMuch_TooMuch⟩
  have KT_Unknown_TooMuch : KitP K (.ref c_Unknown) (.ref c_TooMuch) false := ⟨kit_ref xhd_TooMuch xt_TooMuch sb_Unknown_TooMuch sb_TooMuch_TooMuch⟩
  have KT_NoWay_TooMuch : KitP K (.ref c_NoWay) (.ref c_TooMuch) false := ⟨kit_ref xhd_TooMuch xt_TooMuch sb_NoWay_TooMuch sb_TooMuch_TooMuch⟩
  have KT_NoLot_TooMuch : KitP K (.ref c_NoLot) (.ref c_TooMuch) false := ⟨kit_ref xhd_TooMuch xt_TooMuch sb_NoLot_TooMuch sb_TooMuch_TooMuch⟩
  have KT_TooMany_TooMuch : KitP K (.ref c_TooMany) (.ref c_TooMuch) false := ⟨kit_ref xhd_TooMuch xt_TooMuch sb_TooMany_TooMuch sb_TooMuch_TooMuch⟩
  have KT_TooMuch_TooMuch : KitP K (.ref c_TooMuch) (.ref c_TooMuch) true := ⟨kit_same⟩
  have KT_NoText_TooMuch : KitP K (.ref c_NoText) (.ref c_TooMuch) false := ⟨kit_ref xhd_TooMuch xt_TooMuch sb_NoText_TooMuch sb_TooMuch_TooMuch⟩
  have KT_NoBook_TooMuch : KitP K (.ref c_NoBook) (.ref c_TooMuch) false := ⟨kit_ref xhd_TooMuch xt_TooMuch sb_NoBook_TooMuch sb_TooMuch_TooMuch⟩
  have KT_NoneType_TooMuch : KitP K (.type "NoneType") (.ref c_TooMuch) false := ⟨kit_ref xhd_TooMuch xt_TooMuch sb_NoneType_TooMuch sb_TooMuch_TooMuch⟩
  have Q_TooMuch : MgP mg "TooMuch" c_TooMuch := ⟨PySem.W.mg_of X G ac_TooMuch⟩
  have KT_NoJar_NoText : KitP K (.ref c_NoJar) (.ref c_NoText) false := ⟨kit_ref xhd_NoText xt_NoText sb_NoJar_NoText sb_NoText_NoText⟩
  have KT_NoTick_NoText : KitP K (.ref c_NoTick) (.ref c_NoText) false := ⟨kit_ref xhd_NoText xt_NoText sb_NoTick_NoText sb_NoText_NoText⟩
  have KT_NoLane_NoText : KitP K (.ref c_NoLane) (.ref c_NoText) false := ⟨kit_ref xhd_NoText xt_NoText sb_NoLane_NoText sb_NoText_NoText⟩
  have KT_NoName_NoText : KitP K (.ref c_NoName) (.ref c_NoText) false := ⟨kit_ref xhd_NoText xt_NoText sb_NoName_NoText sb_NoText_NoText⟩
  have KT_Taken_NoText : KitP K (.ref c_Taken) (.ref c_NoText) false := ⟨kit_ref xhd_NoText xt_NoText sb_Taken_NoText sb_NoText_NoText⟩
  have KT_Unknown_NoText : KitP K (.ref c_Unknown) (.ref c_NoText) false := ⟨kit_ref xhd_NoText xt_NoText sb_Unknown_NoText sb_NoText_NoText⟩
  have KT_NoWay_NoText : KitP K (.ref c_NoWay) (.ref c_NoText) false := ⟨kit_ref xhd_NoText xt_NoText sb_NoWay_NoText sb_NoText_NoText⟩
  have KT_NoLot_NoText : KitP K (.ref c_NoLot) (.ref c_NoText) false := ⟨kit_ref xhd_NoText xt_NoText sb_NoLot_NoText sb_NoText_NoText⟩
  have KT_TooMany_NoText : KitP K (.ref c_TooMany) (.ref c_NoText) false := ⟨kit_ref xhd_NoText xt_NoText sb_TooMany_NoText sb_NoText_NoText⟩
  have KT_TooMuch_NoText : KitP K (.ref c_TooMuch) (.ref c_NoText) false := ⟨kit_ref xhd_NoText xt_NoText sb_TooMuch_NoText sb_NoText_NoText⟩
  have KT_NoText_NoText : KitP K (.ref c_NoText) (.ref c_NoText) true := ⟨kit_same⟩
  have KT_NoBook_NoText : KitP K (.ref c_NoBook) (.ref c_NoText) false := ⟨kit_ref xhd_NoText xt_NoText sb_NoBook_NoText sb_NoText_NoText⟩
  have KT_NoneType_NoText : KitP K (.type "NoneType") (.ref c_NoText) false := ⟨kit_ref xhd_NoText xt_NoText sb_NoneType_NoText sb_NoText_NoText⟩
  have Q_NoText : MgP mg "NoText" c_NoText := ⟨PySem.W.mg_of X G ac_NoText⟩
  have KT_NoJar_NoBook : KitP K (.ref c_NoJar) (.ref c_NoBook) false := ⟨kit_ref xhd_NoBook xt_NoBook sb_NoJar_NoBook sb_NoBook_NoBook⟩
  have KT_NoTick_NoBook : KitP K (.ref c_NoTick) (.ref c_NoBook) false := ⟨kit_ref xhd_NoBook xt_NoBook sb_NoTick_NoBook sb_NoBook_NoBook⟩
  have KT_NoLane_NoBook : KitP K (.ref c_NoLane) (.ref c_NoBook) false := ⟨kit_ref xhd_NoBook xt_NoBook sb_NoLane_NoBook sb_NoBook_NoBook⟩
  have KT_NoName_NoBook : KitP K (.ref c_NoName) (.ref c_NoBook) false := ⟨kit_ref xhd_NoBook xt_NoBook sb_NoName_NoBook sb_NoBook_NoBook⟩
  have KT_Taken_NoBook : KitP K (.ref c_Taken) (.ref c_NoBook) false := ⟨kit_ref xhd_NoBook xt_NoBook sb_Taken_NoBook sb_NoBook_NoBook⟩
  have KT_Unknown_NoBook : KitP K (.ref c_Unknown) (.ref c_NoBook) false := ⟨kit_ref xhd_NoBook xt_NoBook sb_Unknown_NoBook sb_NoBook_NoBook⟩
  have KT_NoWay_NoBook : KitP K (.ref c_NoWay) (.ref c_NoBook) false := ⟨kit_ref xhd_NoBook xt_NoBook sb_NoWay_NoBook sb_NoBook_NoBook⟩
  have KT_NoLot_NoBook : KitP K (.ref c_NoLot) (.ref c_NoBook) false := ⟨kit_ref xhd_NoBook xt_NoBook sb_NoLot_NoBook sb_NoBook_NoBook⟩
  have KT_TooMany_NoBook : KitP K (.ref c_TooMany) (.ref c_NoBook) false := ⟨kit_ref xhd_NoBook xt_NoBook sb_TooMany_NoBook sb_NoBook_NoBook⟩
  have KT_TooMuch_NoBook : KitP K (.ref c_TooMuch) (.ref c_NoBook) false := ⟨kit_ref xhd_NoBook xt_NoBook sb_TooMuch_NoBook sb_NoBook_NoBook⟩
  have KT_NoText_NoBook : KitP K (.ref c_NoText) (.ref c_NoBook) false := ⟨kit_ref xhd_NoBook xt_NoBook sb_NoText_NoBook sb_NoBook_NoBook⟩
  have KT_NoBook_NoBook : KitP K (.ref c_NoBook) (.ref c_NoBook) true := ⟨kit_same⟩
  have KT_NoneType_NoBook : KitP K (.type "NoneType") (.ref c_NoBook) false := ⟨kit_ref xhd_NoBook xt_NoBook sb_NoneType_NoBook sb_NoBook_NoBook⟩
  have Q_NoBook : MgP mg "NoBook" c_NoBook := ⟨PySem.W.mg_of X G ac_NoBook⟩
  have KT_NoJar_LaneError : KitP K (.ref c_NoJar) (.ref c_LaneError) true := ⟨kit_ref xhd_LaneError xt0_LaneError sb_NoJar_LaneError sb_LaneError_LaneError⟩
  have KT_NoTick_LaneError : KitP K (.ref c_NoTick) (.ref c_LaneError) true := ⟨kit_ref xhd_LaneError xt0_LaneError sb_NoTick_LaneError sb_LaneError_LaneError⟩
  have KT_NoLane_LaneError : KitP K (.ref c_NoLane) (.ref c_LaneError) true := ⟨kit_ref xhd_LaneError xt0_LaneError sb_NoLane_LaneError sb_LaneError_LaneError⟩
  have KT_NoName_LaneError : KitP K (.ref c_NoName) (.ref c_LaneError) true := ⟨kit_ref xhd_LaneError xt0_LaneError sb_NoName_LaneError sb_LaneError_LaneError⟩
  have KT_Taken_LaneError : KitP K (.ref c_Taken) (.ref c_LaneError) true := ⟨kit_ref xhd_LaneError xt0_LaneError sb_Taken_LaneError sb_LaneError_LaneError⟩
  have KT_Unknown_LaneError : KitP K (.ref c_Unknown) (.ref c_LaneError) true := ⟨kit_ref xhd_LaneError xt0_LaneError sb_Unknown_LaneError sb_LaneError_LaneError⟩
  have KT_NoWay_LaneError : KitP K (.ref c_NoWay) (.ref c_LaneError) true := ⟨kit_ref xhd_LaneError xt0_LaneError sb_NoWay_LaneError sb_LaneError_LaneError⟩
  have KT_NoLot_LaneError : KitP K (.ref c_NoLot) (.ref c_LaneError) true := ⟨kit_ref xhd_LaneError xt0_LaneError sb_NoLot_LaneError sb_LaneError_LaneError⟩
  have KT_TooMany_LaneError : KitP K (.ref c_TooMany) (.ref c_LaneError) true := ⟨kit_ref xhd_LaneError xt0_LaneError sb_TooMany_LaneError sb_LaneError_LaneError⟩
  have KT_TooMuch_LaneError : KitP K (.ref c_TooMuch) (.ref c_LaneError) true := ⟨kit_ref xhd_LaneError xt0_LaneError sb_TooMuch_LaneError sb_LaneError_LaneError⟩
  have KT_NoText_LaneError : KitP K (.ref c_NoText) (.ref c_LaneError) true := ⟨kit_ref xhd_LaneError xt0_LaneError sb_NoText_LaneError sb_LaneError_LaneError⟩
  have KT_NoBook_LaneError : KitP K (.ref c_NoBook) (.ref c_LaneError) true := ⟨kit_ref xhd_LaneError xt0_LaneError sb_NoBook_LaneError sb_LaneError_LaneError⟩
  have KT_NoneType_LaneError : KitP K (.type "NoneType") (.ref c_LaneError) false := ⟨kit_ref xhd_LaneError xt0_LaneError sb_NoneType_LaneError sb_LaneError_LaneError⟩
  have Q_LaneError : MgP mg "LaneError" c_LaneError := ⟨PySem.W.mg_of X G ac_LaneError⟩
  have KT_NoJar_ValueError : KitP K (.ref c_NoJar) (.type "ValueError") true := ⟨kit_bt km_NoJar_ValueError sb_NoJar_ValueError⟩
  have KT_NoTick_ValueError : KitP K (.ref c_NoTick) (.type "ValueError") true := ⟨kit_bt km_NoTick_ValueError sb_NoTick_ValueError⟩
  have KT_NoLane_ValueError : KitP K (.ref c_NoLane) (.type "ValueError") true := ⟨kit_bt km_NoLane_ValueError sb_NoLane_ValueError⟩
  have KT_NoName_ValueError : KitP K (.ref c_NoName) (.type "ValueError") true := ⟨kit_bt km_NoName_ValueError sb_NoName_ValueError⟩
  have KT_Taken_ValueError : KitP K (.ref c_Taken) (.type "ValueError") true := ⟨kit_bt km_Taken_ValueError sb_Taken_ValueError⟩
  have KT_Unknown_ValueError : KitP K (.ref c_Unknown) (.type "ValueError") true := ⟨kit_bt km_Unknown_ValueError sb_Unknown_ValueError⟩
  have KT_NoWay_ValueError : KitP K (.ref c_NoWay) (.type "ValueError") true := ⟨kit_bt km_NoWay_ValueError sb_NoWay_ValueError⟩
  have KT_NoLot_ValueError : KitP K (.ref c_NoLot) (.type "ValueError") true := ⟨kit_bt km_NoLot_ValueError sb_NoLot_ValueError⟩
  have KT_TooMany_ValueError : KitP K (.ref c_TooMany) (.type "ValueError") true := ⟨kit_bt km_TooMany_ValueError sb_TooMany_ValueError⟩
  have KT_TooMuch_ValueError : KitP K (.ref c_TooMuch) (.type "ValueError") true := ⟨kit_bt km_TooMuch_ValueError sb_TooMuch_ValueError⟩
  have KT_NoText_ValueError : KitP K (.ref c_NoText) (.type "ValueError") true := ⟨kit_bt km_NoText_ValueError sb_NoText_ValueError⟩
  have KT_NoBook_ValueError : KitP K (.ref c_NoBook) (.type "ValueError") true := ⟨kit_bt km_NoBook_ValueError sb_NoBook_ValueError⟩
  have G_ValueError : mg "ValueError" = none := PySem.W.mg_none_of X G z_ValueError
  have X_NoJar : Ex0 K mg "NoJar" c_NoJar := ⟨PySem.W.mg_of X G ac_NoJar, xq_NoJar, xk_NoJar, xs_NoJar, xt_NoJar⟩
  have X_NoTick : Ex0 K mg "NoTick" c_NoTick := ⟨PySem.W.mg_of X G ac_NoTick, xq_NoTick, xk_NoTick, xs_NoTick, xt_NoTick⟩
  have X_NoLane : Ex0 K mg "NoLane" c_NoLane := ⟨PySem.W.mg_of X G ac_NoLane, xq_NoLane, xk_NoLane, xs_NoLane, xt_NoLane⟩
  have T_NoName : OexC K c_NoName := ⟨⟨_, _, _, _, _, _, _, _, _, _, _, _, _, _, _, xL_NoName, xr_NoName⟩, xsa_NoName, xs_NoName, xt_NoName, xk_NoName⟩
  have FI_NoName := fun_mk (st := s_NoName__init) xl_NoName xc_NoName xki_NoName
  have T_Taken : OexC K c_Taken := ⟨⟨_, _, _, _, _, _, _, _, _, _, _, _, _, _, _, xL_Taken, xr_Taken⟩, xsa_Taken, xs_Taken, xt_Taken, xk_Taken⟩
  have FI_Taken := fun_mk (st := s_Taken__init) xl_Taken xc_Taken xki_Taken
  have T_Unknown : OexC K c_Unknown := ⟨⟨_, _, _, _, _, _, _, _, _, _, _, _, _, _, _, xL_Unknown, xr_Unknown⟩, xsa_Unknown, xs_Unknown, xt_Unknown, xk_Unknown⟩
  have FI_Unknown := fun_mk (st := s_Unknown__init) xl_Unknown xc_Unknown xki_Unknown
  have A_NoName_name : XfP K c_NoName "name" := ⟨xga_NoName, xgg_NoName, xs_NoName, xhd_NoName, yA_NoName_name⟩
  have A_Taken_name : XfP K c_Taken "name" := ⟨xga_Taken, xgg_Taken, xs_Taken, xhd_Taken, yA_Taken_name⟩
  have A_Unknown_name : XfP K c_Unknown "name" := ⟨xga_Unknown, xgg_Unknown, xs_Unknown, xhd_Unknown, yA_Unknown_name⟩
  have A_TooMany_name : XfP K c_TooMany "name" := ⟨xga_TooMany, xgg_TooMany, xs_TooMany, xhd_TooMany, yA_TooMany_name⟩
  have T_NoWay : OexC K c_NoWay := ⟨⟨_, _, _, _, _, _, _, _, _, _, _, _, _, _, _, xL_NoWay, xr_NoWay⟩, xsa_NoWay, xs_NoWay, xt_NoWay, xk_NoWay⟩
  have FI_NoWay := fun_mk (st := s_NoWay__init) xl_NoWay xc_NoWay xki_NoWay
  have T_NoLot : OexC K c_NoLot := ⟨⟨_, _, _, _, _, _, _, _, _, _, _, _, _, _, _, xL_NoLot, xr_NoLot⟩, xsa_NoLot, xs_NoLot, xt_NoLot, xk_NoLot⟩
  have FI_NoLot := fun_mk (st := s_NoLot__init) xl_NoLot xc_NoLot xki_NoLot
  have A_NoWay_place : XfP K c_NoWay "place" := ⟨xga_NoWay, xgg_NoWay, xs_NoWay, xhd_NoWay, yA_NoWay_place⟩
  have A_NoLot_place : XfP K c_NoLot "place" := ⟨xga_NoLot, xgg_NoLot, xs_NoLot, xhd_NoLot, yA_NoLot_place⟩
  have T_NoText : OexC K c_NoText := ⟨⟨_, _, _, _, _, _, _, _, _, _, _, _, _, _, _, xL_NoText, xr_NoText⟩, xsa_NoText, xs_NoText, xt_NoText, xk_NoText⟩
  have FI_NoText := fun_mk (st := s_NoText__init) xl_NoText xc_NoText xki_NoText
  have T_NoBook : OexC K c_NoBook := ⟨⟨_, _, _, _, _, _, _, _, _, _, _, _, _, _, _, xL_NoBook, xr_NoBook⟩, xsa_NoBook, xs_NoBook, xt_NoBook, xk_NoBook⟩
  have FI_NoBook := fun_mk (st := s_NoBook__init) xl_NoBook xc_NoBook xki_NoBook
  have A_NoText_row : XfP K c_NoText "row" := ⟨xga_NoText, xgg_NoText, xs_NoText, xhd_NoText, yA_NoText_row⟩
  have A_NoBook_row : XfP K c_NoBook "row" := ⟨xga_NoBook, xgg_NoBook, xs_NoBook, xhd_NoBook, yA_NoBook_row⟩
  have T_TooMany : OexC K c_TooMany := ⟨⟨_, _, _, _, _, _, _, _, _, _, _, _, _, _, _, xL_TooMany, xr_TooMany⟩, xsa_TooMany, xs_TooMany, xt_TooMany, xk_TooMany⟩
  have FI_TooMany := fun_mk (st := s_TooMany__init) xl_TooMany xc_TooMany xki_TooMany
  have A_TooMany_bound : XfP K c_TooMany "bound" := ⟨xga_TooMany, xgg_TooMany, xs_TooMany, xhd_TooMany, yA_TooMany_bound⟩
  have T_TooMuch : OexC K c_TooMuch := ⟨⟨_, _, _, _, _, _, _, _, _, _, _, _, _, _, _, xL_TooMuch, xr_TooMuch⟩, xsa_TooMuch, xs_TooMuch, xt_TooMuch, xk_TooMuch⟩
  have FI_TooMuch := fun_mk (st := s_TooMuch__init) xl_TooMuch xc_TooMuch xki_TooMuch
  have G_list : mg "list" = none := PySem.W.mg_none_of X G z_list
  have A_TooMuch_lane : XfP K c_TooMuch "lane" := ⟨xga_TooMuch, xgg_TooMuch, xs_TooMuch, xhd_TooMuch, yA_TooMuch_lane⟩
  have A_TooMuch_first : XfP K c_TooMuch "first" := ⟨xga_TooMuch, xgg_TooMuch, xs_TooMuch, xhd_TooMuch, yA_TooMuch_first⟩
  have A_TooMuch_end : XfP K c_TooMuch "end" := ⟨xga_TooMuch, xgg_TooMuch, xs_TooMuch, xhd_TooMuch, yA_TooMuch_end⟩
  have A_TooMuch_rows : XfP K c_TooMuch "rows" := ⟨xga_TooMuch, xgg_TooMuch, xs_TooMuch, xhd_TooMuch, yA_TooMuch_rows⟩
  have C_MOST : ∃ t, mg "MOST" = some (.int 1000000000 t) := ⟨_, PySem.W.mg_of X G v_MOST⟩
  have CL_Jar : Cls K c_Jar := ⟨pg_Jar, hd_Jar, po_Jar, sa_Jar⟩
  have A_Jar_size : FldP K c_Jar "size" := ⟨CL_Jar, yA_Jar_size⟩
  have A_Jar_rate : FldP K c_Jar "rate" := ⟨CL_Jar, yA_Jar_rate⟩
  have A_Jar_mouth : FldP K c_Jar "mouth" := ⟨CL_Jar, yA_Jar_mouth⟩
  have CL_Flow : Cls K c_Flow := ⟨pg_Flow, hd_Flow, po_Flow, sa_Flow⟩
  have A_Flow_jar : FldP K c_Flow "jar" := ⟨CL_Flow, yA_Flow_jar⟩
  have A_Flow_marks : FldP K c_Flow "marks" := ⟨CL_Flow, yA_Flow_marks⟩
  have G_min : mg "min" = none := PySem.W.mg_none_of X G z_min
  have XM_Taken_LaneError : ExmP K (.ref c_Taken) (.ref c_LaneError) true := ⟨exm_mk xs_LaneError xhd_LaneError xt_LaneError sb_Taken_LaneError⟩
  have XM_NoWay_LaneError : ExmP K (.ref c_NoWay) (.ref c_LaneError) true := ⟨exm_mk xs_LaneError xhd_LaneError xt_LaneError sb_NoWay_LaneError⟩
  have XM_TooMuch_LaneError : ExmP K (.ref c_TooMuch) (.ref c_LaneError) true := ⟨exm_mk xs_LaneError xhd_LaneError xt_LaneError sb_TooMuch_LaneError⟩
  have XM_NoLane_LaneError : ExmP K (.ref c_NoLane) (.ref c_LaneError) true := ⟨exm_mk xs_LaneError xhd_LaneError xt_LaneError sb_NoLane_LaneError⟩
  have XM_Unknown_LaneError : ExmP K (.ref c_Unknown) (.ref c_LaneError) true := ⟨exm_mk xs_LaneError xhd_LaneError xt_LaneError sb_Unknown_LaneError⟩
  have XM_TooMany_LaneError : ExmP K (.ref c_TooMany) (.ref c_LaneError) true := ⟨exm_mk xs_LaneError xhd_LaneError xt_LaneError sb_TooMany_LaneError⟩
  have XM_NoTick_LaneError : ExmP K (.ref c_NoTick) (.ref c_LaneError) true := ⟨exm_mk xs_LaneError xhd_LaneError xt_LaneError sb_NoTick_LaneError⟩
  have XM_NoLot_LaneError : ExmP K (.ref c_NoLot) (.ref c_LaneError) true := ⟨exm_mk xs_LaneError xhd_LaneError xt_LaneError sb_NoLot_LaneError⟩
  have XM_NoText_LaneError : ExmP K (.ref c_NoText) (.ref c_LaneError) true := ⟨exm_mk xs_LaneError xhd_LaneError xt_LaneError sb_NoText_LaneError⟩
  have XM_NoBook_LaneError : ExmP K (.ref c_NoBook) (.ref c_LaneError) true := ⟨exm_mk xs_LaneError xhd_LaneError xt_LaneError sb_NoBook_LaneError⟩
  have XM_NoJar_LaneError : ExmP K (.ref c_NoJar) (.ref c_LaneError) true := ⟨exm_mk xs_LaneError xhd_LaneError xt_LaneError sb_NoJar_LaneError⟩
  have XM_NoName_LaneError : ExmP K (.ref c_NoName) (.ref c_LaneError) true := ⟨exm_mk xs_LaneError xhd_LaneError xt_LaneError sb_NoName_LaneError⟩
  have F1 := fun_mk (st := s_law_begun) l1 c1 k1
  have b1 := F1.binds (ps := ["_law_script"]) fun _ _ _ _ _ _ us hl => match us, hl with | [_], _ => rfl
  have F2 := fun_mk (st := s_law_take) l2 c2 k2
  have b2 := F2.binds (ps := ["_law_state", "_law_many"]) fun _ _ _ _ _ _ us hl => match us, hl with | [_, _], _ => rfl
  have F3 := fun_mk (st := s_law_pick) l3 c3 k3
  have b3 := F3.binds (ps := ["_law_state", "_law_some"]) fun _ _ _ _ _ _ us hl => match us, hl with | [_, _], _ => rfl
  have F4 := fun_mk (st := s_law_name) l4 c4 k4
  have b4 := F4.binds (ps := ["_law_state"]) fun _ _ _ _ _ _ us hl => match us, hl with | [_], _ => rfl
  have F5 := fung_mk (st := s_law_places) l5 c5
  have F6 := fung_mk (st := s_law_alone) l6 c6
  have F7 := fung_mk (st := s_law_much) l7 c7
  have F8 := fung_mk (st := s_Jar__init) l8 c8
  have F9 := fung_mk (st := s_Flow__init) l9 c9
  have F10 := fung_mk (st := s_Flow_ahead) l10 c10
  have F11 := fung_mk (st := s_Flow_may) l11 c11
  have F12 := fung_mk (st := s_Flow_come) l12 c12
  have F13 := fung_mk (st := s_law_refused) l13 c13
  have F14 := fung_mk (st := s_law) l14 c14
  refine ⟨PySem.W.fnOf "law" "law" (defArgs s_law) (defBody s_law) (defScope s_law) .none kV14 dc14 pm14 an14 cd14 ct14, fun s v => .of_eq rfl, fun base _ _ => ?_⟩
  have X_NoName : ExI l.prog w K mg base "NoName" c_NoName ["name"] := ⟨PySem.W.mg_of X G ac_NoName, T_NoName, ⟨fI_NoName, _, ["self", "name"], xi_NoName, xti_NoName, FI_NoName.binds (ps := ["self", "name"]) fun _ _ _ _ _ _ us hl => (match us, hl with | [_, _], _ => rfl), x_NoName__init FI_NoName T_NoName xn_NoName_name⟩⟩
  have XN_NoName_0_name : ExN l.prog w K mg base "NoName" c_NoName ["name"] 0 ["name"] [.inl 1] := ⟨PySem.W.mg_of X G ac_NoName, T_NoName, ⟨fI_NoName, _, ["self", "name"], xi_NoName, xti_NoName, ⟨fun s us ws hK h1 h2 => match us, ws, h1, h2 with | [u0], [w0], _, _ => ⟨[u0, w0], (.at rfl (.at rfl .nil)), .of_eq rfl⟩⟩, x_NoName__init FI_NoName T_NoName xn_NoName_name⟩⟩
  have X_Taken : ExI l.prog w K mg base "Taken" c_Taken ["name"] := ⟨PySem.W.mg_of X G ac_Taken, T_Taken, ⟨fI_Taken, _, ["self", "name"], xi_Taken, xti_Taken, FI_Taken.binds (ps := ["self", "name"]) fun _ _ _ _ _ _ us hl => (match us, hl with | [_, _], _ => rfl), x_Taken__init FI_Taken T_Taken xn_Taken_name⟩⟩
  have XN_Taken_1 : ExN l.prog w K mg base "Taken" c_Taken ["name"] 1 [] [.inl 1] := ⟨PySem.W.mg_of X G ac_Taken, T_Taken, ⟨fI_Taken, _, ["self", "name"], xi_Taken, xti_Taken, ⟨fun s us ws hK h1 h2 => match us, ws, h1, h2 with | [u0, u1], [], _, _ => ⟨[u0, u1], (.at rfl (.at rfl .nil)), .of_eq rfl⟩⟩, x_Taken__init FI_Taken T_Taken xn_Taken_name⟩⟩
  have X_Unknown : ExI l.prog w K mg base "Unknown" c_Unknown ["name"] := ⟨PySem.W.mg_of X G ac_Unknown, T_Unknown, ⟨fI_Unknown, _, ["self", "name"], xi_Unknown, xti_Unknown, FI_Unknown.binds (ps := ["self", "name"]) fun _ _ _ _ _ _ us hl => (match us, hl with | [_, _], _ => rfl), x_Unknown__init FI_Unknown T_Unknown xn_Unknown_name⟩⟩
  have XN_Unknown_0_name : ExN l.prog w K mg base "Unknown" c_Unknown ["name"] 0 ["name"] [.inl 1] := ⟨PySem.W.mg_of X G ac_Unknown, T_Unknown, ⟨fI_Unknown, _, ["self", "name"], xi_Unknown, xti_Unknown, ⟨fun s us ws hK h1 h2 => match us, ws, h1, h2 with | [u0], [w0], _, _ => ⟨[u0, w0], (.at rfl (.at rfl .nil)), .of_eq rfl⟩⟩, x_Unknown__init FI_Unknown T_Unknown xn_Unknown_name⟩⟩
  have X_NoWay : ExI l.prog w K mg base "NoWay" c_NoWay ["place"] := ⟨PySem.W.mg_of X G ac_NoWay, T_NoWay, ⟨fI_NoWay, _, ["self", "place"], xi_NoWay, xti_NoWay, FI_NoWay.binds (ps := ["self", "place"]) fun _ _ _ _ _ _ us hl => (match us, hl with | [_, _], _ => rfl), x_NoWay__init FI_NoWay T_NoWay xn_NoWay_place⟩⟩
  have XN_NoWay_0_place : ExN l.prog w K mg base "NoWay" c_NoWay ["place"] 0 ["place"] [.inl 1] := ⟨PySem.W.mg_of X G ac_NoWay, T_NoWay, ⟨fI_NoWay, _, ["self", "place"], xi_NoWay, xti_NoWay, ⟨fun s us ws hK h1 h2 => match us, ws, h1, h2 with | [u0], [w0], _, _ => ⟨[u0, w0], (.at rfl (.at rfl .nil)), .of_eq rfl⟩⟩, x_NoWay__init FI_NoWay T_NoWay xn_NoWay_place⟩⟩
  have X_NoLot : ExI l.prog w K mg base "NoLot" c_NoLot ["place"] := ⟨PySem.W.mg_of X G ac_NoLot, T_NoLot, ⟨fI_NoLot, _, ["self", "place"], xi_NoLot, xti_NoLot, FI_NoLot.binds (ps := ["self", "place"]) fun _ _ _ _ _ _ us hl => (match us, hl with | [_, _], _ => rfl), x_NoLot__init FI_NoLot T_NoLot xn_NoLot_place⟩⟩
  have XN_NoLot_1 : ExN l.prog w K mg base "NoLot" c_NoLot ["place"] 1 [] [.inl 1] := ⟨PySem.W.mg_of X G ac_NoLot, T_NoLot, ⟨fI_NoLot, _, ["self", "place"], xi_NoLot, xti_NoLot, ⟨fun s us ws hK h1 h2 => match us, ws, h1, h2 with | [u0, u1], [], _, _ => ⟨[u0, u1], (.at rfl (.at rfl .nil)), .of_eq rfl⟩⟩, x_NoLot__init FI_NoLot T_NoLot xn_NoLot_place⟩⟩
  have X_NoText : ExI l.prog w K mg base "NoText" c_NoText ["row"] := ⟨PySem.W.mg_of X G ac_NoText, T_NoText, ⟨fI_NoText, _, ["self", "row"], xi_NoText, xti_NoText, FI_NoText.binds (ps := ["self", "row"]) fun _ _ _ _ _ _ us hl => (match us, hl with | [_, _], _ => rfl), x_NoText__init FI_NoText T_NoText xn_NoText_row⟩⟩
  have XN_NoText_1 : ExN l.prog w K mg base "NoText" c_NoText ["row"] 1 [] [.inl 1] := ⟨PySem.W.mg_of X G ac_NoText, T_NoText, ⟨fI_NoText, _, ["self", "row"], xi_NoText, xti_NoText, ⟨fun s us ws hK h1 h2 => match us, ws, h1, h2 with | [u0, u1], [], _, _ => ⟨[u0, u1], (.at rfl (.at rfl .nil)), .of_eq rfl⟩⟩, x_NoText__init FI_NoText T_NoText xn_NoText_row⟩⟩
  have X_NoBook : ExI l.prog w K mg base "NoBook" c_NoBook ["row"] := ⟨PySem.W.mg_of X G ac_NoBook, T_NoBook, ⟨fI_NoBook, _, ["self", "row"], xi_NoBook, xti_NoBook, FI_NoBook.binds (ps := ["self", "row"]) fun _ _ _ _ _ _ us hl => (match us, hl with | [_, _], _ => rfl), x_NoBook__init FI_NoBook T_NoBook xn_NoBook_row⟩⟩
  have XN_NoBook_0_row : ExN l.prog w K mg base "NoBook" c_NoBook ["row"] 0 ["row"] [.inl 1] := ⟨PySem.W.mg_of X G ac_NoBook, T_NoBook, ⟨fI_NoBook, _, ["self", "row"], xi_NoBook, xti_NoBook, ⟨fun s us ws hK h1 h2 => match us, ws, h1, h2 with | [u0], [w0], _, _ => ⟨[u0, w0], (.at rfl (.at rfl .nil)), .of_eq rfl⟩⟩, x_NoBook__init FI_NoBook T_NoBook xn_NoBook_row⟩⟩
  have X_TooMany : ExI l.prog w K mg base "TooMany" c_TooMany ["name", "bound"] := ⟨PySem.W.mg_of X G ac_TooMany, T_TooMany, ⟨fI_TooMany, _, ["self", "name", "bound"], xi_TooMany, xti_TooMany, FI_TooMany.binds (ps := ["self", "name", "bound"]) fun _ _ _ _ _ _ us hl => (match us, hl with | [_, _, _], _ => rfl), x_TooMany__init FI_TooMany T_TooMany xn_TooMany_name xn_TooMany_bound⟩⟩
  have XN_TooMany_0_bound_name : ExN l.prog w K mg base "TooMany" c_TooMany ["name", "bound"] 0 ["bound", "name"] [.inl 2, .inl 1] := ⟨PySem.W.mg_of X G ac_TooMany, T_TooMany, ⟨fI_TooMany, _, ["self", "name", "bound"], xi_TooMany, xti_TooMany, ⟨fun s us ws hK h1 h2 => match us, ws, h1, h2 with | [u0], [w0, w1], _, _ => ⟨[u0, w1, w0], (.at rfl (.at rfl (.at rfl .nil))), .of_eq rfl⟩⟩, x_TooMany__init FI_TooMany T_TooMany xn_TooMany_name xn_TooMany_bound⟩⟩
  have X_TooMuch : ExI l.prog w K mg base "TooMuch" c_TooMuch ["lane", "first", "end", "rows"] := ⟨PySem.W.mg_of X G ac_TooMuch, T_TooMuch, ⟨fI_TooMuch, _, ["self", "lane", "first", "end", "rows"], xi_TooMuch, xti_TooMuch, FI_TooMuch.binds (ps := ["self", "lane", "first", "end", "rows"]) fun _ _ _ _ _ _ us hl => (match us, hl with | [_, _, _, _, _], _ => rfl), x_TooMuch__init FI_TooMuch T_TooMuch xn_TooMuch_lane xn_TooMuch_first xn_TooMuch_end xn_TooMuch_rows⟩⟩
  have XN_TooMuch_0_end_rows_lane_first : ExN l.prog w K mg base "TooMuch" c_TooMuch ["lane", "first", "end", "rows"] 0 ["end", "rows", "lane", "first"] [.inl 3, .inl 4, .inl 1, .inl 2] := ⟨PySem.W.mg_of X G ac_TooMuch, T_TooMuch, ⟨fI_TooMuch, _, ["self", "lane", "first", "end", "rows"], xi_TooMuch, xti_TooMuch, ⟨fun s us ws hK h1 h2 => match us, ws, h1, h2 with | [u0], [w0, w1, w2, w3], _, _ => ⟨[u0, w2, w3, w0, w1], (.at rfl (.at rfl (.at rfl (.at rfl (.at rfl .nil))))), .of_eq rfl⟩⟩, x_TooMuch__init FI_TooMuch T_TooMuch xn_TooMuch_lane xn_TooMuch_first xn_TooMuch_end xn_TooMuch_rows⟩⟩
  have O_law_begun : FnOk l.prog w K mg base CX0 1 f1 _ ["_law_script"] (lift (pBegun K)) := d_law_begun F1 
  have O_law_take : FnOk l.prog w K mg base CX0 1 f2 _ ["_law_state", "_law_many"] (lift pTake) := d_law_take F2 G_len
  have D_law_take : Def l.prog w K mg base 1 "_law_take" ["_law_state", "_law_many"] pTake := ⟨_, _, PySem.W.mg_of X G a2, k2, b2, O_law_take⟩
  have O_law_pick : FnOk l.prog w K mg base CX0 2 f3 _ ["_law_state", "_law_some"] (lift pPick) := d_law_pick F3 D_law_take G_len
  have D_law_pick : Def l.prog w K mg base 2 "_law_pick" ["_law_state", "_law_some"] pPick := ⟨_, _, PySem.W.mg_of X G a3, k3, b3, O_law_pick⟩
  have O_law_name : FnOk l.prog w K mg base CX0 3 f4 _ ["_law_state"] (lift pNameX) := d_law_name F4 G_range D_law_take D_law_pick
  have O_law_places : FnOk l.prog w K mg base (L2.CX l.prog w) 1 f5 _ ["_law_e"] (liftE (pPlaces (xAll c_NoJar c_NoTick c_NoLane c_NoName c_Taken c_Unknown c_NoWay c_NoLot c_TooMany c_TooMuch c_NoText c_NoBook))) := d_law_places F5 KT_NoJar_NoJar EP_NoJar KT_NoTick_NoJar EP_NoTick KT_NoLane_NoJar EP_NoLane KT_NoName_NoJar EP_NoName KT_Taken_NoJar EP_Taken KT_Unknown_NoJar EP_Unknown KT_NoWay_NoJar EP_NoWay KT_NoLot_NoJar EP_NoLot KT_TooMany_NoJar EP_TooMany KT_TooMuch_NoJar EP_TooMuch KT_NoText_NoJar EP_NoText KT_NoBook_NoJar EP_NoBook KT_NoneType_NoJar G_isinstance Q_NoJar KT_NoJar_NoTick KT_NoTick_NoTick KT_NoLane_NoTick KT_NoName_NoTick KT_Taken_NoTick KT_Unknown_NoTick KT_NoWay_NoTick KT_NoLot_NoTick KT_TooMany_NoTick KT_TooMuch_NoTick KT_NoText_NoTick KT_NoBook_NoTick KT_NoneType_NoTick Q_NoTick KT_NoJar_NoLane KT_NoTick_NoLane KT_NoLane_NoLane KT_NoName_NoLane KT_Taken_NoLane KT_Unknown_NoLane KT_NoWay_NoLane KT_NoLot_NoLane KT_TooMany_NoLane KT_TooMuch_NoLane KT_NoText_NoLane KT_NoBook_NoLane KT_NoneType_NoLane Q_NoLane KT_NoJar_NoName KT_NoTick_NoName KT_NoLane_NoName KT_NoName_NoName KT_Taken_NoName KT_Unknown_NoName KT_NoWay_NoName KT_NoLot_NoName KT_TooMany_NoName KT_TooMuch_NoName KT_NoText_NoName KT_NoBook_NoName KT_NoneType_NoName Q_NoName KT_NoJar_Taken KT_NoTick_Taken KT_NoLane_Taken KT_NoName_Taken KT_Taken_Taken KT_Unknown_Taken KT_NoWay_Taken KT_NoLot_Taken KT_TooMany_Taken KT_TooMuch_Taken KT_NoText_Taken KT_NoBook_Taken KT_NoneType_Taken Q_Taken KT_NoJar_Unknown KT_NoTick_Unknown KT_NoLane_Unknown KT_NoName_Unknown KT_Taken_Unknown KT_Unknown_Unknown KT_NoWay_Unknown KT_NoLot_Unknown KT_TooMany_Unknown KT_TooMuch_Unknown KT_NoText_Unknown KT_NoBook_Unknown KT_NoneType_Unknown Q_Unknown KT_NoJar_NoWay KT_NoTick_NoWay KT_NoLane_NoWay KT_NoName_NoWay KT_Taken_NoWay KT_Unknown_NoWay KT_NoWay_NoWay KT_NoLot_NoWay KT_TooMany_NoWay KT_TooMuch_NoWay KT_NoText_NoWay KT_NoBook_NoWay KT_NoneType_NoWay Q_NoWay KT_NoJar_NoLot KT_NoTick_NoLot KT_NoLane_NoLot KT_NoName_NoLot KT_Taken_NoLot KT_Unknown_NoLot KT_NoWay_NoLot KT_NoLot_NoLot KT_TooMany_NoLot KT_TooMuch_NoLot KT_NoText_NoLot KT_NoBook_NoLot KT_NoneType_NoLot Q_NoLot KT_NoJar_TooMany KT_NoTick_TooMany KT_NoLane_TooMany KT_NoName_TooMany KT_Taken_TooMany KT_Unknown_TooMany KT_NoWay_TooMany KT_NoLot_TooMany KT_TooMany_TooMany KT_TooMuch_TooMany KT_NoText_TooMany KT_NoBook_TooMany KT_NoneType_TooMany Q_TooMany KT_NoJar_TooMuch KT_NoTick_TooMuch KT_NoLane_TooMuch KT_NoName_TooMuch KT_Taken_TooMuch KT_Unknown_TooMuch KT_NoWay_TooMuch KT_NoLot_TooMuch KT_TooMany_TooMuch KT_TooMuch_TooMuch KT_NoText_TooMuch KT_NoBook_TooMuch KT_NoneType_TooMuch Q_TooMuch KT_NoJar_NoText KT_NoTick_NoText KT_NoLane_NoText KT_NoName_NoText KT_Taken_NoText KT_Unknown_NoText KT_NoWay_NoText KT_NoLot_NoText KT_TooMany_NoText KT_TooMuch_NoText KT_NoText_NoText KT_NoBook_NoText KT_NoneType_NoText Q_NoText KT_NoJar_NoBook KT_NoTick_NoBook KT_NoLane_NoBook KT_NoName_NoBook KT_Taken_NoBook KT_Unknown_NoBook KT_NoWay_NoBook KT_NoLot_NoBook KT_TooMany_NoBook KT_TooMuch_NoBook KT_NoText_NoBook KT_NoBook_NoBook KT_NoneType_NoBook Q_NoBook KT_NoJar_LaneError KT_NoTick_LaneError KT_NoLane_LaneError KT_NoName_LaneError KT_Taken_LaneError KT_Unknown_LaneError KT_NoWay_LaneError KT_NoLot_LaneError KT_TooMany_LaneError KT_TooMuch_LaneError KT_NoText_LaneError KT_NoBook_LaneError KT_NoneType_LaneError Q_LaneError KT_NoJar_ValueError KT_NoTick_ValueError KT_NoLane_ValueError KT_NoName_ValueError KT_Taken_ValueError KT_Unknown_ValueError KT_NoWay_ValueError KT_NoLot_ValueError KT_TooMany_ValueError KT_TooMuch_ValueError KT_NoText_ValueError KT_NoBook_ValueError G_ValueError G_range
  have D_law_name : Def l.prog w K mg base 3 "_law_name" ["_law_state"] pNameX := ⟨_, _, PySem.W.mg_of X G a4, k4, b4, O_law_name⟩
  have E_law_places_1 : DefE l.prog w K mg base 1 "_law_places" 1 [] (selN 1) (pPlaces (xAll c_NoJar c_NoTick c_NoLane c_NoName c_Taken c_Unknown c_NoWay c_NoLot c_TooMany c_TooMuch c_NoText c_NoBook)) := ⟨⟨f5, PySem.W.mg_of X G a5, k5, ⟨⟨_, ["_law_e"], ⟨fun s us ws hK h1 h2 => match us, ws, h1, h2 with | [u0], [], _, _ => ⟨[u0], (.at rfl .nil), .of_eq rfl⟩⟩, O_law_places⟩⟩⟩⟩
  have O_law_alone : FnOk l.prog w K mg base (L2.CX l.prog w) 4 f6 _ ["_law_state"] (liftE pAlone) := d_law_alone F6 D_law_name D_law_take E_law_places_1 X_NoJar X_NoTick X_NoLane X_NoName XN_NoName_0_name X_Taken XN_Taken_1 X_Unknown XN_Unknown_0_name A_NoName_name A_Taken_name A_Unknown_name A_TooMany_name X_NoWay XN_NoWay_0_place X_NoLot XN_NoLot_1 A_NoWay_place A_NoLot_place X_NoText XN_NoText_1 X_NoBook XN_NoBook_0_row A_NoText_row A_NoBook_row X_TooMany XN_TooMany_0_bound_name A_TooMany_bound
  have O_law_much : FnOk l.prog w K mg base (L2.CX l.prog w) 4 f7 _ ["_law_state"] (liftE pMuch) := d_law_much F7 D_law_name D_law_take G_range X_TooMuch XN_TooMuch_0_end_rows_lane_first G_list E_law_places_1 A_TooMuch_lane A_TooMuch_first A_TooMuch_end A_TooMuch_rows
  have O_Jar__init : FnOk l.prog w K mg base (L2.CX l.prog w) 1 f8 _ ["self", "size", "rate", "mouth"] (liftE (pJarI c_Jar c_NoJar)) := d_Jar__init F8 C_MOST X_NoJar A_Jar_size A_Jar_rate A_Jar_mouth
  have O_Flow__init : FnOk l.prog w K mg base (L2.CX l.prog w) 1 f9 _ ["self", "jar", "marks"] (liftE (pFlowI c_Flow c_Jar c_NoJar)) := d_Flow__init F9 A_Jar_size X_NoJar A_Flow_jar A_Flow_marks
  have O_Flow_ahead : FnOk l.prog w K mg base (L2.CX l.prog w) 1 f10 _ ["self", "ticks"] (liftE (pAhead c_Flow c_Jar c_NoTick)) := d_Flow_ahead F10 X_NoTick G_min A_Jar_size A_Flow_jar A_Flow_marks A_Jar_rate
  have O_Flow_may : FnOk l.prog w K mg base (L2.CX l.prog w) 1 f11 _ ["self"] (liftE (pMay c_Flow c_Jar)) := d_Flow_may F11 G_min A_Jar_mouth A_Flow_jar A_Flow_marks
  have M_Flow_may_0 : MethE l.prog w K mg base 1 c_Flow "may" 0 [] (selN 1) (pMay c_Flow c_Jar) := ⟨⟨f11, CL_Flow, ⟨a11, n11, k11⟩, ⟨⟨_, ["self"], ⟨fun s us ws hK h1 h2 => match us, ws, h1, h2 with | [u0], [], _, _ => ⟨[u0], (.at rfl .nil), .of_eq rfl⟩⟩, O_Flow_may⟩⟩⟩⟩
  have O_Flow_come : FnOk l.prog w K mg base (L2.CX l.prog w) 3 f12 _ ["self", "many"] (liftE (pCome c_Flow c_Jar c_TooMany)) := d_Flow_come F12 M_Flow_may_0 X_TooMany A_Flow_marks G_min A_Jar_size A_Flow_jar A_Jar_rate
  have N_Jar_3 : MakeE l.prog w K mg base 1 "Jar" c_Jar 3 [] (selN 4) (pJarI c_Jar c_NoJar) := ⟨⟨f8, PySem.W.mg_of X G ac_Jar, ⟨mk_Jar, a8, n8, mkk_Jar⟩, ⟨⟨_, ["self", "size", "rate", "mouth"], ⟨fun s us ws hK h1 h2 => match us, ws, h1, h2 with | [u0, u1, u2, u3], [], _, _ => ⟨[u0, u1, u2, u3], (.at rfl (.at rfl (.at rfl (.at rfl .nil)))), .of_eq rfl⟩⟩, O_Jar__init⟩⟩⟩⟩
  have N_Flow_2 : MakeE l.prog w K mg base 1 "Flow" c_Flow 2 [] (selN 3) (pFlowI c_Flow c_Jar c_NoJar) := ⟨⟨f9, PySem.W.mg_of X G ac_Flow, ⟨mk_Flow, a9, n9, mkk_Flow⟩, ⟨⟨_, ["self", "jar", "marks"], ⟨fun s us ws hK h1 h2 => match us, ws, h1, h2 with | [u0, u1, u2], [], _, _ => ⟨[u0, u1, u2], (.at rfl (.at rfl (.at rfl .nil))), (by first | exact .of_eq rfl | exact PySem.W.binds_K hK rfl lT9 rfl rfl rfl)⟩⟩, O_Flow__init⟩⟩⟩⟩
  have M_Flow_ahead_1 : MethE l.prog w K mg base 1 c_Flow "ahead" 1 [] (selN 2) (pAhead c_Flow c_Jar c_NoTick) := ⟨⟨f10, CL_Flow, ⟨a10, n10, k10⟩, ⟨⟨_, ["self", "ticks"], ⟨fun s us ws hK h1 h2 => match us, ws, h1, h2 with | [u0, u1], [], _, _ => ⟨[u0, u1], (.at rfl (.at rfl .nil)), .of_eq rfl⟩⟩, O_Flow_ahead⟩⟩⟩⟩
  have M_Flow_come_1 : MethE l.prog w K mg base 3 c_Flow "come" 1 [] (selN 2) (pCome c_Flow c_Jar c_TooMany) := ⟨⟨f12, CL_Flow, ⟨a12, n12, k12⟩, ⟨⟨_, ["self", "many"], ⟨fun s us ws hK h1 h2 => match us, ws, h1, h2 with | [u0, u1], [], _, _ => ⟨[u0, u1], (.at rfl (.at rfl .nil)), (by first | exact .of_eq rfl | exact PySem.W.binds_K hK rfl lT12 rfl rfl rfl)⟩⟩, O_Flow_come⟩⟩⟩⟩
  have O_law_refused : FnOk l.prog w K mg base (L2.CX l.prog w) 4 f13 _ ["_law_way", "_law_jar", "_law_number", "_law_flow"] (liftE (pRefused c_Flow c_Jar c_NoJar c_NoTick c_TooMany)) := d_law_refused F13 N_Jar_3 N_Flow_2 A_Jar_size M_Flow_ahead_1 M_Flow_come_1 M_Flow_may_0 Q_LaneError XM_Taken_LaneError XM_NoWay_LaneError XM_TooMuch_LaneError XM_NoLane_LaneError XM_Unknown_LaneError XM_TooMany_LaneError XM_NoTick_LaneError XM_NoLot_LaneError XM_NoText_LaneError XM_NoBook_LaneError XM_NoJar_LaneError XM_NoName_LaneError
  have D_law_begun : Def l.prog w K mg base 1 "_law_begun" ["_law_script"] (pBegun K) := ⟨_, _, PySem.W.mg_of X G a1, k1, b1, O_law_begun⟩
  have E_law_alone_1 : DefE l.prog w K mg base 4 "_law_alone" 1 [] (selN 1) pAlone := ⟨⟨f6, PySem.W.mg_of X G a6, k6, ⟨⟨_, ["_law_state"], ⟨fun s us ws hK h1 h2 => match us, ws, h1, h2 with | [u0], [], _, _ => ⟨[u0], (.at rfl .nil), .of_eq rfl⟩⟩, O_law_alone⟩⟩⟩⟩
  have E_law_much_1 : DefE l.prog w K mg base 4 "_law_much" 1 [] (selN 1) pMuch := ⟨⟨f7, PySem.W.mg_of X G a7, k7, ⟨⟨_, ["_law_state"], ⟨fun s us ws hK h1 h2 => match us, ws, h1, h2 with | [u0], [], _, _ => ⟨[u0], (.at rfl .nil), .of_eq rfl⟩⟩, O_law_much⟩⟩⟩⟩
  have E_law_refused_4 : DefE l.prog w K mg base 4 "_law_refused" 4 [] (selN 4) (pRefused c_Flow c_Jar c_NoJar c_NoTick c_TooMany) := ⟨⟨f13, PySem.W.mg_of X G a13, k13, ⟨⟨_, ["_law_way", "_law_jar", "_law_number", "_law_flow"], ⟨fun s us ws hK h1 h2 => match us, ws, h1, h2 with | [u0, u1, u2, u3], [], _, _ => ⟨[u0, u1, u2, u3], (.at rfl (.at rfl (.at rfl (.at rfl .nil)))), .of_eq rfl⟩⟩, O_law_refused⟩⟩⟩⟩
  exact d_law F14 D_law_begun G_range E_law_alone_1 E_law_much_1 D_law_take N_Jar_3 N_Flow_2 A_Jar_size E_law_refused_4 E_law_places_1 A_NoName_name A_Taken_name A_Unknown_name A_TooMany_name A_TooMany_bound M_Flow_may_0
theorem walk {l : PySem.W.OpenLaw} {qq : Program} {loose : List Str} {XP : (Str → Option Value) → Heap → Prop} {YP : World → Heap → Prop} {d : DefRec} {K : Params → PySem.W.Frag} (hn : l.most = some 63) (hdf : d.params.defaults = [])
    (hY : ∀ (w : World) (h : Heap), YP w h → (K w.params).In h)
    (F : ∀ (w : World) (mg : Str → Option Value) (fa : Addr) (h : Heap), (K w.params).In h → h.Ns mainGlobals mg → mg d.name = some (.ref fa) →
      ∃ fd : FuncData, (∀ (s : Shared) (u : Value), BindsTo s fd ⟨[u], []⟩ [("_law_script", u)]) ∧ ∀ base : Heap, (K w.params).In base → base.Ns mainGlobals mg → FnOk l.prog w (K w.params) mg base (L2.CX l.prog w) 5 fa fd ["_law_script"] (liftE (pLawE (K w.params)))) :
    PySem.W.WalkO qq loose XP YP l.row.toRowW d [] (fun f vs => PySem.call f vs) :=
  L2.walk_of (n := 63) (k := 5) (x := "_law_script") (CX := fun w => L2.CX l.prog w) (sp := fun w => (liftE (pLawE (K w.params)))) hn (by decide) hdf ⟨rfl, by decide, by decide⟩ hY F (fun _ _ a ns hl _ hS => law_startE hl hS) fun _ _ _ _ _ z => law_out z
end Lw
open PySem PySem.W PyProof.Rows in
set_option maxRecDepth 100000 in
set_option maxHeartbeats 0 in
theorem PySem.Challenge.cw_hourlanes_k09_refusals_apart_holds : PySem.Challenge.rw_hourlanes_k09_refusals_apart.Holds := by
  w_on; o_law; k_head; (case hw => w_witness2)
  k_fill
  refine Lw.walk (l := PySem.Challenge.rw_hourlanes_k09_refusals_apart) rfl rfl (fun w h Y => (by first | exact PySem.W.kIn_of Y | exact PySem.W.km_in_of Y)) ?F
  case F =>
    intro w mg fa h KX G hmg
    refine' Lw.all_mk KX G hmg ?ac_NoJar ?ac_NoTick ?ac_NoLane ?ac_NoName ?ac_Taken ?ac_Unknown ?ac_NoWay ?ac_NoLot ?ac_TooMany ?ac_TooMuch ?ac_NoText ?ac_NoBook ?ac_LaneError ?ac_Jar ?ac_Flow ?a1 ?l1 ?c1 ?k1 ?a2 ?l2 ?c2 ?k2 ?a3 ?l3 ?c3 ?k3 ?a4 ?l4 ?c4 ?k4 ?a5 ?l5 ?c5 ?k5 ?a6 ?l6 ?c6 ?k6 ?a7 ?l7 ?c7 ?k7 ?a8 ?n8 ?l8 ?c8 ?k8 ?a9 ?n9 ?l9 ?lT9 ?c9 ?k9 ?a10 ?n10 ?l10 ?c10 ?k10 ?a11 ?n11 ?l11 ?c11 ?k11 ?a12 ?n12 ?l12 ?lT12 ?c12 ?k12 ?a13 ?l13 ?c13 ?k13 ?a14 ?l14 ?c14 ?k14 ?z_len ?z_range ?sb_NoJar_NoJar ?xhd_NoJar ?xt0_NoJar ?xk_NoJar ?xs_NoJar ?xt_NoJar ?xga_NoJar ?xgg_NoJar ?ob1 ?ob2 ?eha_NoJar ?ehm_NoJar ?sb_NoTick_NoJar ?xk_NoTick ?xs_NoTick ?xt_NoTick ?xga_NoTick ?xgg_NoTick ?xhd_NoTick ?eha_NoTick ?ehm_NoTick ?sb_NoLane_NoJar ?xk_NoLane ?xs_NoLane ?xt_NoLane ?xga_NoLane ?xgg_NoLane ?xhd_NoLane ?eha_NoLane ?ehm_NoLane ?sb_NoName_NoJar ?xk_NoName ?xs_NoName ?xt_NoName ?xga_NoName ?xgg_NoName ?xhd_NoName ?eha_NoName ?ehm_NoName ?sb_Taken_NoJar ?xk_Taken ?xs_Taken ?xt_Taken ?xga_Taken ?xgg_Taken ?xhd_Taken ?eha_Taken ?ehm_Taken ?sb_Unknown_NoJar ?xk_Unknown ?xs_Unknown ?xt_Unknown ?xga_Unknown ?xgg_Unknown ?xhd_Unknown ?eha_Unknown ?ehm_Unknown ?sb_NoWay_NoJar ?xk_NoWay ?xs_NoWay ?xt_NoWay ?xga_NoWay ?xgg_NoWay ?xhd_NoWay ?eha_NoWay ?ehm_NoWay ?sb_NoLot_NoJar ?xk_NoLot ?xs_NoLot ?xt_NoLot ?xga_NoLot ?xgg_NoLot ?xhd_NoLot ?eha_NoLot ?ehm_NoLot ?sb_TooMany_NoJar ?xk_TooMany ?xs_TooMany ?xt_TooMany ?xga_TooMany ?xgg_TooMany ?xhd_TooMany ?eha_TooMany ?ehm_TooMany ?sb_TooMuch_NoJar ?xk_TooMuch ?xs_TooMuch ?xt_TooMuch ?xga_TooMuch ?xgg_TooMuch ?xhd_TooMuch ?eha_TooMuch ?ehm_TooMuch ?sb_NoText_NoJar ?xk_NoText ?xs_NoText ?xt_NoText ?xga_NoText ?xgg_NoText ?xhd_NoText ?eha_NoText ?ehm_NoText ?sb_NoBook_NoJar ?xk_NoBook ?xs_NoBook ?xt_NoBook ?xga_NoBook ?xgg_NoBook ?xhd_NoBook ?eha_NoBook ?ehm_NoBook ?sb_NoneType_NoJar ?z_isinstance ?sb_NoJar_NoTick ?sb_NoTick_NoTick ?sb_NoLane_NoTick ?sb_NoName_NoTick ?sb_Taken_NoTick ?sb_Unknown_NoTick ?sb_NoWay_NoTick ?sb_NoLot_NoTick ?sb_TooMany_NoTick ?sb_TooMuch_NoTick ?sb_NoText_NoTick ?sb_NoBook_NoTick ?sb_NoneType_NoTick ?sb_NoJar_NoLane ?sb_NoLane_NoLane ?sb_NoTick_NoLane ?sb_NoName_NoLane ?sb_Taken_NoLane ?sb_Unknown_NoLane ?sb_NoWay_NoLane ?sb_NoLot_NoLane ?sb_TooMany_NoLane ?sb_TooMuch_NoLane ?sb_NoText_NoLane ?sb_NoBook_NoLane ?sb_NoneType_NoLane ?sb_NoJar_NoName ?sb_NoName_NoName ?sb_NoTick_NoName ?sb_NoLane_NoName ?sb_Taken_NoName ?sb_Unknown_NoName ?sb_NoWay_NoName ?sb_NoLot_NoName ?sb_TooMany_NoName ?sb_TooMuch_NoName ?sb_NoText_NoName ?sb_NoBook_NoName ?sb_NoneType_NoName ?sb_NoJar_Taken ?sb_Taken_Taken ?sb_NoTick_Taken ?sb_NoLane_Taken ?sb_NoName_Taken ?sb_Unknown_Taken ?sb_NoWay_Taken ?sb_NoLot_Taken ?sb_TooMany_Taken ?sb_TooMuch_Taken ?sb_NoText_Taken ?sb_NoBook_Taken ?sb_NoneType_Taken ?sb_NoJar_Unknown ?sb_Unknown_Unknown ?sb_NoTick_Unknown ?sb_NoLane_Unknown ?sb_NoName_Unknown ?sb_Taken_Unknown ?sb_NoWay_Unknown ?sb_NoLot_Unknown ?sb_TooMany_Unknown ?sb_TooMuch_Unknown ?sb_NoText_Unknown ?sb_NoBook_Unknown ?sb_NoneType_Unknown ?sb_NoJar_NoWay ?sb_NoWay_NoWay ?sb_NoTick_NoWay ?sb_NoLane_NoWay ?sb_NoName_NoWay ?sb_Taken_NoWay ?sb_Unknown_NoWay ?sb_NoLot_NoWay ?sb_TooMany_NoWay ?sb_TooMuch_NoWay ?sb_NoText_NoWay ?sb_NoBook_NoWay ?sb_NoneType_NoWay ?sb_NoJar_NoLot ?sb_NoLot_NoLot ?sb_NoTick_NoLot ?sb_NoLane_NoLot ?sb_NoName_NoLot ?sb_Taken_NoLot ?sb_Unknown_NoLot ?sb_NoWay_NoLot ?sb_TooMany_NoLot ?sb_TooMuch_NoLot ?sb_NoText_NoLot ?sb_NoBook_NoLot ?sb_NoneType_NoLot ?sb_NoJar_TooMany ?sb_TooMany_TooMany ?sb_NoTick_TooMany ?sb_NoLane_TooMany ?sb_NoName_TooMany ?sb_Taken_TooMany ?sb_Unknown_TooMany ?sb_NoWay_TooMany ?sb_NoLot_TooMany ?sb_TooMuch_TooMany ?sb_NoText_TooMany ?sb_NoBook_TooMany ?sb_NoneType_TooMany ?sb_NoJar_TooMuch ?sb_TooMuch_TooMuch ?sb_NoTick_TooMuch ?sb_NoLane_TooMuch ?sb_NoName_TooMuch ?sb_Taken_TooMuch ?sb_Unknown_TooMuch ?sb_NoWay_TooMuch ?sb_NoLot_TooMuch ?sb_TooMany_TooMuch ?sb_NoText_TooMuch ?sb_NoBook_TooMuch ?sb_NoneType_TooMuch ?sb_NoJar_NoText ?sb_NoText_NoText ?sb_NoTick_NoText ?sb_NoLane_NoText ?sb_NoName_NoText ?sb_Taken_NoText ?sb_Unknown_NoText ?sb_NoWay_NoText ?sb_NoLot_NoText ?sb_TooMany_NoText ?sb_TooMuch_NoText ?sb_NoBook_NoText ?sb_NoneType_NoText ?sb_NoJar_NoBook ?sb_NoBook_NoBook ?sb_NoTick_NoBook ?sb_NoLane_NoBook ?sb_NoName_NoBook ?sb_Taken_NoBook ?sb_Unknown_NoBook ?sb_NoWay_NoBook ?sb_NoLot_NoBook ?sb_TooMany_NoBook ?sb_TooMuch_NoBook ?sb_NoText_NoBook ?sb_NoneType_NoBook ?sb_NoJar_LaneError ?sb_LaneError_LaneError ?xhd_LaneError ?xt0_LaneError ?sb_NoTick_LaneError ?sb_NoLane_LaneError ?sb_NoName_LaneError ?sb_Taken_LaneError ?sb_Unknown_LaneError ?sb_NoWay_LaneError ?sb_NoLot_LaneError ?sb_TooMany_LaneError ?sb_TooMuch_LaneError ?sb_NoText_LaneError ?sb_NoBook_LaneError ?sb_NoneType_LaneError ?sb_NoJar_ValueError ?km_NoJar_ValueError ?sb_NoTick_ValueError ?km_NoTick_ValueError ?sb_NoLane_ValueError ?km_NoLane_ValueError ?sb_NoName_ValueError ?km_NoName_ValueError ?sb_Taken_ValueError ?km_Taken_ValueError ?sb_Unknown_ValueError ?km_Unknown_ValueError ?sb_NoWay_ValueError ?km_NoWay_ValueError ?sb_NoLot_ValueError ?km_NoLot_ValueError ?sb_TooMany_ValueError ?km_TooMany_ValueError ?sb_TooMuch_ValueError ?km_TooMuch_ValueError ?sb_NoText_ValueError ?km_NoText_ValueError ?sb_NoBook_ValueError ?km_NoBook_ValueError ?z_ValueError ?xq_NoJar ?xq_NoTick ?xq_NoLane ?xL_NoName ?xr_NoName ?xsa_NoName ?xi_NoName ?xti_NoName ?xki_NoName ?xl_NoName ?xc_NoName ?xn_NoName_name ?xL_Taken ?xr_Taken ?xsa_Taken ?xi_Taken ?xti_Taken ?xki_Taken ?xl_Taken ?xc_Taken ?xn_Taken_name ?xL_Unknown ?xr_Unknown ?xsa_Unknown ?xi_Unknown ?xti_Unknown ?xki_Unknown ?xl_Unknown ?xc_Unknown ?xn_Unknown_name ?yA_NoName_name ?yA_Taken_name ?yA_Unknown_name ?yA_TooMany_name ?xL_NoWay ?xr_NoWay ?xsa_NoWay ?xi_NoWay ?xti_NoWay ?xki_NoWay ?xl_NoWay ?xc_NoWay ?xn_NoWay_place ?xL_NoLot ?xr_NoLot ?xsa_NoLot ?xi_NoLot ?xti_NoLot ?xki_NoLot ?xl_NoLot ?xc_NoLot ?xn_NoLot_place ?yA_NoWay_place ?yA_NoLot_place ?xL_NoText ?xr_NoText ?xsa_NoText ?xi_NoText ?xti_NoText ?xki_NoText ?xl_NoText ?xc_NoText ?xn_NoText_row ?xL_NoBook ?xr_NoBook ?xsa_NoBook ?xi_NoBook ?xti_NoBook ?xki_NoBook ?xl_NoBook ?xc_NoBook ?xn_NoBook_row ?yA_NoText_row ?yA_NoBook_row ?xL_TooMany ?xr_TooMany ?xsa_TooMany ?xi_TooMany ?xti_TooMany ?xki_TooMany ?xl_TooMany ?xc_TooMany ?xn_TooMany_name ?xn_TooMany_bound ?yA_TooMany_bound ?xL_TooMuch ?xr_TooMuch ?xsa_TooMuch ?xi_TooMuch ?xti_TooMuch ?xki_TooMuch ?xl_TooMuch ?xc_TooMuch ?xn_TooMuch_lane ?xn_TooMuch_first ?xn_TooMuch_end ?xn_TooMuch_rows ?z_list ?yA_TooMuch_lane ?yA_TooMuch_first ?yA_TooMuch_end ?yA_TooMuch_rows ?v_MOST ?pg_Jar ?hd_Jar ?po_Jar ?sa_Jar ?yA_Jar_size ?yA_Jar_rate ?yA_Jar_mouth ?pg_Flow ?hd_Flow ?po_Flow ?sa_Flow ?yA_Flow_jar ?yA_Flow_marks ?z_min ?mk_Jar ?mkk_Jar ?mk_Flow ?mkk_Flow ?xk_LaneError ?xs_LaneError ?xt_LaneError
    (case ac_NoJar => k_is)
    (case ac_NoTick => k_is)
    (case ac_NoLane => k_is)
    (case ac_NoName => k_is)
    (case ac_Taken => k_is)
    (case ac_Unknown => k_is)
    (case ac_NoWay => k_is)
    (case ac_NoLot => k_is)
    (case ac_TooMany => k_is)
    (case ac_TooMuch => k_is)
    (case ac_NoText => k_is)
    (case ac_NoBook => k_is)
    (case ac_LaneError => k_is)
    (case ac_Jar => k_is)
    (case ac_Flow => k_is)
    (case a1 => k_is)
    (case l1 => k_is)
    (case c1 => k_is)
    (case k1 => k_is)
    (case a2 => k_is)
    (case l2 => k_is)
    (case c2 => k_is)
    (case k2 => k_is)
    (case a3 => k_is)
    (case l3 => k_is)
    (case c3 => k_is)
    (case k3 => k_is)
    (case a4 => k_is)
    (case l4 => k_is)
    (case c4 => k_is)
    (case k4 => k_is)
    (case a5 => k_is)
    (case l5 => k_is)
    (case c5 => k_is)
    (case k5 => k_is)
    (case a6 => k_is)
    (case l6 => k_is)
    (case c6 => k_is)
    (case k6 => k_is)
    (case a7 => k_is)
    (case l7 => k_is)
    (case c7 => k_is)
    (case k7 => k_is)
    (case a8 => k_is)
    (case n8 => k_is)
    (case l8 => k_is)
    (case c8 => k_is)
    (case k8 => k_is)
    (case a9 => k_is)
    (case n9 => k_is)
    (case l9 => k_is)
    (case lT9 => k_is)
    (case c9 => k_is)
    (case k9 => k_is)
    (case a10 => k_is)
    (case n10 => k_is)
    (case l10 => k_is)
    (case c10 => k_is)
    (case k10 => k_is)
    (case a11 => k_is)
    (case n11 => k_is)
    (case l11 => k_is)
    (case c11 => k_is)
    (case k11 => k_is)
    (case a12 => k_is)
    (case n12 => k_is)
    (case l12 => k_is)
    (case lT12 => k_is)
    (case c12 => k_is)
    (case k12 => k_is)
    (case a13 => k_is)
    (case l13 => k_is)
    (case c13 => k_is)
    (case k13 => k_is)
    (case a14 => k_is)
    (case l14 => k_is)
    (case c14 => k_is)
    (case k14 => k_is)
    (case z_len => k_is)
    (case z_range => k_is)
    (case sb_NoJar_NoJar => first | k_is | rfl | decide +kernel)
    (case xhd_NoJar => k_is)
    (case xt0_NoJar => k_is)
    (case xk_NoJar => k_is)
    (case xs_NoJar => k_is)
    (case xt_NoJar => k_is)
    (case xga_NoJar => k_is)
    (case xgg_NoJar => k_is)
    (case ob1 => k_is)
    (case ob2 => k_is)
    (case eha_NoJar => k_is)
    (case ehm_NoJar => k_is)
    (case sb_NoTick_NoJar => first | k_is | rfl | decide +kernel)
    (case xk_NoTick => k_is)
    (case xs_NoTick => k_is)
    (case xt_NoTick => k_is)
    (case xga_NoTick => k_is)
    (case xgg_NoTick => k_is)
    (case xhd_NoTick => k_is)
    (case eha_NoTick => k_is)
    (case ehm_NoTick => k_is)
    (case sb_NoLane_NoJar => first | k_is | rfl | decide +kernel)
    (case xk_NoLane => k_is)
    (case xs_NoLane => k_is)
    (case xt_NoLane => k_is)
    (case xga_NoLane => k_is)
    (case xgg_NoLane => k_is)
    (case xhd_NoLane => k_is)
    (case eha_NoLane => k_is)
    (case ehm_NoLane => k_is)
    (case sb_NoName_NoJar => first | k_is | rfl | decide +kernel)
    (case xk_NoName => k_is)
    (case xs_NoName => k_is)
    (case xt_NoName => k_is)
    (case xga_NoName => k_is)
    (case xgg_NoName => k_is)
    (case xhd_NoName => k_is)
    (case eha_NoName => k_is)
    (case ehm_NoName => k_is)
    (case sb_Taken_NoJar => first | k_is | rfl | decide +kernel)
    (case xk_Taken => k_is)
    (case xs_Taken => k_is)
    (case xt_Taken => k_is)
    (case xga_Taken => k_is)
    (case xgg_Taken => k_is)
    (case xhd_Taken => k_is)
    (case eha_Taken => k_is)
    (case ehm_Taken => k_is)
    (case sb_Unknown_NoJar => first | k_is | rfl | decide +kernel)
    (case xk_Unknown => k_is)
    (case xs_Unknown => k_is)
    (case xt_Unknown => k_is)
    (case xga_Unknown => k_is)
    (case xgg_Unknown => k_is)
    (case xhd_Unknown => k_is)
    (case eha_Unknown => k_is)
    (case ehm_Unknown => k_is)
    (case sb_NoWay_NoJar => first | k_is | rfl | decide +kernel)
    (case xk_NoWay => k_is)
    (case xs_NoWay => k_is)
    (case xt_NoWay => k_is)
    (case xga_NoWay => k_is)
    (case xgg_NoWay => k_is)
    (case xhd_NoWay => k_is)
    (case eha_NoWay => k_is)
    (case ehm_NoWay => k_is)
    (case sb_NoLot_NoJar => first | k_is | rfl | decide +kernel)
    (case xk_NoLot => k_is)
    (case xs_NoLot => k_is)
    (case xt_NoLot => k_is)
    (case xga_NoLot => k_is)
    (case xgg_NoLot => k_is)
    (case xhd_NoLot => k_is)
    (case eha_NoLot => k_is)
    (case ehm_NoLot => k_is)
    (case sb_TooMany_NoJar => first | k_is | rfl | decide +kernel)
    (case xk_TooMany => k_is)
    (case xs_TooMany => k_is)
    (case xt_TooMany => k_is)
    (case xga_TooMany => k_is)
    (case xgg_TooMany => k_is)
    (case xhd_TooMany => k_is)
    (case eha_TooMany => k_is)
    (case ehm_TooMany => k_is)
    (case sb_TooMuch_NoJar => first | k_is | rfl | decide +kernel)
    (case xk_TooMuch => k_is)
    (case xs_TooMuch => k_is)
    (case xt_TooMuch => k_is)
    (case xga_TooMuch => k_is)
    (case xgg_TooMuch => k_is)
    (case xhd_TooMuch => k_is)
    (case eha_TooMuch => k_is)
    (case ehm_TooMuch => k_is)
    (case sb_NoText_NoJar => first | k_is | rfl | decide +kernel)
    (case xk_NoText => k_is)
    (case xs_NoText => k_is)
    (case xt_NoText => k_is)
    (case xga_NoText => k_is)
    (case xgg_NoText => k_is)
    (case xhd_NoText => k_is)
    (case eha_NoText => k_is)
    (case ehm_NoText => k_is)
    (case sb_NoBook_NoJar => first | k_is | rfl | decide +kernel)
    (case xk_NoBook => k_is)
    (case xs_NoBook => k_is)
    (case xt_NoBook => k_is)
    (case xga_NoBook => k_is)
    (case xgg_NoBook => k_is)
    (case xhd_NoBook => k_is)
    (case eha_NoBook => k_is)
    (case ehm_NoBook => k_is)
    (case sb_NoneType_NoJar => first | k_is | rfl | decide +kernel)
    (case z_isinstance => k_is)
    (case sb_NoJar_NoTick => first | k_is | rfl | decide +kernel)
    (case sb_NoTick_NoTick => first | k_is | rfl | decide +kernel)
    (case sb_NoLane_NoTick => first | k_is | rfl | decide +kernel)
    (case sb_NoName_NoTick => first | k_is | rfl | decide +kernel)
    (case sb_Taken_NoTick => first | k_is | rfl | decide +kernel)
    (case sb_Unknown_NoTick => first | k_is | rfl | decide +kernel)
    (case sb_NoWay_NoTick => first | k_is | rfl | decide +kernel)
    (case sb_NoLot_NoTick => first | k_is | rfl | decide +kernel)
    (case sb_TooMany_NoTick => first | k_is | rfl | decide +kernel)
    (case sb_TooMuch_NoTick => first | k_is | rfl | decide +kernel)
    (case sb_NoText_NoTick => first | k_is | rfl | decide +kernel)
    (case sb_NoBook_NoTick => first | k_is | rfl | decide +kernel)
    (case sb_NoneType_NoTick => first | k_is | rfl | decide +kernel)
    (case sb_NoJar_NoLane => first | k_is | rfl | decide +kernel)
    (case sb_NoLane_NoLane => first | k_is | rfl | decide +kernel)
    (case sb_NoTick_NoLane => first | k_is | rfl | decide +kernel)
    (case sb_NoName_NoLane => first | k_is | rfl | decide +kernel)
    (case sb_Taken_NoLane => first | k_is | rfl | decide +kernel)
    (case sb_Unknown_NoLane => first | k_is | rfl | decide +kernel)
    (case sb_NoWay_NoLane => first | k_is | rfl | decide +kernel)
    (case sb_NoLot_NoLane => first | k_is | rfl | decide +kernel)
    (case sb_TooMany_NoLane => first | k_is | rfl | decide +kernel)
    (case sb_TooMuch_NoLane => first | k_is | rfl | decide +kernel)
    (case sb_NoText_NoLane => first | k_is | rfl | decide +kernel)
    (case sb_NoBook_NoLane => first | k_is | rfl | decide +kernel)
    (case sb_NoneType_NoLane => first | k_is | rfl | decide +kernel)
    (case sb_NoJar_NoName => first | k_is | rfl | decide +kernel)
    (case sb_NoName_NoName => first | k_is | rfl | decide +kernel)
    (case sb_NoTick_NoName => first | k_is | rfl | decide +kernel)
    (case sb_NoLane_NoName => first | k_is | rfl | decide +kernel)
    (case sb_Taken_NoName => first | k_is | rfl | decide +kernel)
    (case sb_Unknown_NoName => first | k_is | rfl | decide +kernel)
    (case sb_NoWay_NoName => first | k_is | rfl | decide +kernel)
    (case sb_NoLot_NoName => first | k_is | rfl | decide +kernel)
    (case sb_TooMany_NoName => first | k_is | rfl | decide +kernel)
    (case sb_TooMuch_NoName => first | k_is | rfl | decide +kernel)
    (case sb_NoText_NoName => first | k_is | rfl | decide +kernel)
    (case sb_NoBook_NoName => first | k_is | rfl | decide +kernel)
    (case sb_NoneType_NoName => first | k_is | rfl | decide +kernel)
    (case sb_NoJar_Taken => first | k_is | rfl | decide +kernel)
    (case sb_Taken_Taken => first | k_is | rfl | decide +kernel)
    (case sb_NoTick_Taken => first | k_is | rfl | decide +kernel)
    (case sb_NoLane_Taken => first | k_is | rfl | decide +kernel)
    (case sb_NoName_Taken => first | k_is | rfl | decide +kernel)
    (case sb_Unknown_Taken => first | k_is | rfl | decide +kernel)
    (case sb_NoWay_Taken => first | k_is | rfl | decide +kernel)
    (case sb_NoLot_Taken => first | k_is | rfl | decide +kernel)
    (case sb_TooMany_Taken => first | k_is | rfl | decide +kernel)
    (case sb_TooMuch_Taken => first | k_is | rfl | decide +kernel)
    (case sb_NoText_Taken => first | k_is | rfl | decide +kernel)
    (case sb_NoBook_Taken => first | k_is | rfl | decide +kernel)
    (case sb_NoneType_Taken => first | k_is | rfl | decide +kernel)
    (case sb_NoJar_Unknown => first | k_is | rfl | decide +kernel)
    (case sb_Unknown_Unknown => first | k_is | rfl | decide +kernel)
    (case sb_NoTick_Unknown => first | k_is | rfl | decide +kernel)
    (case sb_NoLane_Unknown => first | k_is | rfl | decide +kernel)
    (case sb_NoName_Unknown => first | k_is | rfl | decide +kernel)
    (case sb_Taken_Unknown => first | k_is | rfl | decide +kernel)
    (case sb_NoWay_Unknown => first | k_is | rfl | decide +kernel)
    (case sb_NoLot_Unknown => first | k_is | rfl | decide +kernel)
    (case sb_TooMany_Unknown => first | k_is | rfl | decide +kernel)
    (case sb_TooMuch_Unknown => first | k_is | rfl | decide +kernel)
    (case sb_NoText_Unknown => first | k_is | rfl | decide +kernel)
    (case sb_NoBook_Unknown => first | k_is | rfl | decide +kernel)
    (case sb_NoneType_Unknown => first | k_is | rfl | decide +kernel)
    (case sb_NoJar_NoWay => first | k_is | rfl | decide +kernel)
    (case sb_NoWay_NoWay => first | k_is | rfl | decide +kernel)
    (case sb_NoTick_NoWay => first | k_is | rfl | decide +kernel)
    (case sb_NoLane_NoWay => first | k_is | rfl | decide +kernel)
    (case sb_NoName_NoWay => first | k_is | rfl | decide +kernel)
    (case sb_Taken_NoWay => first | k_is | rfl | decide +kernel)
    (case sb_Unknown_NoWay => first | k_is | rfl | decide +kernel)
    (case sb_NoLot_NoWay => first | k_is | rfl | decide +kernel)
    (case sb_TooMany_NoWay => first | k_is | rfl | decide +kernel)
    (case sb_TooMuch_NoWay => first | k_is | rfl | decide +kernel)
    (case sb_NoText_NoWay => first | k_is | rfl | decide +kernel)
    (case sb_NoBook_NoWay => first | k_is | rfl | decide +kernel)
    (case sb_NoneType_NoWay => first | k_is | rfl | decide +kernel)
    (case sb_NoJar_NoLot => first | k_is | rfl | decide +kernel)
    (case sb_NoLot_NoLot => first | k_is | rfl | decide +kernel)
    (case sb_NoTick_NoLot => first | k_is | rfl | decide +kernel)
    (case sb_NoLane_NoLot => first | k_is | rfl | decide +kernel)
    (case sb_NoName_NoLot => first | k_is | rfl | decide +kernel)
    (case sb_Taken_NoLot => first | k_is | rfl | decide +kernel)
    (case sb_Unknown_NoLot => first | k_is | rfl | decide +kernel)
    (case sb_NoWay_NoLot => first | k_is | rfl | decide +kernel)
    (case sb_TooMany_NoLot => first | k_is | rfl | decide +kernel)
    (case sb_TooMuch_NoLot => first | k_is | rfl | decide +kernel)
    (case sb_NoText_NoLot => first | k_is | rfl | decide +kernel)
    (case sb_NoBook_NoLot => first | k_is | rfl | decide +kernel)
    (case sb_NoneType_NoLot => first | k_is | rfl | decide +kernel)
    (case sb_NoJar_TooMany => first | k_is | rfl | decide +kernel)
    (case sb_TooMany_TooMany => first | k_is | rfl | decide +kernel)
    (case sb_NoTick_TooMany => first | k_is | rfl | decide +kernel)
    (case sb_NoLane_TooMany => first | k_is | rfl | decide +kernel)
    (case sb_NoName_TooMany => first | k_is | rfl | decide +kernel)
    (case sb_Taken_TooMany => first | k_is | rfl | decide +kernel)
    (case sb_Unknown_TooMany => first | k_is | rfl | decide +kernel)
    (case sb_NoWay_TooMany => first | k_is | rfl | decide +kernel)
    (case sb_NoLot_TooMany => first | k_is | rfl | decide +kernel)
    (case sb_TooMuch_TooMany => first | k_is | rfl | decide +kernel)
    (case sb_NoText_TooMany => first | k_is | rfl | decide +kernel)
    (case sb_NoBook_TooMany => first | k_is | rfl | decide +kernel)
    (case sb_NoneType_TooMany => first | k_is | rfl | decide +kernel)
    (case sb_NoJar_TooMuch => first | k_is | rfl | decide +kernel)
    (case sb_TooMuch_TooMuch => first | k_is | rfl | decide +kernel)
    (case sb_NoTick_TooMuch => first | k_is | rfl | decide +kernel)
    (case sb_NoLane_TooMuch => first | k_is | rfl | decide +kernel)
    (case sb_NoName_TooMuch => first | k_is | rfl | decide +kernel)
    (case sb_Taken_TooMuch => first | k_is | rfl | decide +kernel)
    (case sb_Unknown_TooMuch => first | k_is | rfl | decide +kernel)
    (case sb_NoWay_TooMuch => first | k_is | rfl | decide +kernel)
    (case sb_NoLot_TooMuch => first | k_is | rfl | decide +kernel)
    (case sb_TooMany_TooMuch => first | k_is | rfl | decide +kernel)
    (case sb_NoText_TooMuch => first | k_is | rfl | decide +kernel)
    (case sb_NoBook_TooMuch => first | k_is | rfl | decide +kernel)
    (case sb_NoneType_TooMuch => first | k_is | rfl | decide +kernel)
    (case sb_NoJar_NoText => first | k_is | rfl | decide +kernel)
    (case sb_NoText_NoText => first | k_is | rfl | decide +kernel)
    (case sb_NoTick_NoText => first | k_is | rfl | decide +kernel)
    (case sb_NoLane_NoText => first | k_is | rfl | decide +kernel)
    (case sb_NoName_NoText => first | k_is | rfl | decide +kernel)
    (case sb_Taken_NoText => first | k_is | rfl | decide +kernel)
    (case sb_Unknown_NoText => first | k_is | rfl | decide +kernel)
    (case sb_NoWay_NoText => first | k_is | rfl | decide +kernel)
    (case sb_NoLot_NoText => first | k_is | rfl | decide +kernel)
    (case sb_TooMany_NoText => first | k_is | rfl | decide +kernel)
    (case sb_TooMuch_NoText => first | k_is | rfl | decide +kernel)
    (case sb_NoBook_NoText => first | k_is | rfl | decide +kernel)
    (case sb_NoneType_NoText => first | k_is | rfl | decide +kernel)
    (case sb_NoJar_NoBook => first | k_is | rfl | decide +kernel)
    (case sb_NoBook_NoBook => first | k_is | rfl | decide +kernel)
    (case sb_NoTick_NoBook => first | k_is | rfl | decide +kernel)
    (case sb_NoLane_NoBook => first | k_is | rfl | decide +kernel)
    (case sb_NoName_NoBook => first | k_is | rfl | decide +kernel)
    (case sb_Taken_NoBook => first | k_is | rfl | decide +kernel)
    (case sb_Unknown_NoBook => first | k_is | rfl | decide +kernel)
    (case sb_NoWay_NoBook => first | k_is | rfl | decide +kernel)
    (case sb_NoLot_NoBook => first | k_is | rfl | decide +kernel)
    (case sb_TooMany_NoBook => first | k_is | rfl | decide +kernel)
    (case sb_TooMuch_NoBook => first | k_is | rfl | decide +kernel)
    (case sb_NoText_NoBook => first | k_is | rfl | decide +kernel)
    (case sb_NoneType_NoBook => first | k_is | rfl | decide +kernel)
    (case sb_NoJar_LaneError => first | k_is | rfl | decide +kernel)
    (case sb_LaneError_LaneError => first | k_is | rfl | decide +kernel)
    (case xhd_LaneError => k_is)
    (case xt0_LaneError => k_is)
    (case sb_NoTick_LaneError => first | k_is | rfl | decide +kernel)
    (case sb_NoLane_LaneError => first | k_is | rfl | decide +kernel)
    (case sb_NoName_LaneError => first | k_is | rfl | decide +kernel)
    (case sb_Taken_LaneError => first | k_is | rfl | decide +kernel)
    (case sb_Unknown_LaneError => first | k_is | rfl | decide +kernel)
    (case sb_NoWay_LaneError => first | k_is | rfl | decide +kernel)
    (case sb_NoLot_LaneError => first | k_is | rfl | decide +kernel)
    (case sb_TooMany_LaneError => first | k_is | rfl | decide +kernel)
    (case sb_TooMuch_LaneError => first | k_is | rfl | decide +kernel)
    (case sb_NoText_LaneError => first | k_is | rfl | decide +kernel)
    (case sb_NoBook_LaneError => first | k_is | rfl | decide +kernel)
    (case sb_NoneType_LaneError => first | k_is | rfl | decide +kernel)
    (case sb_NoJar_ValueError => first | k_is | rfl | decide +kernel)
    (case km_NoJar_ValueError => first | rfl | decide +kernel)
    (case sb_NoTick_ValueError => first | k_is | rfl | decide +kernel)
    (case km_NoTick_ValueError => first | rfl | decide +kernel)
    (case sb_NoLane_ValueError => first | k_is | rfl | decide +kernel)
    (case km_NoLane_ValueError => first | rfl | decide +kernel)
    (case sb_NoName_ValueError => first | k_is | rfl | decide +kernel)
    (case km_NoName_ValueError => first | rfl | decide +kernel)
    (case sb_Taken_ValueError => first | k_is | rfl | decide +kernel)
    (case km_Taken_ValueError => first | rfl | decide +kernel)
    (case sb_Unknown_ValueError => first | k_is | rfl | decide +kernel)
    (case km_Unknown_ValueError => first | rfl | decide +kernel)
    (case sb_NoWay_ValueError => first | k_is | rfl | decide +kernel)
    (case km_NoWay_ValueError => first | rfl | decide +kernel)
    (case sb_NoLot_ValueError => first | k_is | rfl | decide +kernel)
    (case km_NoLot_ValueError => first | rfl | decide +kernel)
    (case sb_TooMany_ValueError => first | k_is | rfl | decide +kernel)
    (case km_TooMany_ValueError => first | rfl | decide +kernel)
    (case sb_TooMuch_ValueError => first | k_is | rfl | decide +kernel)
    (case km_TooMuch_ValueError => first | rfl | decide +kernel)
    (case sb_NoText_ValueError => first | k_is | rfl | decide +kernel)
    (case km_NoText_ValueError => first | rfl | decide +kernel)
    (case sb_NoBook_ValueError => first | k_is | rfl | decide +kernel)
    (case km_NoBook_ValueError => first | rfl | decide +kernel)
    (case z_ValueError => k_is)
    (case xq_NoJar => k_exc)
    (case xq_NoTick => k_exc)
    (case xq_NoLane => k_exc)
    (case xL_NoName => k_is)
    (case xr_NoName => first | rfl | decide +kernel | k_is)
    (case xsa_NoName => k_is)
    (case xi_NoName => k_is)
    (case xti_NoName => k_is)
    (case xki_NoName => k_is)
    (case xl_NoName => k_is)
    (case xc_NoName => k_is)
    (case xn_NoName_name => k_is)
    (case xL_Taken => k_is)
    (case xr_Taken => first | rfl | decide +kernel | k_is)
    (case xsa_Taken => k_is)
    (case xi_Taken => k_is)
    (case xti_Taken => k_is)
    (case xki_Taken => k_is)
    (case xl_Taken => k_is)
    (case xc_Taken => k_is)
    (case xn_Taken_name => k_is)
    (case xL_Unknown => k_is)
    (case xr_Unknown => first | rfl | decide +kernel | k_is)
    (case xsa_Unknown => k_is)
    (case xi_Unknown => k_is)
    (case xti_Unknown => k_is)
    (case xki_Unknown => k_is)
    (case xl_Unknown => k_is)
    (case xc_Unknown => k_is)
    (case xn_Unknown_name => k_is)
    (case yA_NoName_name => k_is)
    (case yA_Taken_name => k_is)
    (case yA_Unknown_name => k_is)
    (case yA_TooMany_name => k_is)
    (case xL_NoWay => k_is)
    (case xr_NoWay => first | rfl | decide +kernel | k_is)
    (case xsa_NoWay => k_is)
    (case xi_NoWay => k_is)
    (case xti_NoWay => k_is)
    (case xki_NoWay => k_is)
    (case xl_NoWay => k_is)
    (case xc_NoWay => k_is)
    (case xn_NoWay_place => k_is)
    (case xL_NoLot => k_is)
    (case xr_NoLot => first | rfl | decide +kernel | k_is)
    (case xsa_NoLot => k_is)
    (case xi_NoLot => k_is)
    (case xti_NoLot => k_is)
    (case xki_NoLot => k_is)
    (case xl_NoLot => k_is)
    (case xc_NoLot => k_is)
    (case xn_NoLot_place => k_is)
    (case yA_NoWay_place => k_is)
    (case yA_NoLot_place => k_is)
    (case xL_NoText => k_is)
    (case xr_NoText => first | rfl | decide +kernel | k_is)
    (case xsa_NoText => k_is)
    (case xi_NoText => k_is)
    (case xti_NoText => k_is)
    (case xki_NoText => k_is)
    (case xl_NoText => k_is)
    (case xc_NoText => k_is)
    (case xn_NoText_row => k_is)
    (case xL_NoBook => k_is)
    (case xr_NoBook => first | rfl | decide +kernel | k_is)
    (case xsa_NoBook => k_is)
    (case xi_NoBook => k_is)
    (case xti_NoBook => k_is)
    (case xki_NoBook => k_is)
    (case xl_NoBook => k_is)
    (case xc_NoBook => k_is)
    (case xn_NoBook_row => k_is)
    (case yA_NoText_row => k_is)
    (case yA_NoBook_row => k_is)
    (case xL_TooMany => k_is)
    (case xr_TooMany => first | rfl | decide +kernel | k_is)
    (case xsa_TooMany => k_is)
    (case xi_TooMany => k_is)
    (case xti_TooMany => k_is)
    (case xki_TooMany => k_is)
    (case xl_TooMany => k_is)
    (case xc_TooMany => k_is)
    (case xn_TooMany_name => k_is)
    (case xn_TooMany_bound => k_is)
    (case yA_TooMany_bound => k_is)
    (case xL_TooMuch => k_is)
    (case xr_TooMuch => first | rfl | decide +kernel | k_is)
    (case xsa_TooMuch => k_is)
    (case xi_TooMuch => k_is)
    (case xti_TooMuch => k_is)
    (case xki_TooMuch => k_is)
    (case xl_TooMuch => k_is)
    (case xc_TooMuch => k_is)
    (case xn_TooMuch_lane => k_is)
    (case xn_TooMuch_first => k_is)
    (case xn_TooMuch_end => k_is)
    (case xn_TooMuch_rows => k_is)
    (case z_list => k_is)
    (case yA_TooMuch_lane => k_is)
    (case yA_TooMuch_first => k_is)
    (case yA_TooMuch_end => k_is)
    (case yA_TooMuch_rows => k_is)
    (case v_MOST => k_is)
    (case pg_Jar => k_is)
    (case hd_Jar => k_is)
    (case po_Jar => k_is)
    (case sa_Jar => k_is)
    (case yA_Jar_size => k_is)
    (case yA_Jar_rate => k_is)
    (case yA_Jar_mouth => k_is)
    (case pg_Flow => k_is)
    (case hd_Flow => k_is)
    (case po_Flow => k_is)
    (case sa_Flow => k_is)
    (case yA_Flow_jar => k_is)
    (case yA_Flow_marks => k_is)
    (case z_min => k_is)
    (case mk_Jar => k_is)
    (case mkk_Jar => k_is)
    (case mk_Flow => k_is)
    (case mkk_Flow => k_is)
    (case xk_LaneError => k_is)
    (case xs_LaneError => k_is)
    (case xt_LaneError => k_is)
