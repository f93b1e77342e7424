import PyProof.Rows.All
import Wide.All
import OpenK.AllK
import Wide.FinOn
import HandS.ForMost
import HandS.ForExc
import HandS.Wide
import HandS.IsInst
import HandS.Defaults
import HandS.Walk
import HandS.Small
import HandS.SortInts
import HandS.SortRule
import HandS.TupAny
import KE.GoesMore
import HandS.Conv
import KE.DataMinMax
import HandS.SortKw
import HandS.TupSets
import HandS.SetFor
import HandS.Strs
import HandS.ExcInit
import HandS.TryMany
import HandS.ExcValue
import HandS.CallSlots
import KE.KExcIs
import HandS.Style
import HandS.Flt
import HandS.TupLe
import HandS.More
import HandS.Text
import HandS.OwnEq
import HandS.FStr
import KE.KCallOwn
import KE.KFmtOwn
import HandS.NoneIn
import KE.IntTextLaws
import KE.KIntText
import KE.OsRunLaw
import PySem.Challenge.RW_hourlanes_k50_lanes_built
set_option Elab.async false
set_option linter.all false
set_option maxRecDepth 100000
set_option maxHeartbeats 4000000
namespace Hl
open PySem L2
/-! ### data: what a value is worth, by its content -/
inductive D where
  | non | bl (b : Bool) | int (i : Int) | str (x : Str) | lst (ds : List D) | tup (ds : List D) | obj (C : Addr) (ns : List Str) (ds : List D) | raw (v : V) | scr (K : PySem.W.Frag) (ns : List Int) | exn (C : Addr) (ns : List Str) (ds : List D) | fd (ks : List Key) (ds : List D) | hp (a : Addr) (o : HO)
/-- an exception's object, held -/
def XO (cls : Value) (d : Option Addr) (a : Addr) : HO := .ext fun h => ∃ (oe : Obj) (vs : Array Value), h.get? a = some oe ∧ Zc cls d oe ∧ oe.data = .fields vs
mutual
inductive Rep (F : List Addr) (H : Hp) : V → D → Prop
  | non : Rep F H .non .non
  | bl (b : Bool) : Rep F H (.bl b) (.bl b)
  | int (i : Int) : Rep F H (.int i) (.int i)
  | str (x : Str) : Rep F H (.str x) (.str x)
  | lst {a : Addr} {vs : List V} {ds : List D} : a ∉ F → H a = some (.lst vs) → Reps F H vs ds → Rep F H (.ref a) (.lst ds)
  | tup {a : Addr} {vs : List V} {ds : List D} : a ∉ F → H a = some (.tup vs) → Reps F H vs ds → Rep F H (.ref a) (.tup ds)
  | obj {a C dx : Addr} {ns : List Str} {vs : List V} {ds : List D} : a ∉ F → H a = some (.ins C dx (ns.zip vs)) → ns.length = vs.length → Reps F H vs ds → Rep F H (.ref a) (.obj C ns ds)
  | raw (v : V) : Rep F H v (.raw v)
  | scrH {a : Addr} {K : PySem.W.Frag} {ns : List Int} : a ∉ F → Rd H a (.lst (ns.map V.int)) → Rep F H (.ref a) (.scr K ns)
  | scrK {a : Addr} {K : PySem.W.Frag} {ns : List Int} : (∀ H', SqL K H' a (ns.map V.int)) → Rep F H (.ref a) (.scr K ns)
  | exn0 {a C : Addr} : a ∉ F → H a = some (XO (.ref C) none a) → Rep F H (.ref a) (.exn C [] [])
  | exn {a C d : Addr} {ns : List Str} {vs : List V} {ds : List D} : a ∉ F → H a = some (XO (.ref C) (some d) a) → d ∉ F → H d = some (.xd (ns.zip vs)) → ns.length = vs.length → Reps F H vs ds → Rep F H (.ref a) (.exn C ns ds)
  | fd {a : Addr} {o : Obj} {ws : List (Key × V)} {ks : List Key} {vs : List V} {ds : List D} : a ∉ F → H a = some (.frz o (.dK ws)) → ws.map (·.1) = ks → ws.map (·.2) = vs → Reps F H vs ds → Rep F H (.ref a) (.fd ks ds)
  | hp {a : Addr} {o : HO} : a ∉ F → H a = some o → Rep F H (.ref a) (.hp a o)
inductive Reps (F : List Addr) (H : Hp) : List V → List D → Prop
  | nil : Reps F H [] []
  | cons {v : V} {d : D} {vs : List V} {ds : List D} : Rep F H v d → Reps F H vs ds → Reps F H (v :: vs) (d :: ds)
end
/-- from F, H to F', H': what is read beside F stays -/
def Fwd (F : List Addr) (H : Hp) (F' : List Addr) (H' : Hp) : Prop := ∀ a o, a ∉ F → H a = some o → a ∉ F' ∧ H' a = some o
theorem Fwd.refl {F : List Addr} {H : Hp} : Fwd F H F H := fun _ _ h e => ⟨h, e⟩
theorem Fwd.trans {F F1 F2 : List Addr} {H H1 H2 : Hp} (x : Fwd F H F1 H1) (y : Fwd F1 H1 F2 H2) : Fwd F H F2 H2 := fun a o h e => let ⟨h1, e1⟩ := x a o h e; y a o h1 e1
theorem Fwd.new {F : List Addr} {H : Hp} {p : Addr} {o : HO} (h : H p = none) : Fwd F H F (upd H p o) := fun a u ha e => ⟨ha, by rw [upd_ne (ne_of_none e h)]; exact e⟩
theorem Fwd.less {F F' : List Addr} {H : Hp} (h : ∀ a ∈ F', a ∈ F) : Fwd F H F' H := fun a o ha e => ⟨fun z => ha (h a z), e⟩
theorem Fwd.same {F : List Addr} {H H' : Hp} (h : ∀ a, a ∉ F → H' a = H a) : Fwd F H F H' := fun a o ha e => ⟨ha, by rw [h a ha]; exact e⟩
mutual
theorem Rep.fwd {F F' : List Addr} {H H' : Hp} (k : Fwd F H F' H') : ∀ {v : V} {d : D}, Rep F H v d → Rep F' H' v d
  | _, _, .non => .non
  | _, _, .bl b => .bl b
  | _, _, .int i => .int i
  | _, _, .str x => .str x
  | _, _, .lst h e r => .lst (k _ _ h e).1 (k _ _ h e).2 (Reps.fwd k r)
  | _, _, .tup h e r => .tup (k _ _ h e).1 (k _ _ h e).2 (Reps.fwd k r)
  | _, _, .obj h e l r => .obj (k _ _ h e).1 (k _ _ h e).2 l (Reps.fwd k r)
  | _, _, .raw v => .raw v
  | _, _, .scrH h (.inl e) => .scrH (k _ _ h e).1 (.inl (k _ _ h e).2)
  | _, _, .scrH h (.inr ⟨o, e⟩) => .scrH (k _ _ h e).1 (.inr ⟨o, (k _ _ h e).2⟩)
  | _, _, .scrK h => .scrK h
  | _, _, .exn0 h e => .exn0 (k _ _ h e).1 (k _ _ h e).2
  | _, _, .exn h e h2 e2 l r => .exn (k _ _ h e).1 (k _ _ h e).2 (k _ _ h2 e2).1 (k _ _ h2 e2).2 l (Reps.fwd k r)
  | _, _, .fd h e e1 e2 r => .fd (k _ _ h e).1 (k _ _ h e).2 e1 e2 (Reps.fwd k r)
  | _, _, .hp h e => .hp (k _ _ h e).1 (k _ _ h e).2
theorem Reps.fwd {F F' : List Addr} {H H' : Hp} (k : Fwd F H F' H') : ∀ {vs : List V} {ds : List D}, Reps F H vs ds → Reps F' H' vs ds
  | _, _, .nil => .nil
  | _, _, .cons a b => .cons (Rep.fwd k a) (Reps.fwd k b)
end
theorem Reps.length {F : List Addr} {H : Hp} : ∀ {vs : List V} {ds : List D}, Reps F H vs ds → vs.length = ds.length
  | _, _, .nil => rfl
  | _, _, .cons _ b => by simp [Reps.length b]
theorem Reps.get {F : List Addr} {H : Hp} : ∀ {vs : List V} {ds : List D} {i : Nat} {v : V}, Reps F H vs ds → vs[i]? = some v → ∃ d, ds[i]? = some d ∧ Rep F H v d
  | _, _, _, _, .nil, e => by simp at e
  | _, _, 0, _, .cons r _, e => by simp at e; subst e; exact ⟨_, rfl, r⟩
  | _, _, i + 1, v, .cons _ t, e => by
    obtain ⟨u, h1, h2⟩ := Reps.get (i := i) (v := v) t (by simpa using e)
    exact ⟨u, by simpa using h1, h2⟩
theorem Reps.get' {F : List Addr} {H : Hp} : ∀ {vs : List V} {ds : List D} {i : Nat} {d : D}, Reps F H vs ds → ds[i]? = some d → ∃ v, vs[i]? = some v ∧ Rep F H v d
  | _, _, _, _, .nil, e => by simp at e
  | _, _, 0, _, .cons r _, e => by simp at e; subst e; exact ⟨_, rfl, r⟩
  | _, _, i + 1, v, .cons _ t, e => by
    obtain ⟨u, h1, h2⟩ := Reps.get' (i := i) (d := v) t (by simpa using e)
    exact ⟨u, by simpa using h1, h2⟩
theorem Reps.append {F : List Addr} {H : Hp} : ∀ {vs ws : List V} {ds es : List D}, Reps F H vs ds → Reps F H ws es → Reps F H (vs ++ ws) (ds ++ es)
  | _, _, _, _, .nil, s => s
  | _, _, _, _, .cons r t, s => .cons r (Reps.append t s)
theorem Reps.set {F : List Addr} {H : Hp} {v : V} {d : D} (r : Rep F H v d) : ∀ {vs : List V} {ds : List D} (i : Nat), Reps F H vs ds → Reps F H (vs.set i v) (ds.set i d)
  | _, _, _, .nil => .nil
  | _, _, 0, .cons _ t => .cons r t
  | _, _, i + 1, .cons q t => .cons q (Reps.set r i t)
theorem Reps.take {F : List Addr} {H : Hp} : ∀ {vs : List V} {ds : List D} (n : Nat), Reps F H vs ds → Reps F H (vs.take n) (ds.take n)
  | _, _, 0, _ => .nil
  | _, _, _ + 1, .nil => .nil
  | _, _, n + 1, .cons r t => .cons r (Reps.take n t)
theorem Reps.drop {F : List Addr} {H : Hp} : ∀ {vs : List V} {ds : List D} (n : Nat), Reps F H vs ds → Reps F H (vs.drop n) (ds.drop n)
  | _, _, 0, r => r
  | _, _, _ + 1, .nil => .nil
  | _, _, n + 1, .cons _ t => Reps.drop n t
theorem Reps.erase {F : List Addr} {H : Hp} : ∀ {vs : List V} {ds : List D} (n : Nat), Reps F H vs ds → Reps F H (vs.eraseIdx n) (ds.eraseIdx n)
  | _, _, _, .nil => .nil
  | _, _, 0, .cons _ t => t
  | _, _, n + 1, .cons r t => .cons r (Reps.erase n t)
theorem Reps.ints {F : List Addr} {H : Hp} : ∀ {vs : List V} {ns : List Int}, Reps F H vs (ns.map D.int) → vs = ns.map V.int
  | _, [], .nil => rfl
  | _, n :: ns, .cons r t => by cases r; rw [Reps.ints t]; rfl
theorem Reps.ofInts {F : List Addr} {H : Hp} : ∀ (ns : List Int), Reps F H (ns.map V.int) (ns.map D.int)
  | [] => .nil
  | n :: ns => .cons (.int n) (Reps.ofInts ns)
theorem Reps.strs {F : List Addr} {H : Hp} : ∀ {vs : List V} {ns : List Str}, Reps F H vs (ns.map D.str) → vs = ns.map V.str
  | _, [], .nil => rfl
  | _, n :: ns, .cons r t => by cases r; rw [Reps.strs t]; rfl
theorem Reps.bls {F : List Addr} {H : Hp} : ∀ {vs : List V} {ns : List Bool}, Reps F H vs (ns.map D.bl) → vs = ns.map V.bl
  | _, [], .nil => rfl
  | _, n :: ns, .cons r t => by cases r; rw [Reps.bls t]; rfl
/-! ### what may change: cells -/
inductive SC where
  | lst (ds : List D) | obj (C : Addr) (ns : List Str) (ds : List D) | dct (kvs : List (Key × D)) | fdc (o : Obj) (ws : List (Key × V)) (kvs : List (Key × D))
/-- a cell: a list, an object, a dict, the draws' state, or a thing with its parts -/
inductive Cell where
  | lst (ds : List D) | obj (C : Addr) (ns : List Str) (ds : List D) | dct (kvs : List (Key × D)) | fdc (o : Obj) (ws : List (Key × V)) (kvs : List (Key × D)) | st (g : Addr) (b : Nat) | grp (c : SC) (N : List (Addr × SC))
def SC.up : SC → Cell
  | .lst ds => .lst ds
  | .obj C ns ds => .obj C ns ds
  | .dct kvs => .dct kvs
  | .fdc o ws kvs => .fdc o ws kvs
def own (a : Addr) : Cell → List Addr
  | .st g _ => [a, g]
  | .grp _ N => a :: N.map (·.1)
  | _ => [a]
abbrev Mem := List (Addr × Cell)
def Mem.F (M : Mem) : List Addr := M.flatMap fun p => own p.1 p.2
/-- the draws' state -/
def StAt (F : List Addr) (H : Hp) (s g : Addr) (b : Nat) : Prop :=
  ∃ (c : Addr) (r t e : Int) (gs cs : List Int), c ∉ F ∧
    H s = some (.dK [(.inr "great", .ref g), (.inr "rest", .int r), (.inr "turn", .int t), (.inr "seed", .int e), (.inr "cells", .ref c)]) ∧
    H g = some (.lst (gs.map V.int)) ∧ H c = some (.lst (cs.map V.int)) ∧ (∀ x ∈ gs, 0 < x) ∧ 0 ≤ r ∧ 0 ≤ t ∧ t + (b : Int) ≤ 1000000000000 ∧ 0 ≤ e ∧ e < 2147483647 ∧ (∀ x ∈ cs, 0 ≤ x ∧ x < 2147483629) ∧ 0 < cs.length ∧ cs.length ≤ 100
def SOk (F : List Addr) (H : Hp) (a : Addr) : SC → Prop
  | .lst ds => ∃ vs, H a = some (.lst vs) ∧ Reps F H vs ds
  | .obj C ns ds => ∃ dx vs, H a = some (.ins C dx (ns.zip vs)) ∧ ns.length = vs.length ∧ Reps F H vs ds
  | .dct kvs => ∃ ws : List (Key × V), H a = some (.dK ws) ∧ ws.map (·.1) = kvs.map (·.1) ∧ Reps F H (ws.map (·.2)) (kvs.map (·.2))
  | .fdc o ws kvs => H a = some (.frz o (.dK ws)) ∧ ws.map (·.1) = kvs.map (·.1) ∧ Reps F H (ws.map (·.2)) (kvs.map (·.2))
theorem SOk.some {F : List Addr} {H : Hp} {a : Addr} {c : SC} (h : SOk F H a c) : ∃ o, H a = some o := by
  cases c with
  | lst ds => obtain ⟨vs, e, _⟩ := h; exact ⟨_, e⟩
  | obj C ns ds => obtain ⟨dx, vs, e, _⟩ := h; exact ⟨_, e⟩
  | dct kvs => obtain ⟨ws, e, _⟩ := h; exact ⟨_, e⟩
  | fdc o ws kvs => exact ⟨_, h.1⟩
theorem SOk.fwd {F F' : List Addr} {H H' : Hp} {a : Addr} {c : SC} (h : SOk F H a c) (k : Fwd F H F' H') (e : H' a = H a) : SOk F' H' a c := by
  cases c with
  | lst ds => obtain ⟨vs, e1, r⟩ := h; exact ⟨vs, by rw [e]; exact e1, r.fwd k⟩
  | obj C ns ds => obtain ⟨dx, vs, e1, l, r⟩ := h; exact ⟨dx, vs, by rw [e]; exact e1, l, r.fwd k⟩
  | dct kvs => obtain ⟨ws, e1, l, r⟩ := h; exact ⟨ws, by rw [e]; exact e1, l, r.fwd k⟩
  | fdc o ws kvs => obtain ⟨e1, l, r⟩ := h; exact ⟨by rw [e]; exact e1, l, r.fwd k⟩
def CellOk (F : List Addr) (H : Hp) (a : Addr) : Cell → Prop
  | .grp c N => SOk F H a c ∧ ∀ p ∈ N, SOk F H p.1 p.2
  | .lst ds => ∃ vs, H a = some (.lst vs) ∧ Reps F H vs ds
  | .obj C ns ds => ∃ dx vs, H a = some (.ins C dx (ns.zip vs)) ∧ ns.length = vs.length ∧ Reps F H vs ds
  | .dct kvs => ∃ ws : List (Key × V), H a = some (.dK ws) ∧ ws.map (·.1) = kvs.map (·.1) ∧ Reps F H (ws.map (·.2)) (kvs.map (·.2))
  | .fdc o ws kvs => H a = some (.frz o (.dK ws)) ∧ ws.map (·.1) = kvs.map (·.1) ∧ Reps F H (ws.map (·.2)) (kvs.map (·.2))
  | .st g b => StAt F H a g b
theorem CellOk.some {F : List Addr} {H : Hp} {a : Addr} {c : Cell} (h : CellOk F H a c) : ∀ x ∈ own a c, ∃ o, H x = some o := by
  cases c with
  | lst ds => obtain ⟨vs, e, _⟩ := h; intro x hx; simp [own] at hx; subst hx; exact ⟨_, e⟩
  | obj C ns ds => obtain ⟨dx, vs, e, _⟩ := h; intro x hx; simp [own] at hx; subst hx; exact ⟨_, e⟩
  | dct kvs => obtain ⟨ws, e, _⟩ := h; intro x hx; simp [own] at hx; subst hx; exact ⟨_, e⟩
  | fdc o ws kvs => intro x hx; simp [own] at hx; subst hx; exact ⟨_, h.1⟩
  | grp c N =>
    intro x hx
    rcases List.mem_cons.mp hx with rfl | hx
    · exact h.1.some
    · obtain ⟨p, hp, rfl⟩ := List.mem_map.mp hx; exact (h.2 p hp).some
  | st g b =>
    obtain ⟨c, r, t, e, gs, cs, _, h1, h2, _⟩ := h
    intro x hx; simp [own] at hx
    rcases hx with rfl | rfl
    · exact ⟨_, h1⟩
    · exact ⟨_, h2⟩
theorem CellOk.fwd {F F' : List Addr} {H H' : Hp} {a : Addr} {c : Cell} (h : CellOk F H a c) (k : Fwd F H F' H') (e : ∀ x ∈ own a c, H' x = H x) : CellOk F' H' a c := by
  cases c with
  | lst ds => obtain ⟨vs, e1, r⟩ := h; exact ⟨vs, by rw [e a (by simp [own])]; exact e1, r.fwd k⟩
  | obj C ns ds => obtain ⟨dx, vs, e1, l, r⟩ := h; exact ⟨dx, vs, by rw [e a (by simp [own])]; exact e1, l, r.fwd k⟩
  | dct kvs => obtain ⟨ws, e1, l, r⟩ := h; exact ⟨ws, by rw [e a (by simp [own])]; exact e1, l, r.fwd k⟩
  | fdc o ws kvs => obtain ⟨e1, l, r⟩ := h; exact ⟨by rw [e a (by simp [own])]; exact e1, l, r.fwd k⟩
  | grp c N => exact ⟨h.1.fwd k (e a List.mem_cons_self), fun p hp => (h.2 p hp).fwd k (e p.1 (List.mem_cons_of_mem _ (List.mem_map.mpr ⟨p, hp, rfl⟩)))⟩
  | st g b =>
    obtain ⟨c, r, t, z, gs, cs, h0, h1, h2, h3, h4⟩ := h
    exact ⟨c, r, t, z, gs, cs, (k _ _ h0 h3).1, by rw [e a (by simp [own])]; exact h1, by rw [e g (by simp [own])]; exact h2, (k _ _ h0 h3).2, h4⟩
def SlotOk (F : List Addr) (H : Hp) (ov : Option V) (od : Option D) : Prop := ∀ d, od = some d → ∃ v, ov = some v ∧ Rep F H v d
structure Rs (κ : List (V × D)) (δ : List (Option D)) (M : Mem) (σ : St) (H : Hp) : Prop where
  kp : ∀ p ∈ κ, Rep M.F H p.1 p.2
  sl : Paired (SlotOk M.F H) σ δ
  cl : ∀ p ∈ M, CellOk M.F H p.1 p.2
  nd : M.F.Nodup
section
variable {κ κ' : List (V × D)} {δ : List (Option D)} {M M' : Mem} {σ : St} {H H' : Hp} {p : Addr} {o : HO} {v : V} {d : D}
theorem SlotOk.fwd {F F' : List Addr} {ov : Option V} {od : Option D} (k : Fwd F H F' H') (h : SlotOk F H ov od) : SlotOk F' H' ov od := fun d e => let ⟨v, e1, r⟩ := h d e; ⟨v, e1, r.fwd k⟩
theorem Rs.inF (R : Rs κ δ M σ H) {a : Addr} (h : a ∈ M.F) : ∃ o, H a = some o := by
  obtain ⟨q, hq, hx⟩ := List.mem_flatMap.mp h
  exact (R.cl q hq).some a hx
theorem Rs.fresh (R : Rs κ δ M σ H) (h : H p = none) : p ∉ M.F := fun z => by
  obtain ⟨o, e⟩ := R.inF z
  rw [h] at e; cases e
theorem Rs.go (R : Rs κ δ M σ H) (k : Fwd M.F H M.F H') (e : ∀ x ∈ M.F, H' x = H x) : Rs κ δ M σ H' :=
  ⟨fun q hq => (R.kp q hq).fwd k, Paired.mono (fun _ _ h => h.fwd k) R.sl, fun q hq => (R.cl q hq).fwd k fun x hx => e x (List.mem_flatMap.mpr ⟨q, hq, hx⟩), R.nd⟩
theorem Rs.new (R : Rs κ δ M σ H) (h : H p = none) : Rs κ δ M σ (upd H p o) := R.go (Fwd.new h) fun x hx => upd_ne fun z => R.fresh h (z ▸ hx)
theorem Rs.same (R : Rs κ δ M σ H) (h : Same H H') : Rs κ δ M σ H' := R.go (fun a o ha e => ⟨ha, h a o e⟩) fun x hx => by
  obtain ⟨o, e⟩ := R.inF hx
  rw [e]; exact h _ _ e
theorem Rs.push (R : Rs κ δ M σ H) (r : Rep M.F H v d) : Rs ((v, d) :: κ) δ M σ H := ⟨fun q hq => by
  rcases List.mem_cons.mp hq with rfl | hq
  · exact r
  · exact R.kp q hq, R.sl, R.cl, R.nd⟩
theorem Rs.sub (R : Rs κ δ M σ H) (h : ∀ q ∈ κ', q ∈ κ) : Rs κ' δ M σ H := ⟨fun q hq => R.kp q (h q hq), R.sl, R.cl, R.nd⟩
theorem Rs.pop {q : V × D} (R : Rs (q :: κ) δ M σ H) : Rs κ δ M σ H := R.sub fun _ h => List.mem_cons_of_mem _ h
theorem Rs.top {v : V} {d : D} (R : Rs ((v, d) :: κ) δ M σ H) : Rep M.F H v d := R.kp _ List.mem_cons_self
theorem paired_get {α β : Type} {G : α → β → Prop} : ∀ {l₁ : List α} {l₂ : List β} {i : Nat} {b : β}, Paired G l₁ l₂ → l₂[i]? = some b → ∃ a, l₁[i]? = some a ∧ G a b
  | _, _, _, _, .nil, e => by simp at e
  | _, _, 0, _, .cons r _, e => by simp at e; subst e; exact ⟨_, rfl, r⟩
  | _, _, i + 1, b, .cons _ t, e => by
    obtain ⟨u, h1, h2⟩ := paired_get (i := i) (b := b) t (by simpa using e)
    exact ⟨u, by simpa using h1, h2⟩
theorem paired_set {α β : Type} {G : α → β → Prop} {a : α} {b : β} (r : G a b) : ∀ {l₁ : List α} {l₂ : List β} (i : Nat), Paired G l₁ l₂ → Paired G (l₁.set i a) (l₂.set i b)
  | _, _, _, .nil => .nil
  | _, _, 0, .cons _ t => .cons r t
  | _, _, i + 1, .cons q t => .cons q (paired_set r i t)
theorem Rs.get {i : Nat} (R : Rs κ δ M σ H) (e : δ[i]? = some (some d)) : ∃ v, σ[i]? = some (some v) ∧ Rep M.F H v d := by
  obtain ⟨a, e1, h⟩ := paired_get R.sl e
  obtain ⟨v, rfl, r⟩ := h d rfl
  exact ⟨v, e1, r⟩
theorem Rs.put (R : Rs κ δ M σ H) (i : Nat) (r : Rep M.F H v d) : Rs κ (δ.set i (some d)) M (σ.set i (some v)) H :=
  ⟨R.kp, paired_set (fun d' e => by cases e; exact ⟨v, rfl, r⟩) i R.sl, R.cl, R.nd⟩
theorem Rs.wipe1 (R : Rs κ δ M σ H) (i : Nat) (ov : Option V) : Rs κ (δ.set i none) M (σ.set i ov) H :=
  ⟨R.kp, paired_set (fun d' e => by cases e) i R.sl, R.cl, R.nd⟩
/-- fewer cells -/
theorem F_sub : ∀ {M M' : Mem}, M'.Sublist M → M'.F.Sublist M.F
  | _, _, .slnil => .slnil
  | _, _, .cons a h => by
    show List.Sublist _ (own a.1 a.2 ++ _)
    exact (F_sub h).trans (List.sublist_append_right _ _)
  | _, _, .cons_cons a h => by
    show List.Sublist (own a.1 a.2 ++ _) (own a.1 a.2 ++ _)
    exact (F_sub h).append_left _
theorem Rs.less (R : Rs κ δ M σ H) (h : M'.Sublist M) : Rs κ δ M' σ H := by
  have k : Fwd M.F H M'.F H := Fwd.less fun a ha => (F_sub h).subset ha
  exact ⟨fun q hq => (R.kp q hq).fwd k, Paired.mono (fun _ _ h => h.fwd k) R.sl, fun q hq => (R.cl q (h.subset hq)).fwd k fun _ _ => rfl, R.nd.sublist (F_sub h)⟩
/-- one cell more -/
theorem Fwd.newC {F : List Addr} {H : Hp} {p : Addr} {o : HO} (h : H p = none) : Fwd F H (p :: F) (upd H p o) := fun a u ha e => ⟨by
  simp only [List.mem_cons, not_or]
  exact ⟨ne_of_none e h, ha⟩, by rw [upd_ne (ne_of_none e h)]; exact e⟩
theorem Rs.add (R : Rs κ δ M σ H) {c : Cell} (h : H p = none) (hc : own p c = [p]) (ok : CellOk (p :: M.F) (upd H p o) p c) : Rs κ δ ((p, c) :: M) σ (upd H p o) := by
  have e : Mem.F ((p, c) :: M) = p :: M.F := by show own p c ++ M.F = _; rw [hc]; rfl
  have k : Fwd M.F H (Mem.F ((p, c) :: M)) (upd H p o) := by rw [e]; exact Fwd.newC h
  refine ⟨fun q hq => (R.kp q hq).fwd k, Paired.mono (fun _ _ h => h.fwd k) R.sl, fun q hq => ?_, ?_⟩
  · rcases List.mem_cons.mp hq with rfl | hq
    · rw [e]; exact ok
    · refine (R.cl q hq).fwd k fun x hx => upd_ne fun z => R.fresh h (z ▸ List.mem_flatMap.mpr ⟨q, hq, hx⟩)
  · rw [e]
    exact List.nodup_cons.mpr ⟨R.fresh h, R.nd⟩
theorem F_perm {M M' : Mem} (h : M.Perm M') : (Mem.F M).Perm (Mem.F M') := by
  induction h with
  | nil => exact .nil
  | cons x _ ih => exact ih.append_left _
  | swap x y l =>
    show (own y.1 y.2 ++ (own x.1 x.2 ++ Mem.F l)).Perm (own x.1 x.2 ++ (own y.1 y.2 ++ Mem.F l))
    rw [← List.append_assoc, ← List.append_assoc]
    exact List.perm_append_comm.append_right _
  | trans _ _ h1 h2 => exact h1.trans h2
theorem Rs.perm (R : Rs κ δ M σ H) (h : M.Perm M') : Rs κ δ M' σ H := by
  have k : Fwd M.F H M'.F H := Fwd.less fun a ha => (F_perm h).mem_iff.mpr ha
  exact ⟨fun q hq => (R.kp q hq).fwd k, Paired.mono (fun _ _ h => h.fwd k) R.sl, fun q hq => (R.cl q (h.mem_iff.mpr hq)).fwd k fun _ _ => rfl, (F_perm h).nodup_iff.mp R.nd⟩
/-- a cell at place k -/
def insM : Nat → Addr × Cell → Mem → Mem
  | 0, c, M => c :: M
  | k + 1, c, x :: M => x :: insM k c M
  | _ + 1, c, [] => [c]
theorem insM_perm {c : Addr × Cell} : ∀ {k : Nat} {M : Mem}, (c :: M).Perm (insM k c M)
  | 0, _ => .refl _
  | k + 1, x :: M => (List.Perm.swap x c M).trans (insM_perm.cons x)
  | _ + 1, [] => .refl _
theorem F_set : ∀ {M : Mem} {i : Nat} {a : Addr} {c c' : Cell}, M[i]? = some (a, c) → own a c' = own a c → Mem.F (M.set i (a, c')) = M.F
  | [], _, _, _, _, e, _ => by simp at e
  | q :: M, 0, a, c, c', e, h => by
    have : q = (a, c) := by simpa using e
    subst this
    show own a c' ++ _ = own a c ++ _
    rw [h]
  | q :: M, i + 1, a, c, c', e, h => by
    show own q.1 q.2 ++ Mem.F (M.set i (a, c')) = own q.1 q.2 ++ Mem.F M
    rw [F_set (by simpa using e) h]
theorem F_apart : ∀ {M : Mem} {i j : Nat} {a b : Addr} {c d : Cell}, M.F.Nodup → M[i]? = some (a, c) → M[j]? = some (b, d) → i ≠ j → ∀ x ∈ own a c, x ∉ own b d
  | [], _, _, _, _, _, _, _, e, _, _ => by simp at e
  | q :: M, 0, 0, _, _, _, _, _, _, _, h => absurd rfl h
  | q :: M, 0, j + 1, a, b, c, d, n, e, e', _ => fun x hx hy => by
    have : q = (a, c) := by simpa using e
    subst this
    have n : (own a c ++ Mem.F M).Nodup := n
    exact (List.nodup_append.mp n).2.2 x hx x (List.mem_flatMap.mpr ⟨(b, d), List.mem_of_getElem? (by simpa using e'), hy⟩) rfl
  | q :: M, i + 1, 0, a, b, c, d, n, e, e', _ => fun x hx hy => by
    have : q = (b, d) := by simpa using e'
    subst this
    have n : (own b d ++ Mem.F M).Nodup := n
    exact (List.nodup_append.mp n).2.2 x hy x (List.mem_flatMap.mpr ⟨(a, c), List.mem_of_getElem? (by simpa using e), hx⟩) rfl
  | q :: M, i + 1, j + 1, a, b, c, d, n, e, e', h => by
    have n : (own q.1 q.2 ++ Mem.F M).Nodup := n
    exact F_apart (List.nodup_append.mp n).2.1 (by simpa using e) (by simpa using e') (by omega)
/-- another content of a cell -/
theorem Rs.cell (R : Rs κ δ M σ H) {i : Nat} {a : Addr} {c c' : Cell} (e : M[i]? = some (a, c)) (hc : own a c' = own a c) (k : ∀ x, x ∉ own a c → H' x = H x) (ok : CellOk M.F H' a c') : Rs κ δ (M.set i (a, c')) σ H' := by
  have eF : Mem.F (M.set i (a, c')) = M.F := F_set e hc
  have inF : ∀ x ∈ own a c, x ∈ M.F := fun x hx => List.mem_flatMap.mpr ⟨_, List.mem_of_getElem? e, hx⟩
  have k' : Fwd M.F H M.F H' := Fwd.same fun x hx => k x fun z => hx (inF x z)
  refine ⟨fun q hq => by rw [eF]; exact (R.kp q hq).fwd k', by rw [eF]; exact Paired.mono (fun _ _ h => h.fwd k') R.sl, fun q hq => ?_, by rw [eF]; exact R.nd⟩
  rw [eF]
  obtain ⟨j, hj⟩ := List.getElem?_of_mem hq
  by_cases hij : i = j
  · subst hij
    rw [List.getElem?_set_self (List.getElem?_eq_some_iff.mp e).1] at hj
    cases hj
    exact ok
  · rw [List.getElem?_set_ne hij] at hj
    obtain ⟨b, d⟩ := q
    exact (R.cl _ (List.mem_of_getElem? hj)).fwd k' fun x hx => k x (F_apart R.nd hj e (fun z => hij z.symm) x hx)
theorem Rs.at (R : Rs κ δ M σ H) {i : Nat} {a : Addr} {c : Cell} (e : M[i]? = some (a, c)) : CellOk M.F H a c := R.cl _ (List.mem_of_getElem? e)
theorem Rs.mem (R : Rs κ δ M σ H) {i : Nat} {a : Addr} {c : Cell} (e : M[i]? = some (a, c)) : ∀ x ∈ own a c, x ∈ M.F := fun x hx => List.mem_flatMap.mpr ⟨_, List.mem_of_getElem? e, hx⟩
end
def upM (N : List (Addr × SC)) : Mem := N.map fun p => (p.1, p.2.up)
/-- the cells of a thing -/
def opn (a : Addr) (c : SC) (N : List (Addr × SC)) : Mem := (a, c.up) :: upM N
section
variable {M : Mem} {a : Addr} {c : SC} {N : List (Addr × SC)}
theorem own_up {a : Addr} {c : SC} : own a c.up = [a] := by cases c <;> rfl
theorem ok_up {F : List Addr} {H : Hp} {a : Addr} {c : SC} : CellOk F H a c.up ↔ SOk F H a c := by cases c <;> exact Iff.rfl
theorem F_up : ∀ N : List (Addr × SC), Mem.F (upM N) = N.map (·.1)
  | [] => rfl
  | p :: N => by
    show own p.1 p.2.up ++ Mem.F (upM N) = _
    rw [own_up, F_up N]; rfl
theorem F_app (M M' : Mem) : Mem.F (M ++ M') = M.F ++ M'.F := List.flatMap_append
theorem F_opn : Mem.F (opn a c N ++ M) = Mem.F ((a, .grp c N) :: M) := by
  rw [F_app]
  show (own a c.up ++ Mem.F (upM N)) ++ _ = (a :: N.map (·.1)) ++ _
  rw [own_up, F_up]; rfl
end
/-! ### memory, things opened -/
/-- a cell of a memory, maybe part of a thing -/
def InM (M : Mem) (p : Addr) (c : SC) : Prop := (p, c.up) ∈ M ∨ (∃ N, (p, Cell.grp c N) ∈ M) ∨ ∃ b c0 N, (b, Cell.grp c0 N) ∈ M ∧ (p, c) ∈ N
section
variable {κ : List (V × D)} {δ : List (Option D)} {M M' : Mem} {σ : St} {H H' : Hp} {d : D} {p : Addr} {c c' : SC}
theorem InM.ok (h : InM M p c) (R : Rs κ δ M σ H) : SOk M.F H p c := by
  rcases h with h | ⟨N, h⟩ | ⟨b, c0, N, h, hp⟩
  · exact ok_up.mp (R.cl _ h)
  · exact (R.cl _ h).1
  · exact (R.cl _ h).2 _ hp
theorem InM.mono (h : InM M p c) (k : ∀ x ∈ M, x ∈ M') : InM M' p c := by
  rcases h with h | ⟨N, h⟩ | ⟨b, c0, N, h, hp⟩
  · exact .inl (k _ h)
  · exact .inr (.inl ⟨N, k _ h⟩)
  · exact .inr (.inr ⟨b, c0, N, k _ h, hp⟩)
theorem InM.mem (h : InM M p c) : p ∈ M.F := by
  rcases h with h | ⟨N, h⟩ | ⟨b, c0, N, h, hp⟩
  · exact List.mem_flatMap.mpr ⟨_, h, by show p ∈ own p c.up; rw [own_up]; exact List.mem_singleton.mpr rfl⟩
  · exact List.mem_flatMap.mpr ⟨_, h, List.mem_cons_self⟩
  · exact List.mem_flatMap.mpr ⟨_, h, List.mem_cons_of_mem _ (List.mem_map.mpr ⟨_, hp, rfl⟩)⟩
/-- a cell of a memory with another content -/
inductive Rpl (p : Addr) (c c' : SC) : Mem → Mem → Prop
  | cell {M : Mem} (j : Nat) : M[j]? = some (p, c.up) → Rpl p c c' M (M.set j (p, c'.up))
  | head {M : Mem} {N : List (Addr × SC)} (j : Nat) : M[j]? = some (p, .grp c N) → Rpl p c c' M (M.set j (p, .grp c' N))
  | part {M : Mem} {N : List (Addr × SC)} {b : Addr} {c0 : SC} (j i : Nat) : M[j]? = some (b, .grp c0 N) → N[i]? = some (p, c) → Rpl p c c' M (M.set j (b, .grp c0 (N.set i (p, c'))))
theorem Rpl.inM (h : Rpl p c c' M M') : InM M p c := by
  cases h with
  | cell j h => exact .inl (List.mem_of_getElem? h)
  | head j h => exact .inr (.inl ⟨_, List.mem_of_getElem? h⟩)
  | part j i h h2 => exact .inr (.inr ⟨_, _, _, List.mem_of_getElem? h, List.mem_of_getElem? h2⟩)
theorem map_set_fst {N : List (Addr × SC)} {i : Nat} (h : N[i]? = some (p, c)) : (N.set i (p, c')).map (·.1) = N.map (·.1) := by
  induction N generalizing i with
  | nil => simp at h
  | cons q N ih =>
    cases i with
    | zero =>
      have : q = (p, c) := by simpa using h
      subst this; rfl
    | succ i => show q.1 :: _ = q.1 :: _; rw [ih (by simpa using h)]
theorem nd_own {x : Addr × Cell} (R : Rs κ δ M σ H) (h : x ∈ M) : (own x.1 x.2).Nodup := by
  have : (own x.1 x.2).Sublist M.F := by
    obtain ⟨l1, l2, rfl⟩ := List.append_of_mem h
    rw [F_app]
    exact (List.sublist_append_left _ _).trans (List.sublist_append_right _ _)
  exact R.nd.sublist this
theorem Rs.rpl (R : Rs κ δ M σ H) (r : Rpl p c c' M M') (k : ∀ x, x ≠ p → H' x = H x) (ok : SOk M.F H' p c') : Rs κ δ M' σ H' := by
  have hpF := r.inM.mem
  have fw : Fwd M.F H M.F H' := Fwd.same fun x hx => k x fun z => hx (by rw [z]; exact hpF)
  cases r with
  | cell j h => exact R.cell h (by rw [own_up, own_up]) (fun x hx => k x (by rw [own_up] at hx; simpa using hx)) (ok_up.mpr ok)
  | head j h =>
    have nd := nd_own R (List.mem_of_getElem? h)
    refine R.cell h rfl (fun x hx => k x fun z => hx (by rw [z]; exact List.mem_cons_self)) ⟨ok, fun q hq => ?_⟩
    have hne : q.1 ≠ p := fun z => (List.nodup_cons.mp nd).1 (by rw [← z]; exact List.mem_map.mpr ⟨q, hq, rfl⟩)
    exact ((R.cl _ (List.mem_of_getElem? h)).2 q hq).fwd fw (k _ hne)
  | @part N b c0 j i h h2 =>
    have nd := nd_own R (List.mem_of_getElem? h)
    have hpN : p ∈ N.map (·.1) := List.mem_map.mpr ⟨_, List.mem_of_getElem? h2, rfl⟩
    have hbp : b ≠ p := fun z => (List.nodup_cons.mp nd).1 (by rw [z]; exact hpN)
    have hown : own b (.grp c0 (N.set i (p, c'))) = own b (.grp c0 N) := by
      show b :: _ = b :: _
      rw [map_set_fst h2]
    refine R.cell h hown (fun x hx => k x fun z => hx (by rw [z]; exact List.mem_cons_of_mem _ hpN)) ⟨(R.cl _ (List.mem_of_getElem? h)).1.fwd fw (k _ hbp), fun q hq => ?_⟩
    obtain ⟨j', hj'⟩ := List.getElem?_of_mem hq
    by_cases hij : i = j'
    · subst hij
      rw [List.getElem?_set_self (List.getElem?_eq_some_iff.mp h2).1] at hj'
      cases hj'
      exact ok
    · rw [List.getElem?_set_ne hij] at hj'
      have hq' : q ∈ N := List.mem_of_getElem? hj'
      have hne : q.1 ≠ p := fun z => by
        have n2 := (List.nodup_cons.mp nd).2
        have e1 : (N.map (·.1))[i]? = some p := by rw [List.getElem?_map, h2]; rfl
        have e2 : (N.map (·.1))[j']? = some p := by rw [List.getElem?_map, hj', ← z]; rfl
        exact hij ((List.getElem?_inj (List.getElem?_eq_some_iff.mp e1).1 n2).mp (e1.trans e2.symm))
      exact ((R.cl _ (List.mem_of_getElem? h)).2 q hq').fwd fw (k _ hne)
end
end Hl
namespace Hl
open PySem L2
/-! ### the readings as such -/
@[irreducible] def tE (X : Cx) (e : Expr) : TE := fun σ H Q => ∀ pins s, Inv X pins σ H s → wpAny (model X.prog X.w) X.A (eval e X.env) (EP X pins σ Q) X.xe s
@[irreducible] def tT (X : Cx) (e : Expr) : TT := fun σ H Q => ∀ pins s, Inv X pins σ H s → wpAny (model X.prog X.w) X.A (isTrue e X.env (eval e X.env)) (TP X pins σ Q) X.xe s
@[irreducible] def tA (X : Cx) (es : List Expr) : TA := fun σ H Q => ∀ (pos : Pos) pins s, Inv X pins σ H s → wpAny (model X.prog X.w) X.A (spliced (backTo pos (starEach es X.env))) (AP X pins σ Q) X.xe s
@[irreducible] def tS (X : Cx) (st : Stmt) : TS := fun D σ H => ∀ pins s, Inv X pins σ H s → wpAny (model X.prog X.w) X.A (exec st X.env) (SP X pins D) X.xe s
@[irreducible] def tSs (X : Cx) (st : List Stmt) : TS := fun D σ H => ∀ pins s, Inv X pins σ H s → wpAny (model X.prog X.w) X.A (execs st X.env) (SP X pins D) X.xe s
@[irreducible] def tG (X : Cx) (tg : Expr) : TG := fun v σ H Q => ∀ pins s u, Inv X pins σ H s → RelV v u → wpAny (model X.prog X.w) X.A (assign tg X.env u) (fun _ s' => ∃ σ' H', Inv X pins σ' H' s' ∧ Q σ' H') X.xe s
@[irreducible] def tGs (X : Cx) (ts : List Expr) : TGs := fun vs σ H Q => ∀ pins s us, Inv X pins σ H s → Vals vs us → wpAny (model X.prog X.w) X.A (assignInOrder ((assignEach ts X.env).map (·.2)) us) (fun _ s' => ∃ σ' H', Inv X pins σ' H' s' ∧ Q σ' H') X.xe s
section
variable {X : Cx} {e : Expr} {es : List Expr} {st : Stmt} {sts : List Stmt}
theorem cE : PE X e (tE X e) := ⟨fun pins s _ _ _ I h => by unfold tE at h; exact h pins s I⟩
theorem cT : PT X e (tT X e) := ⟨fun pins s _ _ _ I h => by unfold tT at h; exact h pins s I⟩
theorem cA : PA X es (tA X es) := ⟨fun pos pins s _ _ _ I h => by unfold tA at h; exact h pos pins s I⟩
theorem cS : PS X st (tS X st) := ⟨fun pins s _ _ _ I h => by unfold tS at h; exact h pins s I⟩
theorem cSs : PSs X sts (tSs X sts) := ⟨fun pins s _ _ _ I h => by unfold tSs at h; exact h pins s I⟩
theorem cG : PG X e (tG X e) := ⟨fun pins s _ _ _ u _ I r h => by unfold tG at h; exact h pins s u I r⟩
theorem cGs : PGs X es (tGs X es) := ⟨fun pins s _ _ _ us _ I r h => by unfold tGs at h; exact h pins s us I r⟩
end
/-! ### by data -/
/-- what a body keeps for its caller, and what it may raise -/
structure Bx where
  ps : List (V × D)
  ex : Addr → List Str → List D → List (Option D) → Mem → Prop
def B0 (ps : List (V × D)) : Bx := ⟨ps, fun _ _ _ _ _ => False⟩
abbrev Env' := List (Option D)
def WE (B : Bx) (te : TE) (δ : Env') (M : Mem) (Φ : D → Mem → Prop) : Prop := ∀ κ σ H Q, (∀ q ∈ B.ps, q ∈ κ) → Rs κ δ M σ H → (∀ v d M' H', Φ d M' → Rs κ δ M' σ H' → Rep M'.F H' v d → Q v H') → te σ H Q
/-- a new list, nobody else's -/
def WF (B : Bx) (te : TE) (δ : Env') (M : Mem) (Φ : List D → Mem → Prop) : Prop := ∀ κ σ H Q, (∀ q ∈ B.ps, q ∈ κ) → Rs κ δ M σ H → (∀ p ds M' H', Φ ds M' → Rs κ δ ((p, .lst ds) :: M') σ H' → Q (.ref p) H') → te σ H Q
def WT (B : Bx) (tt : TT) (δ : Env') (M : Mem) (Φ : Bool → Mem → Prop) : Prop := ∀ κ σ H Q, (∀ q ∈ B.ps, q ∈ κ) → Rs κ δ M σ H → (∀ b M' H', Φ b M' → Rs κ δ M' σ H' → Q b H') → tt σ H Q
def WA (B : Bx) (ta : TA) (δ : Env') (M : Mem) (Φ : List D → Mem → Prop) : Prop := ∀ κ σ H Q, (∀ q ∈ B.ps, q ∈ κ) → Rs κ δ M σ H → (∀ vs ds M' H', Φ ds M' → Rs κ δ M' σ H' → Reps M'.F H' vs ds → Q vs H') → ta σ H Q
structure DEnds where
  nx : Env' → Mem → Prop
  rt : D → Mem → Prop
  bk : Env' → Mem → Prop := fun _ _ => False
  ct : Env' → Mem → Prop := fun _ _ => False
structure EndsOk (κ : List (V × D)) (Φ : DEnds) (E : Ends) : Prop where
  nx : ∀ δ M σ H, Φ.nx δ M → Rs κ δ M σ H → E.nx σ H
  rt : ∀ v d M δ σ H, Φ.rt d M → Rs κ δ M σ H → Rep M.F H v d → E.rt v H
  bk : ∀ δ M σ H, Φ.bk δ M → Rs κ δ M σ H → E.bk σ H
  ct : ∀ δ M σ H, Φ.ct δ M → Rs κ δ M σ H → E.ct σ H
def WS (B : Bx) (ts : TS) (δ : Env') (M : Mem) (Φ : DEnds) : Prop := ∀ κ σ H E, (∀ q ∈ B.ps, q ∈ κ) → Rs κ δ M σ H → EndsOk κ Φ E → ts E σ H
def WG (B : Bx) (tg : TG) (d : D) (δ : Env') (M : Mem) (Φ : Env' → Mem → Prop) : Prop := ∀ κ σ H v Q, (∀ q ∈ B.ps, q ∈ κ) → Rs κ δ M σ H → Rep M.F H v d → (∀ δ' M' σ' H', Φ δ' M' → Rs κ δ' M' σ' H' → Q σ' H') → tg v σ H Q
def WGs (B : Bx) (tg : TGs) (ds : List D) (δ : Env') (M : Mem) (Φ : Env' → Mem → Prop) : Prop := ∀ κ σ H vs Q, (∀ q ∈ B.ps, q ∈ κ) → Rs κ δ M σ H → Reps M.F H vs ds → (∀ δ' M' σ' H', Φ δ' M' → Rs κ δ' M' σ' H' → Q σ' H') → tg vs σ H Q
abbrev DE (B : Bx) (X : Cx) (e : Expr) := WE B (tE X e)
abbrev DF (B : Bx) (X : Cx) (e : Expr) := WF B (tE X e)
abbrev DT (B : Bx) (X : Cx) (e : Expr) := WT B (tT X e)
abbrev DA (B : Bx) (X : Cx) (es : List Expr) := WA B (tA X es)
abbrev DS (B : Bx) (X : Cx) (st : Stmt) := WS B (tS X st)
abbrev DSs (B : Bx) (X : Cx) (st : List Stmt) := WS B (tSs X st)
abbrev DG (B : Bx) (X : Cx) (tg : Expr) := WG B (tG X tg)
abbrev DGs (B : Bx) (X : Cx) (tg : List Expr) := WGs B (tGs X tg)
section
variable {B : Bx} {X : Cx} {e a b c : Expr} {es rest : List Expr} {st : Stmt} {sts : List Stmt} {δ δ' : Env'} {M : Mem} {Φ : D → Mem → Prop} {Ψ : DEnds} {te ta tb : TE} {tt : TT} {pos : Pos} {d : D}
theorem DE.of (h : PE X e te) (w : WE B te δ M Φ) : DE B X e δ M Φ := fun κ σ H Q hb R k => by unfold tE; exact fun pins s I => h.run pins s σ H Q I (w κ σ H Q hb R k)
theorem DF.of {Φ : List D → Mem → Prop} (h : PE X e te) (w : WF B te δ M Φ) : DF B X e δ M Φ := fun κ σ H Q hb R k => by unfold tE; exact fun pins s I => h.run pins s σ H Q I (w κ σ H Q hb R k)
theorem DT.of {Φ : Bool → Mem → Prop} (h : PT X e tt) (w : WT B tt δ M Φ) : DT B X e δ M Φ := fun κ σ H Q hb R k => by unfold tT; exact fun pins s I => h.run pins s σ H Q I (w κ σ H Q hb R k)
theorem DA.of {Φ : List D → Mem → Prop} {t : TA} (h : PA X es t) (w : WA B t δ M Φ) : DA B X es δ M Φ := fun κ σ H Q hb R k => by unfold tA; exact fun pos pins s I => h.run pos pins s σ H Q I (w κ σ H Q hb R k)
theorem DS.of {t : TS} (h : PS X st t) (w : WS B t δ M Ψ) : DS B X st δ M Ψ := fun κ σ H E hb R k => by unfold tS; exact fun pins s I => h.run pins s σ H E I (w κ σ H E hb R k)
theorem DSs.of {t : TS} (h : PSs X sts t) (w : WS B t δ M Ψ) : DSs B X sts δ M Ψ := fun κ σ H E hb R k => by unfold tSs; exact fun pins s I => h.run pins s σ H E I (w κ σ H E hb R k)
theorem DG.of {t : TG} {Φ : Env' → Mem → Prop} (h : PG X e t) (w : WG B t d δ M Φ) : DG B X e d δ M Φ := fun κ σ H v Q hb R r k => by unfold tG; exact fun pins s u I ru => h.run pins s σ H v u Q I ru (w κ σ H v Q hb R r k)
theorem DGs.of {t : TGs} {ds : List D} {Φ : Env' → Mem → Prop} (h : PGs X es t) (w : WGs B t ds δ M Φ) : DGs B X es ds δ M Φ := fun κ σ H v Q hb R r k => by unfold tGs; exact fun pins s u I ru => h.run pins s σ H v u Q I ru (w κ σ H v Q hb R r k)
/-- a list nobody else's, as a plain one -/
theorem cons_sub {M : Mem} {q : Addr × Cell} : M.Sublist (q :: M) := .cons _ (.refl _)
theorem WE.ofF (w : WF B te δ M fun ds M' => Φ (.lst ds) M') : WE B te δ M Φ := fun κ σ H Q hb R k => w κ σ H Q hb R fun p ds M' H' q R' => by
  refine k (.ref p) (.lst ds) M' H' q (R'.less cons_sub) ?_
  obtain ⟨vs, e, r⟩ := R'.cl (p, .lst ds) (by simp)
  have nd : (p :: Mem.F M').Nodup := R'.nd
  refine .lst (List.nodup_cons.mp nd).1 e (r.fwd ?_)
  exact Fwd.less fun x hx => (F_sub cons_sub).subset hx
theorem WE.mono {Φ' : D → Mem → Prop} (w : WE B te δ M Φ) (h : ∀ d M', Φ d M' → Φ' d M') : WE B te δ M Φ' := fun κ σ H Q hb R k => w κ σ H Q hb R fun v d M' H' q R' r => k v d M' H' (h d M' q) R' r
theorem WT.mono {Φ Φ' : Bool → Mem → Prop} (w : WT B tt δ M Φ) (h : ∀ d M', Φ d M' → Φ' d M') : WT B tt δ M Φ' := fun κ σ H Q hb R k => w κ σ H Q hb R fun b M' H' q R' => k b M' H' (h b M' q) R'
theorem EndsOk.mono {κ : List (V × D)} {Φ Φ' : DEnds} {E : Ends} (k : EndsOk κ Φ' E) (h1 : ∀ δ M, Φ.nx δ M → Φ'.nx δ M) (h2 : ∀ d M, Φ.rt d M → Φ'.rt d M) (h3 : ∀ δ M, Φ.bk δ M → Φ'.bk δ M) (h4 : ∀ δ M, Φ.ct δ M → Φ'.ct δ M) : EndsOk κ Φ E :=
  ⟨fun δ M σ H q R => k.nx δ M σ H (h1 δ M q) R, fun v d M δ σ H q R r => k.rt v d M δ σ H (h2 d M q) R r, fun δ M σ H q R => k.bk δ M σ H (h3 δ M q) R, fun δ M σ H q R => k.ct δ M σ H (h4 δ M q) R⟩
theorem EndsOk.sub {κ κ' : List (V × D)} {Φ : DEnds} {E : Ends} (k : EndsOk κ Φ E) (h : ∀ q ∈ κ, q ∈ κ') : EndsOk κ' Φ E :=
  ⟨fun δ M σ H q R => k.nx δ M σ H q (R.sub h), fun v d M δ σ H q R r => k.rt v d M δ σ H q (R.sub h) r, fun δ M σ H q R => k.bk δ M σ H q (R.sub h), fun δ M σ H q R => k.ct δ M σ H q (R.sub h)⟩
theorem WS.mono {ts : TS} {Ψ' : DEnds} (w : WS B ts δ M Ψ) (h1 : ∀ δ M, Ψ.nx δ M → Ψ'.nx δ M) (h2 : ∀ d M, Ψ.rt d M → Ψ'.rt d M) (h3 : ∀ δ M, Ψ.bk δ M → Ψ'.bk δ M) (h4 : ∀ δ M, Ψ.ct δ M → Ψ'.ct δ M) : WS B ts δ M Ψ' := fun κ σ H E hb R k =>
  w κ σ H E hb R (k.mono h1 h2 h3 h4)
/-! ### names -/
structure NmP (N : List Str) (sc : Scope) (i : Nat) (x : Str) : Prop where
  at_ : N[i]? = some x
  vis : Vis sc x
  dbg : (x == ("__debug__" : Str)) = false
  cdc : (x == ("__classdict__" : Str)) = false
abbrev Nm (X : Cx) := NmP X.N X.env.scope
structure LoP (N : List Str) (sc : Scope) (fu : Str → Bool) (i : Nat) (x : Str) : Prop extends NmP N sc i x where
  loc : Loc sc x
  fn : fu x = true ∨ sc.names.lookup x = some .local
abbrev Lo (X : Cx) := LoP X.N X.env.scope X.fn
/-- a built-in's name -/
structure GnP (env : Env) (mg : Str → Option Value) (x : Str) : Prop where
  gl : env.kindOf x = some .globalImplicit
  no : mg x = none
abbrev Gn (X : Cx) := GnP X.env X.mg
structure CzP (N : List Str) (calm_ : Bool) (A : Around) (k : Nat) : Prop where
  nd : N.Nodup
  calm : calm_ = true
  room : Room k A
abbrev Cz (X : Cx) := CzP X.N X.calm X.A
theorem WE.val {v : V} (hv : ∀ F H, Rep F H v d) (k : Φ d M) : WE B (tC v) δ M Φ := fun κ σ H Q hb R h => h v d M H k R (hv _ _)
theorem de_name {i : Nat} {x : Str} (n : Nm X i x) (hd : δ[i]? = some (some d)) (k : Φ d M) : DE B X (.Name x pos) δ M Φ :=
  .of (pe_var n.at_ n.vis n.dbg n.cdc) fun κ σ H Q hb R h => let ⟨v, e, r⟩ := R.get hd; ⟨v, e, h v d M H k R r⟩
theorem de_int {i : Int} {j} (k : Φ (.int i) M) : DE B X (.Constant (.int i) j pos) δ M Φ := .of pe_int (.val (fun _ _ => .int i) k)
theorem de_str {x : Str} {j} (k : Φ (.str x) M) : DE B X (.Constant (.str x) j pos) δ M Φ := .of pe_str (.val (fun _ _ => .str x) k)
theorem de_bl {b : Bool} {j} (k : Φ (.bl b) M) : DE B X (.Constant (.bool b) j pos) δ M Φ := .of pe_bl (.val (fun _ _ => .bl b) k)
theorem de_non {j} (k : Φ .non M) : DE B X (.Constant .none j pos) δ M Φ := .of pe_non (.val (fun _ _ => .non) k)
/-- a constant of the module -/
structure GcP (env : Env) (mg : Str → Option Value) (x : Str) (v : V) : Prop where
  gl : env.kindOf x = some .globalImplicit
  is : ∃ u, mg x = some u ∧ RelV v u
  dbg : (x == ("__debug__" : Str)) = false
abbrev Gc (X : Cx) := GcP X.env X.mg
theorem de_glob {x : Str} {v : V} (g : Gc X x v) (hv : ∀ F H, Rep F H v d) (k : Φ d M) : DE B X (.Name x pos) δ M Φ := by
  obtain ⟨gl, ⟨u, e, r⟩, dbg⟩ := g
  exact .of (pe_glob gl e r dbg) (.val hv k)
/-! ### operators -/
/-- what an operator on values gives of data -/
def OpD (r : R2) (x y : D) (M : Mem) (Φ : D → Mem → Prop) : Prop := ∀ κ (δ : Env') σ H v w Q, Rs κ δ M σ H → Rep M.F H v x → Rep M.F H w y → (∀ z d M' H', Φ d M' → Rs κ δ M' σ H' → Rep M'.F H' z d → Q z H') → r v w H Q
theorem WE.op {r : R2} (ha : WE B ta δ M fun x M1 => WE B tb δ M1 fun y M2 => OpD r x y M2 Φ) : WE B (tOp r ta tb) δ M Φ := fun κ σ H Q hb R k =>
  ha κ σ H _ hb R fun v x M1 H1 q1 R1 r1 => q1 ((v, x) :: κ) σ H1 _ (fun q hq => List.mem_cons_of_mem _ (hb q hq)) (R1.push r1) fun w y M2 H2 q2 R2 r2 =>
    q2 κ δ σ H2 v w Q R2.pop R2.top r2 k
theorem de_bin {op : Operator} {r : R2} (ho : OpR X (binaryOp op) r) (h : DE B X a δ M fun x M1 => DE B X b δ M1 fun y M2 => OpD r x y M2 Φ) : DE B X (.BinOp a op b pos) δ M Φ := .of (pe_op ho cE cE) (.op h)
theorem od_I {C : Int → Int → Prop} {g : Int → Int → V} {gd : Int → Int → D} {i j : Int} (hc : C i j) (hg : ∀ F H, Rep F H (g i j) (gd i j)) (k : Φ (gd i j) M) : OpD (rI C g) (.int i) (.int j) M Φ := fun κ δ σ H v w Q R rv rw' h => by
  cases rv; cases rw'
  exact ⟨i, j, rfl, rfl, hc, h _ _ M H k R (hg _ _)⟩
theorem od_I0 {g : Int → Int → V} {gd : Int → Int → D} {i j : Int} (hg : ∀ F H, Rep F H (g i j) (gd i j)) (k : Φ (gd i j) M) : OpD (rI0 g) (.int i) (.int j) M Φ := fun κ δ σ H v w Q R rv rw' h => by
  cases rv; cases rw'
  exact ⟨i, j, rfl, rfl, h _ _ M H k R (hg _ _)⟩
theorem OpD.inl {r r' : R2} {x y : D} (h : OpD r x y M Φ) : OpD (fun a b H Q => r a b H Q ∨ r' a b H Q) x y M Φ := fun κ δ σ H v w Q R rv rw' k => .inl (h κ δ σ H v w Q R rv rw' k)
theorem OpD.inr {r r' : R2} {x y : D} (h : OpD r' x y M Φ) : OpD (fun a b H Q => r a b H Q ∨ r' a b H Q) x y M Φ := fun κ δ σ H v w Q R rv rw' k => .inr (h κ δ σ H v w Q R rv rw' k)
def rAddS : R2 := fun x y H Q => ∃ i j, x = .str i ∧ y = .str j ∧ i.length + j.length ≤ sizeLine ∧ Q (.str (i ++ j)) H
def rCatH : R2 := fun x y H Q => ∃ a b xs ys, x = .ref a ∧ y = .ref b ∧ H a = some (.tup xs) ∧ H b = some (.tup ys) ∧ xs.length + ys.length ≤ sizeLine ∧ (xs = [] → Q (.ref b) H) ∧ (xs ≠ [] → ys = [] → Q (.ref a) H) ∧ (xs ≠ [] → ys ≠ [] → ∀ p, H p = none → Q (.ref p) (upd H p (.tup (xs ++ ys))))
theorem op_catH : OpR X (binaryOp .Add) rCatH := fun pins s σ H x y v u Q I rx ry ⟨a, b, xs, ys, e1, e2, h1, h2, hz, q0, q1, q2⟩ => op_catA pins s σ H x y v u Q I rx ry ⟨a, b, xs, ys, e1, e2, SqT.of h1, SqT.of h2, hz, q0, q1, q2⟩
def rAddU : R2 := fun x y H Q => (rI0 fun i j => .int (i + j)) x y H Q ∨ (fun x y H Q => rAddS x y H Q ∨ (fun x y H Q => rCat x y H Q ∨ rCatH x y H Q) x y H Q) x y H Q
theorem op_addU : OpR X (binaryOp .Add) rAddU := op_add.or ((op_add_str (X := X)).or (op_cat.or op_catH))
theorem od_addI {i j : Int} (k : Φ (.int (i + j)) M) : OpD rAddU (.int i) (.int j) M Φ := (od_I0 (gd := fun i j => .int (i + j)) (fun _ _ => .int _) k).inl
theorem od_addS {i j : Str} (hl : i.length + j.length ≤ sizeLine) (k : Φ (.str (i ++ j)) M) : OpD rAddU (.str i) (.str j) M Φ := .inr (.inl fun κ δ σ H v w Q R rv rw' h => by
  cases rv; cases rw'
  exact ⟨i, j, rfl, rfl, hl, h _ _ M H k R (.str _)⟩)
/-- a new list at p -/
theorem Rs.lst {κ : List (V × D)} {σ : St} {H : Hp} {p : Addr} {vs : List V} {ds : List D} (R : Rs κ δ M σ H) (r : Reps M.F H vs ds) (hp : H p = none) : Rs κ δ ((p, .lst ds) :: M) σ (upd H p (.lst vs)) :=
  R.add hp rfl ⟨vs, upd_same, r.fwd (Fwd.newC hp)⟩
theorem Rs.lstV {κ : List (V × D)} {σ : St} {H : Hp} {p : Addr} {vs : List V} {ds : List D} (R : Rs κ δ M σ H) (r : Reps M.F H vs ds) (hp : H p = none) : Rs κ δ M σ (upd H p (.lst vs)) ∧ Rep M.F (upd H p (.lst vs)) (.ref p) (.lst ds) :=
  ⟨R.new hp, .lst (R.fresh hp) upd_same (r.fwd (Fwd.new hp))⟩
theorem Rs.tupV {κ : List (V × D)} {σ : St} {H : Hp} {p : Addr} {vs : List V} {ds : List D} (R : Rs κ δ M σ H) (r : Reps M.F H vs ds) (hp : H p = none) : Rs κ δ M σ (upd H p (.tup vs)) ∧ Rep M.F (upd H p (.tup vs)) (.ref p) (.tup ds) :=
  ⟨R.new hp, .tup (R.fresh hp) upd_same (r.fwd (Fwd.new hp))⟩
theorem od_addL {xs ys : List D} (hl : xs.length + ys.length ≤ sizeLine) (k : Φ (.lst (xs ++ ys)) M) : OpD rAddU (.lst xs) (.lst ys) M Φ := .inr (.inr (.inl fun κ δ σ H v w Q R rv rw' h => by
  cases rv with
  | lst h1 e1 r1 =>
    cases rw' with
    | lst h2 e2 r2 =>
      refine ⟨_, _, _, _, rfl, rfl, e1, e2, by rw [r1.length, r2.length]; exact hl, fun p hp => ?_⟩
      obtain ⟨R', r'⟩ := R.lstV (r1.append r2) hp
      exact h _ _ M _ k R' r'))
theorem od_addT {xs ys : List D} (hl : xs.length + ys.length ≤ sizeLine) (k : Φ (.tup (xs ++ ys)) M) : OpD rAddU (.tup xs) (.tup ys) M Φ := .inr (.inr (.inr fun κ δ σ H v w Q R rv rw' h => by
  cases rv with
  | tup h1 e1 r1 =>
    cases rw' with
    | tup h2 e2 r2 =>
      refine ⟨_, _, _, _, rfl, rfl, e1, e2, by rw [r1.length, r2.length]; exact hl, fun z => ?_, fun z1 z => ?_, fun _ _ p hp => ?_⟩
      · subst z
        cases r1
        exact h _ _ M _ k R (.tup h2 e2 r2)
      · subst z
        cases r2
        rw [List.append_nil] at k
        exact h _ _ M _ k R (.tup h1 e1 r1)
      · obtain ⟨R', r'⟩ := R.tupV (r1.append r2) hp
        exact h _ _ M _ k R' r'))
theorem de_add (h : DE B X a δ M fun x M1 => DE B X b δ M1 fun y M2 => OpD rAddU x y M2 Φ) : DE B X (.BinOp a .Add b pos) δ M Φ := de_bin op_addU h
def rSubU : R2 := rI0 fun i j => .int (i - j)
theorem de_sub (h : DE B X a δ M fun x M1 => DE B X b δ M1 fun y M2 => OpD rSubU x y M2 Φ) : DE B X (.BinOp a .Sub b pos) δ M Φ := de_bin op_sub h
theorem od_sub {i j : Int} (k : Φ (.int (i - j)) M) : OpD rSubU (.int i) (.int j) M Φ := od_I0 (gd := fun i j => .int (i - j)) (fun _ _ => .int _) k
def rMulStr : R2 := fun x y H Q => ∃ (z : Str) (n : Int), x = .str z ∧ y = .int n ∧ MulOk z n ∧ Q (.str (Txt.mul z n)) H
theorem op_mulStr : OpR X (binaryOp .Mult) rMulStr := by
  intro pins s σ H x y v u Q I rx ry h
  obtain ⟨z, n, rfl, rfl, hok, q⟩ := h
  obtain ⟨t, rfl⟩ := rx
  obtain ⟨t', rfl⟩ := ry
  exact SB.mul hok fun t' k => ⟨.str _, H, I.tok k, ⟨t', rfl⟩, q⟩
def rMulU : R2 := fun x y H Q => (rI CMul fun i j => .int (i * j)) x y H Q ∨ ((rI CMulW fun i j => .int (i * j)) x y H Q ∨ rMulStr x y H Q)
theorem de_mul (h : DE B X a δ M fun x M1 => DE B X b δ M1 fun y M2 => OpD rMulU x y M2 Φ) : DE B X (.BinOp a .Mult b pos) δ M Φ := de_bin (op_mul.or (op_mulW.or op_mulStr)) h
theorem od_mulStr {z : Str} {n : Int} (hok : MulOk z n) (k : Φ (.str (Txt.mul z n)) M) : OpD rMulU (.str z) (.int n) M Φ := OpD.inr (OpD.inr fun κ δ σ H v w Q R rv rw' f => by
  cases rv; cases rw'
  exact ⟨z, n, rfl, rfl, hok, f _ _ M H k R (.str _)⟩)
theorem od_mul {i j : Int} (hc : CMul i j) (k : Φ (.int (i * j)) M) : OpD rMulU (.int i) (.int j) M Φ := (od_I (gd := fun i j => .int (i * j)) hc (fun _ _ => .int _) k).inl
def rDivU : R2 := rI CDivW fun i j => .int (i / j)
theorem de_div (h : DE B X a δ M fun x M1 => DE B X b δ M1 fun y M2 => OpD rDivU x y M2 Φ) : DE B X (.BinOp a .FloorDiv b pos) δ M Φ := de_bin op_fdivW h
theorem od_div {i j : Int} (hc : CDivW i j) (k : Φ (.int (i / j)) M) : OpD rDivU (.int i) (.int j) M Φ := od_I (gd := fun i j => .int (i / j)) hc (fun _ _ => .int _) k
def rModU : R2 := rI (fun _ j => 0 < j) fun i j => .int (i % j)
theorem de_mod (h : DE B X a δ M fun x M1 => DE B X b δ M1 fun y M2 => OpD rModU x y M2 Φ) : DE B X (.BinOp a .Mod b pos) δ M Φ := de_bin op_mod h
theorem od_mod {i j : Int} (hc : 0 < j) (k : Φ (.int (i % j)) M) : OpD rModU (.int i) (.int j) M Φ := od_I (gd := fun i j => .int (i % j)) hc (fun _ _ => .int _) k
def rPowU : R2 := rI CPow fun i j => .int (i ^ j.toNat)
theorem de_pow (h : DE B X a δ M fun x M1 => DE B X b δ M1 fun y M2 => OpD rPowU x y M2 Φ) : DE B X (.BinOp a .Pow b pos) δ M Φ := de_bin op_pow h
theorem od_pow {i j : Int} (hc : CPow i j) (k : Φ (.int (i ^ j.toNat)) M) : OpD rPowU (.int i) (.int j) M Φ := od_I (gd := fun i j => .int (i ^ j.toNat)) hc (fun _ _ => .int _) k
theorem de_neg (h : DE B X a δ M fun x M1 => ∃ i, x = .int i ∧ Φ (.int (-i)) M1) : DE B X (.UnaryOp .USub a pos) δ M Φ := .of (pe_un un_neg cE) fun κ σ H Q hb R k => h κ σ H _ hb R fun v x M1 H1 ⟨i, e, q⟩ R1 r1 => by
  subst e; cases r1
  exact ⟨i, rfl, k _ _ _ _ q R1 (.int _)⟩
end
end Hl
namespace Hl
open PySem L2
@[irreducible] def tW (X : Cx) (e : Expr) : TT := fun σ H Q => ∀ whole pins s, Inv X pins σ H s → wpAny (model X.prog X.w) X.A (isTrue e X.env whole) (TP X pins σ Q) X.xe s
theorem cW {X : Cx} {e : Expr} : PW X e (tW X e) := ⟨fun whole pins s _ _ _ I h => by unfold tW at h; exact h whole pins s I⟩
abbrev DW (B : Bx) (X : Cx) (e : Expr) := WT B (tW X e)
section
variable {B : Bx} {X : Cx} {e a b c : Expr} {es rest : List Expr} {st : Stmt} {sts : List Stmt} {δ δ' : Env'} {M : Mem} {Φ : D → Mem → Prop} {Ψ : DEnds} {te ta tb : TE} {tt : TT} {pos : Pos} {d x y : D} {ΦB : Bool → Mem → Prop}
theorem DW.of (h : PW X e tt) (w : WT B tt δ M ΦB) : DW B X e δ M ΦB := fun κ σ H Q hb R k => by unfold tW; exact fun whole pins s I => h.run whole pins s σ H Q I (w κ σ H Q hb R k)
theorem DT.w (h : DW B X e δ M ΦB) : DT B X e δ M ΦB := .of cW.pt h
/-- both ways of a truth -/
def Br (b : Bool) (P Q : Prop) : Prop := (b = true → P) ∧ (b = false → Q)
theorem Br.mk {b : Bool} {P Q : Prop} (h1 : b = true → P) (h2 : b = false → Q) : Br b P Q := ⟨h1, h2⟩
theorem Br.yes {P Q : Prop} (h : P) : Br true P Q := ⟨fun _ => h, fun e => (nomatch e)⟩
theorem Br.no {P Q : Prop} (h : Q) : Br false P Q := ⟨fun e => (nomatch e), fun _ => h⟩
theorem Br.ite {b : Bool} {P Q : Prop} (h : Br b P Q) : if b = true then P else Q := by
  cases b with
  | true => exact iteT (h.1 rfl)
  | false => exact iteF (h.2 rfl)
theorem Br.dec {p : Prop} [Decidable p] {P Q : Prop} (h1 : p → P) (h2 : ¬ p → Q) : Br (decide p) P Q := ⟨fun e => h1 (of_decide_eq_true e), fun e => h2 (of_decide_eq_false e)⟩
theorem Br.ndec {p : Prop} [Decidable p] {P Q : Prop} (h1 : ¬ p → P) (h2 : p → Q) : Br (!decide p) P Q := ⟨fun e => h1 (of_decide_eq_false (by simpa using e)), fun e => h2 (of_decide_eq_true (by simpa using e))⟩
theorem Br.decT {p : Prop} [Decidable p] {P Q : Prop} (h : p) (h1 : P) : Br (decide p) P Q := ⟨fun _ => h1, fun e => absurd h (of_decide_eq_false e)⟩
theorem Br.decF {p : Prop} [Decidable p] {P Q : Prop} (h : ¬ p) (h1 : Q) : Br (decide p) P Q := ⟨fun e => absurd (of_decide_eq_true e) h, fun _ => h1⟩
theorem Br.ndecT {p : Prop} [Decidable p] {P Q : Prop} (h : ¬ p) (h1 : P) : Br (!decide p) P Q := ⟨fun _ => h1, fun e => absurd (of_decide_eq_true (by simpa using e)) h⟩
theorem Br.ndecF {p : Prop} [Decidable p] {P Q : Prop} (h : p) (h1 : Q) : Br (!decide p) P Q := ⟨fun e => absurd h (of_decide_eq_false (by simpa using e)), fun _ => h1⟩
theorem Br.neg {b : Bool} {P Q : Prop} (h : Br b Q P) : Br (!b) P Q := by
  cases b with
  | true => exact ⟨fun e => (nomatch e), fun _ => h.1 rfl⟩
  | false => exact ⟨fun _ => h.2 rfl, fun e => (nomatch e)⟩
def toB (Φ : Bool → Mem → Prop) : D → Mem → Prop := fun d M => ∃ b, d = .bl b ∧ Φ b M
theorem toB.mk {b : Bool} (k : ΦB b M) : toB ΦB (.bl b) M := ⟨b, rfl, k⟩
theorem WT.test {t : TE} (h : WE B t δ M (toB ΦB)) : WT B (tTest t) δ M ΦB := fun κ σ H Q hb R k => h κ σ H _ hb R fun v d M' H' ⟨b, e, q⟩ R' r => by
  subst e; cases r
  exact ⟨b, rfl, k b M' H' q R'⟩
theorem de_cmp {op : CmpOp} {r : R2} (ho : OpR X (compareOp op) r) (hm : behindInMarks op b = false) (h : DE B X a δ M fun x M1 => DE B X b δ M1 fun y M2 => OpD r x y M2 Φ) : DE B X (.Compare a [op] [b] pos) δ M Φ := .of (pe_cmpR ho cE cE hm) (.op h)
theorem dt_cmp {op : CmpOp} {r : R2} (ho : OpR X (compareOp op) r) (hm : behindInMarks op b = false) (h : DE B X a δ M fun x M1 => DE B X b δ M1 fun y M2 => OpD r x y M2 (toB ΦB)) : DT B X (.Compare a [op] [b] pos) δ M ΦB := .of (pt_cmpR ho cE cE hm) (.test (.op h))
/-! comparisons of ints -/
def rLtU : R2 := rI0 fun i j => .bl (decide (i < j))
def rLeU : R2 := rI0 fun i j => .bl (decide (i ≤ j))
def rGtU : R2 := rI0 fun i j => .bl (decide (j < i))
def rGeU : R2 := rI0 fun i j => .bl (decide (j ≤ i))
theorem od_lt {i j : Int} (k : Φ (.bl (decide (i < j))) M) : OpD rLtU (.int i) (.int j) M Φ := od_I0 (gd := fun i j => .bl (decide (i < j))) (fun _ _ => .bl _) k
theorem od_le {i j : Int} (k : Φ (.bl (decide (i ≤ j))) M) : OpD rLeU (.int i) (.int j) M Φ := od_I0 (gd := fun i j => .bl (decide (i ≤ j))) (fun _ _ => .bl _) k
theorem od_gt {i j : Int} (k : Φ (.bl (decide (j < i))) M) : OpD rGtU (.int i) (.int j) M Φ := od_I0 (gd := fun i j => .bl (decide (j < i))) (fun _ _ => .bl _) k
theorem od_ge {i j : Int} (k : Φ (.bl (decide (j ≤ i))) M) : OpD rGeU (.int i) (.int j) M Φ := od_I0 (gd := fun i j => .bl (decide (j ≤ i))) (fun _ _ => .bl _) k
theorem de_lt (h : DE B X a δ M fun x M1 => DE B X b δ M1 fun y M2 => OpD rLtU x y M2 Φ) : DE B X (.Compare a [.Lt] [b] pos) δ M Φ := de_cmp op_lt (nomark _) h
theorem de_le (h : DE B X a δ M fun x M1 => DE B X b δ M1 fun y M2 => OpD rLeU x y M2 Φ) : DE B X (.Compare a [.LtE] [b] pos) δ M Φ := de_cmp op_le (nomark _) h
theorem de_gt (h : DE B X a δ M fun x M1 => DE B X b δ M1 fun y M2 => OpD rGtU x y M2 Φ) : DE B X (.Compare a [.Gt] [b] pos) δ M Φ := de_cmp op_gt (nomark _) h
theorem de_ge (h : DE B X a δ M fun x M1 => DE B X b δ M1 fun y M2 => OpD rGeU x y M2 Φ) : DE B X (.Compare a [.GtE] [b] pos) δ M Φ := de_cmp op_ge (nomark _) h
theorem dt_lt (h : DE B X a δ M fun x M1 => DE B X b δ M1 fun y M2 => OpD rLtU x y M2 (toB ΦB)) : DT B X (.Compare a [.Lt] [b] pos) δ M ΦB := dt_cmp op_lt (nomark _) h
theorem dt_le (h : DE B X a δ M fun x M1 => DE B X b δ M1 fun y M2 => OpD rLeU x y M2 (toB ΦB)) : DT B X (.Compare a [.LtE] [b] pos) δ M ΦB := dt_cmp op_le (nomark _) h
theorem dt_gt (h : DE B X a δ M fun x M1 => DE B X b δ M1 fun y M2 => OpD rGtU x y M2 (toB ΦB)) : DT B X (.Compare a [.Gt] [b] pos) δ M ΦB := dt_cmp op_gt (nomark _) h
theorem dt_ge (h : DE B X a δ M fun x M1 => DE B X b δ M1 fun y M2 => OpD rGeU x y M2 (toB ΦB)) : DT B X (.Compare a [.GtE] [b] pos) δ M ΦB := dt_cmp op_ge (nomark _) h
/-! == and != -/
def rEqU (K : PySem.W.Frag) : R2 := fun x y H Q => rEq x y H Q ∨ rEqD K x y H Q
def rNeU (K : PySem.W.Frag) : R2 := fun x y H Q => rNe x y H Q ∨ rNeD K x y H Q
theorem un64 {k : Nat} (z : Cz X k) : X.A.units + 64 < cLine := by have := z.room.un; omega
theorem un1 {k : Nat} (z : Cz X k) : X.A.units + 1 < cLine := by have := z.room.un; omega
theorem de_eq {k : Nat} (z : Cz X k) (h : DE B X a δ M fun x M1 => DE B X b δ M1 fun y M2 => OpD (rEqU X.K) x y M2 Φ) : DE B X (.Compare a [.Eq] [b] pos) δ M Φ := de_cmp (op_eq.or (op_eqD (un64 z))) (nomark _) h
theorem de_ne {k : Nat} (z : Cz X k) (h : DE B X a δ M fun x M1 => DE B X b δ M1 fun y M2 => OpD (rNeU X.K) x y M2 Φ) : DE B X (.Compare a [.NotEq] [b] pos) δ M Φ := de_cmp (op_ne.or (op_neD (un64 z))) (nomark _) h
theorem dt_eq {k : Nat} (z : Cz X k) (h : DE B X a δ M fun x M1 => DE B X b δ M1 fun y M2 => OpD (rEqU X.K) x y M2 (toB ΦB)) : DT B X (.Compare a [.Eq] [b] pos) δ M ΦB := dt_cmp (op_eq.or (op_eqD (un64 z))) (nomark _) h
theorem dt_ne {k : Nat} (z : Cz X k) (h : DE B X a δ M fun x M1 => DE B X b δ M1 fun y M2 => OpD (rNeU X.K) x y M2 (toB ΦB)) : DT B X (.Compare a [.NotEq] [b] pos) δ M ΦB := dt_cmp (op_ne.or (op_neD (un64 z))) (nomark _) h
theorem od_eqI {K : PySem.W.Frag} {i j : Int} (k : Φ (.bl (decide (i = j))) M) : OpD (rEqU K) (.int i) (.int j) M Φ := .inl fun κ δ σ H v w Q R rv rw' h => by
  cases rv; cases rw'
  refine ⟨rfl, ?_⟩
  rw [show decide (V.int i = V.int j) = decide (i = j) by simp]
  exact h _ _ M H k R (.bl _)
theorem od_neI {K : PySem.W.Frag} {i j : Int} (k : Φ (.bl (!decide (i = j))) M) : OpD (rNeU K) (.int i) (.int j) M Φ := .inl fun κ δ σ H v w Q R rv rw' h => by
  cases rv; cases rw'
  refine ⟨rfl, ?_⟩
  rw [show decide (V.int i = V.int j) = decide (i = j) by simp]
  exact h _ _ M H k R (.bl _)
theorem od_eqS {K : PySem.W.Frag} {i j : Str} (k : Φ (.bl (decide (i = j))) M) : OpD (rEqU K) (.str i) (.str j) M Φ := .inl fun κ δ σ H v w Q R rv rw' h => by
  cases rv; cases rw'
  refine ⟨rfl, ?_⟩
  rw [show decide (V.str i = V.str j) = decide (i = j) by simp]
  exact h _ _ M H k R (.bl _)
/-! is None -/
def isN : D → Bool
  | .non => true
  | .raw v => decide (v = .non)
  | _ => false
def rIsNU : R2 := fun x y H Q => y = .non ∧ Q (.bl (decide (x = .non))) H
def rNotNU : R2 := fun x y H Q => y = .non ∧ Q (.bl (!decide (x = .non))) H
theorem rep_isN {F : List Addr} {H : Hp} {v : V} {x : D} (r : Rep F H v x) : decide (v = .non) = isN x := by cases r <;> simp [isN]
theorem od_isN {x : D} (k : Φ (.bl (isN x)) M) : OpD rIsNU x .non M Φ := fun κ δ σ H v w Q R rv rw' h => by
  cases rw'
  refine ⟨rfl, ?_⟩
  rw [rep_isN rv]
  exact h _ _ M H k R (.bl _)
theorem od_notN {x : D} (k : Φ (.bl (!isN x)) M) : OpD rNotNU x .non M Φ := fun κ δ σ H v w Q R rv rw' h => by
  cases rw'
  refine ⟨rfl, ?_⟩
  rw [rep_isN rv]
  exact h _ _ M H k R (.bl _)
theorem de_is (h : DE B X a δ M fun x M1 => DE B X b δ M1 fun y M2 => OpD rIsNU x y M2 Φ) : DE B X (.Compare a [.Is] [b] pos) δ M Φ := de_cmp op_isN (nomark _) h
theorem de_isnot (h : DE B X a δ M fun x M1 => DE B X b δ M1 fun y M2 => OpD rNotNU x y M2 Φ) : DE B X (.Compare a [.IsNot] [b] pos) δ M Φ := de_cmp op_notN (nomark _) h
theorem dt_is (h : DE B X a δ M fun x M1 => DE B X b δ M1 fun y M2 => OpD rIsNU x y M2 (toB ΦB)) : DT B X (.Compare a [.Is] [b] pos) δ M ΦB := dt_cmp op_isN (nomark _) h
theorem dt_isnot (h : DE B X a δ M fun x M1 => DE B X b δ M1 fun y M2 => OpD rNotNU x y M2 (toB ΦB)) : DT B X (.Compare a [.IsNot] [b] pos) δ M ΦB := dt_cmp op_notN (nomark _) h
/-! tests -/
theorem dt_not (h : DT B X a δ M fun b M1 => ΦB (!b) M1) : DT B X (.UnaryOp .Not a pos) δ M ΦB := .of (pt_not cT) fun κ σ H Q hb R k => h κ σ H _ hb R fun b M1 H1 q R1 => k _ _ _ q R1
theorem dw_and1 (h : DT B X a δ M ΦB) : DW B X (.BoolOp .And [a] pos) δ M ΦB := .of (pw_and1 cT) h
theorem dw_or1 (h : DT B X a δ M ΦB) : DW B X (.BoolOp .Or [a] pos) δ M ΦB := .of (pw_or1 cT) h
theorem dw_and (h : DT B X a δ M fun t M1 => Br t (DW B X (.BoolOp .And (b :: rest) pos) δ M1 ΦB) (ΦB false M1)) : DW B X (.BoolOp .And (a :: b :: rest) pos) δ M ΦB := .of (pw_and cT cW) fun κ σ H Q hb R k => h κ σ H _ hb R fun t M1 H1 q R1 =>
  Br.ite ⟨fun e => q.1 e κ σ H1 Q hb R1 k, fun e => k _ _ _ (q.2 e) R1⟩
theorem dw_or (h : DT B X a δ M fun t M1 => Br t (ΦB true M1) (DW B X (.BoolOp .Or (b :: rest) pos) δ M1 ΦB)) : DW B X (.BoolOp .Or (a :: b :: rest) pos) δ M ΦB := .of (pw_or cT cW) fun κ σ H Q hb R k => h κ σ H _ hb R fun t M1 H1 q R1 =>
  Br.ite ⟨fun e => k _ _ _ (q.1 e) R1, fun e => q.2 e κ σ H1 Q hb R1 k⟩
theorem dt_and (h : DW B X (.BoolOp .And es pos) δ M ΦB) : DT B X (.BoolOp .And es pos) δ M ΦB := .w h
theorem dt_or (h : DW B X (.BoolOp .Or es pos) δ M ΦB) : DT B X (.BoolOp .Or es pos) δ M ΦB := .w h
/-- a truth that stands as a value -/
theorem dt_val (h : DE B X e δ M (toB ΦB)) (he : ∀ whole, isTrue e X.env whole = (do let v ← whole; standAt e.pos; holding [v] (truthy v)) := by intro _; rfl) : DT B X e δ M ΦB := .of (pt_val cE he) fun κ σ H Q hb R k => h κ σ H _ hb R fun v d M' H' ⟨b, e, q⟩ R' r => by
  subst e; cases r
  exact ⟨b, rfl, k b M' H' q R'⟩
/-! and, or, not as values -/
theorem de_one {op} (h : DE B X a δ M Φ) : DE B X (.BoolOp op [a] pos) δ M Φ := .of (pe_one cE) h
theorem de_and (h : DE B X a δ M (toB fun t M1 => Br t (DE B X (.BoolOp .And (b :: rest) pos) δ M1 Φ) (Φ (.bl false) M1))) : DE B X (.BoolOp .And (a :: b :: rest) pos) δ M Φ := .of (pe_and cE cE) fun κ σ H Q hb R k => h κ σ H _ hb R fun v d M1 H1 ⟨t, e, q⟩ R1 r => by
  subst e; cases r
  exact ⟨t, rfl, Br.ite ⟨fun e => q.1 e κ σ H1 Q hb R1 k, fun e => k _ _ _ _ (q.2 e) R1 (.bl _)⟩⟩
theorem de_or (h : DE B X a δ M (toB fun t M1 => Br t (Φ (.bl true) M1) (DE B X (.BoolOp .Or (b :: rest) pos) δ M1 Φ))) : DE B X (.BoolOp .Or (a :: b :: rest) pos) δ M Φ := .of (pe_or cE cE) fun κ σ H Q hb R k => h κ σ H _ hb R fun v d M1 H1 ⟨t, e, q⟩ R1 r => by
  subst e; cases r
  exact ⟨t, rfl, Br.ite ⟨fun e => k _ _ _ _ (q.1 e) R1 (.bl _), fun e => q.2 e κ σ H1 Q hb R1 k⟩⟩
theorem de_not (h : DE B X a δ M (toB fun t M1 => Φ (.bl (!t)) M1)) : DE B X (.UnaryOp .Not a pos) δ M Φ := .of (pe_not cE) fun κ σ H Q hb R k => h κ σ H _ hb R fun v d M1 H1 ⟨t, e, q⟩ R1 r => by
  subst e; cases r
  exact ⟨t, rfl, k _ _ _ _ q R1 (.bl _)⟩
theorem de_if (h : DT B X c δ M fun t M1 => Br t (DE B X a δ M1 Φ) (DE B X b δ M1 Φ)) : DE B X (.IfExp c a b pos) δ M Φ := .of (pe_ifExp cT cE cE) fun κ σ H Q hb R k => h κ σ H _ hb R fun t M1 H1 q R1 =>
  Br.ite ⟨fun e => q.1 e κ σ H1 Q hb R1 k, fun e => q.2 e κ σ H1 Q hb R1 k⟩
/-! arguments, displays -/
variable {ΦL : List D → Mem → Prop}
theorem da_nil (k : ΦL [] M) : DA B X [] δ M ΦL := .of pa_nil fun κ σ H Q hb R h => h _ _ M H k R .nil
theorem da_cons (h : DE B X a δ M fun x M1 => DA B X es δ M1 fun xs M2 => ΦL (x :: xs) M2) (hs : starEach (a :: es) X.env = (false, eval a X.env) :: starEach es X.env := by rfl) : DA B X (a :: es) δ M ΦL := .of (pa_cons cE cA hs) fun κ σ H Q hb R k =>
  h κ σ H _ hb R fun v x M1 H1 q1 R1 r1 => q1 ((v, x) :: κ) σ H1 _ (fun q hq => List.mem_cons_of_mem _ (hb q hq)) (R1.push r1) fun vs xs M2 H2 q2 R2 r2 => k _ _ _ _ q2 R2.pop (.cons R2.top r2)
theorem de_tup {x1} (h : DA B X es δ M fun xs M1 => xs.length ≤ sizeLine ∧ Φ (.tup xs) M1) : DE B X (.Tuple es x1 pos) δ M Φ := .of (pe_tup cA) fun κ σ H Q hb R k => h κ σ H _ hb R fun vs xs M1 H1 ⟨hl, q⟩ R1 r1 =>
  ⟨by rw [r1.length]; exact hl, fun p hp => let ⟨R2, r2⟩ := R1.tupV r1 hp; k _ _ _ _ q R2 r2⟩
theorem df_lst (h : DA B X es δ M fun xs M1 => xs.length ≤ sizeLine ∧ ΦL xs M1) : DF B X (.List es pos) δ M ΦL := .of (pe_lst cA) fun κ σ H Q hb R k => h κ σ H _ hb R fun vs xs M1 H1 ⟨hl, q⟩ R1 r1 =>
  ⟨by rw [r1.length]; exact hl, fun p hp => k p xs M1 _ q (R1.lst r1 hp)⟩
theorem DE.f (h : DF B X e δ M fun ds M' => Φ (.lst ds) M') : DE B X e δ M Φ := WE.ofF h
theorem de_lst (h : DA B X es δ M fun xs M1 => xs.length ≤ sizeLine ∧ Φ (.lst xs) M1) : DE B X (.List es pos) δ M Φ := .f (df_lst h)
/-! subscripts -/
def rDG : R2 := fun x y H Q => ∃ a v, x = .ref a ∧ DGet H a y (some v) ∧ Q v H
open PyProof.Rows in
theorem ix_dict (hu : X.A.units + 1 < cLine) : IxR X rDG := by
  intro value slice pins s σ H x y v u Q I rx ry h hs
  obtain ⟨a, w, rfl, g, q⟩ := h
  obtain rfl : v = Value.ref a := rx
  exact tail_any (dict_typeIs I g) PySem.F.slot_dict_getitem.lookup (d_getItem hu I g ry fun w' s' I' rw' => ⟨w, H, I', rw', q⟩) hs
def rIxU (K : PySem.W.Frag) : R2 := fun x y H Q => rIx K x y H Q ∨ rDG x y H Q
theorem de_ix {n : Nat} (z : Cz X n) (h : DE B X a δ M fun x M1 => DE B X b δ M1 fun y M2 => OpD (rIxU X.K) x y M2 Φ) (hs : PlainIx b := by intro _ _; rfl) : DE B X (.Subscript a b pos) δ M Φ := .of (pe_ix (ix_seq.or (ix_dict (un1 z))) cE cE hs) (.op h)
theorem at_rep {F : List Addr} {H : Hp} {vs : List V} {ds : List D} {i : Int} {d : D} (r : Reps F H vs ds) (h : atI ds i = some d) : ∃ v, atI vs i = some v ∧ Rep F H v d := by
  unfold atI at h ⊢
  rw [← r.length] at h
  cases e : ixN vs.length i with
  | none => rw [e] at h; cases h
  | some j =>
    rw [e] at h
    obtain ⟨v, e1, r1⟩ := r.get' (i := j) h
    exact ⟨v, e1, r1⟩
theorem od_ixL {K : PySem.W.Frag} {ds : List D} {i : Int} {d : D} (h : atI ds i = some d) (k : Φ d M) : OpD (rIxU K) (.lst ds) (.int i) M Φ := .inl fun κ δ σ H v w Q R rv rw' f => by
  cases rw'
  cases rv with
  | lst h1 e1 r1 =>
    obtain ⟨u, e2, r2⟩ := at_rep r1 h
    exact .inl ⟨_, _, i, u, rfl, rfl, SqL.of e1, e2, f _ _ M H k R r2⟩
theorem od_ixT {K : PySem.W.Frag} {ds : List D} {i : Int} {d : D} (h : atI ds i = some d) (k : Φ d M) : OpD (rIxU K) (.tup ds) (.int i) M Φ := .inl fun κ δ σ H v w Q R rv rw' f => by
  cases rw'
  cases rv with
  | tup h1 e1 r1 =>
    obtain ⟨u, e2, r2⟩ := at_rep r1 h
    exact .inr (.inl ⟨_, _, i, u, rfl, rfl, SqT.of e1, e2, f _ _ M H k R r2⟩)
theorem od_ixS {K : PySem.W.Frag} {z : Str} {i : Int} {c : Nat} (hl : z.length ≤ sizeLine) (h : atI z.cps.toList i = some c) (k : Φ (.str ⟨#[c]⟩) M) : OpD (rIxU K) (.str z) (.int i) M Φ := .inl fun κ δ σ H v w Q R rv rw' f => by
  cases rw'
  cases rv
  exact .inr (.inr ⟨z, i, c, rfl, rfl, hl, h, f _ _ M H k R (.str _)⟩)
/-- a list that is a cell -/
theorem od_ixC {K : PySem.W.Frag} {ds : List D} {i : Int} {d : D} {p : Addr} {j : Nat} (hm : M[j]? = some (p, .lst ds)) (h : atI ds i = some d) (k : Φ d M) : OpD (rIxU K) (.raw (.ref p)) (.int i) M Φ := .inl fun κ δ σ H v w Q R rv rw' f => by
  cases rw'
  cases rv
  obtain ⟨vs, e1, r1⟩ := R.at hm
  obtain ⟨u, e2, r2⟩ := at_rep r1 h
  exact .inl ⟨_, _, i, u, rfl, rfl, SqL.of e1, e2, f _ _ M H k R r2⟩
/-! dicts that are cells -/
def kD : Key → D
  | .inl i => .int i
  | .inr x => .str x
theorem rep_k {F : List Addr} {H : Hp} {v : V} {k : Key} (r : Rep F H v (kD k)) : v = kV k := by
  cases k with
  | inl i => cases (show Rep F H v (.int i) from r); rfl
  | inr x => cases (show Rep F H v (.str x) from r); rfl
def lookD (kvs : List (Key × D)) (k : Key) : Option D := (kvs.find? fun kv => decide (kv.1 = k)).map (·.2)
theorem look_rep {F : List Addr} {H : Hp} {k : Key} : ∀ {ws : List (Key × V)} {kvs : List (Key × D)}, ws.map (·.1) = kvs.map (·.1) → Reps F H (ws.map (·.2)) (kvs.map (·.2)) → ∀ {d : D}, lookD kvs k = some d → ∃ v, valV ws k = some v ∧ Rep F H v d
  | [], [], _, _, d, e => by cases e
  | [], _ :: _, h, _, _, _ => by cases h
  | _ :: _, [], h, _, _, _ => by cases h
  | (k1, v) :: ws, (k2, d') :: kvs, h, r, d, e => by
    have h1 : k1 = k2 := (List.cons.inj h).1
    have h2 : ws.map (·.1) = kvs.map (·.1) := (List.cons.inj h).2
    subst h1
    cases r with
    | cons r1 r2 =>
      unfold lookD at e
      unfold valV
      by_cases hk : k1 = k
      · rw [List.find?_cons_of_pos (by simpa using hk)] at e ⊢
        cases e
        exact ⟨v, rfl, r1⟩
      · rw [List.find?_cons_of_neg (by simpa using hk)] at e ⊢
        exact look_rep h2 r2 e
theorem od_ixD {K : PySem.W.Frag} {kvs : List (Key × D)} {k : Key} {y d : D} {p : Addr} (j : Nat) (hm : M[j]? = some (p, .dct kvs)) (hk : y = kD k) (h : lookD kvs k = some d) (q : Φ d M) : OpD (rIxU K) (.raw (.ref p)) y M Φ := .inr fun κ δ σ H v w Q R rv rw' f => by
  subst hk
  have := rep_k rw'
  subst this
  cases rv
  obtain ⟨ws, e1, e2, r⟩ := R.at hm
  obtain ⟨u, e3, r3⟩ := look_rep e2 r h
  exact ⟨p, u, rfl, .inl ⟨ws, k, .inl e1, rfl, e3.symm⟩, f _ _ M H q R r3⟩
end
end Hl
namespace Hl
open PySem L2
/-! ### statements -/
section
variable {B : Bx} {X : Cx} {e a b c : Expr} {es rest : List Expr} {st : Stmt} {sts : List Stmt} {δ δ' : Env'} {M : Mem} {Φ : D → Mem → Prop} {Ψ : DEnds} {te ta tb : TE} {tt : TT} {pos pos' : Pos} {d x y : D} {ΦB : Bool → Mem → Prop} {ΦL : List D → Mem → Prop}
theorem ds_nil (k : Ψ.nx δ M) : DSs B X [] δ M Ψ := .of pss_nil fun κ σ H E hb R h => h.nx δ M σ H k R
theorem ds_cons (h : DS B X st δ M { Ψ with nx := fun δ' M' => DSs B X sts δ' M' Ψ }) : DSs B X (st :: sts) δ M Ψ := .of (pss_cons cS cSs) fun κ σ H E hb R k =>
  h κ σ H _ hb R ⟨fun δ' M' σ' H' q R' => q κ σ' H' E hb R' k, k.rt, k.bk, k.ct⟩
theorem ds_one (h : DS B X st δ M Ψ) : DSs B X [st] δ M Ψ := .of (pss_one cS) h
theorem ds_pass (k : Ψ.nx δ M) : DS B X (.Pass pos) δ M Ψ := .of ps_pass fun κ σ H E hb R h => h.nx δ M σ H k R
theorem ds_break (k : Ψ.bk δ M) : DS B X (.Break pos) δ M Ψ := .of ps_break fun κ σ H E hb R h => h.bk δ M σ H k R
theorem ds_continue (k : Ψ.ct δ M) : DS B X (.Continue pos) δ M Ψ := .of ps_continue fun κ σ H E hb R h => h.ct δ M σ H k R
theorem ds_ret (h : DE B X e δ M Ψ.rt) : DS B X (.Return (some e) pos) δ M Ψ := .of (ps_ret cE) fun κ σ H E hb R k => h κ σ H _ hb R fun v d M' H' q R' r => k.rt v d M' δ σ H' q R' r
theorem ds_retN (k : Ψ.rt .non M) : DS B X (.Return none pos) δ M Ψ := .of ps_retN fun κ σ H E hb R h => h.rt .non .non M δ σ H k R .non
theorem ds_if {s1 s2 : List Stmt} (h : DT B X c δ M fun t M1 => Br t (DSs B X s1 δ M1 Ψ) (DSs B X s2 δ M1 Ψ)) : DS B X (.If c s1 s2 pos) δ M Ψ := .of (ps_if cT cSs cSs) fun κ σ H E hb R k => h κ σ H _ hb R fun t M1 H1 q R1 =>
  Br.ite ⟨fun e => q.1 e κ σ H1 E hb R1 k, fun e => q.2 e κ σ H1 E hb R1 k⟩
theorem ds_expr (h : DE B X e δ M fun _ M' => Ψ.nx δ M') (hs : swapsWith e none pos.line X.env = pure false := by rfl) : DS B X (.Expr e pos) δ M Ψ := .of (ps_expr cE hs) fun κ σ H E hb R k => h κ σ H _ hb R fun v d M' H' q R' r => k.nx _ _ _ _ q R'
/-- slot i holds d from now on -/
@[irreducible] def Sets (δ : Env') (i : Nat) (d : D) (P : Env' → Prop) : Prop := P (δ.set i (some d))
theorem Sets.get {i : Nat} {P : Env' → Prop} (h : Sets δ i d P) : P (δ.set i (some d)) := by unfold Sets at h; exact h
theorem Sets.of {i : Nat} {P : Env' → Prop} (h : P (δ.set i (some d))) : Sets δ i d P := by unfold Sets; exact h
/-- x = e -/
theorem ds_set {i : Nat} {x : Str} {n : Nat} (z : Cz X n) (l : Lo X i x) (h : DE B X e δ M fun d M' => Sets δ i d fun δ' => Ψ.nx δ' M') (hs : swapsWith e (some (.Name x pos')) pos.line X.env = pure false := by rfl) : DS B X (.Assign [.Name x pos'] e pos) δ M Ψ :=
  .of (ps_set z.nd l.at_ l.loc cE hs l.fn) fun κ σ H E hb R k => h κ σ H _ hb R fun v d M' H' q R' r => k.nx _ _ _ _ q.get (R'.put i r)
/-- x = a new list, that will change: a cell at place k -/
theorem ds_own {i : Nat} {x : Str} {n : Nat} (k : Nat) (z : Cz X n) (l : Lo X i x) (h : DF B X e δ M fun ds M' => ∀ p : Addr, Sets δ i (.raw (.ref p)) fun δ' => Ψ.nx δ' (insM k (p, .lst ds) M')) (hs : swapsWith e (some (.Name x pos')) pos.line X.env = pure false := by rfl) : DS B X (.Assign [.Name x pos'] e pos) δ M Ψ :=
  .of (ps_set z.nd l.at_ l.loc cE hs l.fn) fun κ σ H E hb R k => h κ σ H _ hb R fun p ds M' H' q R' => k.nx _ _ _ _ (q p).get ((R'.perm insM_perm).put i (.raw _))
/-- targets -/
theorem dg_name {i : Nat} {x : Str} {n : Nat} (z : Cz X n) (l : Lo X i x) {Φ : Env' → Mem → Prop} (k : Sets δ i d fun δ' => Φ δ' M) : DG B X (.Name x pos) d δ M Φ :=
  .of (pg_name z.nd l.at_ l.loc l.fn) fun κ σ H v Q hb R r h => h _ _ _ _ k.get (R.put i r)
theorem dgs_nil {Φ : Env' → Mem → Prop} (k : Φ δ M) : DGs B X [] [] δ M Φ := .of pgs_nil fun κ σ H vs Q hb R r h => by
  cases r
  exact ⟨rfl, h _ _ _ _ k R⟩
theorem dgs_cons {ds : List D} {Φ : Env' → Mem → Prop} (h : DG B X a d δ M fun δ' M' => DGs B X es ds δ' M' Φ) (hs : (assignEach (a :: es) X.env).map (·.2) = assign a X.env :: (assignEach es X.env).map (·.2) := by rfl) : DGs B X (a :: es) (d :: ds) δ M Φ :=
  .of (pgs_cons cG cGs hs) fun κ σ H vs Q hb R r k => by
    cases r with
    | cons r1 r2 =>
      rename_i v vs
      refine ⟨v, vs, rfl, ?_⟩
      -- the further values are held meanwhile
      have held : ∀ {κ : List (V × D)} {vs : List V} {ds : List D} {δ : Env'} {M : Mem} {σ : St} {H : Hp}, Reps M.F H vs ds → Rs κ δ M σ H → ∃ κ', (∀ q ∈ κ, q ∈ κ') ∧ Rs κ' δ M σ H ∧ ∀ {δ' : Env'} {M' : Mem} {σ' : St} {H' : Hp}, Rs κ' δ' M' σ' H' → Reps M'.F H' vs ds := by
        intro κ vs
        induction vs with
        | nil => intro ds δ M σ H r R; cases r; exact ⟨κ, fun _ h => h, R, fun _ => .nil⟩
        | cons v vs ih =>
          intro ds δ M σ H r R
          cases r with
          | cons r1 r2 =>
            obtain ⟨κ', h1, R', h2⟩ := ih r2 R
            rename_i d ds
            exact ⟨(v, d) :: κ', fun q hq => List.mem_cons_of_mem _ (h1 q hq), R'.push r1, fun R => .cons R.top (h2 R.pop)⟩
      obtain ⟨κ', hk, R', hr⟩ := held r2 R
      exact h κ' σ H v _ (fun q hq => hk q (hb q hq)) R' r1 fun δ' M' σ' H' q R2 => q κ σ' H' vs Q hb (R2.sub hk) (hr R2) k
theorem dg_tup {ds : List D} {kk : Nat} {m : Nat} {n : Nat} {Φ : Env' → Mem → Prop} (z : Cz X n) (hl : ds.length = m) (h : DGs B X es ds δ M Φ) (hn : (assignEach es X.env).length = m := by rfl) (hst : (assignEach es X.env).findIdx? (·.1) = none := by rfl) : DG B X (.Tuple es kk pos) (.tup ds) δ M Φ :=
  .of (pg_tup z.calm cGs hn hst) fun κ σ H v Q hb R r k => by
    cases r with
    | tup h1 e1 r1 => exact ⟨_, _, rfl, SqT.of e1, by rw [r1.length]; exact hl, h κ σ H _ Q hb R r1 k⟩
theorem ds_asg {tg : Expr} (h : DE B X e δ M fun d M' => DG B X tg d δ M' Ψ.nx) (hs : swapsWithSole [tg] e pos.line X.env = pure false := by rfl) (hw : swappedStores [tg] e X.env = pure none := by rfl) (h1 : (assignEach [tg] X.env).map (·.2) = [assign tg X.env] := by rfl) : DS B X (.Assign [tg] e pos) δ M Ψ :=
  .of (ps_asg cE cG hs hw h1) fun κ σ H E hb R k => h κ σ H _ hb R fun v d M' H' q R' r => q κ σ H' v _ hb R' r fun δ' M2 σ' H2 q2 R2 => k.nx _ _ _ _ q2 R2
/-- x op= e -/
theorem ds_aug {i : Nat} {x : Str} {n : Nat} {op : Operator} {r : TIp} (z : Cz X n) (l : Lo X i x) (ho : PIp X op r) (hd : δ[i]? = some (some d)) (h : DE B X e δ M fun y M' => OpD r d y M' fun v M2 => Sets δ i v fun δ' => Ψ.nx δ' M2) : DS B X (.AugAssign (.Name x pos') op e pos) δ M Ψ :=
  .of (ps_aug z.nd l.at_ l.loc cE ho l.fn) fun κ σ H E hb R k => by
    obtain ⟨v, e1, r1⟩ := R.get hd
    refine ⟨v, e1, h ((v, d) :: κ) σ H _ (fun q hq => List.mem_cons_of_mem _ (hb q hq)) (R.push r1) fun w y M' H' q R' r' => ?_⟩
    exact q κ δ σ H' v w _ R'.pop R'.top r' fun u du M2 H2 q2 R2 r2 => k.nx _ _ _ _ q2.get (R2.put i r2)
def rAddI : TIp := fun x y H Q => (rI0 fun i j => .int (i + j)) x y H Q ∨ rAddS x y H Q
theorem ip_add : PIp X .Add rAddI := (iop_add (X := X)).or (iop_add_str (X := X))
theorem oi_addI {i j : Int} (k : Φ (.int (i + j)) M) : OpD rAddI (.int i) (.int j) M Φ := (od_I0 (gd := fun i j => .int (i + j)) (fun _ _ => .int _) k).inl
theorem ip_sub : PIp X .Sub rSubU := iop_sub
theorem ds_augAdd {i : Nat} {x : Str} {n : Nat} (z : Cz X n) (l : Lo X i x) (hd : δ[i]? = some (some d)) (h : DE B X e δ M fun y M' => OpD rAddI d y M' fun v M2 => Sets δ i v fun δ' => Ψ.nx δ' M2) : DS B X (.AugAssign (.Name x pos') .Add e pos) δ M Ψ := ds_aug z l ip_add hd h
theorem ds_augSub {i : Nat} {x : Str} {n : Nat} (z : Cz X n) (l : Lo X i x) (hd : δ[i]? = some (some d)) (h : DE B X e δ M fun y M' => OpD rSubU d y M' fun v M2 => Sets δ i v fun δ' => Ψ.nx δ' M2) : DS B X (.AugAssign (.Name x pos') .Sub e pos) δ M Ψ := ds_aug z l ip_sub hd h
/-! ### what is walked -/
structure WalkD (κ : List (V × D)) (xs : List D) (J : It) : Prop where
  goes : ∀ i δ M σ H, i < xs.length → Rs κ δ M σ H → J.go i H
  stops : ∀ δ M σ H, Rs κ δ M σ H → J.stop xs.length H
  yields : ∀ i δ M σ H x H', i < xs.length → Rs κ δ M σ H → J.yld i H x H' → ∃ d, xs[i]? = some d ∧ Rs κ δ M σ H' ∧ Rep M.F H' x d
def WI (B : Bx) (wi : TI) (δ : Env') (M : Mem) (Φ : List D → Mem → Prop) : Prop := ∀ κ σ H R, (∀ q ∈ B.ps, q ∈ κ) → Rs κ δ M σ H → (∀ xs M' H' J κ', Φ xs M' → (∀ q ∈ κ, q ∈ κ') → Rs κ' δ M' σ H' → WalkD κ' xs J → R J H') → wi σ H R
def DI (B : Bx) (X : Cx) (tg iter : Expr) (δ : Env') (M : Mem) (Φ : List D → Mem → Prop) : Prop := ∃ wi, PI X tg iter wi ∧ WI B wi δ M Φ
theorem lt_some {α : Type} {l : List α} {i : Nat} (h : i < l.length) : ∃ x, l[i]? = some x := ⟨l[i], by simp [h]⟩
theorem wd_list {κ : List (V × D)} {a : Addr} {ds : List D} {K : PySem.W.Frag} : WalkD ((.ref a, .lst ds) :: κ) ds (Itl K a) where
  goes := fun i δ M σ H hi R => by
    cases R.top with
    | lst hn e r =>
      obtain ⟨d, hd⟩ := lt_some hi
      obtain ⟨v, hv, _⟩ := r.get' hd
      exact ⟨_, v, SqL.of e, hv⟩
  stops := fun δ M σ H R => by
    cases R.top with
    | lst hn e r => exact ⟨_, SqL.of e, by rw [r.length]; exact Nat.le_refl _⟩
  yields := fun i δ M σ H x H' hi R y => by
    obtain ⟨rfl, y⟩ := y
    cases R.top with
    | lst hn e r =>
      obtain ⟨d, hd, rd⟩ := r.get (y _ (SqL.of e))
      exact ⟨d, hd, R, rd⟩
theorem wd_range {κ : List (V × D)} {lo : Int} {n : Nat} : WalkD κ ((List.range n).map fun i => .int (lo + (i : Nat))) (Itr lo n) where
  goes := fun i δ M σ H hi R => by show i < n; simpa using hi
  stops := fun δ M σ H R => by show n ≤ _; simp
  yields := fun i δ M σ H x H' hi R y => by
    obtain ⟨rfl, rfl⟩ := y
    have hi : i < n := by simpa using hi
    exact ⟨.int (lo + (i : Nat)), by simp [hi], R, .int _⟩
theorem wd_str {κ : List (V × D)} {z : Str} : WalkD κ (z.cps.toList.map fun c => .str ⟨#[c]⟩) (Its z) where
  goes := fun i δ M σ H hi R => by show i < z.cps.size; simpa using hi
  stops := fun δ M σ H R => by show z.cps.size ≤ _; simp
  yields := fun i δ M σ H x H' hi R y => by
    obtain ⟨rfl, c, hc, rfl⟩ := y
    exact ⟨.str ⟨#[c]⟩, by simp [hc], R, .str _⟩
def enumD (ds : List D) : List D := (List.range ds.length).map fun i => .tup [.int (i : Nat), ds.getD i .non]
variable {tg iter : Expr}
theorem di_list (h : DE B X iter δ M fun d M' => ∃ ds, d = .lst ds ∧ ΦL ds M') : DI B X tg iter δ M ΦL := ⟨_, pi_list cE, fun κ σ H R hb Rr k => h κ σ H _ hb Rr fun v d M1 H1 ⟨ds, ed, q⟩ R1 r1 => by
  subst ed
  cases r1 with
  | lst hn e1 r1 => exact ⟨_, rfl, ⟨_, SqL.of e1⟩, k ds M1 H1 _ _ q (fun q hq => List.mem_cons_of_mem _ hq) (R1.push (.lst hn e1 r1)) wd_list⟩⟩
theorem di_str (h : DE B X iter δ M fun d M' => ∃ z, d = .str z ∧ ΦL (z.cps.toList.map fun c => .str ⟨#[c]⟩) M') : DI B X tg iter δ M ΦL := ⟨_, pi_str cE, fun κ σ H R hb Rr k => h κ σ H _ hb Rr fun v d M1 H1 ⟨z, ed, q⟩ R1 r1 => by
  subst ed
  cases r1
  exact ⟨z, rfl, k _ M1 H1 _ κ q (fun _ h => h) R1 wd_str⟩⟩
def rangeD (lo : Int) (n : Nat) : List D := (List.range n).map fun i => .int (lo + (i : Nat))
theorem di_range1 {p : Pos} (g : Gn X "range") (h : DE B X a δ M fun d M' => ∃ j, d = .int j ∧ -(2 ^ 62) ≤ j ∧ j < 2 ^ 62 ∧ ΦL (rangeD 0 j.toNat) M') (hs : starEach [a] X.env = [(false, eval a X.env)] := by rfl) : DI B X tg (.Call (.Name "range" p) [a] [] pos) δ M ΦL :=
  ⟨_, pi_range1 g.gl g.no (pa_cons cE pa_nil hs) hs, fun κ σ H R hb Rr k => h κ σ H _ hb Rr fun v d M1 H1 ⟨j, ed, h1, h2, q⟩ R1 r1 => by
    subst ed
    cases r1
    exact ⟨j, rfl, h1, h2, k _ M1 H1 _ κ q (fun _ h => h) R1 wd_range⟩⟩
/-! ### loops -/
theorem ds_for {body : List Stmt} {n : Nat} (z : Cz X n) (hp : PassesOwn (model X.prog X.w) X.A X.env X.xe)
    (h : DI B X tg iter δ M fun xs M' => ∃ Iv : Nat → Env' → Mem → Prop, Iv 0 δ M' ∧ (∀ i x δ M, xs[i]? = some x → Iv i δ M → DG B X tg x δ M fun δ' M' => DSs B X body δ' M' { Ψ with nx := Iv (i + 1), ct := Iv (i + 1), bk := Ψ.nx }) ∧ ∀ δ M, Iv xs.length δ M → Ψ.nx δ M)
    (hs : ∀ x, foldedSetIterable iter X.env x = pure x := by intro _; rfl) : DS B X (.For tg iter body [] pos) δ M Ψ := by
  obtain ⟨wi, pi, w⟩ := h
  refine .of (ps_for hp z.calm pi cG cSs hs) fun κ σ H E hb R k => ?_
  refine w κ σ H _ hb R fun xs M1 H1 J κ' ⟨Iv, h0, hst, hd⟩ hk R1 W => ?_
  refine ⟨fun i m σ H => m = xs.length - i ∧ i ≤ xs.length ∧ ∃ δ M, Iv i δ M ∧ Rs κ' δ M σ H, ⟨xs.length, by simp, Nat.zero_le _, δ, M1, h0, R1⟩, ?_⟩
  rintro i m σ H ⟨rfl, hi, δ, M, q, R⟩
  by_cases hlt : i < xs.length
  · refine .inr ⟨W.goes i δ M σ H hlt R, fun σ' H' => ∃ δ' M', Iv (i + 1) δ' M' ∧ Rs κ' δ' M' σ' H', fun σ' H' p' => ⟨xs.length - (i + 1), by omega, rfl, hlt, p'⟩, fun x H' y => ?_⟩
    obtain ⟨d, hd1, R2, r2⟩ := W.yields i δ M σ H x H' hlt R y
    refine hst i d δ M hd1 q κ' σ H' x _ (fun q hq => hk q (hb q hq)) R2 r2 fun δ2 M2 σ2 H2 q2 R3 => ?_
    exact q2 κ' σ2 H2 _ (fun q hq => hk q (hb q hq)) R3 ⟨fun δ3 M3 σ3 H3 q3 R4 => ⟨δ3, M3, q3, R4⟩, fun v d M δ σ H q R r => k.rt v d M δ σ H q (R.sub hk) r, fun δ M σ H q R => k.nx δ M σ H q (R.sub hk), fun δ3 M3 σ3 H3 q3 R4 => ⟨δ3, M3, q3, R4⟩⟩
  · have e : i = xs.length := by omega
    subst e
    exact .inl ⟨W.stops δ M σ H R, k.nx δ M σ H (hd δ M q) (R.sub hk)⟩
end
end Hl
namespace Hl
open PySem L2
/-! ### defs -/
abbrev DSp := List D → Mem → (D → Mem → Prop) → Prop
def lift (p : DSp) : Sp := fun vs H Q _ => ∃ κ ds M Φ, Rs κ [] M [] H ∧ Reps M.F H vs ds ∧ p ds M Φ ∧ ∀ v d M' H', Φ d M' → Rs κ [] M' [] H' → Rep M'.F H' v d → Q v H'
def sk : St → Env' → List (V × D)
  | some v :: σ, some d :: δ => (v, d) :: sk σ δ
  | _ :: σ, _ :: δ => sk σ δ
  | _, _ => []
section
variable {κ : List (V × D)} {δ : Env'} {M M' : Mem} {σ : St} {H H' : Hp}
theorem sk_rep {F : List Addr} {H : Hp} : ∀ {σ : St} {δ : Env'}, Paired (SlotOk F H) σ δ → ∀ q ∈ sk σ δ, Rep F H q.1 q.2
  | _, _, .nil => by intro q hq; simp [sk] at hq
  | some v :: σ, some d :: δ, .cons h t => by
    intro q hq
    rcases List.mem_cons.mp (show q ∈ (v, d) :: sk σ δ from hq) with rfl | hq
    · obtain ⟨v', e, r⟩ := h d rfl
      cases e; exact r
    · exact sk_rep t q hq
  | none :: σ, o :: δ, .cons h t => by
    intro q hq
    have : q ∈ sk σ δ := by cases o <;> exact hq
    exact sk_rep t q this
  | some v :: σ, none :: δ, .cons h t => by
    intro q hq
    exact sk_rep t q hq
theorem sk_back {F : List Addr} {H F' H'} : ∀ {σ : St} {δ : Env'}, Paired (SlotOk F H) σ δ → (∀ q ∈ sk σ δ, Rep F' H' q.1 q.2) → Paired (SlotOk F' H') σ δ
  | _, _, .nil, _ => .nil
  | some v :: σ, some d :: δ, .cons h t, k => .cons (fun d' e => by cases e; exact ⟨v, rfl, k (v, d) List.mem_cons_self⟩) (sk_back t fun q hq => k q (List.mem_cons_of_mem _ hq))
  | none :: σ, some d :: δ, .cons h t, k => by
    obtain ⟨v, e, _⟩ := h d rfl
    cases e
  | o :: σ, none :: δ, .cons h t, k => .cons (fun d' e => by cases e) (sk_back t fun q hq => k q (by cases o <;> exact hq))
theorem Rs.pack (R : Rs κ δ M σ H) : Rs (κ ++ sk σ δ) [] M [] H := ⟨fun q hq => by
  rcases List.mem_append.mp hq with h | h
  · exact R.kp q h
  · exact sk_rep R.sl q h, .nil, R.cl, R.nd⟩
theorem Rs.unpack (R : Rs κ δ M σ H) (R' : Rs (κ ++ sk σ δ) [] M' [] H') : Rs κ δ M' σ H' := ⟨fun q hq => R'.kp q (List.mem_append.mpr (.inl hq)), sk_back R.sl fun q hq => R'.kp q (List.mem_append.mpr (.inr hq)), R'.cl, R'.nd⟩
end
/-- a def of the module, with its promise -/
structure Def (P : Program) (w : World) (K : PySem.W.Frag) (mg : Str → Option Value) (base : Heap) (k : Nat) (x : Str) (ps : List Str) (p : DSp) : Prop where
  ex : ∃ f fd, mg x = some (.ref f) ∧ PySem.W.keepIn K (.ref f) = true ∧ Binds K fd ps [] ∧ FnOk P w K mg base CX0 k f fd ps (lift p)
abbrev DefX (X : Cx) := Def X.prog X.w X.K X.mg X.base
section
variable {B : Bx} {X : Cx} {e a b c : Expr} {es rest : List Expr} {st : Stmt} {sts : List Stmt} {δ δ' : Env'} {M : Mem} {Φ : D → Mem → Prop} {Ψ : DEnds} {te ta tb : TE} {tt : TT} {pos pos' : Pos} {d x y : D} {ΦB : Bool → Mem → Prop} {ΦL : List D → Mem → Prop}
theorem de_call {k n : Nat} {x : Str} {ps : List Str} {p : DSp} {pp : Pos} (z : Cz X n) (f : DefX X k x ps p) (hk : k ≤ n) (hg : Gl X x) (h : DA B X (e :: es) δ M fun ds M' => p ds M' Φ)
    (hdb : (x == ("__debug__" : Str)) = false := by decide) (he : starEach (e :: es) X.env = (false, eval e X.env) :: starEach es X.env := by rfl) (hpl : (backTo pos (starEach es X.env)).any (·.1) = false := by rfl) : DE B X (.Call (.Name x pp) (e :: es) [] pos) δ M Φ := by
  obtain ⟨fa, fd, h1, h2, h3, h4⟩ := f.ex
  refine .of (pe_call h4 (z.room.mono hk) hg h1 h2 h3 .nil pass0 cA hdb he hpl) fun κ σ H Q hb R k => h κ σ H _ hb R fun vs ds M1 H1 q R1 r1 => ?_
  rw [List.append_nil]
  exact ⟨κ ++ sk σ δ, ds, M1, Φ, R1.pack, r1, q, fun v d M2 H2 q2 R2 r2 => k v d M2 H2 q2 (R1.unpack R2) r2⟩
/-- what a def's body is to show -/
structure InDef (P : Program) (w : World) (K : PySem.W.Frag) (mg : Str → Option Value) (base : Heap) (N : List Str) (sc : Scope) (k : Nat) (X : Cx) : Prop where
  prog : X.prog = P
  wd : X.w = w
  K : X.K = K
  mg : X.mg = mg
  base : X.base = base
  N : X.N = N
  sc : X.env.scope = sc
  fn : X.fn = fun _ => true
  z : Cz X k
  xe : ∀ v s, ¬ X.xe v s
theorem passes_of {X : Cx} (h : ∀ v s, ¬ X.xe v s) : PassesOwn (model X.prog X.w) X.A X.env X.xe := by
  have : X.xe = fun _ _ => False := by
    funext v s
    exact propext ⟨fun z => (h v s z).elim, fun z => z.elim⟩
  rw [this]
  exact PassesOwn.never
/-- the slots at the entry -/
def startD (n : Nat) (ds : List D) : Env' := ds.map some ++ List.replicate (n - ds.length) none
theorem start_rs {κ : List (V × D)} {M : Mem} {H : Hp} {N : List Str} {vs : List V} {ds : List D} (R : Rs κ [] M [] H) (r : Reps M.F H vs ds) : Rs κ (startD N.length ds) M (L2.start N vs) H := by
  refine ⟨R.kp, ?_, R.cl, R.nd⟩
  unfold L2.start startD
  rw [r.length]
  have h1 : ∀ {vs : List V} {ds : List D}, Reps M.F H vs ds → ∀ n, Paired (SlotOk M.F H) (vs.map some ++ List.replicate n none) (ds.map some ++ List.replicate n none) := by
    intro vs
    induction vs with
    | nil =>
      intro ds r n
      cases r
      show Paired _ (List.replicate n none) (List.replicate n none)
      induction n with
      | zero => exact .nil
      | succ n ih => exact .cons (fun d e => by cases e) ih
    | cons v vs ih =>
      intro ds r n
      cases r with
      | cons r1 r2 => exact .cons (fun d e => by cases e; exact ⟨v, rfl, r1⟩) (ih r2 n)
  exact h1 r _
theorem erase_sub {M : Mem} {j : Nat} : (M.eraseIdx j).Sublist M := List.eraseIdx_sublist M j
theorem F_erase : ∀ {M : Mem} {j : Nat} {p : Addr} {c : Cell}, M.F.Nodup → M[j]? = some (p, c) → p ∉ Mem.F (M.eraseIdx j)
  | [], _, _, _, _, e => by simp at e
  | q :: M, 0, p, c, n, e => by
    have : q = (p, c) := by simpa using e
    subst this
    have n : (own p c ++ Mem.F M).Nodup := n
    intro z
    exact (List.nodup_append.mp n).2.2 p (by cases c <;> simp [own]) p z rfl
  | q :: M, j + 1, p, c, n, e => by
    have n : (own q.1 q.2 ++ Mem.F M).Nodup := n
    show p ∉ own q.1 q.2 ++ Mem.F (M.eraseIdx j)
    intro z
    rcases List.mem_append.mp z with z | z
    · exact (List.nodup_append.mp n).2.2 p z p (List.mem_flatMap.mpr ⟨(p, c), List.mem_of_getElem? (by simpa using e), by cases c <;> simp [own]⟩) rfl
    · exact F_erase (List.nodup_append.mp n).2.1 (by simpa using e) z
theorem Rs.frz {κ : List (V × D)} {σ : St} {H : Hp} {j : Nat} {p : Addr} {ds : List D} (R : Rs κ δ M σ H) (e : M[j]? = some (p, .lst ds)) : Rs κ δ (M.eraseIdx j) σ H ∧ Rep (Mem.F (M.eraseIdx j)) H (.ref p) (.lst ds) := by
  obtain ⟨vs, h1, h2⟩ := R.at e
  exact ⟨R.less erase_sub, .lst (F_erase R.nd e) h1 (h2.fwd (Fwd.less fun x hx => (F_sub erase_sub).subset hx))⟩
theorem Rs.frzO {κ : List (V × D)} {σ : St} {H : Hp} {j : Nat} {p C : Addr} {ns : List Str} {ds : List D} (R : Rs κ δ M σ H) (e : M[j]? = some (p, .obj C ns ds)) : Rs κ δ (M.eraseIdx j) σ H ∧ Rep (Mem.F (M.eraseIdx j)) H (.ref p) (.obj C ns ds) := by
  obtain ⟨dx, vs, h1, hl, h2⟩ := R.at e
  exact ⟨R.less erase_sub, .obj (F_erase R.nd e) h1 hl (h2.fwd (Fwd.less fun x hx => (F_sub erase_sub).subset hx))⟩
/-- behind a return the state may be looked at otherwise -/
def Vw (d : D) (M : Mem) (d2 : D) (M2 : Mem) : Prop := ∀ κ δ σ H v, Rs κ δ M σ H → Rep M.F H v d → Rs κ δ M2 σ H ∧ Rep M2.F H v d2
theorem Vw.refl {d : D} {M : Mem} : Vw d M d M := fun _ _ _ _ _ R r => ⟨R, r⟩
theorem Vw.trans {d d1 d2 : D} {M M1 M2 : Mem} (h1 : Vw d M d1 M1) (h2 : Vw d1 M1 d2 M2) : Vw d M d2 M2 := fun κ δ σ H v R r => let ⟨R1, r1⟩ := h1 κ δ σ H v R r; h2 κ δ σ H v R1 r1
theorem Vw.sub {d : D} {M M2 : Mem} (h : M2.Sublist M) : Vw d M d M2 := fun _ _ _ _ _ R r => ⟨R.less h, r.fwd (Fwd.less fun x hx => (F_sub h).subset hx)⟩
theorem Vw.perm {d : D} {M M2 : Mem} (h : M.Perm M2) : Vw d M d M2 := fun _ _ _ _ _ R r => ⟨R.perm h, r.fwd (Fwd.less fun x hx => (F_perm h).mem_iff.mpr hx)⟩
theorem Vw.frz {p : Addr} {M : Mem} {ds : List D} (j : Nat) (e : M[j]? = some (p, .lst ds)) : Vw (.raw (.ref p)) M (.lst ds) (M.eraseIdx j) := fun _ _ _ _ _ R r => by
  cases r
  exact R.frz e
theorem Vw.frzO {p C : Addr} {ns : List Str} {M : Mem} {ds : List D} (j : Nat) (e : M[j]? = some (p, .obj C ns ds)) : Vw (.raw (.ref p)) M (.obj C ns ds) (M.eraseIdx j) := fun _ _ _ _ _ R r => by
  cases r
  exact R.frzO e
theorem fnok_of {P : Program} {w : World} {K : PySem.W.Frag} {mg : Str → Option Value} {base : Heap} {x qual : Str} {st : Stmt} {f : Addr} {fd : FuncData} {N ps : List Str} {k : Nat} {p : DSp} (F : Fun K x qual st f fd) (S : FnScope N ps (defScope st))
    (len : ∀ ds M Φ, p ds M Φ → ds.length = ps.length)
    (h : ∀ X B, InDef P w K mg base N (defScope st) k X → ∀ ds M Φ, p ds M Φ → DSs B X (defBody st) (startD N.length ds) M { nx := fun _ M' => ∃ d2 M2, Vw .non M' d2 M2 ∧ Φ d2 M2, rt := fun d M' => ∃ d2 M2, Vw d M' d2 M2 ∧ Φ d2 M2 }) : FnOk P w K mg base CX0 (k + 1) f fd ps (lift p) := by
  refine F.ok S (fun vs H Q E hl => ?_) fun cdv A outer s H vs Q E hr hl => ?_
  · obtain ⟨κ, ds, M, Φ, R, r, q, _⟩ := hl
    rw [r.length]; exact len ds M Φ q
  · obtain ⟨κ, ds, M, Φ, R, r, q, kk⟩ := hl
    refine ⟨_, cSs, ?_⟩
    refine h _ (B0 κ) ⟨rfl, rfl, rfl, rfl, rfl, rfl, rfl, rfl, ⟨S.nd, rfl, hr⟩, fun _ _ z => z⟩ ds M Φ q κ _ H _ (fun _ h => h) (start_rs R r) ⟨fun δ M' σ H' ⟨d2, M2, h1, h2⟩ R' => ?_, fun v d M' δ σ H' ⟨d2, M2, h1, h2⟩ R' r' => ?_, fun _ _ _ _ z => z.elim, fun _ _ _ _ z => z.elim⟩
    · obtain ⟨R2, r2⟩ := h1 _ _ _ _ _ R' .non
      exact kk .non d2 M2 H' h2 ⟨R2.kp, .nil, R2.cl, R2.nd⟩ r2
    · obtain ⟨R2, r2⟩ := h1 _ _ _ _ _ R' r'
      exact kk v d2 M2 H' h2 ⟨R2.kp, .nil, R2.cl, R2.nd⟩ r2
/-! names of a def's body -/
def visB (sc : Scope) (x : Str) : Bool := match sc.names.lookup x with
  | some .local => true
  | some .cell => true
  | some .free => true
  | _ => false
def locB (sc : Scope) (x : Str) : Bool := match sc.names.lookup x with
  | some .local => true
  | some .cell => true
  | _ => false
def nmB (N : List Str) (sc : Scope) (i : Nat) (x : Str) : Bool := decide (N[i]? = some x) && visB sc x && !(x == ("__debug__" : Str)) && !(x == ("__classdict__" : Str))
theorem vis_of {sc : Scope} {x : Str} (h : visB sc x = true) : Vis sc x := by
  unfold visB at h
  unfold Vis
  split at h
  · next e => exact .inl e
  · next e => exact .inr (.inl e)
  · next e => exact .inr (.inr e)
  · cases h
theorem loc_of {sc : Scope} {x : Str} (h : locB sc x = true) : L2.Loc sc x := by
  unfold locB at h
  unfold L2.Loc
  split at h
  · next e => exact .inl e
  · next e => exact .inr e
  · cases h
theorem nm_of {N : List Str} {sc : Scope} {i : Nat} {x : Str} (hN : X.N = N) (hs : X.env.scope = sc) (h : nmB N sc i x = true) : Nm X i x := by
  unfold nmB at h
  simp only [Bool.and_eq_true, decide_eq_true_eq, Bool.not_eq_true'] at h
  exact ⟨by rw [hN]; exact h.1.1.1, by rw [hs]; exact vis_of h.1.1.2, h.1.2, h.2⟩
theorem lo_of {N : List Str} {sc : Scope} {i : Nat} {x : Str} (hN : X.N = N) (hs : X.env.scope = sc) (hf : X.fn = fun _ => true) (h : (nmB N sc i x && locB sc x) = true) : Lo X i x := by
  rw [Bool.and_eq_true] at h
  exact ⟨nm_of hN hs h.1, by rw [hs]; exact loc_of h.2, .inl (by rw [hf])⟩
theorem gl_of {sc : Scope} {x : Str} (hs : X.env.scope = sc) (h : sc.names.lookup x = some .globalImplicit) : Gl X x := by
  unfold Gl Env.kindOf
  rw [hs]; exact h
theorem gn_of {sc : Scope} {x : Str} (hs : X.env.scope = sc) (h : sc.names.lookup x = some .globalImplicit) (hm : X.mg x = none) : Gn X x := ⟨gl_of hs h, hm⟩
/-! another view of the same state -/
theorem WS.view {ts : TS} {M' : Mem} (h : WS B ts δ' M' Ψ) (v : ∀ κ σ H, Rs κ δ M σ H → Rs κ δ' M' σ H) : WS B ts δ M Ψ := fun κ σ H E hb R k => h κ σ H E hb (v κ σ H R) k
/-! ### built-ins -/
end
end Hl
namespace Hl
open PySem L2
section
variable {B : Bx} {X : Cx} {e a b c o : Expr} {es rest : List Expr} {st : Stmt} {sts : List Stmt} {δ δ' : Env'} {M : Mem} {Φ : D → Mem → Prop} {Ψ : DEnds} {te ta tb : TE} {tt : TT} {pos pos' apos : Pos} {d x y : D} {ΦB : Bool → Mem → Prop} {ΦL : List D → Mem → Prop}
/-! ### stores into cells -/
def putD (kvs : List (Key × D)) (k : Key) (d : D) : List (Key × D) :=
  if (kvs.any fun kv => decide (kv.1 = k)) = true then kvs.map (fun kv => if kv.1 = k then (kv.1, d) else kv) else kvs ++ [(k, d)]
theorem put_keys {k : Key} {v : V} {d : D} {ws : List (Key × V)} {kvs : List (Key × D)} (h : ws.map (·.1) = kvs.map (·.1)) : (putK ws k v).map (·.1) = (putD kvs k d).map (·.1) := by
  have h1 : (ws.any fun kv => decide (kv.1 = k)) = (kvs.any fun kv => decide (kv.1 = k)) := by
    have e1 : (ws.any fun kv => decide (kv.1 = k)) = (ws.map (·.1)).any fun q => decide (q = k) := by rw [List.any_map]; rfl
    have e2 : (kvs.any fun kv => decide (kv.1 = k)) = (kvs.map (·.1)).any fun q => decide (q = k) := by rw [List.any_map]; rfl
    rw [e1, e2, h]
  unfold putK putD
  rw [h1]
  split
  · have a1 : ∀ (ws : List (Key × V)), (ws.map (fun kv => if kv.1 = k then (kv.1, v) else kv)).map (·.1) = ws.map (·.1) := fun ws => by
      rw [List.map_map]; apply List.map_congr_left; intro q _; show (if q.1 = k then (q.1, v) else q).1 = q.1; split <;> rfl
    have a2 : ∀ (ws : List (Key × D)), (ws.map (fun kv => if kv.1 = k then (kv.1, d) else kv)).map (·.1) = ws.map (·.1) := fun ws => by
      rw [List.map_map]; apply List.map_congr_left; intro q _; show (if q.1 = k then (q.1, d) else q).1 = q.1; split <;> rfl
    rw [a1, a2, h]
  · rw [List.map_append, List.map_append, h]; rfl
theorem put_vals {F : List Addr} {H : Hp} {k : Key} {v : V} {d : D} (r : Rep F H v d) {ws : List (Key × V)} {kvs : List (Key × D)} (h : ws.map (·.1) = kvs.map (·.1)) (rs : Reps F H (ws.map (·.2)) (kvs.map (·.2))) : Reps F H ((putK ws k v).map (·.2)) ((putD kvs k d).map (·.2)) := by
  have h1 : (ws.any fun kv => decide (kv.1 = k)) = (kvs.any fun kv => decide (kv.1 = k)) := by
    have e1 : (ws.any fun kv => decide (kv.1 = k)) = (ws.map (·.1)).any fun q => decide (q = k) := by rw [List.any_map]; rfl
    have e2 : (kvs.any fun kv => decide (kv.1 = k)) = (kvs.map (·.1)).any fun q => decide (q = k) := by rw [List.any_map]; rfl
    rw [e1, e2, h]
  unfold putK putD
  rw [h1]
  split
  · clear h1
    have : ∀ {ws : List (Key × V)} {kvs : List (Key × D)}, ws.map (·.1) = kvs.map (·.1) → Reps F H (ws.map (·.2)) (kvs.map (·.2)) → Reps F H ((ws.map (fun kv => if kv.1 = k then (kv.1, v) else kv)).map (·.2)) ((kvs.map (fun kv => if kv.1 = k then (kv.1, d) else kv)).map (·.2)) := by
      intro ws
      induction ws with
      | nil => intro kvs h r; cases kvs with
        | nil => exact .nil
        | cons _ _ => cases h
      | cons q ws ih =>
        intro kvs h r1
        cases kvs with
        | nil => cases h
        | cons q' kvs =>
          have e1 : q.1 = q'.1 := (List.cons.inj h).1
          have e2 : ws.map (·.1) = kvs.map (·.1) := (List.cons.inj h).2
          cases r1 with
          | cons r1 r2 =>
            refine .cons ?_ (ih e2 r2)
            show Rep F H (if q.1 = k then (q.1, v) else q).2 (if q'.1 = k then (q'.1, d) else q').2
            rw [e1]
            split
            · exact r
            · exact r1
    exact this h rs
  · rw [List.map_append, List.map_append]
    exact rs.append (.cons r .nil)
def tsetU : TSet := fun o i v H Q => rSetL o i v H Q ∨ rSetD o i v H Q
theorem set_U {n : Nat} (z : Cz X n) : PSet X tsetU := by
  intro pins s σ H o i v ov iv u Q I ro ri rv h
  rcases h with h | h
  · exact set_list pins s σ H o i v ov iv u Q I ro ri rv h
  · exact set_dict (un1 z) pins s σ H o i v ov iv u Q I ro ri rv h
/-- o[i] = v, by data -/
def SetD (o i v : D) (M : Mem) (Φ : Mem → Prop) : Prop := ∀ κ (δ : Env') σ H vo vi vv Q, Rs κ δ M σ H → Rep M.F H vo o → Rep M.F H vi i → Rep M.F H vv v → (∀ M' H', Φ M' → Rs κ δ M' σ H' → Q H') → tsetU vo vi vv H Q
theorem dg_sub {n : Nat} (z : Cz X n) {Φ : Env' → Mem → Prop} (h : DE B X o δ M fun x M1 => DE B X b δ M1 fun y M2 => SetD x y d M2 fun M3 => Φ δ M3)
    (ha : ∀ v, assign (.Subscript o b pos) X.env v = (do
      let ov ← holding [v] (eval o X.env)
      let iv ← holding [v, ov] (eval b X.env)
      standAt pos
      holding [v, ov, iv] (setItem ov iv v)
      release [v, ov, iv] []) := by intro _; rfl) : DG B X (.Subscript o b pos) d δ M Φ := .of (pg_sub cE cE (set_U z) ha) fun κ σ H v Q hb R r k =>
  h ((v, d) :: κ) σ H _ (fun q hq => List.mem_cons_of_mem _ (hb q hq)) (R.push r) fun vo x M1 H1 q1 R1 r1 => q1 ((vo, x) :: (v, d) :: κ) σ H1 _ (fun q hq => List.mem_cons_of_mem _ (List.mem_cons_of_mem _ (hb q hq))) (R1.push r1) fun vi y M2 H2 q2 R2 r2 =>
    q2 κ δ σ H2 vo vi v _ R2.pop.pop R2.top r2 R2.pop.top fun M3 H3 q3 R3 => k _ _ _ _ q3 R3
theorem sd_list {j : Nat} {p : Addr} {ds : List D} {i : Int} {m : Nat} {Φ : Mem → Prop} (hm : M[j]? = some (p, .lst ds)) (hi : ixN ds.length i = some m) (k : Φ (M.set j (p, .lst (ds.set m d)))) : SetD (.raw (.ref p)) (.int i) d M Φ := fun κ δ σ H vo vi vv Q R r1 r2 r3 h => by
  cases r1; cases r2
  obtain ⟨vs, e1, rs⟩ := R.at hm
  refine .inl ⟨p, vs, i, m, rfl, rfl, e1, by rw [rs.length]; exact hi, h _ _ k ?_⟩
  have hp : ∀ x, x ∉ M.F → upd H p (.lst (vs.set m vv)) x = H x := fun x hx => upd_ne fun z => hx (z ▸ R.mem hm p (by simp [own]))
  exact R.cell hm rfl (fun x hx => upd_ne (by simpa [own] using hx)) ⟨_, upd_same, (rs.set r3 m).fwd (Fwd.same hp)⟩
theorem sd_dict {p : Addr} {kvs : List (Key × D)} {k : Key} {Φ : Mem → Prop} (j : Nat) (hm : M[j]? = some (p, .dct kvs)) (hk : y = kD k) (hl : kvs.length < sizeLine) (q : Φ (M.set j (p, .dct (putD kvs k d)))) : SetD (.raw (.ref p)) y d M Φ := fun κ δ σ H vo vi vv Q R r1 r2 r3 h => by
  subst hk
  have := rep_k r2
  subst this
  cases r1
  obtain ⟨ws, e1, e2, rs⟩ := R.at hm
  have el : ws.length = kvs.length := by simpa using congrArg List.length e2
  refine .inr ⟨p, _, rfl, .inl ⟨ws, k, e1, rfl, by rw [el]; exact hl, rfl⟩, h _ _ q ?_⟩
  have hp : ∀ x, x ∉ M.F → upd H p (.dK (putK ws k vv)) x = H x := fun x hx => upd_ne fun z => hx (z ▸ R.mem hm p (by simp [own]))
  exact R.cell hm rfl (fun x hx => upd_ne (by simpa [own] using hx)) ⟨_, upd_same, put_keys e2, (put_vals r3 e2 rs).fwd (Fwd.same hp)⟩
/-! ### methods of lists that are cells -/
def MtD (K : PySem.W.Frag) (T : String) (r : V → List V → Hp → VK → Prop) (x : D) (ds : List D) (M : Mem) (Φ : D → Mem → Prop) : Prop := ∀ κ (δ : Env') σ H v vs Q, Rs κ δ M σ H → Rep M.F H v x → Reps M.F H vs ds → (∀ u d M' H', Φ d M' → Rs κ δ M' σ H' → Rep M'.F H' u d → Q u H') → r v vs H Q
/-- a list, by data -/
inductive IsL (M : Mem) : D → List D → Prop
  | val (ds : List D) : IsL M (.lst ds) ds
  | cell {p : Addr} {ds : List D} (j : Nat) (h : M[j]? = some (p, .lst ds)) : IsL M (.raw (.ref p)) ds
  | inm {p : Addr} {ds : List D} (h : InM M p (.lst ds)) : IsL M (.raw (.ref p)) ds
theorem IsL.sq {κ : List (V × D)} {σ : St} {H : Hp} {v : V} {x : D} {ds : List D} (h : IsL M x ds) (R : Rs κ δ M σ H) (r : Rep M.F H v x) : ∃ p vs, v = .ref p ∧ H p = some (.lst vs) ∧ Reps M.F H vs ds := by
  cases h with
  | val ds => cases r with | lst h1 e1 r1 => exact ⟨_, _, rfl, e1, r1⟩
  | cell j h =>
    cases r
    obtain ⟨vs, e1, r1⟩ := R.at h
    exact ⟨_, vs, rfl, e1, r1⟩
  | inm h =>
    cases r
    obtain ⟨vs, e1, r1⟩ := h.ok R
    exact ⟨_, vs, rfl, e1, r1⟩
theorem de_bml {name : Str} {id : String} {r : V → List V → Hp → VK → Prop} {cpos : Pos} (slot : Slot "list" name id) (hty : typeOf (.builtin id) = pure (.type "method_descriptor")) (hm : MtR X id r)
    (h : DE B X o δ M fun x M1 => (∃ ds, IsL M1 x ds) ∧ DA B X (e :: es) δ M1 fun ys M2 => MtD X.K "list" r x ys M2 Φ)
    (hbase : attributeBase o name X.env (eval o X.env) = eval o X.env := by rfl)
    (hfew : ((backTo cpos (starEach (e :: es) X.env)).all (fun x => !x.1) && (backToKw cpos (keywordEach [] X.env)).all (fun x => x.1.isSome)
      && decide ((e :: es).length + ([] : List Keyword).length + (if ([] : List Keyword).isEmpty then 0 else 1) < 30)) = true := by rfl)
    (hline : (apos.endLine == cpos.line) = true := by rfl) (hs : starEach (e :: es) X.env = (false, eval e X.env) :: starEach es X.env := by rfl) (hplain : (backTo cpos (starEach es X.env)).any (·.1) = false := by rfl) :
    DE B X (.Call (.Attribute o name apos) (e :: es) [] cpos) δ M Φ := .of (pe_bm PySem.F.plainAttrs_list slot hty hm cE cA hbase hfew hline hs hplain) fun κ σ H Q hb R k =>
  h κ σ H _ hb R fun v x M1 H1 ⟨⟨ds, il⟩, q⟩ R1 r1 => by
    obtain ⟨p, vs, ev, e1, rr⟩ := il.sq R1 r1
    refine ⟨by subst ev; exact .inl ⟨rfl, vs, SqL.of e1⟩, ?_⟩
    exact q ((v, x) :: κ) σ H1 _ (fun q hq => List.mem_cons_of_mem _ (hb q hq)) (R1.push r1) fun vs ys M2 H2 q2 R2 r2 => q2 κ δ σ H2 v vs Q R2.pop R2.top r2 k
theorem de_append {cpos : Pos} (h : DE B X o δ M fun x M1 => (∃ ds, IsL M1 x ds) ∧ DA B X [a] δ M1 fun ys M2 => MtD X.K "list" rAppend x ys M2 Φ)
    (hbase : attributeBase o "append" X.env (eval o X.env) = eval o X.env := by rfl)
    (hfew : ((backTo cpos (starEach [a] X.env)).all (fun x => !x.1) && (backToKw cpos (keywordEach [] X.env)).all (fun x => x.1.isSome)
      && decide (([a] : List Expr).length + ([] : List Keyword).length + (if ([] : List Keyword).isEmpty then 0 else 1) < 30)) = true := by rfl)
    (hline : (apos.endLine == cpos.line) = true := by rfl) (hs : starEach [a] X.env = (false, eval a X.env) :: starEach [] X.env := by rfl) (hplain : (backTo cpos (starEach [] X.env)).any (·.1) = false := by rfl) :
    DE B X (.Call (.Attribute o "append" apos) [a] [] cpos) δ M Φ := de_bml PySem.F.slot_list_append PySem.F.type_list_append mt_append h hbase hfew hline hs hplain
theorem mt_app {K : PySem.W.Frag} {j : Nat} {p : Addr} {ds : List D} (hm : M[j]? = some (p, .lst ds)) (hl : ds.length < sizeLine) (k : Φ .non (M.set j (p, .lst (ds ++ [d])))) : MtD K "list" rAppend (.raw (.ref p)) [d] M Φ := fun κ δ σ H v vs Q R rv rs h => by
  cases rv
  cases rs with
  | cons r1 r2 =>
    cases r2
    obtain ⟨vs, e1, rr⟩ := R.at hm
    rename_i u
    refine ⟨p, vs, u, rfl, rfl, e1, by rw [rr.length]; exact hl, h _ _ _ _ k ?_ .non⟩
    have hp : ∀ x, x ∉ M.F → upd H p (.lst (vs ++ [u])) x = H x := fun x hx => upd_ne fun z => hx (z ▸ R.mem hm p (by simp [own]))
    exact R.cell hm rfl (fun x hx => upd_ne (by simpa [own] using hx)) ⟨_, upd_same, (rr.append (.cons r1 .nil)).fwd (Fwd.same hp)⟩
theorem sd_dictA {p : Addr} {kvs : List (Key × D)} {k : Key} {M' : Mem} {Φ : Mem → Prop} (hr : Rpl p (.dct kvs) (.dct (putD kvs k d)) M M') (hk : y = kD k) (hl : kvs.length < sizeLine) (q : Φ M') : SetD (.raw (.ref p)) y d M Φ := fun κ δ σ H vo vi vv Q R r1 r2 r3 h => by
  subst hk
  have := rep_k r2
  subst this
  cases r1
  obtain ⟨ws, e1, e2, rs⟩ := hr.inM.ok R
  have el : ws.length = kvs.length := by simpa using congrArg List.length e2
  refine .inr ⟨p, _, rfl, .inl ⟨ws, k, e1, rfl, by rw [el]; exact hl, rfl⟩, h _ _ q ?_⟩
  have hp : ∀ x, x ∉ M.F → upd H p (.dK (putK ws k vv)) x = H x := fun x hx => upd_ne fun z => hx (z ▸ hr.inM.mem)
  exact R.rpl hr (fun x hx => upd_ne hx) ⟨_, upd_same, put_keys e2, (put_vals r3 e2 rs).fwd (Fwd.same hp)⟩
theorem de_pop {cpos : Pos} (h : DE B X o δ M fun x M1 => (∃ ds, IsL M1 x ds) ∧ DA B X [a] δ M1 fun ys M2 => MtD X.K "list" rPopAt x ys M2 Φ)
    (hbase : attributeBase o "pop" X.env (eval o X.env) = eval o X.env := by rfl)
    (hfew : ((backTo cpos (starEach [a] X.env)).all (fun x => !x.1) && (backToKw cpos (keywordEach [] X.env)).all (fun x => x.1.isSome)
      && decide (([a] : List Expr).length + ([] : List Keyword).length + (if ([] : List Keyword).isEmpty then 0 else 1) < 30)) = true := by rfl)
    (hline : (apos.endLine == cpos.line) = true := by rfl) (hs : starEach [a] X.env = (false, eval a X.env) :: starEach [] X.env := by rfl) (hplain : (backTo cpos (starEach [] X.env)).any (·.1) = false := by rfl) :
    DE B X (.Call (.Attribute o "pop" apos) [a] [] cpos) δ M Φ := de_bml PySem.F.slot_list_pop PySem.F.type_list_pop mt_popAt h hbase hfew hline hs hplain
theorem mt_popD {K : PySem.W.Frag} {j m : Nat} {p : Addr} {ds : List D} {i : Int} (hm : M[j]? = some (p, .lst ds)) (h1 : -(2 ^ 63) ≤ i) (h2 : i < 2 ^ 63) (hi : seqIndex? i ds.length = some m) (hd : ds[m]? = some d) (k : Φ d (M.set j (p, .lst (ds.eraseIdx m)))) : MtD K "list" rPopAt (.raw (.ref p)) [.int i] M Φ := fun κ δ σ H v vs Q R rv rs h => by
  cases rv
  cases rs with
  | cons r1 r2 =>
    cases r2
    cases r1
    obtain ⟨vs, e1, rr⟩ := R.at hm
    obtain ⟨u, e2, ru⟩ := rr.get' hd
    have hp : ∀ x, x ∉ M.F → upd H p (.lst (vs.eraseIdx m)) x = H x := fun x hx => upd_ne fun z => hx (z ▸ R.mem hm p (by simp [own]))
    refine ⟨p, vs, i, m, u, rfl, rfl, e1, h1, h2, by rw [rr.length]; exact hi, e2, h _ _ _ _ k ?_ ?_⟩
    · exact R.cell hm rfl (fun x hx => upd_ne (by simpa [own] using hx)) ⟨_, upd_same, (rr.erase m).fwd (Fwd.same hp)⟩
    · rw [F_set (c' := .lst (ds.eraseIdx m)) hm rfl]
      exact ru.fwd (Fwd.same hp)
/-! ### built-in functions -/
def CallD (r : List V → Hp → VK → Prop) (ds : List D) (M : Mem) (Φ : D → Mem → Prop) : Prop := ∀ κ (δ : Env') σ H vs Q, Rs κ δ M σ H → Reps M.F H vs ds → (∀ v d M' H', Φ d M' → Rs κ δ M' σ H' → Rep M'.F H' v d → Q v H') → r vs H Q
theorem CallD.inl {r r' : List V → Hp → VK → Prop} {ds : List D} (h : CallD r ds M Φ) : CallD (fun vs H Q => r vs H Q ∨ r' vs H Q) ds M Φ := fun κ δ σ H vs Q R rs k => .inl (h κ δ σ H vs Q R rs k)
theorem CallD.inr {r r' : List V → Hp → VK → Prop} {ds : List D} (h : CallD r' ds M Φ) : CallD (fun vs H Q => r vs H Q ∨ r' vs H Q) ds M Φ := fun κ δ σ H vs Q R rs k => .inr (h κ δ σ H vs Q R rs k)
theorem de_blt {id : String} {r : List V → Hp → VK → Prop} {x : Str} {p : Pos} (hc : CallR X (.builtin id) r) (g : Gn X x) (hv : bootBuiltins x = some (.builtin id)) (h : DA B X (e :: es) δ M fun ds M1 => CallD r ds M1 Φ)
    (hn : x ≠ "__name__" := by decide) (hdb : (x == ("__debug__" : Str)) = false := by decide) (he : starEach (e :: es) X.env = (false, eval e X.env) :: starEach es X.env := by rfl) (hpl : (backTo pos (starEach es X.env)).any (·.1) = false := by rfl) : DE B X (.Call (.Name x p) (e :: es) [] pos) δ M Φ :=
  .of (pe_callB hc g.gl g.no hv cA hn hdb he hpl) fun κ σ H Q hb R k => h κ σ H _ hb R fun vs ds M1 H1 q R1 r1 => q κ δ σ H1 vs Q R1 r1 k
def rLenU (K : PySem.W.Frag) : List V → Hp → VK → Prop := fun xs H Q => ∃ x n, xs = [x] ∧ LenV K x H n ∧ Q (.int n) H
theorem de_len {p : Pos} (g : Gn X "len") (h : DA B X [a] δ M fun ds M1 => CallD (rLenU X.K) ds M1 Φ) (he : starEach [a] X.env = (false, eval a X.env) :: starEach [] X.env := by rfl) (hpl : (backTo pos (starEach [] X.env)).any (·.1) = false := by rfl) : DE B X (.Call (.Name "len" p) [a] [] pos) δ M Φ := de_blt call_len g PySem.boot_len h (by decide) (by decide) he hpl
theorem cd_lenL {K : PySem.W.Frag} {ds : List D} (h : IsL M x ds) (k : Φ (.int (ds.length : Nat)) M) : CallD (rLenU K) [x] M Φ := fun κ δ σ H vs Q R rs f => by
  cases rs with
  | cons r1 r2 =>
    cases r2
    obtain ⟨p, vs, rfl, e1, rr⟩ := h.sq R r1
    exact ⟨_, vs.length, rfl, .inl ⟨vs, SqL.of e1, rfl⟩, by rw [rr.length]; exact f _ _ _ _ k R (.int _)⟩
theorem cd_lenT {K : PySem.W.Frag} {ds : List D} (k : Φ (.int (ds.length : Nat)) M) : CallD (rLenU K) [.tup ds] M Φ := fun κ δ σ H vs Q R rs f => by
  cases rs with
  | cons r1 r2 =>
    cases r2
    cases r1 with
    | tup h1 e1 rr => exact ⟨_, _, rfl, .inr ⟨_, SqT.of e1, rfl⟩, by rw [rr.length]; exact f _ _ _ _ k R (.int _)⟩
theorem cd_lenS {K : PySem.W.Frag} {z : Str} (hl : z.length ≤ sizeLine) (k : Φ (.int (z.length : Nat)) M) : CallD (rLenU K) [.str z] M Φ := fun κ δ σ H vs Q R rs f => by
  cases rs with
  | cons r1 r2 =>
    cases r2
    cases r1
    exact ⟨_, z.length, rfl, ⟨hl, rfl⟩, f _ _ _ _ k R (.int _)⟩
theorem cd_lenX {K : PySem.W.Frag} {ns : List Int} (k : Φ (.int (ns.length : Nat)) M) : CallD (rLenU K) [.scr K ns] M Φ := fun κ δ σ H vs Q R rs f => by
  cases rs with
  | cons r1 r2 =>
    cases r2
    cases r1 with
    | scrH h1 e1 => exact ⟨_, _, rfl, .inl ⟨_, .inl e1, rfl⟩, by rw [List.length_map]; exact f _ _ _ _ k R (.int _)⟩
    | scrK h1 => exact ⟨_, _, rfl, .inl ⟨_, h1 H, rfl⟩, by rw [List.length_map]; exact f _ _ _ _ k R (.int _)⟩
def rMin2 : List V → Hp → VK → Prop := fun xs H Q => ∃ i j, xs = [.int i, .int j] ∧ Q (.int (if j < i then j else i)) H
def rMax2 : List V → Hp → VK → Prop := fun xs H Q => ∃ i j, xs = [.int i, .int j] ∧ Q (.int (if j > i then j else i)) H
open PyProof.Rows in
theorem de_min2 {n : Nat} (z : Cz X n) {p : Pos} (g : Gn X "min") (h : DA B X [a, b] δ M fun ds M1 => CallD rMin2 ds M1 Φ) (he : starEach [a, b] X.env = (false, eval a X.env) :: starEach [b] X.env := by rfl) (hpl : (backTo pos (starEach [b] X.env)).any (·.1) = false := by rfl) : DE B X (.Call (.Name "min" p) [a, b] [] pos) δ M Φ := de_blt (call_min2 z.calm) g boot_min h (by decide) (by decide) he hpl
open PyProof.Rows in
theorem de_max2 {n : Nat} (z : Cz X n) {p : Pos} (g : Gn X "max") (h : DA B X [a, b] δ M fun ds M1 => CallD rMax2 ds M1 Φ) (he : starEach [a, b] X.env = (false, eval a X.env) :: starEach [b] X.env := by rfl) (hpl : (backTo pos (starEach [b] X.env)).any (·.1) = false := by rfl) : DE B X (.Call (.Name "max" p) [a, b] [] pos) δ M Φ := de_blt (call_max2 z.calm) g boot_max h (by decide) (by decide) he hpl
theorem cd_min2 {i j : Int} (k : Φ (.int (min i j)) M) : CallD rMin2 [.int i, .int j] M Φ := fun κ δ σ H vs Q R rs f => by
  cases rs with
  | cons r1 r2 =>
    cases r1
    cases r2 with
    | cons r2 r3 =>
      cases r2; cases r3
      exact ⟨i, j, rfl, by rw [show (if j < i then j else i) = min i j by omega]; exact f _ _ _ _ k R (.int _)⟩
theorem cd_max2 {i j : Int} (k : Φ (.int (max i j)) M) : CallD rMax2 [.int i, .int j] M Φ := fun κ δ σ H vs Q R rs f => by
  cases rs with
  | cons r1 r2 =>
    cases r1
    cases r2 with
    | cons r2 r3 =>
      cases r2; cases r3
      exact ⟨i, j, rfl, by rw [show (if j > i then j else i) = max i j by omega]; exact f _ _ _ _ k R (.int _)⟩
/-! isinstance -/
/-- a built-in type as a value -/
theorem de_tyN {x : Str} {T : String} (g : Gn X x) (hv : bootBuiltins x = some (.type T)) (k : Φ (.raw (.ty T)) M) (hn : x ≠ "__name__" := by decide) (hd : (x == ("__debug__" : Str)) = false := by decide) : DE B X (.Name x pos) δ M Φ := .of (pe_bltn (v := .ty T) g.gl g.no hv rfl hn hd) (.val (fun _ _ => .raw _) k)
/-- the name of the type -/
def tyD : D → Option String
  | .non => some "NoneType"
  | .bl _ => some "bool"
  | .int _ => some "int"
  | .str _ => some "str"
  | .lst _ => some "list"
  | .tup _ => some "tuple"
  | _ => none
theorem cd_isi {K : PySem.W.Frag} {T S : String} {r : Bool} (hx : tyD x = some S) (hk : kitB S T = some r) (k : Φ (.bl r) M) : CallD (rIsi K) [x, .raw (.ty T)] M Φ := fun κ δ σ H vs Q R rs f => by
  cases rs with
  | cons r1 r2 =>
    cases r2 with
    | cons r2 r3 =>
      cases r2; cases r3
      refine ⟨_, _, .type S, .type T, r, rfl, .ty T, ?_, kit_ty hk, f _ _ _ _ k R (.bl _)⟩
      cases r1 with
      | non => cases hx; exact .base .non
      | bl b => cases hx; exact .base (.bl b)
      | int i => cases hx; exact .base (.int i)
      | str i => cases hx; exact .base (.str i)
      | lst h1 e1 _ => cases hx; exact .base (.lst e1)
      | tup h1 e1 _ => cases hx; exact .base (.tup e1)
      | obj _ _ _ _ => cases hx
      | raw _ => cases hx
      | scrH _ _ => cases hx
      | scrK _ => cases hx
      | exn0 _ _ => cases hx
      | exn _ _ _ _ _ _ => cases hx
      | fd _ _ _ _ _ => cases hx
      | hp _ _ => cases hx
end
end Hl
namespace Hl
open PySem L2
section
variable {B : Bx} {X : Cx} {e a b c o : Expr} {es rest : List Expr} {st : Stmt} {sts : List Stmt} {δ δ' : Env'} {M : Mem} {Φ : D → Mem → Prop} {Ψ : DEnds} {te ta tb : TE} {tt : TT} {pos pos' apos : Pos} {d x y : D} {ΦB : Bool → Mem → Prop} {ΦL : List D → Mem → Prop}
/-! ### comprehensions -/
/-- the context of a comprehension's block -/
structure Bk (X X' : Cx) (scope : Scope) : Prop where
  prog : X'.prog = X.prog
  wd : X'.w = X.w
  K : X'.K = X.K
  mg : X'.mg = X.mg
  base : X'.base = X.base
  N : X'.N = X.N
  A : X'.A = X.A
  calm : X'.calm = X.calm
  sc : X'.env.scope = relS scope X.env.scope
  xe : ∀ v s, ¬ X'.xe v s
  fn : ∀ x, scope.names.lookup x = some .cell → X'.fn x = true
theorem Bk.z {X X' : Cx} {scope : Scope} {n : Nat} (h : Bk X X' scope) (z : Cz X n) : Cz X' n := ⟨by rw [h.N]; exact z.nd, by rw [h.calm]; exact z.calm, by rw [h.A]; exact z.room⟩
theorem Bk.df {X X' : Cx} {scope : Scope} {k : Nat} {x : Str} {ps : List Str} {p : DSp} (h : Bk X X' scope) (d : DefX X k x ps p) : DefX X' k x ps p := by
  unfold DefX
  rw [h.prog, h.wd, h.K, h.mg, h.base]
  exact d
theorem Bk.nm {X X' : Cx} {scope sc : Scope} {N : List Str} {i : Nat} {x : Str} (h : Bk X X' scope) (hN : X.N = N) (hs : X.env.scope = sc) (hh : nmB N (relS scope sc) i x = true) : Nm X' i x := nm_of (by rw [h.N, hN]) (by rw [h.sc, hs]) hh
theorem Bk.lo {X X' : Cx} {scope sc : Scope} {N : List Str} {i : Nat} {x : Str} (h : Bk X X' scope) (hN : X.N = N) (hs : X.env.scope = sc) (hh : (nmB N (relS scope sc) i x && (decide ((relS scope sc).names.lookup x = some .local) || (locB (relS scope sc) x && decide (scope.names.lookup x = some .cell)))) = true) : Lo X' i x := by
  rw [Bool.and_eq_true] at hh
  rcases Bool.or_eq_true _ _ ▸ hh.2 with hl | hl
  · have e := of_decide_eq_true hl
    exact ⟨h.nm hN hs hh.1, by rw [h.sc, hs]; exact .inl e, .inr (by rw [h.sc, hs]; exact e)⟩
  · rw [Bool.and_eq_true] at hl
    exact ⟨h.nm hN hs hh.1, by rw [h.sc, hs]; exact loc_of hl.1, .inl (h.fn x (of_decide_eq_true hl.2))⟩
theorem Bk.gl {X X' : Cx} {scope sc : Scope} {x : Str} (h : Bk X X' scope) (hs : X.env.scope = sc) (hh : (relS scope sc).names.lookup x = some .globalImplicit) : Gl X' x := gl_of (by rw [h.sc, hs]) hh
def wipeD (δ : Env') : List Nat → Env'
  | [] => δ
  | v :: vs => (wipeD δ vs).set v none
theorem Rs.wipe {κ : List (V × D)} {σ : St} {H : Hp} (R : Rs κ δ M σ H) : ∀ vs : List Nat, Rs κ (wipeD δ vs) M (L2.wipe σ vs) H
  | [] => R
  | v :: vs => (R.wipe vs).wipe1 v none
/-! targets of a comprehension -/
inductive Tk where
  | one (i : Nat) | tup (is : List Nat)
def gNames : List Nat → TGs
  | [] => gNil
  | i :: is => gCons (gName i) (gNames is)
def gK (K : PySem.W.Frag) : Tk → TG
  | .one i => gName i
  | .tup is => gTup K is.length (gNames is)
def setsD : Env' → List Nat → List D → Env'
  | δ, i :: is, d :: ds => setsD (δ.set i (some d)) is ds
  | δ, _, _ => δ
def sets : St → List Nat → List V → St
  | σ, i :: is, v :: vs => sets (σ.set i (some v)) is vs
  | σ, _, _ => σ
def slotsK : Tk → List Nat
  | .one i => [i]
  | .tup is => is
theorem Rs.puts {κ : List (V × D)} {M : Mem} {H : Hp} : ∀ {is : List Nat} {vs : List V} {ds : List D} {δ : Env'} {σ : St}, Rs κ δ M σ H → Reps M.F H vs ds → Rs κ (setsD δ is ds) M (sets σ is vs) H
  | [], _, _, _, _, R, _ => by unfold setsD sets; exact R
  | i :: is, _, _, _, _, R, .nil => by unfold setsD sets; exact R
  | i :: is, v :: vs, d :: ds, δ, σ, R, .cons r rs => by unfold setsD sets; exact (R.put i r).puts rs
theorem gNames_run {H : Hp} : ∀ {is : List Nat} {vs : List V} {σ : St} {Q : St → Hp → Prop}, vs.length = is.length → Q (sets σ is vs) H → gNames is vs σ H Q
  | [], [], _, _, _, q => ⟨rfl, q⟩
  | [], _ :: _, _, _, h, _ => by cases h
  | i :: is, [], _, _, h, _ => by cases h
  | i :: is, v :: vs, σ, Q, h, q => ⟨v, vs, rfl, gNames_run (by simpa using h) q⟩
theorem wipe_set {σ : St} {i : Nat} {ov : Option V} : ∀ {vs : List Nat}, i ∈ vs → L2.wipe (σ.set i ov) vs = L2.wipe σ vs
  | v :: vs, h => by
    unfold L2.wipe
    by_cases e : i = v
    · subst e
      by_cases hm : i ∈ vs
      · rw [wipe_set hm]
      · have : ∀ (vs : List Nat) (σ : St), i ∉ vs → L2.wipe (σ.set i ov) vs = (L2.wipe σ vs).set i ov := by
          intro vs
          induction vs with
          | nil => intro σ _; rfl
          | cons w vs ih =>
            intro σ hn
            unfold L2.wipe
            rw [ih σ (fun z => hn (List.mem_cons_of_mem _ z)), List.set_comm _ _ (fun z => hn (by rw [z]; exact List.mem_cons_self))]
        rw [this vs σ hm, List.set_set]
    · have hm : i ∈ vs := by
        rcases List.mem_cons.mp h with h | h
        · exact absurd h e
        · exact h
      rw [wipe_set hm]
theorem wipe_none {σ : St} : ∀ {vs : List Nat}, L2.wipe (L2.wipe σ vs) vs = L2.wipe σ vs := by
  intro vs
  have key : ∀ (ws vs : List Nat) (σ : St), (∀ w ∈ ws, w ∈ vs) → L2.wipe (L2.wipe σ ws) vs = L2.wipe σ vs := by
    intro ws
    induction ws with
    | nil => intro vs σ _; rfl
    | cons w ws ih =>
      intro vs σ h
      show L2.wipe ((L2.wipe σ ws).set w none) vs = _
      rw [wipe_set (h w List.mem_cons_self), ih vs σ fun x hx => h x (List.mem_cons_of_mem _ hx)]
  exact key vs vs σ fun _ h => h
theorem wipe_sets {vs : List Nat} : ∀ {is : List Nat} {ws : List V} {σ : St}, (∀ i ∈ is, i ∈ vs) → L2.wipe (sets σ is ws) vs = L2.wipe σ vs
  | [], _, _, _ => by unfold sets; rfl
  | i :: is, [], _, _ => by unfold sets; rfl
  | i :: is, w :: ws, σ, h => by
    unfold sets
    rw [wipe_sets fun j hj => h j (List.mem_cons_of_mem _ hj), wipe_set (h i List.mem_cons_self)]
def bindK (tk : Tk) (x : D) (δ : Env') : Option Env' := match tk, x with
  | .one i, x => some (δ.set i (some x))
  | .tup is, .tup ds => if ds.length = is.length then some (setsD δ is ds) else none
  | _, _ => none
theorem gK_run {K : PySem.W.Frag} {tk : Tk} {δ2 : Env'} {κ : List (V × D)} {σ : St} {H : Hp} {v : V} {Q : St → Hp → Prop} {vs : List Nat} (R : Rs κ δ M σ H) (r : Rep M.F H v x) (e : bindK tk x δ = some δ2) (hv : ∀ i ∈ slotsK tk, i ∈ vs) (h : ∀ σ2, L2.wipe σ2 vs = L2.wipe σ vs → Rs κ δ2 M σ2 H → Q σ2 H) : gK K tk v σ H Q := by
  cases tk with
  | one i =>
    have e : δ.set i (some x) = δ2 := by unfold bindK at e; cases x <;> exact Option.some.inj e
    subst e
    exact h _ (wipe_set (hv i (by simp [slotsK]))) (R.put i r)
  | tup is =>
    cases x with
    | tup ds =>
      unfold bindK at e
      dsimp only at e
      split at e
      · next hl =>
        cases e
        cases r with
        | tup h1 e1 r1 =>
          refine ⟨_, _, rfl, SqT.of e1, by rw [r1.length]; exact hl, gNames_run (by rw [r1.length]; exact hl) ?_⟩
          exact h _ (wipe_sets hv) (R.puts r1)
      · cases e
    | _ => exact nomatch e
def teA (X : Cx) (scope : Scope) (e : Expr) : TE := fun σ H Q => ∀ X', Bk X X' scope → tE X' e σ H Q
def ttA (X : Cx) (scope : Scope) (ifs : List Expr) : TT := fun σ H Q => match ifs with
  | [] => Q true H
  | [c] => ∀ X', Bk X X' scope → tT X' c σ H Q
  | _ => False
theorem bk_blk {s : Shared} {H : Hp} {scope : Scope} {C : Addr} {cl : List (Str × Addr)} {fp : List Addr} : Bk X (X.blk s H scope (compEnvC scope cl C X.env) fp) scope := ⟨rfl, rfl, rfl, rfl, rfl, rfl, rfl, rfl, rfl, fun _ _ z => z, fun x h => by show (_ == _) = true; rw [h]; rfl⟩
/-- what one turn of a comprehension gives: an item or none -/
def Turn1 (B : Bx) (X : Cx) (scope : Scope) (elt : Expr) (ifs : List Expr) (δ : Env') (M : Mem) (P : Option D → Mem → Prop) : Prop := match ifs with
  | [] => ∀ X', Bk X X' scope → DE B X' elt δ M fun d M3 => P (some d) M3
  | [c] => ∀ X', Bk X X' scope → DT B X' c δ M fun t M3 => Br t (∀ X', Bk X X' scope → DE B X' elt δ M3 fun d M4 => P (some d) M4) (P none M3)
  | _ => False
theorem pts_A {s : Shared} {H : Hp} {scope : Scope} {C : Addr} {cl : List (Str × Addr)} {fp : List Addr} {ifs : List Expr} : PTs (X.blk s H scope (compEnvC scope cl C X.env) fp) ifs (ttA X scope ifs) := by
  match ifs with
  | [] => exact pts_nil
  | [c] => exact ⟨fun pins s' σ' H' Q I q => (pts_one cT).run pins s' σ' H' Q I (q _ bk_blk)⟩
  | _ :: _ :: _ => exact ⟨fun pins s' σ' H' Q I q => q.elim⟩
theorem pe_A {s : Shared} {H : Hp} {scope : Scope} {C : Addr} {cl : List (Str × Addr)} {fp : List Addr} {elt : Expr} : PE (X.blk s H scope (compEnvC scope cl C X.env) fp) elt (teA X scope elt) := ⟨fun pins s' σ' H' Q I q => cE.run pins s' σ' H' Q I (q _ bk_blk)⟩
/-- the turns of a comprehension, by data -/
def LcH (k : Nat) (B : Bx) (X : Cx) (scope : Scope) (elt : Expr) (ifs : List Expr) (own : List (Str × Nat)) (tk : Tk) (δ : Env') (xs : List D) (M' : Mem) (ΦL : List D → Mem → Prop) : Prop :=
  ∃ Iv : Nat → List D → Mem → Prop, Iv 0 [] M' ∧ (∀ (p : Addr) i x acc M1, xs[i]? = some x → Iv i acc M1 → acc.length < sizeLine ∧ ∃ δ2, bindK tk x (wipeD δ (own.map (·.2))) = some δ2 ∧
        Turn1 B X scope elt ifs δ2 (insM k (p, .lst acc) M1) fun od M2 => ∃ M3, M2 = insM k (p, .lst acc) M3 ∧ Iv (i + 1) (acc ++ od.toList) M3) ∧ ∀ acc M1, Iv xs.length acc M1 → ΦL acc M1
theorem wf_lc {elt : Expr} {ifs : List Expr} {scope : Scope} {wi : TI} {k : Nat} (own : List (Str × Nat)) (tk : Tk) (hv : ∀ i ∈ slotsK tk, i ∈ own.map (·.2))
    (w : WI B wi δ M fun xs M' => LcH k B X scope elt ifs own tk δ xs M' ΦL) : WF B (tLc wi (gK X.K tk) (ttA X scope ifs) (teA X scope elt) (own.map (·.2))) δ M ΦL := by
  intro κ σ H Q hb R kk
  refine w κ σ H _ hb R fun xs M1 H1 J κ' ⟨Iv, h0, hst, hd⟩ hk R1 W => ?_
  intro p hp
  have R1p : Rs κ' δ (insM k (p, .lst []) M1) σ (upd H1 p (.lst [])) := (R1.lst .nil hp).perm insM_perm
  refine ⟨fun i m H => m = xs.length - i ∧ i ≤ xs.length ∧ ∃ acc M, Iv i acc M ∧ Rs κ' δ (insM k (p, .lst acc) M) σ H, ⟨xs.length, by simp, Nat.zero_le _, [], M1, h0, R1p⟩, ?_⟩
  rintro i m H ⟨rfl, hi, acc, M, q, R⟩
  by_cases hlt : i < xs.length
  · refine .inr ⟨W.goes i δ _ σ H hlt R, fun H' => ∃ acc' M', Iv (i + 1) acc' M' ∧ Rs κ' δ (insM k (p, .lst acc') M') σ H', fun H' ⟨acc', M', q', R'⟩ => ⟨xs.length - (i + 1), by omega, rfl, hlt, acc', M', q', R'⟩, fun x H' y => ?_⟩
    obtain ⟨d, hd1, R2, r2⟩ := W.yields i δ _ σ H x H' hlt R y
    obtain ⟨hlen, δ2, eb, tu⟩ := hst p i d acc M hd1 q
    have Rw := (R2.push r2)
    let κ2 := κ' ++ sk σ δ
    have back : ∀ {M' : Mem} {H' : Hp}, (∀ q ∈ κ2, Rep M'.F H' q.1 q.2) → (∀ q ∈ M', CellOk M'.F H' q.1 q.2) → M'.F.Nodup → Rs κ' δ M' σ H' := fun h1 h2 h3 => ⟨fun q hq => h1 q (List.mem_append.mpr (.inl hq)), sk_back R2.sl fun q hq => h1 q (List.mem_append.mpr (.inr hq)), h2, h3⟩
    have R3 : Rs κ2 (wipeD δ (own.map (·.2))) (insM k (p, .lst acc) M) (L2.wipe σ (own.map (·.2))) H' := by
      have := R2.wipe (own.map (·.2))
      exact ⟨fun q hq => by
        rcases List.mem_append.mp hq with h | h
        · exact R2.kp q h
        · exact sk_rep R2.sl q h, this.sl, R2.cl, R2.nd⟩
    refine gK_run R3 r2 eb hv fun σ2 hw R4 => ⟨by rw [hw, wipe_none], ?_⟩
    have hb2 : ∀ q ∈ B.ps, q ∈ κ2 := fun q hq => List.mem_append.mpr (.inl (hk q (hb q hq)))
    have fin : ∀ {u : V} {d : D} {M2 : Mem} {H2 : Hp}, (∃ M3, M2 = insM k (p, .lst acc) M3 ∧ Iv (i + 1) (acc ++ [d]) M3) → Rs κ2 δ2 M2 σ2 H2 → Rep M2.F H2 u d → ∃ ac, H2 p = some (.lst ac) ∧ ac.length < sizeLine ∧ ∃ acc' M', Iv (i + 1) acc' M' ∧ Rs κ' δ (insM k (p, .lst acc') M') σ (upd H2 p (.lst (ac ++ [u]))) := by
      rintro u d M2 H2 ⟨M3, rfl, q3⟩ R5 r5
      have R6 := (back R5.kp R5.cl R5.nd).perm insM_perm.symm
      have r5 : Rep (Mem.F ((p, Cell.lst acc) :: M3)) H2 u d := r5.fwd (Fwd.less fun x hx => (F_perm insM_perm).mem_iff.mp hx)
      have hm : ((p, Cell.lst acc) :: M3)[0]? = some (p, .lst acc) := rfl
      obtain ⟨vs, e1, rr⟩ := R6.at hm
      refine ⟨vs, e1, by rw [rr.length]; exact hlen, acc ++ [d], M3, q3, ?_⟩
      have hpF : ∀ x, x ∉ (Mem.F ((p, Cell.lst acc) :: M3)) → upd H2 p (.lst (vs ++ [u])) x = H2 x := fun x hx => upd_ne fun z => hx (z ▸ R6.mem hm p (by simp [Hl.own]))
      have := R6.cell (c' := .lst (acc ++ [d])) hm rfl (H' := upd H2 p (.lst (vs ++ [u]))) (fun x hx => upd_ne (by simpa [Hl.own] using hx)) ⟨_, upd_same, (rr.append (.cons r5 .nil)).fwd (Fwd.same hpF)⟩
      exact Rs.perm this insM_perm
    match ifs, tu with
    | [], tu =>
      show (if true = true then teA X scope elt σ2 H' (fun y H4 => ∃ ac, H4 p = some (.lst ac) ∧ ac.length < sizeLine ∧ (∃ acc' M', Iv (i + 1) acc' M' ∧ Rs κ' δ (insM k (p, .lst acc') M') σ (upd H4 p (.lst (ac ++ [y]))))) else (∃ acc' M', Iv (i + 1) acc' M' ∧ Rs κ' δ (insM k (p, .lst acc') M') σ H'))
      rw [if_pos rfl]
      intro X' bk
      exact tu X' bk κ2 σ2 H' _ hb2 R4 fun u d M2 H2 q2 R5 r5 => fin q2 R5 r5
    | [c], tu =>
      intro X' bk
      refine tu X' bk κ2 σ2 H' _ hb2 R4 fun t M2 H2 q2 R5 => Br.ite ⟨fun e X2 bk2 => ?_, fun e => ?_⟩
      · exact q2.1 e X2 bk2 κ2 σ2 H2 _ hb2 R5 fun u d M3 H3 q3 R6 r6 => fin q3 R6 r6
      · obtain ⟨M3, rfl, q3⟩ := q2.2 e
        exact ⟨acc, M3, by simpa using q3, back R5.kp R5.cl R5.nd⟩
    | _ :: _ :: _, tu => exact tu.elim
  · have e : i = xs.length := by omega
    subst e
    refine .inl ⟨W.stops δ _ σ H R, ?_⟩
    exact kk p acc M H (hd acc M q) ((R.sub hk).perm insM_perm.symm)
theorem df_lc {tg iter elt : Expr} {ifs : List Expr} {scope sc : Scope} {N : List Str} {n : Nat} (k : Nat) (z : Cz X n) (hN : X.N = N) (hs : X.env.scope = sc) (own : List (Str × Nat)) (tk : Tk) (ok : blkC N sc scope own = true) (hv : ∀ i ∈ slotsK tk, i ∈ own.map (·.2)) (hg : ∀ X', Bk X X' scope → PG X' tg (gK X.K tk))
    (h : DI B X tg iter δ M fun xs M' => LcH k B X scope elt ifs own tk δ xs M' ΦL) (hf : ∀ x, foldedSetIterable iter X.env x = pure x := by intro _; rfl) : DF B X (.ListComp elt [⟨tg, iter, ifs, 0⟩] scope pos) δ M ΦL := by
  obtain ⟨wi, pi, w⟩ := h
  exact .of (pe_lc z.calm z.nd pi (blkOk_by (by rw [hN, hs]; exact ok)) (fun s H C cl fp => hg _ bk_blk) (fun s H C cl fp => pts_A) (fun s H C cl fp => pe_A) hf) (wf_lc own tk hv w)
end
end Hl
namespace Hl
open PySem L2
/-! ### == of lists and tuples -/
mutual
def toPy : D → PyData
  | .bl b => .bool b
  | .int i => .int i
  | .str x => .str x
  | .lst ds => .list (toPys ds)
  | .tup ds => .tuple (toPys ds)
  | _ => .none
def toPys : List D → List PyData
  | [] => []
  | d :: ds => toPy d :: toPys ds
end
mutual
def okD : D → Bool
  | .non => true
  | .bl _ => true
  | .int _ => true
  | .str x => PyData.canLay0 (.str x)
  | .lst ds => okDs ds
  | .tup ds => okDs ds
  | _ => false
def okDs : List D → Bool
  | [] => true
  | d :: ds => okD d && okDs ds
end
mutual
theorem rep_dp {K : PySem.W.Frag} {F : List Addr} {H : Hp} : ∀ {v : V} {d : D}, Rep F H v d → okD d = true → Dp K H v (toPy d)
  | _, _, .non, _ => .non
  | _, _, .bl b, _ => .bl b
  | _, _, .int i, _ => .int i
  | _, _, .str x, _ => .str x
  | _, _, .lst h e r, k => .lst (SqL.of e) (reps_dp r k)
  | _, _, .tup h e r, k => .tup (SqT.of e) (reps_dp r k)
  | _, _, .obj h e l r, k => by cases k
  | _, _, .raw v, k => by cases k
  | _, _, .scrH h e, k => by cases k
  | _, _, .scrK h, k => by cases k
  | _, _, .exn0 h e, k => by cases k
  | _, _, .exn h e h2 e2 l r, k => by cases k
  | _, _, .fd h e e1 e2 r, k => by cases k
  | _, _, .hp h e, k => by cases k
theorem reps_dp {K : PySem.W.Frag} {F : List Addr} {H : Hp} : ∀ {vs : List V} {ds : List D}, Reps F H vs ds → okDs ds = true → DpAll K H vs (toPys ds)
  | _, _, .nil, _ => .nil
  | _, _, .cons r rs, k => by
    have k := Bool.and_eq_true_iff.mp (show (_ && _) = true from k)
    exact .cons (rep_dp r k.1) (reps_dp rs k.2)
end
mutual
theorem ok_lay : ∀ {d : D}, okD d = true → (toPy d).canLay0 = true
  | .non, _ => rfl
  | .bl _, _ => rfl
  | .int _, _ => rfl
  | .str x, h => h
  | .lst ds, h => oks_lay (ds := ds) h
  | .tup ds, h => oks_lay (ds := ds) h
  | .obj _ _ _, h => by cases h
  | .raw _, h => by cases h
  | .scr _ _, h => by cases h
  | .exn _ _ _, h => by cases h
  | .fd _ _, h => by cases h
  | .hp _ _, h => by cases h
theorem oks_lay : ∀ {ds : List D}, okDs ds = true → PyData.canLayAll0 (toPys ds) = true
  | [], _ => rfl
  | d :: ds, h => by
    have k := Bool.and_eq_true_iff.mp (show (_ && _) = true from h)
    show (_ && _) = true
    rw [ok_lay k.1, oks_lay k.2]; rfl
end
mutual
theorem eqv_refl : ∀ (d : PyData), d.canLay0 = true → PyData.eqv d d = true
  | .none, _ => rfl
  | .bool b, _ => by cases b <;> rfl
  | .int i, _ => by simp [PyData.eqv]
  | .str x, _ => by simp [PyData.eqv]
  | .list ds, h => eqvs_refl ds h
  | .tuple ds, h => eqvs_refl ds h
  | .dict _, h => by cases h
theorem eqvs_refl : ∀ (ds : List PyData), PyData.canLayAll0 ds = true → PyData.eqvAll ds ds = true
  | [], _ => rfl
  | d :: ds, h => by
    have k := Bool.and_eq_true_iff.mp (show (_ && _) = true from h)
    show (_ && _) = true
    rw [eqv_refl d k.1, eqvs_refl ds k.2]; rfl
end
/-- data as such, or a list that is a cell -/
inductive Is (M : Mem) : D → D → Prop
  | val (d : D) : Is M d d
  | cell {p : Addr} {ds : List D} (j : Nat) (h : M[j]? = some (p, .lst ds)) : Is M (.raw (.ref p)) (.lst ds)
  | inm {p : Addr} {ds : List D} (h : InM M p (.lst ds)) : Is M (.raw (.ref p)) (.lst ds)
section
variable {B : Bx} {X : Cx} {e a b c o : Expr} {es rest : List Expr} {st : Stmt} {sts : List Stmt} {δ δ' : Env'} {M : Mem} {Φ : D → Mem → Prop} {Ψ : DEnds} {te ta tb : TE} {tt : TT} {pos pos' apos : Pos} {d x y : D} {ΦB : Bool → Mem → Prop} {ΦL : List D → Mem → Prop}
theorem Is.dp {κ : List (V × D)} {σ : St} {H : Hp} {v : V} {x d : D} {K : PySem.W.Frag} (h : Is M x d) (R : Rs κ δ M σ H) (r : Rep M.F H v x) (k : okD d = true) : Dp K H v (toPy d) := by
  cases h with
  | val d => exact rep_dp r k
  | cell j h =>
    cases r
    obtain ⟨vs, e1, r1⟩ := R.at h
    exact .lst (SqL.of e1) (reps_dp r1 k)
  | inm h =>
    cases r
    obtain ⟨vs, e1, r1⟩ := h.ok R
    exact .lst (SqL.of e1) (reps_dp r1 k)
def okE (d : D) : Bool := okD d && decide ((toPy d).depth ≤ 64)
theorem okE_sh {d : D} (h : okE d = true) : SeqAt.shaped (toPy d) = true := by
  have k := Bool.and_eq_true_iff.mp (show (_ && _) = true from h)
  show (_ && _) = true
  rw [ok_lay k.1, k.2]; rfl
theorem okE_ok {d : D} (h : okE d = true) : okD d = true := (Bool.and_eq_true_iff.mp (show (_ && _) = true from h)).1
theorem od_eqD {K : PySem.W.Frag} {x' y' : D} (hx : Is M x x') (hy : Is M y y') (kx : okE x' = true) (ky : okE y' = true) (k : Φ (.bl (PyData.eqv (toPy x') (toPy y'))) M) : OpD (rEqU K) x y M Φ := .inr fun κ δ σ H v w Q R rv rw' h =>
  ⟨_, _, hx.dp R rv (okE_ok kx), hy.dp R rw' (okE_ok ky), okE_sh kx, okE_sh ky, h _ _ M H k R (.bl _)⟩
theorem od_neD {K : PySem.W.Frag} {x' y' : D} (hx : Is M x x') (hy : Is M y y') (kx : okE x' = true) (ky : okE y' = true) (k : Φ (.bl (!PyData.eqv (toPy x') (toPy y'))) M) : OpD (rNeU K) x y M Φ := .inr fun κ δ σ H v w Q R rv rw' h =>
  ⟨_, _, hx.dp R rv (okE_ok kx), hy.dp R rw' (okE_ok ky), okE_sh kx, okE_sh ky, h _ _ M H k R (.bl _)⟩
theorem okDs_ints : ∀ (ns : List Int), okDs (ns.map D.int) = true
  | [] => rfl
  | n :: ns => okDs_ints ns
theorem depths_ints : ∀ (ns : List Int), PyData.depthAll (toPys (ns.map D.int)) = 0
  | [] => rfl
  | n :: ns => by
    show max 0 _ = 0
    rw [depths_ints ns]; rfl
theorem okE_ints (ns : List Int) : okE (.lst (ns.map D.int)) = true := by
  show (_ && _) = true
  rw [show okD (.lst (ns.map D.int)) = true from okDs_ints ns]
  have : (toPy (.lst (ns.map D.int))).depth = 1 := by
    show PyData.depthAll (toPys (ns.map D.int)) + 1 = 1
    rw [depths_ints]
  rw [this]; rfl
/-- against the empty list -/
theorem od_neNil {K : PySem.W.Frag} {ds : List D} (hx : Is M x (.lst ds)) (hk : okE (.lst ds) = true) (k : Φ (.bl (!ds.isEmpty)) M) : OpD (rNeU K) x (.lst []) M Φ := od_neD hx (.val _) hk rfl (by
  rw [show PyData.eqv (toPy (.lst ds)) (toPy (.lst [])) = ds.isEmpty from by cases ds <;> rfl]; exact k)
theorem od_eqNil {K : PySem.W.Frag} {ds : List D} (hx : Is M x (.lst ds)) (hk : okE (.lst ds) = true) (k : Φ (.bl ds.isEmpty) M) : OpD (rEqU K) x (.lst []) M Φ := od_eqD hx (.val _) hk rfl (by
  rw [show PyData.eqv (toPy (.lst ds)) (toPy (.lst [])) = ds.isEmpty from by cases ds <;> rfl]; exact k)
/-- the same data -/
theorem od_neSame {K : PySem.W.Frag} {x' : D} (hx : Is M x x') (hy : Is M y x') (hk : okE x' = true) (k : Φ (.bl false) M) : OpD (rNeU K) x y M Φ := od_neD hx hy hk hk (by
  rw [eqv_refl _ (ok_lay (okE_ok hk))]; exact k)
theorem od_eqSame {K : PySem.W.Frag} {x' : D} (hx : Is M x x') (hy : Is M y x') (hk : okE x' = true) (k : Φ (.bl true) M) : OpD (rEqU K) x y M Φ := od_eqD hx hy hk hk (by
  rw [eqv_refl _ (ok_lay (okE_ok hk))]; exact k)
/-! ### the draws' state as a dict and a list -/
def stD (g : Addr) (r t e : Int) (cs : List Int) : List (Key × D) := [(.inr "great", .raw (.ref g)), (.inr "rest", .int r), (.inr "turn", .int t), (.inr "seed", .int e), (.inr "cells", .lst (cs.map .int))]
structure StOk (b : Nat) (gs : List Int) (r t e : Int) (cs : List Int) : Prop where
  hgs : ∀ x ∈ gs, 0 < x
  hr : 0 ≤ r
  ht : 0 ≤ t
  htb : t + (b : Int) ≤ 1000000000000
  he : 0 ≤ e
  he2 : e < 2147483647
  hcs : ∀ x ∈ cs, 0 ≤ x ∧ x < 2147483629
  hc1 : 0 < cs.length
  hc2 : cs.length ≤ 100
theorem st_open {κ : List (V × D)} {σ : St} {H : Hp} {s g : Addr} {b : Nat} (R : Rs κ δ ((s, .st g b) :: M) σ H) : ∃ gs r t e cs, StOk b gs r t e cs ∧ Rs κ δ ((s, .dct (stD g r t e cs)) :: (g, .lst (gs.map .int)) :: M) σ H := by
  obtain ⟨c, r, t, e, gs, cs, hc, h1, h2, h3, p1, p2, p3, p4, p5, p6, p7, p8, p9⟩ := R.cl (s, .st g b) List.mem_cons_self
  refine ⟨gs, r, t, e, cs, ⟨p1, p2, p3, p4, p5, p6, p7, p8, p9⟩, ?_⟩
  have eF : Mem.F ((s, Cell.dct (stD g r t e cs)) :: (g, .lst (gs.map .int)) :: M) = Mem.F ((s, .st g b) :: M) := rfl
  refine ⟨fun q hq => by rw [eF]; exact R.kp q hq, by rw [eF]; exact R.sl, fun q hq => ?_, by rw [eF]; exact R.nd⟩
  rw [eF]
  rcases List.mem_cons.mp hq with rfl | hq
  · exact ⟨_, h1, rfl, .cons (.raw _) (.cons (.int _) (.cons (.int _) (.cons (.int _) (.cons (.lst hc h3 (.ofInts cs)) .nil))))⟩
  · rcases List.mem_cons.mp hq with rfl | hq
    · exact ⟨_, h2, .ofInts gs⟩
    · exact R.cl q (List.mem_cons_of_mem _ hq)
theorem st_close {κ : List (V × D)} {σ : St} {H : Hp} {s g : Addr} {b : Nat} {gs : List Int} {r t e : Int} {cs : List Int} (k : StOk b gs r t e cs) (R : Rs κ δ ((s, .dct (stD g r t e cs)) :: (g, .lst (gs.map .int)) :: M) σ H) : Rs κ δ ((s, .st g b) :: M) σ H := by
  have eF : Mem.F ((s, Cell.dct (stD g r t e cs)) :: (g, .lst (gs.map .int)) :: M) = Mem.F ((s, .st g b) :: M) := rfl
  refine ⟨fun q hq => by rw [← eF]; exact R.kp q hq, by rw [← eF]; exact R.sl, fun q hq => ?_, by rw [← eF]; exact R.nd⟩
  rw [← eF]
  rcases List.mem_cons.mp hq with rfl | hq
  · obtain ⟨ws, h1, h2, rs⟩ := R.cl (s, .dct (stD g r t e cs)) List.mem_cons_self
    obtain ⟨vs, h3, r3⟩ := R.cl (g, .lst (gs.map .int)) (by simp)
    match ws, h2, rs with
    | [(k1, v1), (k2, v2), (k3, v3), (k4, v4), (k5, v5)], h2, rs =>
      injection h2 with e1 h2
      injection h2 with e2 h2
      injection h2 with e3 h2
      injection h2 with e4 h2
      injection h2 with e5 _
      have e1 : k1 = .inr "great" := e1
      have e2 : k2 = .inr "rest" := e2
      have e3 : k3 = .inr "turn" := e3
      have e4 : k4 = .inr "seed" := e4
      have e5 : k5 = .inr "cells" := e5
      subst e1 e2 e3 e4 e5
      cases rs with
      | cons r1 rs =>
        cases rs with
        | cons r2 rs =>
          cases rs with
          | cons r3' rs =>
            cases rs with
            | cons r4 rs =>
              cases rs with
              | cons r5 rs =>
                cases r1; cases r2; cases r3'; cases r4
                cases r5 with
                | lst hn he hr =>
                  have ev := hr.ints
                  subst ev
                  have ev := r3.ints
                  subst ev
                  exact ⟨_, r, t, e, gs, cs, hn, h1, h3, he, k.hgs, k.hr, k.ht, k.htb, k.he, k.he2, k.hcs, k.hc1, k.hc2⟩
  · exact R.cl q (List.mem_cons_of_mem _ (List.mem_cons_of_mem _ hq))
/-- a new state -/
theorem Rs.dct {κ : List (V × D)} {σ : St} {H : Hp} {p : Addr} {kvs : List (Key × D)} {ws : List (Key × V)} (R : Rs κ δ M σ H) (hp : H p = none) (e : ws.map (·.1) = kvs.map (·.1)) (r : Reps M.F H (ws.map (·.2)) (kvs.map (·.2))) : Rs κ δ ((p, .dct kvs) :: M) σ (upd H p (.dK ws)) :=
  R.add hp rfl ⟨ws, upd_same, e, r.fwd (Fwd.newC hp)⟩
theorem ws_stOpen {ts : TS} {s g : Addr} {b : Nat} (h : ∀ gs r t e cs, StOk b gs r t e cs → WS B ts δ ((s, .dct (stD g r t e cs)) :: (g, .lst (gs.map .int)) :: M) Ψ) : WS B ts δ ((s, .st g b) :: M) Ψ := fun κ σ H E hb R k => by
  obtain ⟨gs, r, t, e, cs, ok, R'⟩ := st_open R
  exact h gs r t e cs ok κ σ H E hb R' k
/-- the same at a return: the promise may be closed behind the value -/
theorem WE.view {M' : Mem} (h : WE B te δ M' Φ) (v : ∀ κ σ H, Rs κ δ M σ H → Rs κ δ M' σ H) : WE B te δ M Φ := fun κ σ H Q hb R k => h κ σ H Q hb (v κ σ H R) k
theorem Vw.stc {s g : Addr} {b : Nat} {gs : List Int} {r t e : Int} {cs : List Int} (ok : StOk b gs r t e cs) : Vw d ((s, .dct (stD g r t e cs)) :: (g, .lst (gs.map .int)) :: M) d ((s, .st g b) :: M) := fun _ _ _ _ _ R r' => ⟨st_close ok R, r'⟩
end
end Hl
namespace Hl
open PySem L2
section
variable {d : D} {P : Env' → Prop}
theorem se0 {x0 : Option D} {r : Env'} (h : P (some d :: r)) : Sets (x0 :: r) 0 d P := .of h
theorem se1 {x0 x1 : Option D} {r : Env'} (h : P (x0 :: some d :: r)) : Sets (x0 :: x1 :: r) 1 d P := .of h
theorem se2 {x0 x1 x2 : Option D} {r : Env'} (h : P (x0 :: x1 :: some d :: r)) : Sets (x0 :: x1 :: x2 :: r) 2 d P := .of h
theorem se3 {x0 x1 x2 x3 : Option D} {r : Env'} (h : P (x0 :: x1 :: x2 :: some d :: r)) : Sets (x0 :: x1 :: x2 :: x3 :: r) 3 d P := .of h
theorem se4 {x0 x1 x2 x3 x4 : Option D} {r : Env'} (h : P (x0 :: x1 :: x2 :: x3 :: some d :: r)) : Sets (x0 :: x1 :: x2 :: x3 :: x4 :: r) 4 d P := .of h
theorem se5 {x0 x1 x2 x3 x4 x5 : Option D} {r : Env'} (h : P (x0 :: x1 :: x2 :: x3 :: x4 :: some d :: r)) : Sets (x0 :: x1 :: x2 :: x3 :: x4 :: x5 :: r) 5 d P := .of h
theorem se6 {x0 x1 x2 x3 x4 x5 x6 : Option D} {r : Env'} (h : P (x0 :: x1 :: x2 :: x3 :: x4 :: x5 :: some d :: r)) : Sets (x0 :: x1 :: x2 :: x3 :: x4 :: x5 :: x6 :: r) 6 d P := .of h
theorem se7 {x0 x1 x2 x3 x4 x5 x6 x7 : Option D} {r : Env'} (h : P (x0 :: x1 :: x2 :: x3 :: x4 :: x5 :: x6 :: some d :: r)) : Sets (x0 :: x1 :: x2 :: x3 :: x4 :: x5 :: x6 :: x7 :: r) 7 d P := .of h
theorem se8 {x0 x1 x2 x3 x4 x5 x6 x7 x8 : Option D} {r : Env'} (h : P (x0 :: x1 :: x2 :: x3 :: x4 :: x5 :: x6 :: x7 :: some d :: r)) : Sets (x0 :: x1 :: x2 :: x3 :: x4 :: x5 :: x6 :: x7 :: x8 :: r) 8 d P := .of h
theorem se9 {x0 x1 x2 x3 x4 x5 x6 x7 x8 x9 : Option D} {r : Env'} (h : P (x0 :: x1 :: x2 :: x3 :: x4 :: x5 :: x6 :: x7 :: x8 :: some d :: r)) : Sets (x0 :: x1 :: x2 :: x3 :: x4 :: x5 :: x6 :: x7 :: x8 :: x9 :: r) 9 d P := .of h
theorem se10 {x0 x1 x2 x3 x4 x5 x6 x7 x8 x9 x10 : Option D} {r : Env'} (h : P (x0 :: x1 :: x2 :: x3 :: x4 :: x5 :: x6 :: x7 :: x8 :: x9 :: some d :: r)) : Sets (x0 :: x1 :: x2 :: x3 :: x4 :: x5 :: x6 :: x7 :: x8 :: x9 :: x10 :: r) 10 d P := .of h
theorem se11 {x0 x1 x2 x3 x4 x5 x6 x7 x8 x9 x10 x11 : Option D} {r : Env'} (h : P (x0 :: x1 :: x2 :: x3 :: x4 :: x5 :: x6 :: x7 :: x8 :: x9 :: x10 :: some d :: r)) : Sets (x0 :: x1 :: x2 :: x3 :: x4 :: x5 :: x6 :: x7 :: x8 :: x9 :: x10 :: x11 :: r) 11 d P := .of h
theorem se12 {x0 x1 x2 x3 x4 x5 x6 x7 x8 x9 x10 x11 x12 : Option D} {r : Env'} (h : P (x0 :: x1 :: x2 :: x3 :: x4 :: x5 :: x6 :: x7 :: x8 :: x9 :: x10 :: x11 :: some d :: r)) : Sets (x0 :: x1 :: x2 :: x3 :: x4 :: x5 :: x6 :: x7 :: x8 :: x9 :: x10 :: x11 :: x12 :: r) 12 d P := .of h
theorem se13 {x0 x1 x2 x3 x4 x5 x6 x7 x8 x9 x10 x11 x12 x13 : Option D} {r : Env'} (h : P (x0 :: x1 :: x2 :: x3 :: x4 :: x5 :: x6 :: x7 :: x8 :: x9 :: x10 :: x11 :: x12 :: some d :: r)) : Sets (x0 :: x1 :: x2 :: x3 :: x4 :: x5 :: x6 :: x7 :: x8 :: x9 :: x10 :: x11 :: x12 :: x13 :: r) 13 d P := .of h
theorem se14 {x0 x1 x2 x3 x4 x5 x6 x7 x8 x9 x10 x11 x12 x13 x14 : Option D} {r : Env'} (h : P (x0 :: x1 :: x2 :: x3 :: x4 :: x5 :: x6 :: x7 :: x8 :: x9 :: x10 :: x11 :: x12 :: x13 :: some d :: r)) : Sets (x0 :: x1 :: x2 :: x3 :: x4 :: x5 :: x6 :: x7 :: x8 :: x9 :: x10 :: x11 :: x12 :: x13 :: x14 :: r) 14 d P := .of h
theorem se15 {x0 x1 x2 x3 x4 x5 x6 x7 x8 x9 x10 x11 x12 x13 x14 x15 : Option D} {r : Env'} (h : P (x0 :: x1 :: x2 :: x3 :: x4 :: x5 :: x6 :: x7 :: x8 :: x9 :: x10 :: x11 :: x12 :: x13 :: x14 :: some d :: r)) : Sets (x0 :: x1 :: x2 :: x3 :: x4 :: x5 :: x6 :: x7 :: x8 :: x9 :: x10 :: x11 :: x12 :: x13 :: x14 :: x15 :: r) 15 d P := .of h
theorem se16 {x0 x1 x2 x3 x4 x5 x6 x7 x8 x9 x10 x11 x12 x13 x14 x15 x16 : Option D} {r : Env'} (h : P (x0 :: x1 :: x2 :: x3 :: x4 :: x5 :: x6 :: x7 :: x8 :: x9 :: x10 :: x11 :: x12 :: x13 :: x14 :: x15 :: some d :: r)) : Sets (x0 :: x1 :: x2 :: x3 :: x4 :: x5 :: x6 :: x7 :: x8 :: x9 :: x10 :: x11 :: x12 :: x13 :: x14 :: x15 :: x16 :: r) 16 d P := .of h
theorem se17 {x0 x1 x2 x3 x4 x5 x6 x7 x8 x9 x10 x11 x12 x13 x14 x15 x16 x17 : Option D} {r : Env'} (h : P (x0 :: x1 :: x2 :: x3 :: x4 :: x5 :: x6 :: x7 :: x8 :: x9 :: x10 :: x11 :: x12 :: x13 :: x14 :: x15 :: x16 :: some d :: r)) : Sets (x0 :: x1 :: x2 :: x3 :: x4 :: x5 :: x6 :: x7 :: x8 :: x9 :: x10 :: x11 :: x12 :: x13 :: x14 :: x15 :: x16 :: x17 :: r) 17 d P := .of h
theorem se18 {x0 x1 x2 x3 x4 x5 x6 x7 x8 x9 x10 x11 x12 x13 x14 x15 x16 x17 x18 : Option D} {r : Env'} (h : P (x0 :: x1 :: x2 :: x3 :: x4 :: x5 :: x6 :: x7 :: x8 :: x9 :: x10 :: x11 :: x12 :: x13 :: x14 :: x15 :: x16 :: x17 :: some d :: r)) : Sets (x0 :: x1 :: x2 :: x3 :: x4 :: x5 :: x6 :: x7 :: x8 :: x9 :: x10 :: x11 :: x12 :: x13 :: x14 :: x15 :: x16 :: x17 :: x18 :: r) 18 d P := .of h
theorem se19 {x0 x1 x2 x3 x4 x5 x6 x7 x8 x9 x10 x11 x12 x13 x14 x15 x16 x17 x18 x19 : Option D} {r : Env'} (h : P (x0 :: x1 :: x2 :: x3 :: x4 :: x5 :: x6 :: x7 :: x8 :: x9 :: x10 :: x11 :: x12 :: x13 :: x14 :: x15 :: x16 :: x17 :: x18 :: some d :: r)) : Sets (x0 :: x1 :: x2 :: x3 :: x4 :: x5 :: x6 :: x7 :: x8 :: x9 :: x10 :: x11 :: x12 :: x13 :: x14 :: x15 :: x16 :: x17 :: x18 :: x19 :: r) 19 d P := .of h
theorem se20 {x0 x1 x2 x3 x4 x5 x6 x7 x8 x9 x10 x11 x12 x13 x14 x15 x16 x17 x18 x19 x20 : Option D} {r : Env'} (h : P (x0 :: x1 :: x2 :: x3 :: x4 :: x5 :: x6 :: x7 :: x8 :: x9 :: x10 :: x11 :: x12 :: x13 :: x14 :: x15 :: x16 :: x17 :: x18 :: x19 :: some d :: r)) : Sets (x0 :: x1 :: x2 :: x3 :: x4 :: x5 :: x6 :: x7 :: x8 :: x9 :: x10 :: x11 :: x12 :: x13 :: x14 :: x15 :: x16 :: x17 :: x18 :: x19 :: x20 :: r) 20 d P := .of h
theorem se21 {x0 x1 x2 x3 x4 x5 x6 x7 x8 x9 x10 x11 x12 x13 x14 x15 x16 x17 x18 x19 x20 x21 : Option D} {r : Env'} (h : P (x0 :: x1 :: x2 :: x3 :: x4 :: x5 :: x6 :: x7 :: x8 :: x9 :: x10 :: x11 :: x12 :: x13 :: x14 :: x15 :: x16 :: x17 :: x18 :: x19 :: x20 :: some d :: r)) : Sets (x0 :: x1 :: x2 :: x3 :: x4 :: x5 :: x6 :: x7 :: x8 :: x9 :: x10 :: x11 :: x12 :: x13 :: x14 :: x15 :: x16 :: x17 :: x18 :: x19 :: x20 :: x21 :: r) 21 d P := .of h
theorem se22 {x0 x1 x2 x3 x4 x5 x6 x7 x8 x9 x10 x11 x12 x13 x14 x15 x16 x17 x18 x19 x20 x21 x22 : Option D} {r : Env'} (h : P (x0 :: x1 :: x2 :: x3 :: x4 :: x5 :: x6 :: x7 :: x8 :: x9 :: x10 :: x11 :: x12 :: x13 :: x14 :: x15 :: x16 :: x17 :: x18 :: x19 :: x20 :: x21 :: some d :: r)) : Sets (x0 :: x1 :: x2 :: x3 :: x4 :: x5 :: x6 :: x7 :: x8 :: x9 :: x10 :: x11 :: x12 :: x13 :: x14 :: x15 :: x16 :: x17 :: x18 :: x19 :: x20 :: x21 :: x22 :: r) 22 d P := .of h
theorem se23 {x0 x1 x2 x3 x4 x5 x6 x7 x8 x9 x10 x11 x12 x13 x14 x15 x16 x17 x18 x19 x20 x21 x22 x23 : Option D} {r : Env'} (h : P (x0 :: x1 :: x2 :: x3 :: x4 :: x5 :: x6 :: x7 :: x8 :: x9 :: x10 :: x11 :: x12 :: x13 :: x14 :: x15 :: x16 :: x17 :: x18 :: x19 :: x20 :: x21 :: x22 :: some d :: r)) : Sets (x0 :: x1 :: x2 :: x3 :: x4 :: x5 :: x6 :: x7 :: x8 :: x9 :: x10 :: x11 :: x12 :: x13 :: x14 :: x15 :: x16 :: x17 :: x18 :: x19 :: x20 :: x21 :: x22 :: x23 :: r) 23 d P := .of h
theorem se24 {x0 x1 x2 x3 x4 x5 x6 x7 x8 x9 x10 x11 x12 x13 x14 x15 x16 x17 x18 x19 x20 x21 x22 x23 x24 : Option D} {r : Env'} (h : P (x0 :: x1 :: x2 :: x3 :: x4 :: x5 :: x6 :: x7 :: x8 :: x9 :: x10 :: x11 :: x12 :: x13 :: x14 :: x15 :: x16 :: x17 :: x18 :: x19 :: x20 :: x21 :: x22 :: x23 :: some d :: r)) : Sets (x0 :: x1 :: x2 :: x3 :: x4 :: x5 :: x6 :: x7 :: x8 :: x9 :: x10 :: x11 :: x12 :: x13 :: x14 :: x15 :: x16 :: x17 :: x18 :: x19 :: x20 :: x21 :: x22 :: x23 :: x24 :: r) 24 d P := .of h
theorem se25 {x0 x1 x2 x3 x4 x5 x6 x7 x8 x9 x10 x11 x12 x13 x14 x15 x16 x17 x18 x19 x20 x21 x22 x23 x24 x25 : Option D} {r : Env'} (h : P (x0 :: x1 :: x2 :: x3 :: x4 :: x5 :: x6 :: x7 :: x8 :: x9 :: x10 :: x11 :: x12 :: x13 :: x14 :: x15 :: x16 :: x17 :: x18 :: x19 :: x20 :: x21 :: x22 :: x23 :: x24 :: some d :: r)) : Sets (x0 :: x1 :: x2 :: x3 :: x4 :: x5 :: x6 :: x7 :: x8 :: x9 :: x10 :: x11 :: x12 :: x13 :: x14 :: x15 :: x16 :: x17 :: x18 :: x19 :: x20 :: x21 :: x22 :: x23 :: x24 :: x25 :: r) 25 d P := .of h
theorem se26 {x0 x1 x2 x3 x4 x5 x6 x7 x8 x9 x10 x11 x12 x13 x14 x15 x16 x17 x18 x19 x20 x21 x22 x23 x24 x25 x26 : Option D} {r : Env'} (h : P (x0 :: x1 :: x2 :: x3 :: x4 :: x5 :: x6 :: x7 :: x8 :: x9 :: x10 :: x11 :: x12 :: x13 :: x14 :: x15 :: x16 :: x17 :: x18 :: x19 :: x20 :: x21 :: x22 :: x23 :: x24 :: x25 :: some d :: r)) : Sets (x0 :: x1 :: x2 :: x3 :: x4 :: x5 :: x6 :: x7 :: x8 :: x9 :: x10 :: x11 :: x12 :: x13 :: x14 :: x15 :: x16 :: x17 :: x18 :: x19 :: x20 :: x21 :: x22 :: x23 :: x24 :: x25 :: x26 :: r) 26 d P := .of h
theorem se27 {x0 x1 x2 x3 x4 x5 x6 x7 x8 x9 x10 x11 x12 x13 x14 x15 x16 x17 x18 x19 x20 x21 x22 x23 x24 x25 x26 x27 : Option D} {r : Env'} (h : P (x0 :: x1 :: x2 :: x3 :: x4 :: x5 :: x6 :: x7 :: x8 :: x9 :: x10 :: x11 :: x12 :: x13 :: x14 :: x15 :: x16 :: x17 :: x18 :: x19 :: x20 :: x21 :: x22 :: x23 :: x24 :: x25 :: x26 :: some d :: r)) : Sets (x0 :: x1 :: x2 :: x3 :: x4 :: x5 :: x6 :: x7 :: x8 :: x9 :: x10 :: x11 :: x12 :: x13 :: x14 :: x15 :: x16 :: x17 :: x18 :: x19 :: x20 :: x21 :: x22 :: x23 :: x24 :: x25 :: x26 :: x27 :: r) 27 d P := .of h
theorem se28 {x0 x1 x2 x3 x4 x5 x6 x7 x8 x9 x10 x11 x12 x13 x14 x15 x16 x17 x18 x19 x20 x21 x22 x23 x24 x25 x26 x27 x28 : Option D} {r : Env'} (h : P (x0 :: x1 :: x2 :: x3 :: x4 :: x5 :: x6 :: x7 :: x8 :: x9 :: x10 :: x11 :: x12 :: x13 :: x14 :: x15 :: x16 :: x17 :: x18 :: x19 :: x20 :: x21 :: x22 :: x23 :: x24 :: x25 :: x26 :: x27 :: some d :: r)) : Sets (x0 :: x1 :: x2 :: x3 :: x4 :: x5 :: x6 :: x7 :: x8 :: x9 :: x10 :: x11 :: x12 :: x13 :: x14 :: x15 :: x16 :: x17 :: x18 :: x19 :: x20 :: x21 :: x22 :: x23 :: x24 :: x25 :: x26 :: x27 :: x28 :: r) 28 d P := .of h
theorem se29 {x0 x1 x2 x3 x4 x5 x6 x7 x8 x9 x10 x11 x12 x13 x14 x15 x16 x17 x18 x19 x20 x21 x22 x23 x24 x25 x26 x27 x28 x29 : Option D} {r : Env'} (h : P (x0 :: x1 :: x2 :: x3 :: x4 :: x5 :: x6 :: x7 :: x8 :: x9 :: x10 :: x11 :: x12 :: x13 :: x14 :: x15 :: x16 :: x17 :: x18 :: x19 :: x20 :: x21 :: x22 :: x23 :: x24 :: x25 :: x26 :: x27 :: x28 :: some d :: r)) : Sets (x0 :: x1 :: x2 :: x3 :: x4 :: x5 :: x6 :: x7 :: x8 :: x9 :: x10 :: x11 :: x12 :: x13 :: x14 :: x15 :: x16 :: x17 :: x18 :: x19 :: x20 :: x21 :: x22 :: x23 :: x24 :: x25 :: x26 :: x27 :: x28 :: x29 :: r) 29 d P := .of h
theorem se30 {x0 x1 x2 x3 x4 x5 x6 x7 x8 x9 x10 x11 x12 x13 x14 x15 x16 x17 x18 x19 x20 x21 x22 x23 x24 x25 x26 x27 x28 x29 x30 : Option D} {r : Env'} (h : P (x0 :: x1 :: x2 :: x3 :: x4 :: x5 :: x6 :: x7 :: x8 :: x9 :: x10 :: x11 :: x12 :: x13 :: x14 :: x15 :: x16 :: x17 :: x18 :: x19 :: x20 :: x21 :: x22 :: x23 :: x24 :: x25 :: x26 :: x27 :: x28 :: x29 :: some d :: r)) : Sets (x0 :: x1 :: x2 :: x3 :: x4 :: x5 :: x6 :: x7 :: x8 :: x9 :: x10 :: x11 :: x12 :: x13 :: x14 :: x15 :: x16 :: x17 :: x18 :: x19 :: x20 :: x21 :: x22 :: x23 :: x24 :: x25 :: x26 :: x27 :: x28 :: x29 :: x30 :: r) 30 d P := .of h
theorem se31 {x0 x1 x2 x3 x4 x5 x6 x7 x8 x9 x10 x11 x12 x13 x14 x15 x16 x17 x18 x19 x20 x21 x22 x23 x24 x25 x26 x27 x28 x29 x30 x31 : Option D} {r : Env'} (h : P (x0 :: x1 :: x2 :: x3 :: x4 :: x5 :: x6 :: x7 :: x8 :: x9 :: x10 :: x11 :: x12 :: x13 :: x14 :: x15 :: x16 :: x17 :: x18 :: x19 :: x20 :: x21 :: x22 :: x23 :: x24 :: x25 :: x26 :: x27 :: x28 :: x29 :: x30 :: some d :: r)) : Sets (x0 :: x1 :: x2 :: x3 :: x4 :: x5 :: x6 :: x7 :: x8 :: x9 :: x10 :: x11 :: x12 :: x13 :: x14 :: x15 :: x16 :: x17 :: x18 :: x19 :: x20 :: x21 :: x22 :: x23 :: x24 :: x25 :: x26 :: x27 :: x28 :: x29 :: x30 :: x31 :: r) 31 d P := .of h
theorem se32 {x0 x1 x2 x3 x4 x5 x6 x7 x8 x9 x10 x11 x12 x13 x14 x15 x16 x17 x18 x19 x20 x21 x22 x23 x24 x25 x26 x27 x28 x29 x30 x31 x32 : Option D} {r : Env'} (h : P (x0 :: x1 :: x2 :: x3 :: x4 :: x5 :: x6 :: x7 :: x8 :: x9 :: x10 :: x11 :: x12 :: x13 :: x14 :: x15 :: x16 :: x17 :: x18 :: x19 :: x20 :: x21 :: x22 :: x23 :: x24 :: x25 :: x26 :: x27 :: x28 :: x29 :: x30 :: x31 :: some d :: r)) : Sets (x0 :: x1 :: x2 :: x3 :: x4 :: x5 :: x6 :: x7 :: x8 :: x9 :: x10 :: x11 :: x12 :: x13 :: x14 :: x15 :: x16 :: x17 :: x18 :: x19 :: x20 :: x21 :: x22 :: x23 :: x24 :: x25 :: x26 :: x27 :: x28 :: x29 :: x30 :: x31 :: x32 :: r) 32 d P := .of h
theorem se33 {x0 x1 x2 x3 x4 x5 x6 x7 x8 x9 x10 x11 x12 x13 x14 x15 x16 x17 x18 x19 x20 x21 x22 x23 x24 x25 x26 x27 x28 x29 x30 x31 x32 x33 : Option D} {r : Env'} (h : P (x0 :: x1 :: x2 :: x3 :: x4 :: x5 :: x6 :: x7 :: x8 :: x9 :: x10 :: x11 :: x12 :: x13 :: x14 :: x15 :: x16 :: x17 :: x18 :: x19 :: x20 :: x21 :: x22 :: x23 :: x24 :: x25 :: x26 :: x27 :: x28 :: x29 :: x30 :: x31 :: x32 :: some d :: r)) : Sets (x0 :: x1 :: x2 :: x3 :: x4 :: x5 :: x6 :: x7 :: x8 :: x9 :: x10 :: x11 :: x12 :: x13 :: x14 :: x15 :: x16 :: x17 :: x18 :: x19 :: x20 :: x21 :: x22 :: x23 :: x24 :: x25 :: x26 :: x27 :: x28 :: x29 :: x30 :: x31 :: x32 :: x33 :: r) 33 d P := .of h
theorem se34 {x0 x1 x2 x3 x4 x5 x6 x7 x8 x9 x10 x11 x12 x13 x14 x15 x16 x17 x18 x19 x20 x21 x22 x23 x24 x25 x26 x27 x28 x29 x30 x31 x32 x33 x34 : Option D} {r : Env'} (h : P (x0 :: x1 :: x2 :: x3 :: x4 :: x5 :: x6 :: x7 :: x8 :: x9 :: x10 :: x11 :: x12 :: x13 :: x14 :: x15 :: x16 :: x17 :: x18 :: x19 :: x20 :: x21 :: x22 :: x23 :: x24 :: x25 :: x26 :: x27 :: x28 :: x29 :: x30 :: x31 :: x32 :: x33 :: some d :: r)) : Sets (x0 :: x1 :: x2 :: x3 :: x4 :: x5 :: x6 :: x7 :: x8 :: x9 :: x10 :: x11 :: x12 :: x13 :: x14 :: x15 :: x16 :: x17 :: x18 :: x19 :: x20 :: x21 :: x22 :: x23 :: x24 :: x25 :: x26 :: x27 :: x28 :: x29 :: x30 :: x31 :: x32 :: x33 :: x34 :: r) 34 d P := .of h
theorem se35 {x0 x1 x2 x3 x4 x5 x6 x7 x8 x9 x10 x11 x12 x13 x14 x15 x16 x17 x18 x19 x20 x21 x22 x23 x24 x25 x26 x27 x28 x29 x30 x31 x32 x33 x34 x35 : Option D} {r : Env'} (h : P (x0 :: x1 :: x2 :: x3 :: x4 :: x5 :: x6 :: x7 :: x8 :: x9 :: x10 :: x11 :: x12 :: x13 :: x14 :: x15 :: x16 :: x17 :: x18 :: x19 :: x20 :: x21 :: x22 :: x23 :: x24 :: x25 :: x26 :: x27 :: x28 :: x29 :: x30 :: x31 :: x32 :: x33 :: x34 :: some d :: r)) : Sets (x0 :: x1 :: x2 :: x3 :: x4 :: x5 :: x6 :: x7 :: x8 :: x9 :: x10 :: x11 :: x12 :: x13 :: x14 :: x15 :: x16 :: x17 :: x18 :: x19 :: x20 :: x21 :: x22 :: x23 :: x24 :: x25 :: x26 :: x27 :: x28 :: x29 :: x30 :: x31 :: x32 :: x33 :: x34 :: x35 :: r) 35 d P := .of h
end
section
variable {B : Bx} {X : Cx} {K : PySem.W.Frag} {M : Mem} {Φ : D → Mem → Prop} {Φ' : Mem → Prop} {s g : Addr} {r t e r' t' e' : Int} {cs : List Int}
theorem st_great (k : Φ (.raw (.ref g)) ((s, .dct (stD g r t e cs)) :: M)) : OpD (rIxU K) (.raw (.ref s)) (.str "great") ((s, .dct (stD g r t e cs)) :: M) Φ := od_ixD (k := .inr "great") 0 rfl rfl rfl k
theorem st_rest (k : Φ (.int r) ((s, .dct (stD g r t e cs)) :: M)) : OpD (rIxU K) (.raw (.ref s)) (.str "rest") ((s, .dct (stD g r t e cs)) :: M) Φ := od_ixD (k := .inr "rest") 0 rfl rfl rfl k
theorem st_turn (k : Φ (.int t) ((s, .dct (stD g r t e cs)) :: M)) : OpD (rIxU K) (.raw (.ref s)) (.str "turn") ((s, .dct (stD g r t e cs)) :: M) Φ := od_ixD (k := .inr "turn") 0 rfl rfl rfl k
theorem st_seed (k : Φ (.int e) ((s, .dct (stD g r t e cs)) :: M)) : OpD (rIxU K) (.raw (.ref s)) (.str "seed") ((s, .dct (stD g r t e cs)) :: M) Φ := od_ixD (k := .inr "seed") 0 rfl rfl rfl k
theorem st_cells (k : Φ (.lst (cs.map .int)) ((s, .dct (stD g r t e cs)) :: M)) : OpD (rIxU K) (.raw (.ref s)) (.str "cells") ((s, .dct (stD g r t e cs)) :: M) Φ := od_ixD (k := .inr "cells") 0 rfl rfl rfl k
theorem set_rest (k : Φ' ((s, .dct (stD g r' t e cs)) :: M)) : SetD (.raw (.ref s)) (.str "rest") (.int r') ((s, .dct (stD g r t e cs)) :: M) Φ' := sd_dict (k := .inr "rest") 0 rfl rfl (by show 5 < sizeLine; decide) k
theorem set_turn (k : Φ' ((s, .dct (stD g r t' e cs)) :: M)) : SetD (.raw (.ref s)) (.str "turn") (.int t') ((s, .dct (stD g r t e cs)) :: M) Φ' := sd_dict (k := .inr "turn") 0 rfl rfl (by show 5 < sizeLine; decide) k
theorem set_seed (k : Φ' ((s, .dct (stD g r t e' cs)) :: M)) : SetD (.raw (.ref s)) (.str "seed") (.int e') ((s, .dct (stD g r t e cs)) :: M) Φ' := sd_dict (k := .inr "seed") 0 rfl rfl (by show 5 < sizeLine; decide) k
theorem at_int {cs : List Int} {i : Int} (h0 : 0 ≤ i) (h1 : i < cs.length) : ∃ c, c ∈ cs ∧ atI (cs.map D.int) i = some (.int c) := by
  have hl : i.toNat < cs.length := by omega
  refine ⟨cs[i.toNat], List.getElem_mem hl, ?_⟩
  unfold atI ixN
  rw [if_pos h0, if_pos (by rw [List.length_map]; exact h1)]
  show (cs.map D.int)[i.toNat]? = _
  rw [List.getElem?_map, List.getElem?_eq_getElem hl]; rfl
end
/-! what kind of goal it is -/
section
variable {B : Bx} {X : Cx} {e a b c o v : Expr} {es : List Expr} {st : Stmt} {sts : List Stmt} {δ : Env'} {M : Mem} {Φ : D → Mem → Prop} {Ψ : DEnds} {ΦB : Bool → Mem → Prop} {ΦL : List D → Mem → Prop} {ΦM : Mem → Prop} {ΦE : Env' → Mem → Prop} {d x y : D} {pos : Pos}
theorem idE (h : DE B X e δ M Φ) : DE B X e δ M Φ := h
theorem idName {n : Str} (h : DE B X (.Name n pos) δ M Φ) : DE B X (.Name n pos) δ M Φ := h
theorem idCst {n : Const} {j} (h : DE B X (.Constant n j pos) δ M Φ) : DE B X (.Constant n j pos) δ M Φ := h
theorem idBin {op} (h : DE B X (.BinOp a op b pos) δ M Φ) : DE B X (.BinOp a op b pos) δ M Φ := h
theorem idCmp {ops bs} (h : DE B X (.Compare a ops bs pos) δ M Φ) : DE B X (.Compare a ops bs pos) δ M Φ := h
theorem idCallN {n : Str} {p ks} (h : DE B X (.Call (.Name n p) es ks pos) δ M Φ) : DE B X (.Call (.Name n p) es ks pos) δ M Φ := h
theorem idCallA {n : Str} {p ks} (h : DE B X (.Call (.Attribute o n p) es ks pos) δ M Φ) : DE B X (.Call (.Attribute o n p) es ks pos) δ M Φ := h
theorem idA (h : DA B X es δ M ΦL) : DA B X es δ M ΦL := h
theorem idT (h : DT B X e δ M ΦB) : DT B X e δ M ΦB := h
theorem idTC {ops bs} (h : DT B X (.Compare a ops bs pos) δ M ΦB) : DT B X (.Compare a ops bs pos) δ M ΦB := h
theorem idW (h : DW B X e δ M ΦB) : DW B X e δ M ΦB := h
theorem idS (h : DS B X st δ M Ψ) : DS B X st δ M Ψ := h
theorem idAsg {t} (h : DS B X (.Assign t e pos) δ M Ψ) : DS B X (.Assign t e pos) δ M Ψ := h
theorem idSs (h : DSs B X sts δ M Ψ) : DSs B X sts δ M Ψ := h
theorem idG (h : DG B X e d δ M ΦE) : DG B X e d δ M ΦE := h
theorem idGs {ds : List D} (h : DGs B X es ds δ M ΦE) : DGs B X es ds δ M ΦE := h
theorem idO {r : R2} (h : OpD r x y M Φ) : OpD r x y M Φ := h
theorem idOx {K : PySem.W.Frag} (h : OpD (rIxU K) x y M Φ) : OpD (rIxU K) x y M Φ := h
theorem idC {r : List V → Hp → VK → Prop} {ds : List D} (h : CallD r ds M Φ) : CallD r ds M Φ := h
theorem idSet (h : SetD x y d M ΦM) : SetD x y d M ΦM := h
theorem idSl {i : Nat} {P : Env' → Prop} (h : Sets δ i d P) : Sets δ i d P := h
theorem idBr {b : Bool} {P Q : Prop} (h : Br b P Q) : Br b P Q := h
end
section
variable {M : Mem} {Φ : D → Mem → Prop} {i j : Int}
theorem od_mulS (h : (-(2 ^ 64) < i ∧ i < 2 ^ 64) ∨ (-(2 ^ 64) < j ∧ j < 2 ^ 64)) (k : Φ (.int (i * j)) M) : OpD rMulU (.int i) (.int j) M Φ := od_mul h k
theorem log2_small {j : Int} (h : 0 < j) (h2 : j < 2 ^ 1000) : j.natAbs.log2 < 9000 := by
  have : j.natAbs < 2 ^ 1000 := by omega
  exact Nat.lt_trans (PySem.Flt.log2_lt_of (by decide) this) (by decide)
theorem od_divS (h : 0 < j) (h2 : j < 2 ^ 1000) (k : Φ (.int (i / j)) M) : OpD rDivU (.int i) (.int j) M Φ := od_div ⟨h, log2_small h h2⟩ k
theorem p10_1 (k : Φ (.int 10) M) : OpD rPowU (.int 10) (.int 1) M Φ := od_pow ⟨by decide, by decide, by decide⟩ k
theorem p10_2 (k : Φ (.int 100) M) : OpD rPowU (.int 10) (.int 2) M Φ := od_pow ⟨by decide, by decide, by decide⟩ k
theorem p10_3 (k : Φ (.int 1000) M) : OpD rPowU (.int 10) (.int 3) M Φ := od_pow ⟨by decide, by decide, by decide⟩ k
theorem p10_4 (k : Φ (.int 10000) M) : OpD rPowU (.int 10) (.int 4) M Φ := od_pow ⟨by decide, by decide, by decide⟩ k
theorem p10_5 (k : Φ (.int 100000) M) : OpD rPowU (.int 10) (.int 5) M Φ := od_pow ⟨by decide, by decide, by decide⟩ k
theorem p10_6 (k : Φ (.int 1000000) M) : OpD rPowU (.int 10) (.int 6) M Φ := od_pow ⟨by decide, by decide, by decide⟩ k
theorem p10_7 (k : Φ (.int 10000000) M) : OpD rPowU (.int 10) (.int 7) M Φ := od_pow ⟨by decide, by decide, by decide⟩ k
theorem p10_8 (k : Φ (.int 100000000) M) : OpD rPowU (.int 10) (.int 8) M Φ := od_pow ⟨by decide, by decide, by decide⟩ k
theorem p10_9 (k : Φ (.int 1000000000) M) : OpD rPowU (.int 10) (.int 9) M Φ := od_pow ⟨by decide, by decide, by decide⟩ k
theorem p10_10 (k : Φ (.int 10000000000) M) : OpD rPowU (.int 10) (.int 10) M Φ := od_pow ⟨by decide, by decide, by decide⟩ k
theorem p10_11 (k : Φ (.int 100000000000) M) : OpD rPowU (.int 10) (.int 11) M Φ := od_pow ⟨by decide, by decide, by decide⟩ k
theorem p10_12 (k : Φ (.int 1000000000000) M) : OpD rPowU (.int 10) (.int 12) M Φ := od_pow ⟨by decide, by decide, by decide⟩ k
theorem p10_13 (k : Φ (.int 10000000000000) M) : OpD rPowU (.int 10) (.int 13) M Φ := od_pow ⟨by decide, by decide, by decide⟩ k
theorem p10_14 (k : Φ (.int 100000000000000) M) : OpD rPowU (.int 10) (.int 14) M Φ := od_pow ⟨by decide, by decide, by decide⟩ k
theorem p10_15 (k : Φ (.int 1000000000000000) M) : OpD rPowU (.int 10) (.int 15) M Φ := od_pow ⟨by decide, by decide, by decide⟩ k
theorem p10_16 (k : Φ (.int 10000000000000000) M) : OpD rPowU (.int 10) (.int 16) M Φ := od_pow ⟨by decide, by decide, by decide⟩ k
theorem p10_17 (k : Φ (.int 100000000000000000) M) : OpD rPowU (.int 10) (.int 17) M Φ := od_pow ⟨by decide, by decide, by decide⟩ k
theorem p10_18 (k : Φ (.int 1000000000000000000) M) : OpD rPowU (.int 10) (.int 18) M Φ := od_pow ⟨by decide, by decide, by decide⟩ k
theorem p10_19 (k : Φ (.int 10000000000000000000) M) : OpD rPowU (.int 10) (.int 19) M Φ := od_pow ⟨by decide, by decide, by decide⟩ k
theorem p10_20 (k : Φ (.int 100000000000000000000) M) : OpD rPowU (.int 10) (.int 20) M Φ := od_pow ⟨by decide, by decide, by decide⟩ k
theorem p10_21 (k : Φ (.int 1000000000000000000000) M) : OpD rPowU (.int 10) (.int 21) M Φ := od_pow ⟨by decide, by decide, by decide⟩ k
theorem p10_22 (k : Φ (.int 10000000000000000000000) M) : OpD rPowU (.int 10) (.int 22) M Φ := od_pow ⟨by decide, by decide, by decide⟩ k
theorem p10_23 (k : Φ (.int 100000000000000000000000) M) : OpD rPowU (.int 10) (.int 23) M Φ := od_pow ⟨by decide, by decide, by decide⟩ k
theorem p10_24 (k : Φ (.int 1000000000000000000000000) M) : OpD rPowU (.int 10) (.int 24) M Φ := od_pow ⟨by decide, by decide, by decide⟩ k
theorem p10_25 (k : Φ (.int 10000000000000000000000000) M) : OpD rPowU (.int 10) (.int 25) M Φ := od_pow ⟨by decide, by decide, by decide⟩ k
theorem p10_26 (k : Φ (.int 100000000000000000000000000) M) : OpD rPowU (.int 10) (.int 26) M Φ := od_pow ⟨by decide, by decide, by decide⟩ k
theorem p10_27 (k : Φ (.int 1000000000000000000000000000) M) : OpD rPowU (.int 10) (.int 27) M Φ := od_pow ⟨by decide, by decide, by decide⟩ k
theorem p10_28 (k : Φ (.int 10000000000000000000000000000) M) : OpD rPowU (.int 10) (.int 28) M Φ := od_pow ⟨by decide, by decide, by decide⟩ k
theorem p10_29 (k : Φ (.int 100000000000000000000000000000) M) : OpD rPowU (.int 10) (.int 29) M Φ := od_pow ⟨by decide, by decide, by decide⟩ k
theorem p10_30 (k : Φ (.int 1000000000000000000000000000000) M) : OpD rPowU (.int 10) (.int 30) M Φ := od_pow ⟨by decide, by decide, by decide⟩ k
theorem p10_31 (k : Φ (.int 10000000000000000000000000000000) M) : OpD rPowU (.int 10) (.int 31) M Φ := od_pow ⟨by decide, by decide, by decide⟩ k
theorem p10_32 (k : Φ (.int 100000000000000000000000000000000) M) : OpD rPowU (.int 10) (.int 32) M Φ := od_pow ⟨by decide, by decide, by decide⟩ k
theorem p10_33 (k : Φ (.int 1000000000000000000000000000000000) M) : OpD rPowU (.int 10) (.int 33) M Φ := od_pow ⟨by decide, by decide, by decide⟩ k
theorem p10_34 (k : Φ (.int 10000000000000000000000000000000000) M) : OpD rPowU (.int 10) (.int 34) M Φ := od_pow ⟨by decide, by decide, by decide⟩ k
theorem p10_35 (k : Φ (.int 100000000000000000000000000000000000) M) : OpD rPowU (.int 10) (.int 35) M Φ := od_pow ⟨by decide, by decide, by decide⟩ k
theorem p10_36 (k : Φ (.int 1000000000000000000000000000000000000) M) : OpD rPowU (.int 10) (.int 36) M Φ := od_pow ⟨by decide, by decide, by decide⟩ k
theorem p10_37 (k : Φ (.int 10000000000000000000000000000000000000) M) : OpD rPowU (.int 10) (.int 37) M Φ := od_pow ⟨by decide, by decide, by decide⟩ k
theorem p10_38 (k : Φ (.int 100000000000000000000000000000000000000) M) : OpD rPowU (.int 10) (.int 38) M Φ := od_pow ⟨by decide, by decide, by decide⟩ k
theorem p10_39 (k : Φ (.int 1000000000000000000000000000000000000000) M) : OpD rPowU (.int 10) (.int 39) M Φ := od_pow ⟨by decide, by decide, by decide⟩ k
theorem p10_40 (k : Φ (.int 10000000000000000000000000000000000000000) M) : OpD rPowU (.int 10) (.int 40) M Φ := od_pow ⟨by decide, by decide, by decide⟩ k
theorem p10_41 (k : Φ (.int 100000000000000000000000000000000000000000) M) : OpD rPowU (.int 10) (.int 41) M Φ := od_pow ⟨by decide, by decide, by decide⟩ k
theorem p10_42 (k : Φ (.int 1000000000000000000000000000000000000000000) M) : OpD rPowU (.int 10) (.int 42) M Φ := od_pow ⟨by decide, by decide, by decide⟩ k
theorem p10_43 (k : Φ (.int 10000000000000000000000000000000000000000000) M) : OpD rPowU (.int 10) (.int 43) M Φ := od_pow ⟨by decide, by decide, by decide⟩ k
theorem p10_44 (k : Φ (.int 100000000000000000000000000000000000000000000) M) : OpD rPowU (.int 10) (.int 44) M Φ := od_pow ⟨by decide, by decide, by decide⟩ k
theorem p10_45 (k : Φ (.int 1000000000000000000000000000000000000000000000) M) : OpD rPowU (.int 10) (.int 45) M Φ := od_pow ⟨by decide, by decide, by decide⟩ k
end
end Hl
namespace Hl
open PySem L2
section
variable {B : Bx} {X : Cx} {e a b c o : Expr} {es rest : List Expr} {st : Stmt} {sts : List Stmt} {δ δ' : Env'} {M : Mem} {Φ : D → Mem → Prop} {Ψ : DEnds} {te ta tb : TE} {tt : TT} {pos pos' apos : Pos} {d x y : D} {ΦB : Bool → Mem → Prop} {ΦL : List D → Mem → Prop}
/-- a new list as a cell at place k -/
theorem DE.own (k : Nat) (h : DF B X e δ M fun ds M' => ∀ p : Addr, Φ (.raw (.ref p)) (insM k (p, .lst ds) M')) : DE B X e δ M Φ := fun κ σ H Q hb R kk => h κ σ H Q hb R fun p ds M' H' q R' => kk _ _ _ _ (q p) (R'.perm insM_perm) (.raw _)
/-! dict displays -/
def DPs (B : Bx) (X : Cx) : List (Option Expr) → List Expr → Env' → Mem → (List (D × D) → Mem → Prop) → Prop
  | [], [], _, M, Φ => Φ [] M
  | some k :: ks, v :: vs, δ, M, Φ => DE B X k δ M fun x M1 => DE B X v δ M1 fun y M2 => DPs B X ks vs δ M2 fun ps M3 => Φ ((x, y) :: ps) M3
  | _, _, _, _, _ => False
def trsOf (X : Cx) : List (Option Expr) → List Expr → List (TE × TE)
  | some k :: ks, v :: vs => (tE X k, tE X v) :: trsOf X ks vs
  | _, _ => []
def isSomes : List (Option Expr) → List Expr → Bool
  | [], [] => true
  | some _ :: ks, _ :: vs => isSomes ks vs
  | _, _ => false
theorem pps_of : ∀ {ks : List (Option Expr)} {vs : List Expr}, isSomes ks vs = true → PPs X pos ks vs (trsOf X ks vs)
  | [], [], _ => pps_nil
  | some k :: ks, v :: vs, h => pps_cons cE cE (pps_of (ks := ks) (vs := vs) h)
  | [], _ :: _, h => by cases h
  | none :: _, _, h => by cases h
  | some _ :: _, [], h => by cases h
def PairRep (F : List Addr) (H : Hp) : List (V × V) → List (D × D) → Prop := Paired fun p q => Rep F H p.1 q.1 ∧ Rep F H p.2 q.2
theorem pairs_run : ∀ {ks : List (Option Expr)} {vs : List Expr} {M : Mem} {Φ : List (D × D) → Mem → Prop} {κ : List (V × D)} {σ : St} {H : Hp} {Q : List (V × V) → Hp → Prop}, DPs B X ks vs δ M Φ → (∀ q ∈ B.ps, q ∈ κ) → Rs κ δ M σ H →
    (∀ ps ds M' H', Φ ds M' → Rs κ δ M' σ H' → PairRep M'.F H' ps ds → Q ps H') → tPairs (trsOf X ks vs) σ H Q
  | [], [], _, _, _, _, _, _, h, hb, R, k => k [] [] _ _ h R .nil
  | some ke :: ks, v :: vs, M, Φ, κ, σ, H, Q, h, hb, R, k => by
    refine (show DE B X ke δ M _ from h) κ σ H _ hb R fun u x M1 H1 q1 R1 r1 => ?_
    refine q1 ((u, x) :: κ) σ H1 _ (fun q hq => List.mem_cons_of_mem _ (hb q hq)) (R1.push r1) fun w y M2 H2 q2 R2 r2 => ?_
    refine pairs_run q2 (fun q hq => List.mem_cons_of_mem _ (List.mem_cons_of_mem _ (hb q hq))) (R2.push r2) fun ps ds M3 H3 q3 R3 r3 => ?_
    exact k _ _ _ _ q3 R3.pop.pop (.cons ⟨R3.pop.top, R3.top⟩ r3)
  | [], _ :: _, _, _, _, _, _, _, h, _, _, _ => h.elim
  | none :: _, _, _, _, _, _, _, _, h, _, _, _ => by cases h
  | some _ :: _, [], _, _, _, _, _, _, h, _, _, _ => h.elim
def mergeD (kvs more : List (Key × D)) : List (Key × D) := more.foldl (fun acc kv => putD acc kv.1 kv.2) kvs
theorem pair_keys {F : List Addr} {H : Hp} : ∀ {ps : List (V × V)} {kvs : List (Key × D)}, PairRep F H ps (kvs.map fun kv => (kD kv.1, kv.2)) → ∃ ws : List (Key × V), ps = ws.map (fun kv => (kV kv.1, kv.2)) ∧ ws.map (·.1) = kvs.map (·.1) ∧ Reps F H (ws.map (·.2)) (kvs.map (·.2))
  | _, [], .nil => ⟨[], rfl, rfl, .nil⟩
  | (v1, v2) :: ps, (k, d) :: kvs, .cons ⟨r1, r2⟩ t => by
    obtain ⟨ws, e1, e2, r⟩ := pair_keys (kvs := kvs) t
    have := rep_k r1
    exact ⟨(k, v2) :: ws, by rw [e1]; show (v1, v2) :: _ = (kV k, v2) :: _; rw [show v1 = kV k from this], by simp [e2], .cons r2 r⟩
theorem merge_rep {F : List Addr} {H : Hp} : ∀ {ws : List (Key × V)} {kvs : List (Key × D)} {ws0 : List (Key × V)} {kvs0 : List (Key × D)}, ws.map (·.1) = kvs.map (·.1) → Reps F H (ws.map (·.2)) (kvs.map (·.2)) → ws0.map (·.1) = kvs0.map (·.1) → Reps F H (ws0.map (·.2)) (kvs0.map (·.2)) →
    (mergeK ws0 ws).map (·.1) = (mergeD kvs0 kvs).map (·.1) ∧ Reps F H ((mergeK ws0 ws).map (·.2)) ((mergeD kvs0 kvs).map (·.2))
  | [], [], _, _, _, _, h1, h2 => ⟨h1, h2⟩
  | [], _ :: _, _, _, h, _, _, _ => by cases h
  | _ :: _, [], _, _, h, _, _, _ => by cases h
  | (k1, v) :: ws, (k2, d) :: kvs, ws0, kvs0, h, r, h1, h2 => by
    have e1 : k1 = k2 := (List.cons.inj h).1
    have e2 : ws.map (·.1) = kvs.map (·.1) := (List.cons.inj h).2
    subst e1
    cases r with
    | cons r1 r2 => exact merge_rep (ws0 := putK ws0 k1 v) (kvs0 := putD kvs0 k1 d) e2 r2 (put_keys h1) (put_vals r1 h1 h2)
theorem de_disp {keys : List (Option Expr)} {values : List Expr} (k : Nat) (hi : isSomes keys values = true) (hall : keys.all (·.isSome) = true) (hl : keys.length = values.length) (h0 : keys ≠ []) (h15 : keys.length ≤ 15)
    (h : ∀ p, DPs B X keys values δ (insM k (p, .dct []) M) fun ps M2 => ∃ j kvs, M2[j]? = some (p, .dct []) ∧ ps = kvs.map (fun kv => (kD kv.1, kv.2)) ∧ kvs.length ≤ 15 ∧ Φ (.raw (.ref p)) (M2.set j (p, .dct (mergeD [] kvs)))) : DE B X (.Dict keys values pos) δ M Φ := by
  refine .of (pe_disp (pps_of hi) hall hl h0 h15) fun κ σ H Q hb R kk => ?_
  intro p hp
  have R1 : Rs κ δ (insM k (p, .dct []) M) σ (upd H p (.dK [])) := (R.dct (kvs := []) (ws := []) hp rfl .nil).perm insM_perm
  refine pairs_run (h p) hb R1 fun ps ds M2 H2 ⟨j, kvs, ej, ep, hk, q⟩ R2 r2 => ?_
  subst ep
  obtain ⟨ws0, e0, e1, r0⟩ := R2.at ej
  have hw : ws0 = [] := by cases ws0 with | nil => rfl | cons _ _ => cases e1
  subst hw
  obtain ⟨ws, ep, e2, rr⟩ := pair_keys r2
  refine ⟨e0, ws, ep, ?_, ?_⟩
  · have := congrArg List.length e2
    rw [List.length_map, List.length_map] at this
    omega
  · refine kk _ _ _ _ q ?_ (.raw _)
    obtain ⟨m1, m2⟩ := merge_rep (ws0 := []) (kvs0 := []) e2 rr rfl .nil
    have hpF : ∀ x, x ∉ M2.F → upd H2 p (.dK (mergeK [] ws)) x = H2 x := fun x hx => upd_ne fun z => hx (z ▸ R2.mem ej p (by simp [own]))
    exact R2.cell ej rfl (fun x hx => upd_ne (by simpa [own] using hx)) ⟨_, upd_same, m1, m2.fwd (Fwd.same hpF)⟩
/-! the script is walked -/
theorem wd_scr {κ : List (V × D)} {a : Addr} {K : PySem.W.Frag} {ns : List Int} : WalkD ((.ref a, .scr K ns) :: κ) (ns.map .int) (Itl K a) := by
  have sq : ∀ {δ : Env'} {M : Mem} {σ : St} {H : Hp}, Rs ((.ref a, .scr K ns) :: κ) δ M σ H → SqL K H a (ns.map V.int) := fun R => by
    cases R.top with
    | scrH h e => exact .inl e
    | scrK h => exact h _
  exact {
    goes := fun i δ M σ H hi R => by
      rw [List.length_map] at hi
      exact ⟨_, .int ns[i], sq R, by simp [hi]⟩
    stops := fun δ M σ H R => ⟨_, sq R, by simp⟩
    yields := fun i δ M σ H x H' hi R y => by
      obtain ⟨rfl, y⟩ := y
      have := y _ (sq R)
      rw [List.getElem?_map] at this
      cases e : ns[i]? with
      | none => rw [e] at this; cases this
      | some n =>
        rw [e] at this
        have ex : V.int n = x := Option.some.inj this
        subst ex
        exact ⟨.int n, by rw [List.getElem?_map, e]; rfl, R, .int n⟩ }
theorem di_scr {tg iter : Expr} (h : DE B X iter δ M fun d M' => ∃ ns, d = .scr X.K ns ∧ ΦL (ns.map .int) M') : DI B X tg iter δ M ΦL := ⟨_, pi_list cE, fun κ σ H R hb Rr k => h κ σ H _ hb Rr fun v d M1 H1 ⟨ns, ed, q⟩ R1 r1 => by
  subst ed
  cases r1 with
  | scrH h e => exact ⟨_, rfl, ⟨_, .inl e⟩, k _ M1 H1 _ _ q (fun q hq => List.mem_cons_of_mem _ hq) (R1.push (.scrH h e)) wd_scr⟩
  | scrK h => exact ⟨_, rfl, ⟨_, h _⟩, k _ M1 H1 _ _ q (fun q hq => List.mem_cons_of_mem _ hq) (R1.push (.scrK h)) wd_scr⟩⟩
/-- a comprehension without effects: each item gives F of it -/
theorem LcH.pure {scope : Scope} {elt : Expr} {ifs : List Expr} {own : List (Str × Nat)} {tk : Tk} {xs : List D} {k : Nat} (F : D → Option D) (hl : xs.length ≤ sizeLine)
    (h : ∀ (p : Addr) acc x, x ∈ xs → ∃ δ2, bindK tk x (wipeD δ (own.map (·.2))) = some δ2 ∧ Turn1 B X scope elt ifs δ2 (insM k (p, .lst acc) M) fun od M2 => od = F x ∧ M2 = insM k (p, .lst acc) M)
    (q : ΦL (xs.filterMap F) M) : LcH k B X scope elt ifs own tk δ xs M ΦL := by
  refine ⟨fun i acc M1 => M1 = M ∧ acc = (xs.take i).filterMap F ∧ acc.length ≤ i, ⟨rfl, rfl, Nat.le_refl _⟩, ?_, ?_⟩
  · rintro p i x acc M1 hx ⟨rfl, ha, hal⟩
    have hi : i < xs.length := (List.getElem?_eq_some_iff.mp hx).1
    obtain ⟨δ2, e1, tu⟩ := h p acc x (List.mem_of_getElem? hx)
    have fin : ∀ (od : Option D) M2, od = F x ∧ M2 = insM k (p, .lst acc) M1 → ∃ M3, M2 = insM k (p, .lst acc) M3 ∧ M3 = M1 ∧ acc ++ od.toList = (xs.take (i + 1)).filterMap F ∧ (acc ++ od.toList).length ≤ i + 1 := by
      rintro od M2 ⟨rfl, rfl⟩
      refine ⟨M1, rfl, rfl, ?_, ?_⟩
      · rw [List.take_add_one, hx, List.filterMap_append, ← ha]
        cases e : F x <;> simp [e]
      · rw [List.length_append]
        cases F x <;> simp <;> omega
    refine ⟨by omega, δ2, e1, ?_⟩
    unfold Turn1 at tu ⊢
    match ifs, tu with
    | [], tu => exact fun X' bk => (tu X' bk).mono fun d M2 q => fin _ _ q
    | [c], tu => exact fun X' bk => (tu X' bk).mono fun t M2 q => ⟨fun e X2 bk2 => (q.1 e X2 bk2).mono fun d M3 q => fin _ _ q, fun e => fin _ _ (q.2 e)⟩
    | _ :: _ :: _, tu => exact tu.elim
  · rintro acc M1 ⟨rfl, rfl, _⟩
    rw [List.take_length]
    exact q
end
end Hl
namespace Hl
open PySem L2
section
variable {B : Bx} {X X' : Cx} {scope : Scope} {n i : Nat} {x : Str} {pos tpos : Pos}
theorem pg_one (bk : Bk X X' scope) (z : Cz X n) (l : Lo X' i x) : PG X' (.Name x pos) (gK X.K (.one i)) := pg_name (bk.z z).nd l.at_ l.loc l.fn
end
/-! ### the draws -/
/-- a number below many -/
def pTake : DSp := fun ds M Φ => ∃ s g b n M', ds = [.raw (.ref s), .int n] ∧ M = (s, .st g (b + 1)) :: M' ∧ 0 < n ∧ n < 2 ^ 1000 ∧ ∀ r, 0 ≤ r → r < n → Φ (.int r) ((s, .st g b) :: M')
theorem c_take {s g : Addr} {b : Nat} {n : Int} {M : Mem} {Φ : D → Mem → Prop} (hb : 0 < b) (h0 : 0 < n) (h1 : n < 2 ^ 1000) (k : ∀ r, 0 ≤ r → r < n → Φ (.int r) ((s, .st g (b - 1)) :: M)) : pTake [.raw (.ref s), .int n] ((s, .st g b) :: M) Φ := by
  refine ⟨s, g, b - 1, n, M, rfl, ?_, h0, h1, k⟩
  rw [Nat.sub_add_cancel hb]
/-- the state of a script -/
def pBegun (K : PySem.W.Frag) : DSp := fun ds M Φ => ∃ ns, ds = [.scr K ns] ∧ ns.length ≤ 63 ∧ ∀ s g, Φ (.raw (.ref s)) ((s, .st g 1000000000000) :: M)
def bigOnes (ns : List Int) : List Int := ns.filter fun n => decide (1000000000000000000 ≤ n)
def bigF : D → Option D
  | .int n => if 1000000000000000000 ≤ n then some (.int n) else none
  | _ => none
def modF : D → Option D
  | .int n => some (.int (n % 2147483629))
  | _ => none
theorem big_map (ns : List Int) : (ns.map D.int).filterMap bigF = (bigOnes ns).map D.int := by
  induction ns with
  | nil => rfl
  | cons n ns ih =>
    rw [List.map_cons, List.filterMap_cons]
    unfold bigOnes at ih ⊢
    rw [List.filter_cons]
    by_cases h : 1000000000000000000 ≤ n
    · simp only [bigF, h, if_true, decide_true, List.map_cons, ih]
    · simp only [bigF, h, if_false, decide_false, ih]; rfl
theorem rest_map (ns : List Int) : (ns.map D.int).filterMap modF = (ns.map fun n => n % 2147483629).map D.int := by
  induction ns with
  | nil => rfl
  | cons n ns ih => rw [List.map_cons, List.filterMap_cons]; simp only [modF, ih, List.map_cons]
theorem begun_ok (ns : List Int) (h : ns.length ≤ 63) : StOk 1000000000000 (bigOnes ns) 0 0 7 ((ns.map fun n => n % 2147483629) ++ [77]) := by
  refine ⟨fun x hx => ?_, by decide, by decide, by decide, by decide, by decide, fun x hx => ?_, by simp, by simp; omega⟩
  · have := of_decide_eq_true (List.mem_filter.mp hx).2
    omega
  · rcases List.mem_append.mp hx with hx | hx
    · obtain ⟨n, _, rfl⟩ := List.mem_map.mp hx
      exact ⟨Int.emod_nonneg _ (by decide), Int.emod_lt_of_pos _ (by decide)⟩
    · have : x = 77 := by simpa using hx
      subst this; decide
theorem c_begun {K : PySem.W.Frag} {ns : List Int} {M : Mem} {Φ : D → Mem → Prop} (h : ns.length ≤ 63) (k : ∀ s g, Φ (.raw (.ref s)) ((s, .st g 1000000000000) :: M)) : pBegun K [.scr K ns] M Φ := ⟨ns, rfl, h, k⟩
theorem at_sign {z : Str} {i : Int} (h0 : 0 ≤ i) (h1 : i < z.length) : ∃ c, atI z.cps.toList i = some c := by
  have hl : i.toNat < z.cps.toList.length := by
    have : z.length = z.cps.toList.length := by simp [Str.length]
    omega
  obtain ⟨j, rfl⟩ : ∃ j : Nat, i = (j : Int) := ⟨i.toNat, by omega⟩
  exact ⟨z.cps.toList[j], atI_nat (by simp [hl])⟩
end Hl
namespace Hl
open PySem L2
/-! ### calls with keywords -/
@[irreducible] def tKw (X : Cx) (kws : List Keyword) : TA := fun σ H Q => ∀ (pos : Pos) pins s, Inv X pins σ H s → wpAny (model X.prog X.w) X.A (evalAll ((backToKw pos (keywordEach kws X.env)).map (·.2))) (AP X pins σ Q) X.xe s
theorem cK {X : Cx} {kws : List Keyword} : PK X kws (tKw X kws) := ⟨fun pos pins s _ _ _ I h => by unfold tKw at h; exact h pos pins s I⟩
abbrev DK (B : Bx) (X : Cx) (kws : List Keyword) := WA B (tKw X kws)
structure DefK (P : Program) (w : World) (K : PySem.W.Frag) (mg : Str → Option Value) (base : Heap) (k : Nat) (x : Str) (ks ps : List Str) (pm : List Nat) (p : DSp) : Prop where
  ex : ∃ f fd, mg x = some (.ref f) ∧ PySem.W.keepIn K (.ref f) = true ∧ (∀ (s : Shared) (ws : List Value), ws.length = ks.length → BindsTo s fd ⟨[], ks.zip ws⟩ (ps.zip (pm.map fun j => ws.getD j .none))) ∧ (∀ j ∈ pm, j < ks.length) ∧ FnOk P w K mg base CX0 k f fd ps (lift p)
abbrev DefKX (X : Cx) := DefK X.prog X.w X.K X.mg X.base
section
variable {B : Bx} {X : Cx} {e a b c o : Expr} {es rest : List Expr} {st : Stmt} {sts : List Stmt} {δ δ' : Env'} {M : Mem} {Φ : D → Mem → Prop} {Ψ : DEnds} {te ta tb : TE} {tt : TT} {pos pos' apos kpos : Pos} {d x y : D} {ΦB : Bool → Mem → Prop} {ΦL : List D → Mem → Prop} {kws : List Keyword} {nm : Option Str}
theorem DK.of {t : TA} (h : PK X kws t) (w : WA B t δ M ΦL) : DK B X kws δ M ΦL := fun κ σ H Q hb R k => by unfold tKw; exact fun pos pins s I => h.run pos pins s σ H Q I (w κ σ H Q hb R k)
theorem dk_nil (k : ΦL [] M) : DK B X [] δ M ΦL := .of pk_nil fun κ σ H Q hb R h => h _ _ M H k R .nil
theorem dk_cons (h : DE B X a δ M fun x M1 => DK B X kws δ M1 fun xs M2 => ΦL (x :: xs) M2) : DK B X (⟨nm, a, kpos⟩ :: kws) δ M ΦL := .of (pk_cons cE cK) fun κ σ H Q hb R k =>
  h κ σ H _ hb R fun v x M1 H1 q1 R1 r1 => q1 ((v, x) :: κ) σ H1 _ (fun q hq => List.mem_cons_of_mem _ (hb q hq)) (R1.push r1) fun vs xs M2 H2 q2 R2 r2 => k _ _ _ _ q2 R2.pop (.cons R2.top r2)
theorem Reps.pick {F : List Addr} {H : Hp} {vs : List V} {ds : List D} (r : Reps F H vs ds) : ∀ (pm : List Nat), (∀ j ∈ pm, j < vs.length) → Reps F H (pm.map fun j => vs.getD j .non) (pm.map fun j => ds.getD j .non)
  | [], _ => .nil
  | j :: pm, h => by
    have hj := h j List.mem_cons_self
    obtain ⟨d, e1, r1⟩ := r.get (i := j) (v := vs[j]) (by simp [hj])
    refine .cons ?_ (r.pick pm fun i hi => h i (List.mem_cons_of_mem _ hi))
    have a1 : vs.getD j .non = vs[j] := by simp [List.getD, hj]
    have a2 : ds.getD j .non = d := by simp [List.getD, e1]
    dsimp only
    rw [a1, a2]; exact r1
theorem Vals.pick {vs : List V} {us : List Value} (r : Vals vs us) : ∀ (pm : List Nat), (∀ j ∈ pm, j < vs.length) → Vals (pm.map fun j => vs.getD j .non) (pm.map fun j => us.getD j .none)
  | [], _ => .nil
  | j :: pm, h => by
    have hj := h j List.mem_cons_self
    obtain ⟨u, e1, r1⟩ := Vals.get r (i := j) (x := vs[j]) (by simp [hj])
    refine .cons ?_ (Vals.pick r pm fun i hi => h i (List.mem_cons_of_mem _ hi))
    have a1 : vs.getD j .non = vs[j] := by simp [List.getD, hj]
    have a2 : us.getD j .none = u := by simp [List.getD, e1]
    dsimp only
    rw [a1, a2]; exact r1
theorem de_callK {k n : Nat} {x : Str} {ks ps : List Str} {pm : List Nat} {p : DSp} {pp : Pos} (z : Cz X n) (f : DefKX X k x ks ps pm p) (hk : k ≤ n) (hg : Gl X x) (h : DK B X kws δ M fun ds M' => ds.length = ks.length ∧ p (pm.map fun j => ds.getD j .non) M' Φ)
    (hall : (backToKw pos (keywordEach kws X.env)).all (·.1.isSome) = true := by rfl) (hks : (backToKw pos (keywordEach kws X.env)).filterMap (·.1) = ks := by rfl) (hdb : (x == ("__debug__" : Str)) = false := by decide)
    (hpl : ((backTo pos (starEach [] X.env)).any (·.1) || (backToKw pos (keywordEach kws X.env)).any (·.1.isNone)) = false := by rfl) : DE B X (.Call (.Name x pp) [] kws pos) δ M Φ := by
  obtain ⟨fa, fd, h1, h2, h3, h4, h5⟩ := f.ex
  refine .of (te := fun σ H Q => tKw X kws σ H fun zs H2 => zs.length = ks.length ∧ lift p (pm.map fun j => zs.getD j .non) H2 Q E0) ⟨fun pins s σ H Q I hq => ?_⟩ fun κ σ H Q hb R kk => h κ σ H _ hb R fun vs ds M1 H1 ⟨ql, q⟩ R1 r1 => ⟨by rw [r1.length]; exact ql, ?_⟩
  · refine wpAny_Call_Name_kw (ld_glob I hg h1 ?_ hdb)
    refine PySem.W.callWith_KW0 (h₀ := X.base) (first := []) I.ok.mod.kin h2 hall (thn (cK.run pos pins s σ H _ I hq) fun ws s2 ⟨zs, H2, I2, rz, l2, q2⟩ => ⟨I2.kIn, ?_⟩) hpl
    rw [hks]
    have r2 := Vals.pick rz pm (fun j hj => by rw [l2]; exact h4 j hj)
    refine wpAny_call (codeAny_mono (h5.run X.A X.stack s2 H2 ⟨[], ks.zip ws⟩ _ _ Q E0 (z.room.mono hk) I2.env0 (h3 s2 ws (rz.length.symm.trans l2)) r2 q2) fun r s' hq => ?_)
    cases r with
    | error e => exact hq.elim
    | ok fl =>
      cases fl with
      | ret u => exact I2.after hq
      | next => exact False.elim hq
      | brk => exact False.elim hq
      | cont => exact False.elim hq
  · refine ⟨κ ++ sk σ δ, _, M1, Φ, R1.pack, r1.pick pm (fun j hj => by rw [r1.length, ql]; exact h4 j hj), q, fun v d M2 H2 q2 R2 r2 => kk v d M2 H2 q2 (R1.unpack R2) r2⟩
/-! ### in, not in -/
def rInDc : R2 := fun x y H Q => ∃ (a : Addr) (o : Option V), y = .ref a ∧ DGet H a x o ∧ Q (.bl o.isSome) H
def rNotInDc : R2 := fun x y H Q => ∃ (a : Addr) (o : Option V), y = .ref a ∧ DGet H a x o ∧ Q (.bl (!o.isSome)) H
theorem op_in_dict (hu : X.A.units + 1 < cLine) : OpR X (compareOp .In) rInDc := by
  intro pins s σ H x y v u Q I rx ry h
  obtain ⟨a, o, rfl, g, q⟩ := h
  obtain rfl : u = Value.ref a := ry
  exact d_in hu I g rx fun s' I' => ⟨.bl _, H, I', rfl, q⟩
theorem op_notIn_dict (hu : X.A.units + 1 < cLine) : OpR X (compareOp .NotIn) rNotInDc := by
  intro pins s σ H x y v u Q I rx ry h
  obtain ⟨a, o, rfl, g, q⟩ := h
  obtain rfl : u = Value.ref a := ry
  exact d_notIn hu I g rx fun s' I' => ⟨.bl _, H, I', rfl, q⟩
def rInU (K : PySem.W.Frag) : R2 := fun x y H Q => (∃ (c : Nat) (z : Str), x = .str ⟨#[c]⟩ ∧ y = .str z ∧ Q (.bl (decide (c ∈ z.cps.toList))) H) ∨ (rIn K false x y H Q ∨ rInDc x y H Q)
def rNotInU (K : PySem.W.Frag) : R2 := fun x y H Q => (∃ (c : Nat) (z : Str), x = .str ⟨#[c]⟩ ∧ y = .str z ∧ Q (.bl (!decide (c ∈ z.cps.toList))) H) ∨ (rIn K true x y H Q ∨ rNotInDc x y H Q)
theorem de_in {n : Nat} (z : Cz X n) (h : DE B X a δ M fun x M1 => DE B X b δ M1 fun y M2 => OpD (rInU X.K) x y M2 Φ) (hm : behindInMarks .In b = false := by rfl) : DE B X (.Compare a [.In] [b] pos) δ M Φ := de_cmp (op_in_sign.or (op_in_seq.or (op_in_dict (un1 z)))) hm h
theorem de_notin {n : Nat} (z : Cz X n) (h : DE B X a δ M fun x M1 => DE B X b δ M1 fun y M2 => OpD (rNotInU X.K) x y M2 Φ) (hm : behindInMarks .NotIn b = false := by rfl) : DE B X (.Compare a [.NotIn] [b] pos) δ M Φ := de_cmp (op_notIn_sign.or (op_notIn_seq.or (op_notIn_dict (un1 z)))) hm h
theorem dt_in {n : Nat} (z : Cz X n) (h : DE B X a δ M fun x M1 => DE B X b δ M1 fun y M2 => OpD (rInU X.K) x y M2 (toB ΦB)) (hm : behindInMarks .In b = false := by rfl) : DT B X (.Compare a [.In] [b] pos) δ M ΦB := dt_cmp (op_in_sign.or (op_in_seq.or (op_in_dict (un1 z)))) hm h
theorem dt_notin {n : Nat} (z : Cz X n) (h : DE B X a δ M fun x M1 => DE B X b δ M1 fun y M2 => OpD (rNotInU X.K) x y M2 (toB ΦB)) (hm : behindInMarks .NotIn b = false := by rfl) : DT B X (.Compare a [.NotIn] [b] pos) δ M ΦB := dt_cmp (op_notIn_sign.or (op_notIn_seq.or (op_notIn_dict (un1 z)))) hm h
theorem od_inS {K : PySem.W.Frag} {c : Nat} {z : Str} (k : Φ (.bl (decide (c ∈ z.cps.toList))) M) : OpD (rInU K) (.str ⟨#[c]⟩) (.str z) M Φ := .inl fun κ δ σ H v w Q R rv rw' h => by
  cases rv; cases rw'
  exact ⟨c, z, rfl, rfl, h _ _ M H k R (.bl _)⟩
theorem od_notinS {K : PySem.W.Frag} {c : Nat} {z : Str} (k : Φ (.bl (!decide (c ∈ z.cps.toList))) M) : OpD (rNotInU K) (.str ⟨#[c]⟩) (.str z) M Φ := .inl fun κ δ σ H v w Q R rv rw' h => by
  cases rv; cases rw'
  exact ⟨c, z, rfl, rfl, h _ _ M H k R (.bl _)⟩
/-- a text's constant of the module -/
theorem gc_str {x : Str} {z : Str} {sc : Scope} (hs : X.env.scope = sc) (h : sc.names.lookup x = some .globalImplicit) (hm : ∃ t, X.mg x = some (.str z t)) (dbg : (x == ("__debug__" : Str)) = false := by decide) : Gc X x (.str z) := by
  obtain ⟨t, e⟩ := hm
  exact ⟨gl_of hs h, ⟨_, e, t, rfl⟩, dbg⟩
theorem gc_int {x : Str} {z : Int} {sc : Scope} (hs : X.env.scope = sc) (h : sc.names.lookup x = some .globalImplicit) (hm : ∃ t, X.mg x = some (.int z t)) (dbg : (x == ("__debug__" : Str)) = false := by decide) : Gc X x (.int z) := by
  obtain ⟨t, e⟩ := hm
  exact ⟨gl_of hs h, ⟨_, e, t, rfl⟩, dbg⟩
theorem de_gstr {x : Str} {z : Str} (g : Gc X x (.str z)) (k : Φ (.str z) M) : DE B X (.Name x pos) δ M Φ := de_glob g (fun _ _ => .str z) k
theorem de_gint {x : Str} {z : Int} (g : Gc X x (.int z)) (k : Φ (.int z) M) : DE B X (.Name x pos) δ M Φ := de_glob g (fun _ _ => .int z) k
/-! a op1 b op2 c -/
theorem de_chain {op op' : CmpOp} {r r' : R2} (ho : OpR X (compareOp op) r) (ho' : OpR X (compareOp op') r') (h : DE B X a δ M fun x M1 => DE B X b δ M1 fun y M2 => OpD r x y M2 (toB fun t M3 => Br t (DE B X c δ M3 fun w M4 => OpD r' y w M4 Φ) (Φ (.bl false) M3)))
    (hm : lastMarks [op, op'] [b, c] = false := by with_unfolding_all rfl) : DE B X (.Compare a [op, op'] [b, c] pos) δ M Φ := .of (pe_chain ho ho' cE cE cE hm) fun κ σ H Q hb R k =>
  h κ σ H _ hb R fun v x M1 H1 q1 R1 r1 => q1 ((v, x) :: κ) σ H1 _ (fun q hq => List.mem_cons_of_mem _ (hb q hq)) (R1.push r1) fun w y M2 H2 q2 R2 r2 =>
    q2 ((w, y) :: κ) δ σ H2 v w _ (R2.pop.push r2) R2.top r2 fun u du M3 H3 ⟨t, e, q3⟩ R3 r3 => by
      subst e; cases r3
      refine ⟨t, rfl, Br.ite ⟨fun e => ?_, fun e => k _ _ _ _ (q3.2 e) R3.pop (.bl _)⟩⟩
      exact q3.1 e ((w, y) :: κ) σ H3 _ (fun q hq => List.mem_cons_of_mem _ (hb q hq)) R3 fun w2 y2 M4 H4 q4 R4 r4 => q4 κ δ σ H4 w w2 Q R4.pop R4.top r4 k
theorem de_le2 (h : DE B X a δ M fun x M1 => DE B X b δ M1 fun y M2 => OpD rLeU x y M2 (toB fun t M3 => Br t (DE B X c δ M3 fun w M4 => OpD rLeU y w M4 Φ) (Φ (.bl false) M3))) (hm : lastMarks [.LtE, .LtE] [b, c] = false := by with_unfolding_all rfl) : DE B X (.Compare a [.LtE, .LtE] [b, c] pos) δ M Φ := de_chain op_le op_le h hm
/-- a statement whose ways meet -/
theorem ds_cut (Mid : Env' → Mem → Prop) (h1 : DS B X st δ M { Ψ with nx := Mid }) (h2 : ∀ δ M, Mid δ M → DSs B X sts δ M Ψ) : DSs B X (st :: sts) δ M Ψ := ds_cons (h1.mono (fun δ M q => h2 δ M q) (fun _ _ q => q) (fun _ _ q => q) fun _ _ q => q)
/-- 1 <= x <= 9 of ints, the last one written -/
theorem de_le2C {l : Int} {j : Nat} {p1 : Pos} (h : DE B X a δ M fun x M1 => DE B X b δ M1 fun y M2 => ∃ i j, x = .int i ∧ y = .int j ∧ Φ (.bl (decide (i ≤ j) && decide (j ≤ l))) M2) (hm : lastMarks [.LtE, .LtE] [b, .Constant (.int l) j p1] = false := by with_unfolding_all rfl) :
    DE B X (.Compare a [.LtE, .LtE] [b, .Constant (.int l) j p1] pos) δ M Φ := de_le2 (h.mono fun x M1 h1 => h1.mono fun y M2 ⟨i, j, ex, ey, q⟩ => by
  subst ex ey
  refine od_le (toB.mk ⟨fun e => de_int (od_le ?_), fun e => ?_⟩)
  · rw [e] at q; exact q
  · rw [e] at q; exact q) hm
theorem ex_ii {i j : Int} {P : Int → Int → Prop} (h : P i j) : ∃ a b, D.int i = .int a ∧ D.int j = .int b ∧ P a b := ⟨i, j, rfl, rfl, h⟩
theorem ex_i {i : Int} {P : Int → Prop} (h : P i) : ∃ a, D.int i = .int a ∧ P a := ⟨i, rfl, h⟩
theorem ex_l {ds : List D} {P : List D → Prop} (h : P ds) : ∃ a, D.lst ds = .lst a ∧ P a := ⟨ds, rfl, h⟩
theorem ex_t {ds : List D} {P : List D → Prop} (h : P ds) : ∃ a, D.tup ds = .tup a ∧ P a := ⟨ds, rfl, h⟩
theorem ex_s {z : Str} {P : Str → Prop} (h : P z) : ∃ a, D.str z = .str a ∧ P a := ⟨z, rfl, h⟩
theorem ex_x {K : PySem.W.Frag} {ns : List Int} {P : List Int → Prop} (h : P ns) : ∃ a, D.scr K ns = .scr K a ∧ P a := ⟨ns, rfl, h⟩
theorem idK (h : DK B X kws δ M ΦL) : DK B X kws δ M ΦL := h
end
end Hl
namespace Hl
open PySem L2
section
variable {B : Bx} {X : Cx} {e a b c o : Expr} {es rest : List Expr} {st : Stmt} {sts : List Stmt} {δ δ' : Env'} {M : Mem} {Φ : D → Mem → Prop} {Ψ : DEnds} {te ta tb : TE} {tt : TT} {pos pos' apos kpos : Pos} {d x y : D} {ΦB : Bool → Mem → Prop} {ΦL : List D → Mem → Prop}
/-! ### typed lists -/
theorem range_get {lo : Int} {n i : Nat} {x : D} (h : (rangeD lo n)[i]? = some x) : i < n ∧ x = .int (lo + (i : Nat)) := by
  unfold rangeD at h
  have hi : i < n := by have := (List.getElem?_eq_some_iff.mp h).1; simpa using this
  rw [List.getElem?_map, List.getElem?_range hi] at h
  exact ⟨hi, (Option.some.inj h).symm⟩
theorem range_len {lo : Int} {n : Nat} : (rangeD lo n).length = n := by simp [rangeD]
theorem map_get {α : Type} {f : α → D} {l : List α} {i : Nat} {x : D} (h : (l.map f)[i]? = some x) : ∃ y, l[i]? = some y ∧ x = f y := by
  rw [List.getElem?_map] at h
  cases e : l[i]? with
  | none => rw [e] at h; cases h
  | some y => rw [e] at h; exact ⟨y, rfl, (Option.some.inj h).symm⟩
theorem enum_len {ds : List D} : (enumD ds).length = ds.length := by simp [enumD]
theorem at_map {α : Type} {f : α → D} {l : List α} {i : Int} (h0 : 0 ≤ i) (h1 : i < l.length) : ∃ y, l[i.toNat]? = some y ∧ atI (l.map f) i = some (f y) := by
  have hl : i.toNat < l.length := by omega
  refine ⟨l[i.toNat], by simp [hl], ?_⟩
  obtain ⟨j, rfl⟩ : ∃ j : Nat, i = (j : Int) := ⟨i.toNat, by omega⟩
  exact atI_nat (by rw [List.getElem?_map]; simp at hl ⊢; simp [hl])
theorem at_mapN {α : Type} {f : α → D} {l : List α} {j : Nat} {y : α} (h : l[j]? = some y) : atI (l.map f) (j : Int) = some (f y) := atI_nat (by rw [List.getElem?_map, h]; rfl)
theorem ixN_nat' {n j : Nat} (h : j < n) : ixN n (j : Int) = some j := by
  unfold ixN
  rw [if_pos (by omega), if_pos (by omega)]
  simp
/-! ### sorted -/
/-! ### sum, list -/
theorem de_sum {n : Nat} (z : Cz X n) {p : Pos} (g : Gn X "sum") (h : DA B X [a] δ M fun ds M1 => CallD (rSum X.K) ds M1 Φ) (he : starEach [a] X.env = (false, eval a X.env) :: starEach [] X.env := by rfl) (hpl : (backTo pos (starEach [] X.env)).any (·.1) = false := by rfl) : DE B X (.Call (.Name "sum" p) [a] [] pos) δ M Φ := de_blt (cr_sum z.calm) g PyProof.Rows.boot_sum h (by decide) (by decide) he hpl
theorem df_list {p : Pos} {ds : List D} (g : Gn X "list") (h : DE B X a δ M fun x M1 => ∃ ds, IsL M1 x ds ∧ ΦL ds M1) (he : starEach [a] X.env = (false, eval a X.env) :: starEach [] X.env := by rfl) (hpl : (backTo pos (starEach [] X.env)).any (·.1) = false := by rfl) : DF B X (.Call (.Name "list" p) [a] [] pos) δ M ΦL :=
  .of (pe_callTy call_list_of g.gl g.no PyProof.Rows.boot_list (pa_cons cE pa_nil he) (by decide) (by decide) he hpl) fun κ σ H Q hb R k => h κ σ H _ hb R fun v x M1 H1 ⟨ds, il, q⟩ R1 r1 => by
    obtain ⟨a, us, rfl, e1, rr⟩ := il.sq R1 r1
    exact ⟨a, us, rfl, .inl (SqL.of e1), fun l hl => k l ds M1 _ q (R1.lst rr hl)⟩
theorem de_list {p : Pos} (g : Gn X "list") (h : DE B X a δ M fun x M1 => ∃ ds, IsL M1 x ds ∧ Φ (.lst ds) M1) (he : starEach [a] X.env = (false, eval a X.env) :: starEach [] X.env := by rfl) (hpl : (backTo pos (starEach [] X.env)).any (·.1) = false := by rfl) : DE B X (.Call (.Name "list" p) [a] [] pos) δ M Φ := .f (df_list (ds := []) g h he hpl)
/-! isinstance of what is known -/
theorem isi_ii {K : PySem.W.Frag} {i : Int} (k : Φ (.bl true) M) : CallD (rIsi K) [.int i, .raw (.ty "int")] M Φ := cd_isi (S := "int") rfl (by decide +kernel) k
theorem isi_ib {K : PySem.W.Frag} {i : Int} (k : Φ (.bl false) M) : CallD (rIsi K) [.int i, .raw (.ty "bool")] M Φ := cd_isi (S := "int") rfl (by decide +kernel) k
theorem isi_bb {K : PySem.W.Frag} {i : Bool} (k : Φ (.bl true) M) : CallD (rIsi K) [.bl i, .raw (.ty "bool")] M Φ := cd_isi (S := "bool") rfl (by decide +kernel) k
theorem isi_bi {K : PySem.W.Frag} {i : Bool} (k : Φ (.bl true) M) : CallD (rIsi K) [.bl i, .raw (.ty "int")] M Φ := cd_isi (S := "bool") rfl (by decide +kernel) k
theorem isi_ll {K : PySem.W.Frag} {ds : List D} (k : Φ (.bl true) M) : CallD (rIsi K) [.lst ds, .raw (.ty "list")] M Φ := cd_isi (S := "list") rfl (by decide +kernel) k
theorem isi_tt {K : PySem.W.Frag} {ds : List D} (k : Φ (.bl true) M) : CallD (rIsi K) [.tup ds, .raw (.ty "tuple")] M Φ := cd_isi (S := "tuple") rfl (by decide +kernel) k
theorem isi_nb {K : PySem.W.Frag} (k : Φ (.bl false) M) : CallD (rIsi K) [.non, .raw (.ty "bool")] M Φ := cd_isi (S := "NoneType") rfl (by decide +kernel) k
theorem isi_ni {K : PySem.W.Frag} (k : Φ (.bl false) M) : CallD (rIsi K) [.non, .raw (.ty "int")] M Φ := cd_isi (S := "NoneType") rfl (by decide +kernel) k
theorem isi_nt {K : PySem.W.Frag} (k : Φ (.bl false) M) : CallD (rIsi K) [.non, .raw (.ty "tuple")] M Φ := cd_isi (S := "NoneType") rfl (by decide +kernel) k
/-! the same lists of pairs, triples -/
theorem depth_map {α : Type} {f : α → D} {n : Nat} (h : ∀ x, (toPy (f x)).depth ≤ n) : ∀ (l : List α), PyData.depthAll (toPys (l.map f)) ≤ n
  | [] => Nat.zero_le _
  | x :: l => by
    show max (toPy (f x)).depth (PyData.depthAll (toPys (l.map f))) ≤ n
    exact Nat.max_le.mpr ⟨h x, depth_map h l⟩
theorem len_and {xs : List D} {P : Prop} (h : xs.length ≤ sizeLine) (k : P) : xs.length ≤ sizeLine ∧ P := ⟨h, k⟩
/-- a comprehension over typed data without effects -/
theorem LcH.pureT {α β : Type} {scope : Scope} {elt : Expr} {ifs : List Expr} {own : List (Str × Nat)} {tk : Tk} {k : Nat} (l : List α) (f : α → D) (G : α → Option β) (g : β → D) (hl : l.length ≤ sizeLine)
    (h : ∀ (p : Addr) acc a, a ∈ l → ∃ δ2, bindK tk (f a) (wipeD δ (own.map (·.2))) = some δ2 ∧ Turn1 B X scope elt ifs δ2 (insM k (p, .lst acc) M) fun od M2 => od = (G a).map g ∧ M2 = insM k (p, .lst acc) M)
    (q : ΦL ((l.filterMap G).map g) M) : LcH k B X scope elt ifs own tk δ (l.map f) M ΦL := by
  refine ⟨fun i acc M1 => M1 = M ∧ acc = ((l.take i).filterMap G).map g ∧ acc.length ≤ i, ⟨rfl, rfl, Nat.le_refl _⟩, ?_, ?_⟩
  · rintro p i x acc M1 hx ⟨rfl, ha, hal⟩
    obtain ⟨a, ea, rfl⟩ := map_get hx
    have hi : i < l.length := (List.getElem?_eq_some_iff.mp ea).1
    obtain ⟨δ2, e1, tu⟩ := h p acc a (List.mem_of_getElem? ea)
    have fin : ∀ (od : Option D) M2, od = (G a).map g ∧ M2 = insM k (p, .lst acc) M1 → ∃ M3, M2 = insM k (p, .lst acc) M3 ∧ M3 = M1 ∧ acc ++ od.toList = ((l.take (i + 1)).filterMap G).map g ∧ (acc ++ od.toList).length ≤ i + 1 := by
      rintro od M2 ⟨rfl, rfl⟩
      refine ⟨M1, rfl, rfl, ?_, ?_⟩
      · rw [List.take_add_one, ea, List.filterMap_append, List.map_append, ← ha]
        cases e : G a <;> simp [e]
      · rw [List.length_append]
        cases G a <;> simp <;> omega
    refine ⟨by omega, δ2, e1, ?_⟩
    unfold Turn1 at tu ⊢
    match ifs, tu with
    | [], tu => exact fun X' bk => (tu X' bk).mono fun d M2 q => fin _ _ q
    | [c], tu => exact fun X' bk => (tu X' bk).mono fun t M2 q => ⟨fun e X2 bk2 => (q.1 e X2 bk2).mono fun d M3 q => fin _ _ q, fun e => fin _ _ (q.2 e)⟩
    | _ :: _ :: _, tu => exact tu.elim
  · rintro acc M1 ⟨rfl, rfl, _⟩
    rw [List.length_map, List.take_length]
    exact q
theorem LcH.mapT {α β : Type} {scope : Scope} {elt : Expr} {own : List (Str × Nat)} {tk : Tk} {k : Nat} (l : List α) (f : α → D) (G : α → β) (g : β → D) (hl : l.length ≤ sizeLine)
    (h : ∀ (p : Addr) acc a, a ∈ l → ∃ δ2, bindK tk (f a) (wipeD δ (own.map (·.2))) = some δ2 ∧ ∀ X', Bk X X' scope → DE B X' elt δ2 (insM k (p, .lst acc) M) fun d M2 => d = g (G a) ∧ M2 = insM k (p, .lst acc) M)
    (q : ΦL ((l.map G).map g) M) : LcH k B X scope elt [] own tk δ (l.map f) M ΦL := by
  refine LcH.pureT l f (fun a => some (G a)) g hl (fun p acc a ha => ?_) (by rw [List.filterMap_eq_map']; exact q)
  obtain ⟨δ2, e, tu⟩ := h p acc a ha
  exact ⟨δ2, e, fun X' bk => (tu X' bk).mono fun d M2 ⟨e1, e2⟩ => ⟨by rw [e1]; rfl, e2⟩⟩
end
end Hl
namespace Hl
open PySem L2
open PyProof.Rows hiding St
/-! ### enumerate(tuple) -/
section
variable {B : Bx} {X : Cx} {e a b c o : Expr} {es rest : List Expr} {st : Stmt} {sts : List Stmt} {δ δ' : Env'} {M : Mem} {Φ : D → Mem → Prop} {Ψ : DEnds} {te ta tb : TE} {tt : TT} {pos pos' apos : Pos} {d x y : D} {ΦB : Bool → Mem → Prop} {ΦL : List D → Mem → Prop}
/-! ### in, not in, of lists of texts or numbers -/
theorem reps_strs {F : List Addr} {H : Hp} : ∀ {vs : List V} {zs : List Str}, Reps F H vs (zs.map .str) → vs = zs.map .str
  | _, [], r => by cases r; rfl
  | _, z :: zs, r => by
    cases r with
    | cons r1 r2 => cases r1; rw [reps_strs r2]; rfl
theorem inV_strs (z : Str) : ∀ zs : List Str, inV (.str z) (zs.map .str) = decide (z ∈ zs)
  | [] => by simp [inV]
  | w :: zs => by
    have ih := inV_strs z zs
    unfold inV at ih ⊢
    rw [List.map_cons, List.any_cons, ih]
    show ((w == z) || _) = _
    by_cases h : w = z
    · subst h; simp
    · simp [h, Ne.symm h, beq_eq_false_iff_ne.mpr h]
theorem flat_strs : ∀ zs : List Str, (zs.map V.str).all flatV = true
  | [] => rfl
  | _ :: zs => flat_strs zs
theorem od_inZ {K : PySem.W.Frag} {z : Str} {zs : List Str} (h : IsL M y (zs.map .str)) (k : Φ (.bl (decide (z ∈ zs))) M) : OpD (rInU K) (.str z) y M Φ := .inr (OpD.inl (fun κ δ σ H v w Q R rv rw' f => by
  cases rv
  obtain ⟨p, us, rfl, e1, rr⟩ := h.sq R rw'
  have := reps_strs rr
  subst this
  refine ⟨p, _, rfl, .inl (SqL.of e1), rfl, flat_strs zs, ?_⟩
  show Q (.bl (inV _ _)) H
  rw [inV_strs]
  exact f _ _ M H k R (.bl _)))
/-! ### slices -/
def DPt (B : Bx) (X : Cx) : Option Expr → Env' → Mem → (Option Int → Mem → Prop) → Prop
  | none, _, M, Φ => Φ none M
  | some e, δ, M, Φ => DE B X e δ M fun d M' => ∃ i, d = .int i ∧ Φ (some i) M'
def cutD {α : Type} (xs : List α) (lo hi : Option Int) : List α := (xs.drop (HT.sIx xs.length 0 lo)).take (HT.sIx xs.length xs.length hi - HT.sIx xs.length 0 lo)
def SlD (x : D) (lo hi : Option Int) (M : Mem) (Φ : D → Mem → Prop) : Prop := (∃ z : Str, x = .str z ∧ z.length ≤ sizeLine ∧ Φ (.str (cutS z lo hi)) M) ∨ (∃ ds, IsL M x ds ∧ Φ (.lst (cutD ds lo hi)) M)
def rSlU (K : PySem.W.Frag) : V → Option Int → Option Int → Hp → VK → Prop := fun x lo hi H Q => rSlS x lo hi H Q ∨ rSlL K x lo hi H Q
theorem sl_U : SlR X (rSlU X.K) := sl_str.or sl_list
def tPt (X : Cx) : Option Expr → TO
  | none => tNoPart
  | some e => tPart (tE X e)
theorem po_pt : ∀ {e : Option Expr}, PO X e (tPt X e)
  | none => po_none
  | some e => po_some cE
theorem DPt.run {e : Option Expr} {Φ : Option Int → Mem → Prop} (h : DPt B X e δ M Φ) {κ : List (V × D)} {σ : St} {H : Hp} {Q : Option Int → Hp → Prop} (hb : ∀ q ∈ B.ps, q ∈ κ) (R : Rs κ δ M σ H) (k : ∀ o M' H', Φ o M' → Rs κ δ M' σ H' → Q o H') : tPt X e σ H Q := by
  cases e with
  | none => exact k none M H h R
  | some e =>
    refine h κ σ H _ hb R fun v d M' H' ⟨i, ed, q⟩ R' r' => ?_
    subst ed
    cases r'
    exact ⟨i, rfl, k _ _ _ q R'⟩
theorem Reps.cut {F : List Addr} {H : Hp} {vs : List V} {ds : List D} (r : Reps F H vs ds) (i : Nat) : Reps F H (vs.take i) (ds.take i) ∧ Reps F H (vs.drop i) (ds.drop i) := by
  induction i generalizing vs ds with
  | zero => exact ⟨by rw [List.take_zero, List.take_zero]; exact .nil, r⟩
  | succ i ih =>
    cases r with
    | nil => exact ⟨.nil, .nil⟩
    | cons r1 r2 => exact ⟨.cons r1 (ih r2).1, (ih r2).2⟩
theorem de_slice {lo hi : Option Expr} {p2 : Pos} (h : DE B X a δ M fun x M1 => DPt B X lo δ M1 fun l M2 => DPt B X hi δ M2 fun u M3 => SlD x l u M3 Φ) : DE B X (.Subscript a (.Slice lo hi none p2) pos) δ M Φ :=
  .of (pe_slice sl_U cE po_pt po_pt) fun κ σ H Q hb R k => h κ σ H _ hb R fun v x M1 H1 q1 R1 r1 =>
    q1.run (κ := (v, x) :: κ) (fun q hq => List.mem_cons_of_mem _ (hb q hq)) (R1.push r1) fun l M2 H2 q2 R2 =>
    q2.run (κ := (v, x) :: κ) (fun q hq => List.mem_cons_of_mem _ (hb q hq)) R2 fun u M3 H3 q3 R3 => by
      have rx := R3.top
      rcases q3 with ⟨z, rfl, hz, q⟩ | ⟨ds, il, q⟩
      · cases rx
        exact .inl ⟨z, rfl, hz, k _ _ _ _ q R3.pop (.str _)⟩
      · obtain ⟨p, us, rfl, e1, rr⟩ := il.sq R3.pop rx
        refine .inr ⟨p, us, rfl, SqL.of e1, fun p hp => ?_⟩
        have hc : Reps M3.F H3 (cutV us l u) (cutD ds l u) := by
          unfold cutV cutD
          rw [rr.length]
          exact (((Reps.cut rr _).2).cut _).1
        obtain ⟨R', r'⟩ := R3.pop.lstV hc hp
        exact k _ _ _ _ q R' r'
theorem SlD.str {z : Str} {l u : Option Int} (hz : z.length ≤ sizeLine) (k : Φ (.str (cutS z l u)) M) : SlD (.str z) l u M Φ := .inl ⟨z, rfl, hz, k⟩
theorem SlD.lst {ds : List D} {l u : Option Int} (h : IsL M x ds) (k : Φ (.lst (cutD ds l u)) M) : SlD x l u M Φ := .inr ⟨ds, h, k⟩
theorem DPt.no {Φ : Option Int → Mem → Prop} (k : Φ none M) : DPt B X none δ M Φ := k
theorem DPt.so {Φ : Option Int → Mem → Prop} (k : DE B X e δ M fun d M' => ∃ i, d = .int i ∧ Φ (some i) M') : DPt B X (some e) δ M Φ := k
/-! ### tuple(list) -/
theorem de_tuple {p : Pos} (g : Gn X "tuple") (h : DE B X a δ M fun x M1 => ∃ ds, IsL M1 x ds ∧ Φ (.tup ds) M1) (he : starEach [a] X.env = (false, eval a X.env) :: starEach [] X.env := by rfl) : DE B X (.Call (.Name "tuple" p) [a] [] pos) δ M Φ :=
  .of (pe_tupleOf g.gl g.no cE he) fun κ σ H Q hb R k => h κ σ H _ hb R fun v x M1 H1 ⟨ds, il, q⟩ R1 r1 => by
    obtain ⟨a, us, rfl, e1, rr⟩ := il.sq R1 r1
    refine .inl ⟨a, us, rfl, SqL.of e1, fun q' hq => ?_⟩
    obtain ⟨R', r'⟩ := R1.tupV rr hq
    exact k _ _ _ _ q R' r'
end
end Hl
namespace Hl
open PySem L2
open PyProof.Rows hiding St
/-! ### max(xs, default=d), min(xs), all(xs), sorted triples -/
def rMaxDef (K : PySem.W.Frag) : List V → List V → Hp → VK → Prop := fun vs zs H Q => ∃ (a : Addr) (ns : List Int) (d : Int), vs = [V.ref a] ∧ zs = [.int d] ∧ SqL K H a (ns.map V.int) ∧ (ns = [] → Q (.int d) H) ∧ ∀ m, m ∈ ns → (∀ y, y ∈ ns → y ≤ m) → Q (.int m) H
theorem foldmax (n : Int) (ns : List Int) : ns.foldl max n ∈ n :: ns ∧ ∀ y, y ∈ n :: ns → y ≤ ns.foldl max n := by
  induction ns generalizing n with
  | nil => exact ⟨List.mem_cons_self, fun y hy => by have : y = n := by simpa using hy
                                                     subst this; exact Int.le_refl _⟩
  | cons k ns ih =>
    obtain ⟨h1, h2⟩ := ih (max n k)
    rw [List.foldl_cons]
    refine ⟨?_, fun y hy => ?_⟩
    · rcases List.mem_cons.mp h1 with e | e
      · rw [e]
        rcases Int.le_total n k with q | q
        · rw [Int.max_eq_right q]; simp
        · rw [Int.max_eq_left q]; simp
      · exact List.mem_cons_of_mem _ (List.mem_cons_of_mem _ e)
    · have hm := h2 (max n k) List.mem_cons_self
      rcases List.mem_cons.mp hy with e | e
      · subst e; omega
      · rcases List.mem_cons.mp e with e | e
        · subst e; omega
        · exact h2 y (List.mem_cons_of_mem _ e)
theorem cr_maxDef {X : Cx} (hc : X.calm = true) (hu : X.A.units + 64 < cLine) : CallRK X (.builtin "max") [Str.ofString "default"] (rMaxDef X.K) := by
  intro pins s σ H vs zs us ws Q I r rz h
  obtain ⟨a, ns, d, rfl, rfl, hs, q0, q⟩ := h
  obtain ⟨its, rv, hl, _⟩ := I.list hs
  rw [Vals.ref1 r]
  cases rz with
  | cons r1 r2 =>
    cases r2
    obtain ⟨t, rfl⟩ := r1
    have hi := rv.ints
    have hr : ReadsAll s.heap its.toArray.toList (ns.map PyData.int) [] := by simpa using PySem.W.readsAll_of_ints hi
    have hd : PyData.depthAll (ns.map PyData.int) = 0 := by
      have : ∀ ns : List Int, PyData.depthAll (ns.map PyData.int) = 0 := fun ns => by
       induction ns with
       | nil => rfl
       | cons n ns ih => show max 0 _ = 0; rw [ih]; rfl
      exact this ns
    refine PySem.W.max_list_default (xs := ns.map PyData.int) (I.ok.hd hc) hl.isList hr ⟨fun x hx y hy => ?_, fun x hx => ?_⟩ (by rw [hd]; omega) (fun e h' tk hk => ?_) fun y ys i v h' tk bs e hv hrd hk => ?_
    · obtain ⟨n, _, rfl⟩ := List.mem_map.mp hx
      obtain ⟨m, _, rfl⟩ := List.mem_map.mp hy
      rfl
    · obtain ⟨n, _, rfl⟩ := List.mem_map.mp hx
      exact fun e => nomatch e
    · exact ⟨.int d, H, I.kept hk, ⟨_, rfl⟩, q0 (List.map_eq_nil_iff.mp e)⟩
    · cases ns with
      | nil => cases e
      | cons n ns =>
        rw [List.map_cons] at e
        cases e
        rw [PySem.W.maxD_ints] at hrd
        obtain ⟨h1, h2⟩ := foldmax n ns
        cases hrd
        exact ⟨.int _, H, I.kept hk, ⟨_, rfl⟩, q _ h1 h2⟩
section
variable {B : Bx} {X : Cx} {e a b c o : Expr} {es rest : List Expr} {st : Stmt} {sts : List Stmt} {δ δ' : Env'} {M : Mem} {Φ : D → Mem → Prop} {Ψ : DEnds} {te ta tb : TE} {tt : TT} {pos pos' apos kpos : Pos} {d x y : D} {ΦB : Bool → Mem → Prop} {ΦL : List D → Mem → Prop}
theorem de_maxDef {p : Pos} {n : Nat} {kws : List Keyword} (z : Cz X n) (g : Gn X "max") (h : DE B X a δ M fun x M1 => DK B X kws δ M1 fun ds M2 => ∃ ns d, IsL M2 x (ns.map .int) ∧ ds = [.int d] ∧ (ns = [] → Φ (.int d) M2) ∧ ∀ m, m ∈ ns → (∀ y, y ∈ ns → y ≤ m) → Φ (.int m) M2)
    (hu : X.A.units + 64 < cLine) (he : starEach [a] X.env = (false, eval a X.env) :: starEach [] X.env := by rfl) (he2 : backTo pos (starEach [a] X.env) = (false, eval a X.env) :: backTo pos (starEach [] X.env) := by rfl) (hpl : (backTo pos (starEach [a] X.env)).any (·.1) = false := by rfl)
    (hall : (backToKw pos (keywordEach kws X.env)).all (·.1.isSome) = true := by rfl) (hnone : (backToKw pos (keywordEach kws X.env)).any (·.1.isNone) = false := by rfl) (hks : (backToKw pos (keywordEach kws X.env)).filterMap (·.1) = [Str.ofString "default"] := by rfl) : DE B X (.Call (.Name "max" p) [a] kws pos) δ M Φ :=
  .of (pe_callBK (cr_maxDef z.calm hu) g.gl g.no boot_max (pa_cons cE pa_nil he) cK (by decide) (by decide) he2 hpl hall hnone hks) fun κ σ H Q hb R k => h κ σ H _ hb R fun v x M1 H1 q1 R1 r1 =>
    q1 ((v, x) :: κ) σ H1 _ (fun q hq => List.mem_cons_of_mem _ (hb q hq)) (R1.push r1) fun ws ds M2 H2 ⟨ns, d, il, ed, k0, k1⟩ R2 r2 => by
      subst ed
      obtain ⟨a, us, rfl, e1, rr⟩ := il.sq R2.pop R2.top
      have := rr.ints
      subst this
      cases r2 with
      | cons r2 r3 =>
        cases r3
        cases r2
        exact ⟨a, ns, d, rfl, rfl, SqL.of e1, fun e => k _ _ _ _ (k0 e) R2.pop (.int _), fun m h1 h2 => k _ _ _ _ (k1 m h1 h2) R2.pop (.int _)⟩
theorem de_minL {n : Nat} (z : Cz X n) {p : Pos} (g : Gn X "min") (h : DA B X [a] δ M fun ds M1 => CallD (rMin X.K) ds M1 Φ) (he : starEach [a] X.env = (false, eval a X.env) :: starEach [] X.env := by rfl) (hpl : (backTo pos (starEach [] X.env)).any (·.1) = false := by rfl) : DE B X (.Call (.Name "min" p) [a] [] pos) δ M Φ := de_blt (cr_min z.calm) g boot_min h (by decide) (by decide) he hpl
theorem de_maxL {n : Nat} (z : Cz X n) {p : Pos} (g : Gn X "max") (h : DA B X [a] δ M fun ds M1 => CallD (rMax X.K) ds M1 Φ) (he : starEach [a] X.env = (false, eval a X.env) :: starEach [] X.env := by rfl) (hpl : (backTo pos (starEach [] X.env)).any (·.1) = false := by rfl) : DE B X (.Call (.Name "max" p) [a] [] pos) δ M Φ := de_blt (cr_max z.calm) g boot_max h (by decide) (by decide) he hpl
theorem de_all {n : Nat} (z : Cz X n) {p : Pos} (g : Gn X "all") (h : DA B X [a] δ M fun ds M1 => CallD (rAll X.K) ds M1 Φ) (he : starEach [a] X.env = (false, eval a X.env) :: starEach [] X.env := by rfl) (hpl : (backTo pos (starEach [] X.env)).any (·.1) = false := by rfl) : DE B X (.Call (.Name "all" p) [a] [] pos) δ M Φ := de_blt (cr_all z.calm) g boot_all h (by decide) (by decide) he hpl
end
end Hl
namespace Hl
open PySem PySem.Spec L2
open PyProof.Rows hiding St
/-! ### sorted(set(xs)), xs a list of ints -/
def rSetL (K : PySem.W.Frag) (w : World) : List V → Hp → VK → Prop := fun xs H Q => ∃ (l : Addr) (ns : List Int), xs = [V.ref l] ∧ SqL K H l (ns.map V.int) ∧ ns.length ≤ 1000 ∧ ∀ p c, H p = none → c ≤ ns.length → Q (.ref p) (upd H p (SetO w p (fun j => decide (j ∈ ns)) c))
end Hl
namespace Hl
open PySem L2
open PyProof.Rows hiding St
/-! ### exceptions in the air, by data -/
def XRep (F : List Addr) (H : Hp) (dx : Option Addr) (ns : List Str) (ds : List D) : Prop :=
  (dx = none ∧ ns = [] ∧ ds = []) ∨ ∃ d vs, dx = some d ∧ d ∉ F ∧ H d = some (.xd (ns.zip vs)) ∧ ns.length = vs.length ∧ Reps F H vs ds
theorem XRep.fwd {F F' : List Addr} {H H' : Hp} {dx : Option Addr} {ns : List Str} {ds : List D} (h : XRep F H dx ns ds) (k : Fwd F H F' H') : XRep F' H' dx ns ds := by
  rcases h with h | ⟨d, vs, e, hn, hd, hl, r⟩
  · exact .inl h
  · exact .inr ⟨d, vs, e, (k _ _ hn hd).1, (k _ _ hn hd).2, hl, r.fwd k⟩
theorem XRep.held {F : List Addr} {H : Hp} {dx : Option Addr} {ns : List Str} {ds : List D} {a C : Addr} (h : XRep F H dx ns ds) (hn : a ∉ F) (hf : H a = none) : Rep F (upd H a (XO (.ref C) dx a)) (.ref a) (.exn C ns ds) := by
  rcases h with ⟨rfl, rfl, rfl⟩ | ⟨d, vs, rfl, hd, e, hl, r⟩
  · exact .exn0 hn upd_same
  · exact .exn hn upd_same hd (by rw [upd_ne (ne_of_none e hf)]; exact e) hl (r.fwd (Fwd.new hf))
/-- what is wished of an exception, by data -/
def wishX (B : Bx) : WX := fun cls dx σ H => ∃ C ns ds δ M κ, cls = .ref C ∧ B.ex C ns ds δ M ∧ (∀ q ∈ B.ps, q ∈ κ) ∧ Rs κ δ M σ H ∧ XRep M.F H dx ns ds
def Tks (X : Cx) (B : Bx) : Prop := Takes X (wishX B)
abbrev XPost := Addr → List Str → List D → Mem → Prop
abbrev DSpE := List D → Mem → (D → Mem → Prop) → XPost → Prop
def noX : XPost := fun _ _ _ _ => False
def liftE (p : DSpE) : Sp := fun vs H Q E => ∃ κ ds M Φ Ξ, Rs κ [] M [] H ∧ Reps M.F H vs ds ∧ p ds M Φ Ξ ∧ (∀ v d M' H', Φ d M' → Rs κ [] M' [] H' → Rep M'.F H' v d → Q v H') ∧
  ∀ C ns es M' H' dx, Ξ C ns es M' → Rs κ [] M' [] H' → XRep M'.F H' dx ns es → E (.ref C) dx H'
/-! ### arguments: by place, by keyword, defaults -/
def DVal : D → Value → Prop
  | .non, u => u = .none
  | .bl b, u => u = .bool b
  | .int i, u => ∃ t, u = .int i t
  | .str z, u => ∃ t, u = .str z t
  | _, _ => False
def dV : D → V
  | .bl b => .bl b
  | .int i => .int i
  | .str z => .str z
  | _ => .non
theorem dval_rel {d : D} {u : Value} (h : DVal d u) : RelV (dV d) u := by
  cases d <;> first | exact h | exact h.elim
theorem dval_rep {d : D} {u : Value} (h : DVal d u) (F : List Addr) (H : Hp) : Rep F H (dV d) d := by
  cases d <;> first | exact .non | exact .bl _ | exact .int _ | exact .str _ | exact h.elim
abbrev Sel := List (Nat ⊕ D)
def selD (sel : Sel) (ds : List D) : List D := sel.map fun | .inl j => ds.getD j .non | .inr d => d
def selV (sel : Sel) (vs : List V) : List V := sel.map fun | .inl j => vs.getD j .non | .inr d => dV d
inductive SelOk (us : List Value) : Sel → List Value → Prop
  | nil : SelOk us [] []
  | at {j : Nat} {u : Value} {sel : Sel} {all : List Value} : us[j]? = some u → SelOk us sel all → SelOk us (.inl j :: sel) (u :: all)
  | dflt {d : D} {u : Value} {sel : Sel} {all : List Value} : DVal d u → SelOk us sel all → SelOk us (.inr d :: sel) (u :: all)
theorem SelOk.vals {vs : List V} {us : List Value} (r : Vals vs us) : ∀ {sel : Sel} {all : List Value}, SelOk us sel all → Vals (selV sel vs) all
  | _, _, .nil => .nil
  | _, _, .at (j := j) e t => by
    refine .cons ?_ (SelOk.vals r t)
    have hj : j < us.length := (List.getElem?_eq_some_iff.mp e).1
    have hv : j < vs.length := by rw [r.length]; exact hj
    obtain ⟨u', e1, r1⟩ := Vals.get r (i := j) (x := vs[j]) (by simp [hv])
    rw [e] at e1
    cases e1
    have a1 : vs.getD j .non = vs[j] := by simp [List.getD, hv]
    show RelV (vs.getD j .non) _
    rw [a1]; exact r1
  | _, _, .dflt h t => .cons (dval_rel h) (SelOk.vals r t)
theorem SelOk.reps {us : List Value} {vs : List V} {ds : List D} {F : List Addr} {H : Hp} (hl : vs.length = us.length) (r : Reps F H vs ds) : ∀ {sel : Sel} {all : List Value}, SelOk us sel all → Reps F H (selV sel vs) (selD sel ds)
  | _, _, .nil => .nil
  | _, _, .at (j := j) e t => by
    refine .cons ?_ (SelOk.reps hl r t)
    have hj : j < us.length := (List.getElem?_eq_some_iff.mp e).1
    have hv : j < vs.length := by omega
    obtain ⟨d, e1, r1⟩ := r.get (i := j) (v := vs[j]) (by simp [hv])
    have a1 : vs.getD j .non = vs[j] := by simp [List.getD, hv]
    have a2 : ds.getD j .non = d := by simp [List.getD, e1]
    show Rep F H (vs.getD j .non) (ds.getD j .non)
    rw [a1, a2]; exact r1
  | _, _, .dflt h t => .cons (dval_rep h F H) (SelOk.reps hl r t)
/-- how a call with n arguments by place and the keywords ks binds the parameters ps -/
structure CallB (K : PySem.W.Frag) (fd : FuncData) (ps : List Str) (n : Nat) (ks : List Str) (sel : Sel) : Prop where
  to : ∀ (s : Shared) (us ws : List Value), K.In s.heap → us.length = n → ws.length = ks.length → ∃ all, SelOk (us ++ ws) sel all ∧ BindsTo s fd ⟨us, ks.zip ws⟩ (ps.zip all)
/-- a def, its promise, a way to call it -/
structure FnD (P : Program) (w : World) (K : PySem.W.Frag) (mg : Str → Option Value) (base : Heap) (k : Nat) (f : Addr) (n : Nat) (ks : List Str) (sel : Sel) (p : DSpE) : Prop where
  ex : ∃ fd ps, CallB K fd ps n ks sel ∧ FnOk P w K mg base (L2.CX P w) k f fd ps (liftE p)
structure DefE (P : Program) (w : World) (K : PySem.W.Frag) (mg : Str → Option Value) (base : Heap) (k : Nat) (x : Str) (n : Nat) (ks : List Str) (sel : Sel) (p : DSpE) : Prop where
  ex : ∃ f, mg x = some (.ref f) ∧ PySem.W.keepIn K (.ref f) = true ∧ FnD P w K mg base k f n ks sel p
structure MethE (P : Program) (w : World) (K : PySem.W.Frag) (mg : Str → Option Value) (base : Heap) (k : Nat) (C : Addr) (m : Str) (n : Nat) (ks : List Str) (sel : Sel) (p : DSpE) : Prop where
  ex : ∃ f, Cls K C ∧ Meth K C m f ∧ FnD P w K mg base k f (n + 1) ks sel p
structure MakeE (P : Program) (w : World) (K : PySem.W.Frag) (mg : Str → Option Value) (base : Heap) (k : Nat) (x : Str) (C : Addr) (n : Nat) (ks : List Str) (sel : Sel) (p : DSpE) : Prop where
  ex : ∃ f, mg x = some (.ref C) ∧ Mk K C f ∧ FnD P w K mg base k f (n + 1) ks sel p
abbrev DefEX (X : Cx) := DefE X.prog X.w X.K X.mg X.base
abbrev MethEX (X : Cx) := MethE X.prog X.w X.K X.mg X.base
abbrev MakeEX (X : Cx) := MakeE X.prog X.w X.K X.mg X.base
section
variable {X : Cx} {k n : Nat} {f : Addr} {ks : List Str} {sel : Sel} {p : DSpE} {pins : List (Addr × Obj)} {σ : St} {H : Hp} {s : Shared} {Q : VK} {E : XK} {us ws : List Value} {vs zs : List V}
theorem run_E (F : FnD X.prog X.w X.K X.mg X.base k f n ks sel p) (hr : Room k X.A) (hx : PassesAt (L2.CX X.prog X.w) X σ E) (I : Inv X pins σ H s) (r : Vals vs us) (rz : Vals zs ws) (h1 : vs.length = n) (h2 : zs.length = ks.length)
    (h : ∀ us all, Vals (vs ++ zs) us → SelOk us sel all → liftE p (selV sel (vs ++ zs)) H Q E) : wpAny (model X.prog X.w) X.A (call (.ref f) us (ks.zip ws)) (EP X pins σ Q) X.xe s := by
  obtain ⟨fd, ps, cb, F⟩ := F.ex
  obtain ⟨all, so, b⟩ := cb.to s us ws I.kIn (by rw [← r.length]; exact h1) (by rw [← rz.length]; exact h2)
  have r2 := so.vals (r.append rz)
  have hq := h _ all (r.append rz) so
  refine wpAny_call (codeAny_mono (F.run X.A X.stack s H ⟨us, ks.zip ws⟩ all _ Q E hr I.env0 b r2 hq) fun r s' hq => ?_)
  cases r with
  | error e => exact hx pins H s e s' I hq
  | ok fl =>
    cases fl with
    | ret u => exact I.after hq
    | next => exact False.elim hq
    | brk => exact False.elim hq
    | cont => exact False.elim hq
theorem run_makeE {C : Addr} (Mk_ : Mk X.K C f) (F : FnD X.prog X.w X.K X.mg X.base k f (n + 1) ks sel p) (hr : Room (k + 1) X.A) (hx : PassesAt (L2.CX X.prog X.w) X σ E) (I : Inv X pins σ H s) (r : Vals vs us) (rz : Vals zs ws) (h1 : vs.length = n) (h2 : zs.length = ks.length)
    (h : ∀ x dx, H x = none → H dx = none → dx ≠ x → ∀ us all, Vals (.ref x :: vs ++ zs) us → SelOk us sel all → liftE p (selV sel (.ref x :: vs ++ zs)) (upd (upd H dx (.own x)) x (.ins C dx [])) (fun v H2 => v = .non ∧ Q (.ref x) H2) E) :
    wpAny (model X.prog X.w) X.A (call (.ref C) us (ks.zip ws)) (EP X pins σ Q) X.xe s := by
  obtain ⟨fd, ps, cb, F⟩ := F.ex
  have I2 := Inv.made (C := C) I
  obtain ⟨all, so, b⟩ := cb.to _ (.ref (s.heap.objs.size + 1) :: us) ws I2.kIn (by rw [List.length_cons, ← r.length, h1]) (by rw [← rz.length]; exact h2)
  have r1 : Vals (V.ref (s.heap.objs.size + 1) :: vs ++ zs) (Value.ref (s.heap.objs.size + 1) :: us ++ ws) := .cons rfl (r.append rz)
  have r2 := so.vals r1
  have hq := h (s.heap.objs.size + 1) s.heap.objs.size (I.hok.fresh (Nat.le_succ _)) (I.hok.fresh (Nat.le_refl _)) (Nat.ne_of_lt (Nat.lt_succ_self _)) _ all r1 so
  refine wpAny_call (make_map (f := f) I.kIn Mk_.makes Mk_.init (beq_iff_eq.mp Mk_.fn) (codeAny_mono (F.run _ X.stack _ _ ⟨Value.ref (s.heap.objs.size + 1) :: us, ks.zip ws⟩ all _ _ E (hr.make C us (ks.zip ws))
    (I2.env0.make C us (ks.zip ws)) b r2 hq) fun r s' hq' => ?_))
  cases r with
  | error e => exact hx pins _ _ e s' I2 hq'
  | ok fl =>
    cases fl with
    | ret u =>
      obtain ⟨v, H', I3, rv, ev, q3⟩ := I2.after hq'
      subst ev
      exact ⟨rv, ⟨V.ref (s.heap.objs.size + 1), H', I3, rfl, q3⟩⟩
    | next => exact False.elim hq'
    | brk => exact False.elim hq'
    | cont => exact False.elim hq'
end
end Hl
namespace Hl
open PySem L2
open PyProof.Rows hiding St
/-! ### the arguments of a call -/
def DAK (B : Bx) (X : Cx) : List Expr → List Keyword → Env' → Mem → (List D → List D → Mem → Prop) → Prop
  | [], [], _, M, Φ => Φ [] [] M
  | e :: es, [], δ, M, Φ => DA B X (e :: es) δ M fun ds M1 => Φ ds [] M1
  | [], k :: kws, δ, M, Φ => DK B X (k :: kws) δ M fun zs M1 => Φ [] zs M1
  | e :: es, k :: kws, δ, M, Φ => DA B X (e :: es) δ M fun ds M1 => DK B X (k :: kws) δ M1 fun zs M2 => Φ ds zs M2
def PlA (X : Cx) (pos : Pos) : List Expr → List Keyword → List Str → Prop
  | [], [], ks => ks = []
  | e :: es, [], ks => ks = [] ∧ starEach (e :: es) X.env = (false, eval e X.env) :: starEach es X.env ∧ (backTo pos (starEach es X.env)).any (·.1) = false
  | [], k :: kws, ks => (backToKw pos (keywordEach (k :: kws) X.env)).filterMap (·.1) = ks ∧ (backToKw pos (keywordEach (k :: kws) X.env)).all (·.1.isSome) = true ∧ ((backTo pos (starEach [] X.env)).any (·.1) || (backToKw pos (keywordEach (k :: kws) X.env)).any (·.1.isNone)) = false
  | e :: es, k :: kws, ks => (backToKw pos (keywordEach (k :: kws) X.env)).filterMap (·.1) = ks ∧ (backToKw pos (keywordEach (k :: kws) X.env)).all (·.1.isSome) = true ∧ ((backTo pos (starEach (e :: es) X.env)).any (·.1) || (backToKw pos (keywordEach (k :: kws) X.env)).any (·.1.isNone)) = false ∧
      starEach (e :: es) X.env = (false, eval e X.env) :: starEach es X.env
section
variable {B : Bx} {X : Cx} {e a b c o : Expr} {es rest : List Expr} {kw : Keyword} {kws : List Keyword} {st : Stmt} {sts : List Stmt} {δ δ' : Env'} {M : Mem} {Φ : D → Mem → Prop} {Ψ : DEnds} {pos pos' apos pp : Pos} {d x y : D} {ΦA : List D → List D → Mem → Prop}
theorem dak_nn (h : ΦA [] [] M) : DAK B X [] [] δ M ΦA := h
theorem dak_en (h : DA B X (e :: es) δ M fun ds M1 => ΦA ds [] M1) : DAK B X (e :: es) [] δ M ΦA := h
theorem dak_nk (h : DK B X (kw :: kws) δ M fun zs M1 => ΦA [] zs M1) : DAK B X [] (kw :: kws) δ M ΦA := h
theorem dak_ek (h : DA B X (e :: es) δ M fun ds M1 => DK B X (kw :: kws) δ M1 fun zs M2 => ΦA ds zs M2) : DAK B X (e :: es) (kw :: kws) δ M ΦA := h
/-- the held values -/
theorem held {κ : List (V × D)} {vs : List V} {ds : List D} {δ : Env'} {M : Mem} {σ : St} {H : Hp} : Reps M.F H vs ds → Rs κ δ M σ H → ∃ κ', (∀ q ∈ κ, q ∈ κ') ∧ Rs κ' δ M σ H ∧ ∀ {δ' : Env'} {M' : Mem} {σ' : St} {H' : Hp}, Rs κ' δ' M' σ' H' → Reps M'.F H' vs ds := by
  induction vs generalizing ds with
  | nil => intro r R; cases r; exact ⟨κ, fun _ h => h, R, fun _ => .nil⟩
  | cons v vs ih =>
    intro r R
    cases r with
    | cons r1 r2 =>
      obtain ⟨κ', h1, R', h2⟩ := ih r2 R
      rename_i d ds
      exact ⟨(v, d) :: κ', fun q hq => List.mem_cons_of_mem _ (h1 q hq), R'.push r1, fun R => .cons R.top (h2 R.pop)⟩
theorem dak_run {ks : List Str} {f : Value} {first : List Value} {pins : List (Addr × Obj)} {s : Shared} {κ : List (V × D)} {σ : St} {H : Hp} {Rq : Value → Shared → Prop} (hk : PySem.W.keepIn X.K f = true) (pl : PlA X pos es kws ks) (h : DAK B X es kws δ M ΦA) (I : Inv X pins σ H s)
    (hb : ∀ q ∈ B.ps, q ∈ κ) (R : Rs κ δ M σ H)
    (q : ∀ us ws s2 vs zs ds es M2 H2, Inv X pins σ H2 s2 → Vals vs us → Vals zs ws → ΦA ds es M2 → Rs κ δ M2 σ H2 → Reps M2.F H2 vs ds → Reps M2.F H2 zs es → wpAny (model X.prog X.w) X.A (call f (first ++ us) (ks.zip ws)) Rq X.xe s2) :
    wpAny (model X.prog X.w) X.A (callWith pos f first (backTo pos (starEach es X.env)) (backToKw pos (keywordEach kws X.env))) Rq X.xe s := by
  match es, kws, pl, h with
  | [], [], pl, h =>
    have pl : ks = [] := pl
    subst pl
    exact PySem.W.callWith_K0 I.kIn hk (q [] [] s [] [] [] [] M H I .nil .nil h R .nil .nil)
  | e :: es, [], ⟨e1, e2, e3⟩, h =>
    subst e1
    refine PySem.W.callWith_K (h₀ := X.base) I.ok.mod.kin hk (thn ((cA (X := X) (es := e :: es)).run pos pins s σ H (fun vs H1 => ∃ ds M1, ΦA ds [] M1 ∧ Rs κ δ M1 σ H1 ∧ Reps M1.F H1 vs ds) I (h κ σ H _ hb R fun vs ds M1 H1 q1 R1 r1 => ⟨ds, M1, q1, R1, r1⟩)) fun us s1 ⟨vs, H1, I1, r, ds, M1, q1, R1, r1⟩ => ⟨I1.kIn, ?_⟩) e2 e3
    exact q us [] s1 vs [] ds [] M1 H1 I1 r .nil q1 R1 r1 .nil
  | [], k :: kws, ⟨e1, e2, e3⟩, h =>
    refine PySem.W.callWith_KW0 (h₀ := X.base) I.ok.mod.kin hk e2 (thn ((cK (X := X) (kws := k :: kws)).run pos pins s σ H (fun vs H1 => ∃ ds M1, ΦA [] ds M1 ∧ Rs κ δ M1 σ H1 ∧ Reps M1.F H1 vs ds) I (h κ σ H _ hb R fun vs ds M1 H1 q1 R1 r1 => ⟨ds, M1, q1, R1, r1⟩)) fun ws s1 ⟨zs, H1, I1, r, ds, M1, q1, R1, r1⟩ => ⟨I1.kIn, ?_⟩) e3
    rw [e1]
    exact q [] ws s1 [] zs [] ds M1 H1 I1 .nil r q1 R1 .nil r1
  | e :: es, k :: kws, ⟨e1, e2, e3, e4⟩, h =>
    refine PySem.W.callWith_KW (h₀ := X.base) I.ok.mod.kin hk e2 (thn ((cA (X := X) (es := e :: es)).run pos pins s σ H (fun vs H1 => ∃ ds M1, (DK B X (k :: kws) δ M1 fun zs M2 => ΦA ds zs M2) ∧ Rs κ δ M1 σ H1 ∧ Reps M1.F H1 vs ds) I (h κ σ H _ hb R fun vs ds M1 H1 q1 R1 r1 => ⟨ds, M1, q1, R1, r1⟩)) fun us s1 ⟨vs, H1, I1, r, ds, M1, q1, R1, r1⟩ => ?_) e3 e4
    obtain ⟨κ', k1, R2, k2⟩ := held r1 R1
    refine thn ((cK (X := X) (kws := k :: kws)).run pos pins s1 σ H1 (fun zs H2 => ∃ es M2, ΦA ds es M2 ∧ Rs κ' δ M2 σ H2 ∧ Reps M2.F H2 zs es) I1 (q1 κ' σ H1 _ (fun q hq => k1 q (hb q hq)) R2 fun zs es M2 H2 q2 R3 r3 => ⟨es, M2, q2, R3, r3⟩)) fun ws s2 ⟨zs, H2, I2, rz, es, M2, q2, R3, r3⟩ => ⟨I2.kIn, ?_⟩
    rw [e1]
    exact q us ws s2 vs zs ds es M2 H2 I2 r rz q2 (R3.sub k1) (k2 R3) r3
/-! ### calls of defs that may raise -/
theorem liftE_of {p : DSpE} {sel : Sel} {κ : List (V × D)} {σ : St} {H : Hp} {Q : VK} {vs : List V} {ds us} {all} {Ξ : XPost} {E : XK} (so : SelOk us sel all) (hl : vs.length = us.length) (R : Rs κ δ M σ H) (r : Reps M.F H vs ds) (q : p (selD sel ds) M Φ Ξ)
    (k : ∀ v d M' H', Φ d M' → Rs κ δ M' σ H' → Rep M'.F H' v d → Q v H') (kx : ∀ C ns es M' H' dx, Ξ C ns es M' → Rs κ δ M' σ H' → XRep M'.F H' dx ns es → E (.ref C) dx H') : liftE p (selV sel vs) H Q E :=
  ⟨κ ++ sk σ δ, _, M, Φ, Ξ, R.pack, so.reps hl r, q, fun v d M' H' q' R' r' => k v d M' H' q' (R.unpack R') r', fun C ns es M' H' dx q' R' x => kx C ns es M' H' dx q' (R.unpack R') x⟩
/-- what the def may raise here is wished for -/
def atX (B : Bx) (δ : Env') : XPost := fun C ns ds M => B.ex C ns ds δ M
structure Lets (X : Cx) (B : Bx) (δ : Env') (Ξ : XPost) : Prop where
  ex : ∃ W, Takes X W ∧ ∀ κ σ C ns es M' H' dx, (∀ q ∈ B.ps, q ∈ κ) → Ξ C ns es M' → Rs κ δ M' σ H' → XRep M'.F H' dx ns es → W (.ref C) dx σ H'
theorem lets_at (tk : Tks X B) : Lets X B δ (atX B δ) := ⟨wishX B, tk, fun κ σ C ns es M' H' dx hb e R x => ⟨C, ns, es, δ, M', κ, rfl, e, hb, R, x⟩⟩
theorem lets_no : Lets X B δ noX := ⟨fun _ _ _ _ => False, takes0, fun _ _ _ _ _ _ _ _ _ e _ _ => e⟩
variable {k n m : Nat} {x : Str} {ks : List Str} {sel : Sel} {p : DSpE} {Ξ : XPost} {C : Addr}
theorem de_fE (z : Cz X m) (f : DefEX X k x n ks sel p) (hk : k ≤ m) (hg : Gl X x) (lt : Lets X B δ Ξ)
    (h : DAK B X es kws δ M fun ds zs M' => ds.length = n ∧ zs.length = ks.length ∧ p (selD sel (ds ++ zs)) M' Φ Ξ) (pl : PlA X pos es kws ks) (hdb : (x == ("__debug__" : Str)) = false := by decide) : DE B X (.Call (.Name x pp) es kws pos) δ M Φ := by
  obtain ⟨fa, h1, h2, h3⟩ := f.ex
  obtain ⟨W, tk, hx⟩ := lt
  intro κ σ H Q hb R kk
  unfold tE
  intro pins s I
  refine wpAny_Call_Name_kw (ld_glob I hg h1 ?_ hdb)
  refine dak_run (first := []) h2 pl h I hb R fun us ws s2 vs zs ds es M2 H2 I2 rv rz ⟨l1, l2, q⟩ R2 r1 r2 => ?_
  refine run_E h3 (z.room.mono hk) (passAt tk σ) I2 rv rz (by rw [r1.length]; exact l1) (by rw [r2.length]; exact l2) fun us' all rr so => ?_
  exact liftE_of so rr.length R2 (r1.append r2) q kk fun C ns es M' H' dx e R' x => hx κ σ C ns es M' H' dx hb e R' x
/-- an instance, by data or as a cell -/
inductive IsO (M : Mem) : D → Addr → List Str → List D → Prop
  | val (C : Addr) (ns : List Str) (ds : List D) : IsO M (.obj C ns ds) C ns ds
  | cell {p C : Addr} {ns : List Str} {ds : List D} (j : Nat) (h : M[j]? = some (p, .obj C ns ds)) : IsO M (.raw (.ref p)) C ns ds
  | inm {p C : Addr} {ns : List Str} {ds : List D} (h : InM M p (.obj C ns ds)) : IsO M (.raw (.ref p)) C ns ds
theorem IsO.sq {κ : List (V × D)} {σ : St} {H : Hp} {v : V} {x : D} {C : Addr} {ns : List Str} {ds : List D} (h : IsO M x C ns ds) (R : Rs κ δ M σ H) (r : Rep M.F H v x) : ∃ p dx vs, v = .ref p ∧ H p = some (.ins C dx (ns.zip vs)) ∧ ns.length = vs.length ∧ Reps M.F H vs ds := by
  cases h with
  | val C ns ds => cases r with | obj h1 e1 l1 r1 => exact ⟨_, _, _, rfl, e1, l1, r1⟩
  | cell j h =>
    cases r
    obtain ⟨dx, vs, e1, l1, r1⟩ := R.at h
    exact ⟨_, dx, vs, rfl, e1, l1, r1⟩
  | inm h =>
    cases r
    obtain ⟨dx, vs, e1, l1, r1⟩ := h.ok R
    exact ⟨_, dx, vs, rfl, e1, l1, r1⟩
theorem lookup_zip {β : Type} {f : Str} : ∀ {ns : List Str} {vs : List β}, ns.contains f = false → (ns.zip vs).lookup f = none
  | [], _, _ => by simp
  | _ :: _, [], _ => by simp
  | n :: ns, v :: vs, h => by
    rw [List.contains_cons, Bool.or_eq_false_iff] at h
    rw [List.zip_cons_cons, List.lookup_cons, h.1]
    exact lookup_zip h.2
/-- C(..): a new object as a cell at place j, then __init__ -/
theorem de_kE {x : Str} (j : Nat) (z : Cz X m) (f : MakeEX X k x C n ks sel p) (hk : k + 1 ≤ m) (hg : Gl X x) (lt : Lets X B δ Ξ)
    (h : DAK B X es kws δ M fun ds zs M' => ds.length = n ∧ zs.length = ks.length ∧ ∀ a, p (selD sel (.raw (.ref a) :: ds ++ zs)) (insM j (a, .obj C [] []) M') (fun d M2 => d = .non ∧ Φ (.raw (.ref a)) M2) Ξ) (pl : PlA X pos es kws ks) (hdb : (x == ("__debug__" : Str)) = false := by decide) : DE B X (.Call (.Name x pp) es kws pos) δ M Φ := by
  obtain ⟨fa, h1, mk, h3⟩ := f.ex
  obtain ⟨W, tk, hx⟩ := lt
  intro κ σ H Q hb R kk
  unfold tE
  intro pins s I
  refine wpAny_Call_Name_kw (ld_glob I hg h1 ?_ hdb)
  refine dak_run (first := []) mk.kp pl h I hb R fun us ws s2 vs zs ds es M2 H2 I2 rv rz ⟨l1, l2, q⟩ R2 r1 r2 => ?_
  refine run_makeE mk h3 (z.room.mono hk) (passAt tk σ) I2 rv rz (by rw [r1.length]; exact l1) (by rw [r2.length]; exact l2) fun a dx ha hdx hne us' all rr so => ?_
  have R3 : Rs κ δ M2 σ (upd H2 dx (.own a)) := R2.new hdx
  have R4 : Rs κ δ (insM j (a, .obj C [] []) M2) σ (upd (upd H2 dx (.own a)) a (.ins C dx [])) := (R3.add (p := a) (o := .ins C dx []) (c := .obj C [] []) (by rw [upd_ne (Ne.symm hne)]; exact ha) rfl ⟨dx, [], upd_same, rfl, .nil⟩).perm insM_perm
  have fw : Fwd M2.F H2 (Mem.F (insM j (a, .obj C [] []) M2)) (upd (upd H2 dx (.own a)) a (.ins C dx [])) := by
    intro b o hb e
    have n1 : b ≠ dx := fun z => by rw [z, hdx] at e; cases e
    have n2 : b ≠ a := fun z => by rw [z, ha] at e; cases e
    refine ⟨fun z => ?_, by rw [upd_ne n2, upd_ne n1]; exact e⟩
    have z2 : b ∈ Mem.F ((a, Cell.obj C [] []) :: M2) := (F_perm insM_perm).mem_iff.mpr z
    rcases List.mem_append.mp (show b ∈ own a (Cell.obj C [] []) ++ Mem.F M2 from z2) with y | y
    · exact n2 (by simpa [own] using y)
    · exact hb y
  have r5 : Reps (Mem.F (insM j (a, .obj C [] []) M2)) (upd (upd H2 dx (.own a)) a (.ins C dx [])) (.ref a :: vs ++ zs) (.raw (.ref a) :: ds ++ es) := (Reps.cons (.raw _) (r1.fwd fw)).append (r2.fwd fw)
  refine liftE_of so rr.length R4 r5 (q a) (fun v d M' H' ⟨e, q'⟩ R' r' => ?_) fun C ns es M' H' dx e R' x => hx κ σ C ns es M' H' dx hb e R' x
  subst e
  cases r'
  exact ⟨rfl, kk _ _ _ _ q' R' (.raw _)⟩
end
/-! ### a def that may raise, from its body -/
structure InDefE (P : Program) (w : World) (K : PySem.W.Frag) (mg : Str → Option Value) (base : Heap) (N : List Str) (sc : Scope) (k : Nat) (X : Cx) (B : Bx) : Prop where
  prog : X.prog = P
  wd : X.w = w
  K : X.K = K
  mg : X.mg = mg
  base : X.base = base
  N : X.N = N
  sc : X.env.scope = sc
  fn : X.fn = fun _ => true
  z : Cz X k
  hp : PassesOwn (model X.prog X.w) X.A X.env X.xe
  tk : Tks X B
  st : X.stack = X.env :: X.outer
  fr : X.env.frame = some X.env.locals
/-- an exception's state may be looked at otherwise -/
def VwX (ns : List Str) (ds : List D) (M : Mem) (ds2 : List D) (M2 : Mem) : Prop := ∀ κ δ σ H dx, Rs κ δ M σ H → XRep M.F H dx ns ds → Rs κ δ M2 σ H ∧ XRep M2.F H dx ns ds2
theorem VwX.refl {ns : List Str} {ds : List D} {M : Mem} : VwX ns ds M ds M := fun _ _ _ _ _ R x => ⟨R, x⟩
theorem VwX.sub {ns : List Str} {ds : List D} {M M2 : Mem} (h : M2.Sublist M) : VwX ns ds M ds M2 := fun _ _ _ _ _ R x => ⟨R.less h, x.fwd (Fwd.less fun x hx => (F_sub h).subset hx)⟩
end Hl
namespace Hl
open PySem L2
open PyProof.Rows hiding St
/-! ### try, the caught exception held -/
section
variable {X : Cx} {pins : List (Addr × Obj)} {σ : St} {H : Hp} {sI s' : Shared} {B : Heap} {a : Addr} {o : HO}
theorem xo_ok {P : Program} {w : World} {H : Hp} {h : Heap} {a : Addr} {cls : Value} {d : Option Addr} {oe : Obj} {vs : Array Value} (e : h.get? a = some oe) (z : Zc cls d oe) (hd : oe.data = .fields vs) : ObjOk P w H h a (XO cls d a) :=
  ⟨⟨oe, vs, e, z, hd⟩, ⟨oe, e⟩, fun _ _ ⟨o, v, q, r⟩ k => ⟨o, v, k o q, r⟩⟩
theorem Inv.landedX (I : Inv X pins σ H sI) (nb : ∀ b o, sI.heap.get? b = some o → b ∉ frs X.stack → B.get? b = some o) (st : B.StaysIn s'.heap) (up : sI.heap.UpToSlots s'.heap) (os : s'.os = sI.os) (ag : AllBare s'.gens)
    (na : H a = none) (n0 : sI.heap.get? a = none) (ok : ObjOk X.prog X.w (upd H a o) s'.heap a o) : Inv X pins σ (upd H a o) s' := by
  have nf : ∀ b ∈ frs X.stack, ∀ o, sI.heap.get? b = some o → ∃ sl, s'.heap.get? b = some { o with slots := sl } := fun b hb o e => by
    obtain ⟨_, o', e', hd⟩ := I.stack.mem hb
    rw [e] at e'; cases e'
    exact up b o e hd
  have J := I.call (ch := []) (h' := s'.heap) (g' := s'.gens) (t' := s'.toks) (d' := s'.drawn) (H' := upd H a o)
    ⟨fun b o e _ hb _ => st b o (nb b o e hb), fun b o e _ hb _ => nf b hb o e, fun b o e n _ => by rw [upd_ne (fun z => by rw [z, n0] at e; cases e)]; exact n, fun b o e _ => by
      by_cases hb : b ∈ frs X.stack
      · obtain ⟨sl, q⟩ := nf b hb o e
        exact ⟨_, q⟩
      · exact ⟨o, st b o (nb b o e hb)⟩, fun b xs e => by rw [upd_ne (ne_of_none e na)]; exact e, fun b o u e => by rw [upd_ne (ne_of_none e na)]; exact e, fun b ps e => ⟨#[], by rw [upd_ne (ne_of_none e na), e]; simp⟩⟩
    (HOk.laidN ((I.inGround nb).kept st) (fun _ _ q => q) na ok) ag (fun _ z => nomatch z)
  obtain ⟨a1, a2, a3, a4, a5⟩ := s'
  have e5 : a5 = sI.os := os
  subst e5
  exact J
theorem Inv.suiteX (I : Inv X pins σ H s') {a : Addr} : Inv (X.suite a (X.pn ++ pins)) [] σ H s' :=
  ⟨I.ok.suite _ _, I.os, I.bare, I.base, I.loc, I.cell, I.free, I.freeC, fun p hp => by rw [List.append_nil] at hp; exact I.pin p hp, I.hok, I.len⟩
theorem Inv.unsuiteX {a : Addr} {pn' : List (Addr × Obj)} (I : Inv (X.suite a (X.pn ++ pins)) pn' σ H s') (ok : X.Ok) : Inv X pins σ H s' :=
  ⟨ok, I.os, I.bare, I.base, I.loc, I.cell, I.free, I.freeC, fun p hp => I.pin p (List.mem_append_left _ hp), I.hok, I.len⟩
end
/-- a handler: its class, its name's slot, its suite's reading -/
abbrev Hd1 := Value × Option Nat × TS
def endsAs (i : Nat) (D : Ends) : Ends := { nx := fun σ' H' => D.nx (σ'.set i none) H', rt := D.rt, bk := fun σ' H' => D.bk (σ'.set i none) H', ct := fun σ' H' => D.ct (σ'.set i none) H' }
def wHds (K : PySem.W.Frag) (Wout : WX) (D : Ends) : List Hd1 → WX
  | [] => Wout
  | (c, none, ts) :: r => fun cls d σ H => ∃ b, PySem.W.exmOne K cls c = some b ∧ (b = true → ∀ a, H a = none → ts D σ (upd H a (XO cls d a))) ∧ (b = false → wHds K Wout D r cls d σ H)
  | (c, some i, ts) :: r => fun cls d σ H => ∃ b, PySem.W.exmOne K cls c = some b ∧ (b = true → ∀ a, H a = none → ts (endsAs i D) (σ.set i (some (.ref a))) (upd H a (XO cls d a))) ∧ (b = false → wHds K Wout D r cls d σ H)
inductive HdsX (X : Cx) : List ExceptHandler → List Hd1 → Prop
  | nil : HdsX X [] []
  | cons {x : Str} {c : Value} {ts : TS} {b₀ : Stmt} {suite : List Stmt} {np pos' : Pos} {hds : List ExceptHandler} {l : List Hd1} (hc : Names X x c)
      (hsu : ∀ (a : Addr) (pn : List (Addr × Obj)), PSs (X.suite a pn) (b₀ :: suite) ts) (r : HdsX X hds l) : HdsX X (.ExceptHandler (some (.Name x np)) none (b₀ :: suite) pos' :: hds) ((c, none, ts) :: l)
  | consAs {x n : Str} {i : Nat} {c : Value} {ts : TS} {b₀ : Stmt} {suite : List Stmt} {np pos' : Pos} {hds : List ExceptHandler} {l : List Hd1} (hc : Names X x c) (hi : X.N[i]? = some n) (hln : X.env.kindOf n = some .local)
      (hsu : ∀ (a : Addr) (pn : List (Addr × Obj)), PSs (X.suite a pn) (b₀ :: suite) ts) (r : HdsX X hds l) : HdsX X (.ExceptHandler (some (.Name x np)) (some n) (b₀ :: suite) pos' :: hds) ((c, some i, ts) :: l)
theorem ps_tryX {X : Cx} {body : List Stmt} {h₀ : ExceptHandler} {hds : List ExceptHandler} {l : List Hd1} {pos : Pos} {tb : WX → TS} {Wout : WX} (hs : X.stack = X.env :: X.outer) (hf : X.env.frame = some X.env.locals) (hN : X.N.Nodup) (tk : Takes X Wout)
    (hb : ∀ (W : WX) (pn : List (Addr × Obj)) (xe : Value → Shared → Prop), Takes (X.tr pn xe) W → PassesOwn (model X.prog X.w) X.A X.env xe → PSs (X.tr pn xe) body (tb W))
    (hh : HdsX X (h₀ :: hds) l) : PS X (.Try body (h₀ :: hds) [] [] pos) (fun D σ H => tb (wHds X.K Wout D l) D σ H) := by
  refine ⟨fun pins s σ H D I h => ?_⟩
  have ok := I.ok
  have hfr : X.A.frames = some (X.env :: X.outer) := by rw [ok.frames, hs]
  refine wpAny_Try_except ?_
  refine wpAny_mono ((hb (wHds X.K Wout D l) (X.pn ++ pins) (fun e s₁ => wpAny (model X.prog X.w) X.A (noteFrame e X.env) (fun _ s₂ => wpAny (model X.prog X.w) X.A (setFlight e none) (fun _ s₃ =>
    wpAny (model X.prog X.w) X.A (handleBy e X.env (h₀ :: hds)) (SP X pins D) X.xe s₃) X.xe s₂) X.xe s₁) (fun u s' xx => ?_) PassesOwn.looking).run [] s σ H D (I.toTry _) h) (fun f s1 hsp => ?_) (fun e s1 he => he)
  · obtain ⟨a, B, sI, pins', σ', H', cls, d, rfl, J', nb, up, sky, na, os, ag, w⟩ := xx
    have J : Inv X pins σ' H' sI := J'.ofTry ok
    have sky' : Sky B (X.env :: X.outer) a (Zc cls d) X.env.locals s'.heap := by rw [← hs]; exact sky
    show wpAny (model X.prog X.w) X.A (noteFrame (.ref a) X.env) _ _ _
    refine Sky.land Zc.steady hfr hf sky' fun h3 fl3 up3 => ?_
    have J3 : Inv X pins σ' H' { s' with heap := h3 } := J.landed nb fl3.1 (up.trans up3) os ag
    obtain ⟨oe3, vs3, he3, hz3, hd3⟩ := fl3.there
    have notFr : ∀ {h : Heap} {o : Obj} {vs : Array Value}, h.FunFrames B (X.env :: X.outer) → h.get? a = some o → o.data = .fields vs → a ∉ frs (X.env :: X.outer) := fun {h o vs} ff e dd hm => by
      obtain ⟨_, o', e', hnf⟩ := ff.mem hm
      rw [e] at e'; cases e'
      exact hnf _ dd
    have nfr := notFr fl3.2.2.1 he3 hd3
    have nL : a ≠ X.env.locals := fun z => nfr (List.mem_filterMap.mpr ⟨X.env, List.mem_cons_self, by rw [hf, z]⟩)
    have nF : a ∉ X.fs := fun hm => by
      obtain ⟨e, he, q⟩ := List.mem_filterMap.mp hm
      exact nfr (List.mem_filterMap.mpr ⟨e, List.mem_cons_of_mem _ he, q⟩)
    have n0 : sI.heap.get? a = none := by
      cases e : sI.heap.get? a with
      | none => rfl
      | some ob =>
        have z := nb a ob e (by rw [hs]; exact nfr)
        rw [fl3.2.1] at z
        cases z
    have S3 := J3.suite he3 hd3 na nL nF
    have LT : PySem.W.Looks (model X.prog X.w) h3 (typeOf (.ref a)) cls := fun A Q E s k q => wpAny_typeOf_ref (k _ _ he3) (by rw [hz3.1]; exact q)
    have go : ∀ {hds' : List ExceptHandler} {l' : List Hd1}, HdsX X hds' l' → wHds X.K Wout D l' cls d σ' H' →
        wpAny (model X.prog X.w) X.A (handleBy (.ref a) X.env hds') (SP X pins D) X.xe { s' with heap := h3 } := by
      intro hds' l' hk
      have test : ∀ {x : Str} {c : Value} {np : Pos} {Q : Value → Shared → Prop} {E : Value → Shared → Prop}, Names X x c → Q c { s' with heap := h3 } → wpAny (model X.prog X.w) (X.A.mark (some (.ref a))) (eval (.Name x np) X.env) Q E { s' with heap := h3 } := fun {x c np Q E} hc q => by
        obtain ⟨hg, hdbg, hm | ⟨hm, hv, hnn⟩⟩ := hc
        · exact ld_glob (X := X.suite a ((a, oe3) :: (X.pn ++ pins))) S3 hg hm q hdbg
        · exact ld_blt (X := X.suite a ((a, oe3) :: (X.pn ++ pins))) S3 hg hm hv q hnn hdbg
      induction hk with
      | nil =>
        intro w
        refine wpAny_handleBy_nil ?_
        obtain ⟨k1, k2, k3, oe, vs, T, oT, ts', he, hz, hd, h1, hr⟩ := id fl3
        unfold PySem.passOn
        refine wpAny_bind (wpAny_field he hd h1 ?_)
        rw [if_neg (show ¬ ((Value.ref T == Value.none) = true) from by simp)]
        have fin : wpAny (model X.prog X.w) X.A (setFlight (.ref a) X.env.frame) (fun _ s4 => wpAny (model X.prog X.w) X.A (throw (.ref a) : Sem Flow) (SP X pins D) X.xe s4) X.xe { s' with heap := h3 } := by
          rw [hf]
          refine HandSPX.setFlight_upZ fl3 fun h4 hh4 up4 => wpAny_throw (tk _ _ ?_)
          exact ⟨a, B, sI, pins, σ', H', cls, d, rfl, J, nb, (up.trans up3).trans up4, .inr (.inr (by rw [hs]; exact hh4)), na, os, ag, w⟩
        first
          | exact wpAny_bind (wpAny_pure (wpAny_bind fin))
          | exact wpAny_bind fin
      | @cons x c ts b₀ suite np pos' hds2 l2 hc hsu r ih =>
        intro w
        obtain ⟨b, hb1, hyes, hno⟩ := w
        refine wpAny_handleBy_cons (codeAny_handlers_test ?_) (by intro q; cases q)
        have LM := PySem.W.exm_one (M := model X.prog X.w) (J3.kIn) LT hb1
        refine test hc (LM.here ?_)
        cases b with
        | true =>
          refine codeAny_handlers_suite ?_
          refine HandSPX.lands_againZ fl3 fun h4 fl4 up4 => ?_
          obtain ⟨oe4, vs4, he4, hz4, hd4⟩ := fl4.there
          have J4 : Inv X pins σ' (upd H' a (XO cls d a)) { s' with heap := h4 } := Inv.landedX J nb fl4.1 ((up.trans up3).trans up4) os ag na n0 (xo_ok he4 hz4 hd4)
          have S4 := Inv.suiteX J4 (a := a)
          refine wpAny_mono ((hsu a (X.pn ++ pins)).run [] _ _ _ _ S4 (hyes rfl a na)) (fun f s6 hsp => ?_) (fun _ _ z => False.elim z)
          cases f with
          | next =>
            obtain ⟨σ6, H6, S6, q6⟩ := hsp
            exact ⟨_, _, Inv.unsuiteX S6 ok, q6⟩
          | brk =>
            obtain ⟨σ6, H6, S6, q6⟩ := hsp
            exact ⟨_, _, Inv.unsuiteX S6 ok, q6⟩
          | cont =>
            obtain ⟨σ6, H6, S6, q6⟩ := hsp
            exact ⟨_, _, Inv.unsuiteX S6 ok, q6⟩
          | ret u =>
            obtain ⟨v6, σ6, H6, S6, r6, q6⟩ := hsp
            exact ⟨_, _, _, Inv.unsuiteX S6 ok, r6, q6⟩
        | false =>
          show wpAny _ X.A (handleBy (.ref a) X.env hds2) _ _ _
          exact ih (hno rfl)
      | @consAs x n i c ts b₀ suite np pos' hds2 l2 hc hi hln hsu r ih =>
        intro w
        obtain ⟨b, hb1, hyes, hno⟩ := w
        refine wpAny_handleBy_cons (codeAny_handlers_test ?_) (by intro q; cases q)
        have LM := PySem.W.exm_one (M := model X.prog X.w) (J3.kIn) LT hb1
        refine test hc (LM.here ?_)
        cases b with
        | true =>
          refine codeAny_handlers_suite_as ?_
          refine HandSPX.lands_againZ fl3 fun h4 fl4 up4 => ?_
          obtain ⟨oe4, vs4, he4, hz4, hd4⟩ := fl4.there
          have J4 : Inv X pins σ' (upd H' a (XO cls d a)) { s' with heap := h4 } := Inv.landedX J nb fl4.1 ((up.trans up3).trans up4) os ag na n0 (xo_ok he4 hz4 hd4)
          have S4 := Inv.suiteX J4 (a := a)
          refine store_ok (X := X.suite a (X.pn ++ pins)) (v := .ref a) S4 hN hi (.inl hln) rfl (fun s5 S5 => ?_) (.inr hln)
          refine wpAny_mono ((hsu a (X.pn ++ pins)).run [] s5 _ _ _ S5 (hyes rfl a na)) (fun f s6 hsp => ?_) (fun _ _ z => False.elim z)
          have end_ : ∀ {σ6 : St} {H6 : Hp} {Q : Shared → Prop}, Inv (X.suite a (X.pn ++ pins)) [] σ6 H6 s6 → (∀ s7, Inv X pins (σ6.set i none) H6 s7 → Q s7) →
              wpAny (model X.prog X.w) X.A (do bindName X.env n .none; unbindBehindTheSuite X.env n pos') (fun _ s7 => Q s7) X.xe s6 := fun {σ6 H6 Q} S6 hq => gone_ok (Inv.unsuiteX S6 ok) hN hi hln hq
          cases f with
          | next =>
            obtain ⟨σ6, H6, S6, q6⟩ := hsp
            exact end_ S6 fun s7 J7 => ⟨_, _, J7, q6⟩
          | brk =>
            obtain ⟨σ6, H6, S6, q6⟩ := hsp
            exact end_ S6 fun s7 J7 => ⟨_, _, J7, q6⟩
          | cont =>
            obtain ⟨σ6, H6, S6, q6⟩ := hsp
            exact end_ S6 fun s7 J7 => ⟨_, _, J7, q6⟩
          | ret u =>
            obtain ⟨v6, σ6, H6, S6, r6, q6⟩ := hsp
            exact end_ S6 fun s7 J7 => ⟨_, _, _, J7, r6, q6⟩
        | false =>
          show wpAny _ X.A (handleBy (.ref a) X.env hds2) _ _ _
          exact ih (hno rfl)
    exact go hh w
  · cases f with
    | next =>
      obtain ⟨σ', H', J', q⟩ := hsp
      exact wpAny_execs_nil ⟨σ', H', J'.ofTry ok, q⟩
    | brk =>
      obtain ⟨σ', H', J', q⟩ := hsp
      exact ⟨σ', H', J'.ofTry ok, q⟩
    | cont =>
      obtain ⟨σ', H', J', q⟩ := hsp
      exact ⟨σ', H', J'.ofTry ok, q⟩
    | ret u =>
      obtain ⟨v, σ', H', J', r, q⟩ := hsp
      exact ⟨v, σ', H', J'.ofTry ok, r, q⟩
end Hl
namespace Hl
open PySem L2
open PyProof.Rows hiding St
section
variable {B : Bx} {X : Cx} {e a b c o : Expr} {es rest : List Expr} {kw : Keyword} {kws : List Keyword} {st : Stmt} {sts body suite : List Stmt} {δ δ' : Env'} {M : Mem} {Φ : D → Mem → Prop} {Ψ : DEnds} {pos pos' apos pp np : Pos} {d x y : D} {ΦL : List D → Mem → Prop}
/-! ### try, by data -/
/-- a handler, by data: its class, its slot, its suite -/
abbrev HdD := Addr × Option Nat × List Stmt
def endsD (oi : Option Nat) (Ψ : DEnds) : DEnds := match oi with
  | none => Ψ
  | some i => { nx := fun δ M => Ψ.nx (δ.set i none) M, rt := Ψ.rt, bk := fun δ M => Ψ.bk (δ.set i none) M, ct := fun δ M => Ψ.ct (δ.set i none) M }
def envD (oi : Option Nat) (δ : Env') (d : D) : Env' := match oi with
  | none => δ
  | some i => δ.set i (some d)
def exH (B : Bx) (X : Cx) (Ψ : DEnds) : List HdD → Addr → List Str → List D → Env' → Mem → Prop
  | [] => B.ex
  | (c0, oi, suite) :: r => fun C ns ds δ M => ∃ b, PySem.W.exmOne X.K (.ref C) (.ref c0) = some b ∧ (b = true → ∀ a pn kp, DSs ⟨kp, fun _ _ _ _ _ => False⟩ (X.suite a pn) suite (envD oi δ (.exn C ns ds)) M (endsD oi Ψ)) ∧ (b = false → exH B X Ψ r C ns ds δ M)
def HdsOkD (X : Cx) : List ExceptHandler → List HdD → Prop
  | [], [] => True
  | .ExceptHandler (some (.Name x _)) n (b₀ :: su) _ :: hds, (c0, oi, suite) :: l => (Gl X x ∧ (x == ("__debug__" : Str)) = false ∧ X.mg x = some (.ref c0)) ∧ suite = b₀ :: su ∧ (match n, oi with
      | none, none => True
      | some n, some i => X.N[i]? = some n ∧ X.env.kindOf n = some .local
      | _, _ => False) ∧ HdsOkD X hds l
  | _, _ => False
def tsSu (X : Cx) (suite : List Stmt) : TS := fun D σ H => ∀ a pn, tSs (X.suite a pn) suite D σ H
def toHd (X : Cx) (l : List HdD) : List Hd1 := l.map fun h => (.ref h.1, h.2.1, tsSu X h.2.2)
theorem hds_of : ∀ {hds : List ExceptHandler} {l : List HdD}, HdsOkD X hds l → HdsX X hds (toHd X l)
  | [], [], _ => .nil
  | .ExceptHandler (some (.Name x _)) none (b₀ :: su) _ :: hds, (c0, none, suite) :: l, ⟨⟨h1, h2, h3⟩, e, _, r⟩ => by
    subst e
    exact .cons ⟨h1, h2, .inl h3⟩ (fun a pn => ⟨fun pins s σ H D I h => cSs.run pins s σ H D I (h a pn)⟩) (hds_of r)
  | .ExceptHandler (some (.Name x _)) (some n) (b₀ :: su) _ :: hds, (c0, some i, suite) :: l, ⟨⟨h1, h2, h3⟩, e, ⟨h4, h5⟩, r⟩ => by
    subst e
    exact .consAs ⟨h1, h2, .inl h3⟩ h4 h5 (fun a pn => ⟨fun pins s σ H D I h => cSs.run pins s σ H D I (h a pn)⟩) (hds_of r)
  | .ExceptHandler (some (.Name x _)) none (b₀ :: su) _ :: hds, (c0, some i, suite) :: l, ⟨_, _, h, _⟩ => h.elim
  | .ExceptHandler (some (.Name x _)) (some n) (b₀ :: su) _ :: hds, (c0, none, suite) :: l, ⟨_, _, h, _⟩ => h.elim
theorem ends_as {κ : List (V × D)} {E : Ends} {i : Nat} (k : EndsOk κ Ψ E) : EndsOk κ (endsD (some i) Ψ) (endsAs i E) :=
  ⟨fun δ M σ H q R => k.nx _ M _ H q (R.wipe1 i none), k.rt, fun δ M σ H q R => k.bk _ M _ H q (R.wipe1 i none), fun δ M σ H q R => k.ct _ M _ H q (R.wipe1 i none)⟩
theorem wish_hds {κ κ' : List (V × D)} {E : Ends} {C : Addr} {ns : List Str} {ds : List D} {M : Mem} {σ : St} {H : Hp} {dx : Option Addr} (hbk : ∀ q ∈ B.ps, q ∈ κ) (hk : ∀ q ∈ κ, q ∈ κ') (k : EndsOk κ Ψ E) (R : Rs κ' δ M σ H) (xr : XRep M.F H dx ns ds) :
    ∀ {l : List HdD}, exH B X Ψ l C ns ds δ M → wHds X.K (wishX B) E (toHd X l) (.ref C) dx σ H
  | [], h => ⟨C, ns, ds, δ, M, κ', rfl, h, fun q hq => hk q (hbk q hq), R, xr⟩
  | (c0, none, suite) :: l, ⟨b, h1, h2, h3⟩ => by
    refine ⟨b, h1, fun eb a na a' pn => ?_, fun eb => wish_hds hbk hk k R xr (h3 eb)⟩
    exact h2 eb a' pn κ κ' σ _ E hk (R.new na) (k.sub hk)
  | (c0, some i, suite) :: l, ⟨b, h1, h2, h3⟩ => by
    refine ⟨b, h1, fun eb a na a' pn => ?_, fun eb => wish_hds hbk hk k R xr (h3 eb)⟩
    exact h2 eb a' pn κ κ' _ _ _ hk ((R.new na).put i (xr.held (R.fresh na) na)) (ends_as (k.sub hk))
/-- try: body / except ..: .. -/
theorem ds_try {h₀ : ExceptHandler} {hds : List ExceptHandler} (l : List HdD) (hst : X.stack = X.env :: X.outer) (hfr : X.env.frame = some X.env.locals) (nd : X.N.Nodup) (tk : Tks X B) (hok : HdsOkD X (h₀ :: hds) l)
    (h : ∀ pn xe kp, PassesOwn (model X.prog X.w) X.A X.env xe → Tks (X.tr pn xe) ⟨kp, exH B X Ψ l⟩ → DSs ⟨kp, exH B X Ψ l⟩ (X.tr pn xe) body δ M Ψ) : DS B X (.Try body (h₀ :: hds) [] [] pos) δ M Ψ := by
  refine .of (ps_tryX (tb := fun W D σ H => ∀ pn xe, Takes (X.tr pn xe) W → PassesOwn (model X.prog X.w) X.A X.env xe → tSs (X.tr pn xe) body D σ H) hst hfr nd tk (fun W pn xe tk' po => ⟨fun pins s σ H D I h => cSs.run pins s σ H D I (h pn xe tk' po)⟩) (hds_of hok)) fun κ σ H E hb R k => ?_
  intro pn xe tk' po
  refine h pn xe κ po (Takes.imp tk' fun cls dx σ' H' hw => ?_) κ σ H E (fun _ h => h) R k
  obtain ⟨C, ns, ds, δ', M', κ', rfl, hx, hb', R', xr⟩ := hw
  exact wish_hds hb hb' k R' xr hx
/-! ### raise -/
/-- an own exception class without an own __init__ -/
structure Ex0 (K : PySem.W.Frag) (mg : Str → Option Value) (x : Str) (C : Addr) : Prop where
  gC : mg x = some (.ref C)
  q : PySem.W.excIn K C [.type "ValueError", .type "Exception", .type "BaseException", .type "object"] "ValueError.__new__" = true
  kC : PySem.W.keepIn K (.ref C) = true
  sub : PySem.W.subIn K (.ref C) (.type "BaseException") = some true
  ty : PySem.W.typeIn K (.ref C) = some (.type "type")
theorem pmk_own0 {C : Addr} {x : Str} {p : Pos} (T : Ex0 X.K X.mg x C) (hg : Gl X x) (hdb : (x == ("__debug__" : Str)) = false := by decide) : PMk X (.Call (.Name x p) [] [] pos) (fun σ H Q => Q (.ref C) none H) := by
  intro pins s σ H Q I h
  refine wpAny_Call_Name_kw (ld_glob I hg T.gC ?_ hdb)
  refine PySem.W.callWith_K0 I.kIn T.kC ?_
  show wpAny _ _ (call (.ref C) []) _ _ _
  obtain ⟨bm, N, nm, qn, bs, hdct, sn, sub, ab, col, dd, k0, k1, k2, k3, k5, mN, hC, hN, hni, T'⟩ := exc_obj I.kIn T.q
  refine wpAny_call_exc_subT PySem.F.excBase_ValueError T' hC hN hni (fun h' e hm => ?_) (by show 0 ≤ sizeLine; exact Nat.zero_le _)
  exact mk_of I hm (raises_own T.sub T.ty) h (I.hok.gone hm.new)
theorem ds_raise0 {C : Addr} {x : Str} {p : Pos} {n : Nat} (z : Cz X n) (tk : Tks X B) (T : Ex0 X.K X.mg x C) (hg : Gl X x) (h : B.ex C [] [] δ M) (hdb : (x == ("__debug__" : Str)) = false := by decide) : DS B X (.Raise (some (.Call (.Name x p) [] [] pos)) none pos') δ M Ψ :=
  .of (ps_raise z.calm tk (pmk_own0 T hg hdb)) fun κ σ H E hb R k => ⟨C, [], [], δ, M, κ, rfl, h, hb, R, .inl ⟨rfl, rfl, rfl⟩⟩
theorem ds_raise {C : Addr} {x : Str} {p : Pos} {n : Nat} (z : Cz X n) (tk : Tks X B) (T : Ex0 X.K X.mg x C) (hg : Gl X x) (h : DA B X (e :: es) δ M fun ds M' => ds.length ≤ sizeLine ∧ B.ex C [] [] δ M')
    (hdb : (x == ("__debug__" : Str)) = false := by decide) (he : starEach (e :: es) X.env = (false, eval e X.env) :: starEach es X.env := by rfl) (hpl : (backTo pos (starEach es X.env)).any (·.1) = false := by rfl) : DS B X (.Raise (some (.Call (.Name x p) (e :: es) [] pos)) none pos') δ M Ψ :=
  .of (ps_raise z.calm tk (pmk_ownA PySem.F.excBase_ValueError T.q T.gC T.kC (raises_own T.sub T.ty) hg cA hdb he hpl)) fun κ σ H E hb R k => h κ σ H _ hb R fun vs ds M1 H1 ⟨hl, q⟩ R1 r1 =>
    ⟨by rw [r1.length]; exact hl, C, [], [], δ, M1, κ, rfl, q, hb, R1, .inl ⟨rfl, rfl, rfl⟩⟩
/-- the promise of an exception's __init__: the fields are set, one by one -/
def spXI (C : Addr) (ns : List Str) : Sp := fun vs H Q _ => ∃ a args, vs = .ref a :: args ∧ args.length = ns.length ∧ H a = some (exo a C none) ∧
  ∀ dx H', H dx = none → dx ≠ a → H' a = some (exo a C (some dx)) → H' dx = some (exd dx (ns.reverse.zip args.reverse)) → (∀ b, b ≠ a → b ≠ dx → H' b = H b) → Q .non H'
/-- an own exception class whose __init__ keeps its arguments -/
structure ExI (P : Program) (w : World) (K : PySem.W.Frag) (mg : Str → Option Value) (base : Heap) (x : Str) (C : Addr) (ns : List Str) : Prop where
  gC : mg x = some (.ref C)
  T : OexC K C
  ex : ∃ fI fd ps, PySem.W.findIn K (.ref C) "__init__" = some (some (.ref fI)) ∧ PySem.W.typeIn K (.ref fI) = some (.type "function") ∧ Binds K fd ps [] ∧ FnOk P w K mg base CX0 1 fI fd ps (spXI C ns)
theorem Reps.reverse {F : List Addr} {H : Hp} : ∀ {vs : List V} {ds : List D}, Reps F H vs ds → Reps F H vs.reverse ds.reverse
  | _, _, .nil => .nil
  | _, _, .cons r t => by
    rw [List.reverse_cons, List.reverse_cons]
    exact (Reps.reverse t).append (.cons r .nil)
theorem ds_raiseI {C : Addr} {x : Str} {p : Pos} {n : Nat} {ns : List Str} (z : Cz X n) (hn : 2 ≤ n) (tk : Tks X B) (T : ExI X.prog X.w X.K X.mg X.base x C ns) (hg : Gl X x) (h : DA B X (e :: es) δ M fun ds M' => ds.length = ns.length ∧ ds.length ≤ 1000 ∧ B.ex C ns.reverse ds.reverse δ M')
    (hdb : (x == ("__debug__" : Str)) = false := by decide) (he : starEach (e :: es) X.env = (false, eval e X.env) :: starEach es X.env := by rfl) (hpl : (backTo pos (starEach es X.env)).any (·.1) = false := by rfl) : DS B X (.Raise (some (.Call (.Name x p) (e :: es) [] pos)) none pos') δ M Ψ := by
  obtain ⟨fI, fd, ps, h1, h2, h3, h4⟩ := T.ex
  refine .of (ps_raise z.calm tk (pmk_oex T.T h1 h2 h4 (z.room.mono hn) h3 .nil pass0 hg T.gC cA hdb he hpl)) fun κ σ H E hb R k => h κ σ H _ hb R fun vs ds M1 H1 ⟨hl, hl2, q⟩ R1 r1 => ?_
  refine ⟨by rw [r1.length]; exact hl2, fun a na => ⟨a, vs, by rw [List.append_nil], by rw [r1.length]; exact hl, upd_same, fun dx H' n1 n2 e1 e2 e3 => ?_⟩⟩
  have ndx : H1 dx = none := by rw [upd_ne n2] at n1; exact n1
  refine ⟨rfl, dx, _, e1, e2, ndx, ?_⟩
  have eq : upd (del H' a) dx (.xd (ns.reverse.zip vs.reverse)) = upd H1 dx (.xd (ns.reverse.zip vs.reverse)) := by
    funext b
    by_cases hb : b = dx
    · subst hb; rw [upd_same, upd_same]
    · rw [upd_ne hb, upd_ne hb]
      by_cases ha : b = a
      · subst ha; rw [del_same, na]
      · rw [del_ne ha, e3 b ha hb, upd_ne ha]
  rw [eq]
  exact ⟨C, ns.reverse, ds.reverse, δ, M1, κ, rfl, q, hb, R1.new ndx, .inr ⟨dx, vs.reverse, rfl, R1.fresh ndx, upd_same, by rw [List.length_reverse, List.length_reverse, r1.length, hl], (Reps.reverse r1).fwd (Fwd.new ndx)⟩⟩
/-! ### fields -/
structure FldP (K : PySem.W.Frag) (C : Addr) (f : Str) : Prop where
  c : Cls K C
  n : NoAttr K C f
structure XfP (K : PySem.W.Frag) (C : Addr) (f : Str) : Prop where
  ga : PySem.W.findIn K (.ref C) "__getattribute__" = some (some (.builtin "BaseException.__getattribute__"))
  gg : PySem.W.findIn K (.ref C) "__getattr__" = some none
  exC : PySem.W.subIn K (.ref C) (.type "BaseException") = some true
  hdC : PySem.W.hasDictIn K C = true
  no : PySem.W.findIn K (.ref C) f = some none
def tFldU (K : PySem.W.Frag) (ta : TE) (f : Str) : TE := fun σ H Q => ta σ H fun x H1 => (∃ a C dx fs v, x = .ref a ∧ H1 a = some (.ins C dx fs) ∧ FldP K C f ∧ fs.lookup f = some v ∧ Q v H1) ∨
  ∃ a C d fs v, x = .ref a ∧ H1 a = some (XO (.ref C) (some d) a) ∧ H1 d = some (.xd fs) ∧ XfP K C f ∧ fs.lookup f = some v ∧ Q v H1
theorem pe_fldU {f : Str} {ta : TE} (he : PE X e ta) (hb : attributeBase e f X.env (eval e X.env) = eval e X.env) : PE X (.Attribute e f pos) (tFldU X.K ta f) := by
  refine ⟨fun pins s σ H Q I h => ?_⟩
  refine attr_of hb (thn (he.run pins s σ H _ I h) fun u s1 ⟨x, H1, I1, rx, q⟩ => ?_)
  rcases q with ⟨a, C, dx, fs, v, ex, ea, ff, l, q⟩ | ⟨a, C, dd, fs, v, ex, ea, ed, T, l, q⟩
  · subst ex
    obtain rfl : u = Value.ref a := rx
    exact getattr_ok I1 ea ff.c ff.n l fun u' s2 I2 ru => ⟨v, H1, I2, ru, q⟩
  · subst ex
    obtain rfl : u = Value.ref a := rx
    obtain ⟨⟨oe, vs, ha, hz, hd⟩, _, _⟩ := I1.hok a _ ea
    have hx : ObjOk X.prog X.w H1 s1.heap dd (.xd fs) := I1.hok dd _ ed
    obtain ⟨mA, hns, hr⟩ := hx
    obtain ⟨od, ho, hl⟩ := lookIn_ns hns
    obtain ⟨u, hu, ru⟩ := RelO.some_of (v := v) (o := mA f) (by rw [← l]; exact hr f)
    have J : PySem.W.InstAt s1.heap a oe C (some od) := ⟨ha, hz.1, by unfold PySem.W.notCls; rw [hd] <;> rfl, by rw [hz.2]; exact ho⟩
    exact HandSPX.exc_get I1.kIn J T.ga T.gg T.exC (PySem.W.findObj_own T.hdC T.no rfl (by rw [hl, hu])) (handed_of ru) ⟨v, H1, I1.tok _, ru, q⟩
theorem reps_lookup {F : List Addr} {H : Hp} {f : Str} : ∀ {ns : List Str} {vs : List V} {ds : List D} {d : D}, Reps F H vs ds → (ns.zip ds).lookup f = some d → ∃ v, (ns.zip vs).lookup f = some v ∧ Rep F H v d
  | [], _, _, _, _, h => by simp at h
  | _ :: _, _, _, _, .nil, h => by simp at h
  | n :: ns, v :: vs, d0 :: ds, d, .cons r t, h => by
    rw [List.zip_cons_cons, List.lookup_cons] at h
    rw [List.zip_cons_cons, List.lookup_cons]
    cases e : f == n with
    | true => rw [e] at h; cases h; exact ⟨v, rfl, r⟩
    | false => rw [e] at h; exact reps_lookup t h
/-- a field of data -/
def FldD (K : PySem.W.Frag) (f : Str) (x : D) (M : Mem) (Φ : D → Mem → Prop) : Prop := (∃ C ns fs d, IsO M x C ns fs ∧ FldP K C f ∧ (ns.zip fs).lookup f = some d ∧ Φ d M) ∨ ∃ C ns fs d, x = .exn C ns fs ∧ XfP K C f ∧ (ns.zip fs).lookup f = some d ∧ Φ d M
theorem de_fld {f : Str} (h : DE B X o δ M fun x M1 => FldD X.K f x M1 Φ) (hb : attributeBase o f X.env (eval o X.env) = eval o X.env := by rfl) : DE B X (.Attribute o f pos) δ M Φ :=
  .of (pe_fldU cE hb) fun κ σ H Q hb R k => h κ σ H _ hb R fun v x M1 H1 q R1 r1 => by
    rcases q with ⟨C, ns, fs, d, io, ff, l, q⟩ | ⟨C, ns, fs, d, ex, T, l, q⟩
    · obtain ⟨a, dx, vs, rfl, ea, hl, rr⟩ := io.sq R1 r1
      obtain ⟨v, l2, rv⟩ := reps_lookup rr l
      exact .inl ⟨a, C, dx, _, v, rfl, ea, ff, l2, k _ _ _ _ q R1 rv⟩
    · subst ex
      cases r1 with
      | exn0 h1 e1 => simp at l
      | exn h1 e1 h2 e2 hl rr =>
        obtain ⟨v, l2, rv⟩ := reps_lookup rr l
        exact .inr ⟨_, C, _, _, v, rfl, e1, e2, T, l2, k _ _ _ _ q R1 rv⟩
theorem fld_v {K : PySem.W.Frag} {f : Str} {C : Addr} {ns : List Str} {fs : List D} (ff : FldP K C f) (l : (ns.zip fs).lookup f = some d) (k : Φ d M) : FldD K f (.obj C ns fs) M Φ := .inl ⟨C, ns, fs, d, .val _ _ _, ff, l, k⟩
theorem fld_c {K : PySem.W.Frag} {f : Str} {C p : Addr} {ns : List Str} {fs : List D} (j : Nat) (hm : M[j]? = some (p, .obj C ns fs)) (ff : FldP K C f) (l : (ns.zip fs).lookup f = some d) (k : Φ d M) : FldD K f (.raw (.ref p)) M Φ := .inl ⟨C, ns, fs, d, .cell j hm, ff, l, k⟩
theorem fld_x {K : PySem.W.Frag} {f : Str} {C : Addr} {ns : List Str} {fs : List D} (T : XfP K C f) (l : (ns.zip fs).lookup f = some d) (k : Φ d M) : FldD K f (.exn C ns fs) M Φ := .inr ⟨C, ns, fs, d, rfl, T, l, k⟩
/-- a field is set -/
def putN (f : Str) (d : D) : List Str → List D → List Str × List D
  | n :: ns, x :: ds => if n = f then (n :: ns, d :: ds) else (n :: (putN f d ns ds).1, x :: (putN f d ns ds).2)
  | _, _ => ([f], [d])
theorem putN_rep {F : List Addr} {H : Hp} {f : Str} {v : V} {d : D} (rv : Rep F H v d) : ∀ {ns : List Str} {vs : List V} {ds : List D}, ns.length = vs.length → Reps F H vs ds → ∃ vs', putF f v (ns.zip vs) = (putN f d ns ds).1.zip vs' ∧ (putN f d ns ds).1.length = vs'.length ∧ Reps F H vs' (putN f d ns ds).2
  | [], [], _, _, .nil => ⟨[v], rfl, rfl, .cons rv .nil⟩
  | [], _ :: _, _, h, _ => by cases h
  | _ :: _, [], _, h, _ => by cases h
  | n :: ns, w :: vs, x :: ds, h, .cons r t => by
    unfold putN
    rw [List.zip_cons_cons]
    unfold putF
    by_cases e : n = f
    · rw [if_pos e, if_pos e]
      exact ⟨v :: vs, rfl, h, .cons rv t⟩
    · rw [if_neg e, if_neg e]
      obtain ⟨vs', h1, h2, h3⟩ := putN_rep (f := f) rv (ns := ns) (vs := vs) (ds := ds) (by simpa using h) t
      exact ⟨w :: vs', by rw [h1]; rfl, by simp [h2], .cons r h3⟩
theorem ds_fld {f : Str} (h : DE B X e δ M fun d M1 => DE B X o δ M1 fun x M2 => ∃ p C ns fs M3, x = .raw (.ref p) ∧ Rpl p (.obj C ns fs) (.obj C (putN f d ns fs).1 (putN f d ns fs).2) M2 M3 ∧ FldP X.K C f ∧ ns.length < 1000 ∧ Ψ.nx δ M3)
    (hs : swapsWith e (some (.Attribute o f pos')) pos.line X.env = pure false := by rfl) : DS B X (.Assign [.Attribute o f pos'] e pos) δ M Ψ :=
  .of (ps_fld cE cE hs) fun κ σ H E hb R k => h κ σ H _ hb R fun v d M1 H1 q1 R1 r1 => q1 ((v, d) :: κ) σ H1 _ (fun q hq => List.mem_cons_of_mem _ (hb q hq)) (R1.push r1) fun w x M2 H2 ⟨p, C, ns, fs, M3, ex, hr, ff, hl, q⟩ R2 r2 => by
    subst ex
    cases r2
    obtain ⟨dx, vs, e1, l1, rr⟩ := hr.inM.ok R2
    obtain ⟨vs', h1, h2, h3⟩ := putN_rep (f := f) R2.top l1 rr
    refine ⟨p, C, dx, _, rfl, e1, ff.c, ff.n, by simp [l1]; omega, k.nx _ _ _ _ q ?_⟩
    have hp : ∀ x, x ∉ M2.F → upd H2 p (.ins C dx (putF f v (ns.zip vs))) x = H2 x := fun x hx => upd_ne fun z => hx (z ▸ hr.inM.mem)
    exact R2.pop.rpl hr (fun x hx => upd_ne hx) ⟨dx, vs', by rw [upd_same, h1], h2, h3.fwd (Fwd.same hp)⟩
/-! ### isinstance of exceptions and own things -/
structure ExcP (K : PySem.W.Frag) (C : Addr) : Prop where
  cl : (PySem.W.clsIn K C).isSome = true
  ga : PySem.W.findIn K (.ref C) "__getattribute__" = some (some (.builtin "BaseException.__getattribute__"))
  gg : PySem.W.findIn K (.ref C) "__getattr__" = some none
  hs : PySem.W.subIn K (.ref C) (.type "BaseException") = some true
  ha : PySem.W.findIn K (.ref C) "__class__" = some (some (.builtin "object.__class__"))
  hn : PySem.W.specialIn K (.builtin "object.__class__") "__get__" = some (some (.builtin "getset_descriptor.__get__"))
  ht : PySem.W.takesIn K (.builtin "object.__class__") = some true
  hm : PySem.W.mroIn K C (.type "object") = some true
structure InsP (K : PySem.W.Frag) (C : Addr) : Prop where
  cl : Cls K C
  ha : PySem.W.findIn K (.ref C) "__class__" = some (some (.builtin "object.__class__"))
  hn : PySem.W.specialIn K (.builtin "object.__class__") "__get__" = some (some (.builtin "getset_descriptor.__get__"))
  ht : PySem.W.takesIn K (.builtin "object.__class__") = some true
  hm : PySem.W.mroIn K C (.type "object") = some true
def rIsX (K : PySem.W.Frag) : List V → Hp → VK → Prop := fun xs H Q => ∃ (a C : Addr) (dx : Option Addr) (c : V) (u : Value) (b : Bool), xs = [.ref a, c] ∧ ClsV c u ∧ H a = some (XO (.ref C) dx a) ∧ (dx = none ∨ ∃ d fs, dx = some d ∧ H d = some (.xd fs)) ∧ ExcP K C ∧ PySem.W.kitOne K (.ref C) u = some b ∧ Q (.bl b) H
def rIsiU (K : PySem.W.Frag) : List V → Hp → VK → Prop := fun xs H Q => rIsi K xs H Q ∨ rIsX K xs H Q
theorem call_isX : CallR X (.builtin "isinstance") (rIsX X.K) := by
  intro pins s σ H xs us Q I r h
  obtain ⟨a, C, dx, c, u, b, rfl, k, ea, hd, T, e, q⟩ := h
  cases r with
  | cons rx rr =>
    cases rr with
    | cons rt rr =>
      cases rr
      cases rx
      have ec := k.eq rt
      subst ec
      obtain ⟨⟨oe, vs, ha, hz, hdt⟩, _, _⟩ := I.hok a _ ea
      have J : ∃ od, PySem.W.InstAt s.heap a oe C od := by
        rcases hd with rfl | ⟨d, fs, rfl, ed⟩
        · exact ⟨none, ha, hz.1, by unfold PySem.W.notCls; rw [hdt] <;> rfl, by rw [hz.2]; trivial⟩
        · have hx : ObjOk X.prog X.w H s.heap d (.xd fs) := I.hok d _ ed
          obtain ⟨mA, hns, hr⟩ := hx
          obtain ⟨od, ho, hl⟩ := lookIn_ns hns
          exact ⟨some od, ha, hz.1, by unfold PySem.W.notCls; rw [hdt] <;> rfl, by rw [hz.2]; exact ho⟩
      obtain ⟨od, J⟩ := J
      exact PySem.W.kia_one (PySem.W.kitx_exc T.cl T.ga T.gg T.hs T.ha T.hn T.ht T.hm) I.kIn J e (fun z => nomatch z) fun tk => ⟨.bl b, H, I.kept (t' := tk) fun _ _ z => z, rfl, q⟩
theorem ClsD {c : V} {F : List Addr} {H : Hp} {v : V} (r : Rep F H v (.raw c)) : v = c := by cases r; rfl
theorem isx_x {K : PySem.W.Frag} {C : Addr} {ns : List Str} {fs : List D} {c : V} {u : Value} {b : Bool} (T : ExcP K C) (hc : ClsV c u) (hk : PySem.W.kitOne K (.ref C) u = some b) (k : Φ (.bl b) M) : CallD (rIsiU K) [.exn C ns fs, .raw c] M Φ := .inr fun κ δ σ H vs Q R rs f => by
  cases rs with
  | cons r1 r2 =>
    cases r2 with
    | cons r2 r3 =>
      cases r3
      have := ClsD r2
      subst this
      cases r1 with
      | exn0 h1 e1 => exact ⟨_, C, none, _, u, b, rfl, hc, e1, .inl rfl, T, hk, f _ _ _ _ k R (.bl _)⟩
      | exn h1 e1 h2 e2 hl rr => exact ⟨_, C, _, _, u, b, rfl, hc, e1, .inr ⟨_, _, rfl, e2⟩, T, hk, f _ _ _ _ k R (.bl _)⟩
theorem isx_o {K : PySem.W.Frag} {C : Addr} {ns : List Str} {fs : List D} {c : V} {u : Value} {b : Bool} (h : IsO M x C ns fs) (T : InsP K C) (hc : ClsV c u) (hk : PySem.W.kitOne K (.ref C) u = some b) (k : Φ (.bl b) M) : CallD (rIsiU K) [x, .raw c] M Φ := .inl fun κ δ σ H vs Q R rs f => by
  cases rs with
  | cons r1 r2 =>
    cases r2 with
    | cons r2 r3 =>
      cases r3
      have := ClsD r2
      subst this
      obtain ⟨p, dx, vs, rfl, ea, hl, rr⟩ := h.sq R r1
      exact ⟨_, _, .ref C, u, b, rfl, hc, .base (.ins ea T.cl T.ha T.hn T.ht T.hm), hk, f _ _ _ _ k R (.bl _)⟩
/-- a plain thing and an own class -/
theorem isx_b {K : PySem.W.Frag} {S : String} {c : V} {u : Value} {b : Bool} (hx : tyD x = some S) (hc : ClsV c u) (hk : PySem.W.kitOne K (.type S) u = some b) (k : Φ (.bl b) M) : CallD (rIsiU K) [x, .raw c] M Φ := .inl fun κ δ σ H vs Q R rs f => by
  cases rs with
  | cons r1 r2 =>
    cases r2 with
    | cons r2 r3 =>
      cases r3
      have := ClsD r2
      subst this
      refine ⟨_, _, .type S, u, b, rfl, hc, ?_, hk, f _ _ _ _ k R (.bl _)⟩
      cases r1 with
      | non => cases hx; exact .base .non
      | bl b => cases hx; exact .base (.bl b)
      | int i => cases hx; exact .base (.int i)
      | str i => cases hx; exact .base (.str i)
      | lst h1 e1 _ => cases hx; exact .base (.lst e1)
      | tup h1 e1 _ => cases hx; exact .base (.tup e1)
      | obj _ _ _ _ => cases hx
      | raw _ => cases hx
      | scrH _ _ => cases hx
      | scrK _ => cases hx
      | exn0 _ _ => cases hx
      | exn _ _ _ _ _ _ => cases hx
      | fd _ _ _ _ _ => cases hx
      | hp _ _ => cases hx
/-- an own class as a value -/
theorem de_gcls {x : Str} {C : Addr} (hg : Gl X x) (hm : X.mg x = some (.ref C)) (k : Φ (.raw (.ref C)) M) (hd : (x == ("__debug__" : Str)) = false := by decide) : DE B X (.Name x pos) δ M Φ := de_glob (v := .ref C) ⟨hg, ⟨_, hm, rfl⟩, hd⟩ (fun _ _ => .raw _) k
end
end Hl
namespace Hl
open PySem L2
open PyProof.Rows hiding St
/-! ### a def as it stands, with or without defaults -/
structure FunG (K : PySem.W.Frag) (x qual : Str) (st : Stmt) (f : Addr) (fd : FuncData) : Prop where
  ex : ∃ (oc : Value) (od : Option Addr) (dV kV doc pm : Value) (an : Option Addr) (cdv ct : Value) (osl : Array (Option Value)),
    fd = PySem.W.fnOf x qual (defArgs st) (defBody st) (defScope st) dV kV doc pm an cdv ct ∧ K.lookup f = some ⟨oc, od, .func fd, osl⟩ ∧ PySem.W.codeIn K cdv qual = true
theorem fung_mk {K : PySem.W.Frag} {x qual : Str} {st : Stmt} {f : Addr} {oc : Value} {od an : Option Addr} {osl : Array (Option Value)} {dV kV doc pm cdv ct : Value} (l : K.lookup f = some ⟨oc, od, .func (PySem.W.fnOf x qual (defArgs st) (defBody st) (defScope st) dV kV doc pm an cdv ct), osl⟩)
    (c : PySem.W.codeIn K cdv qual = true) : FunG K x qual st f (PySem.W.fnOf x qual (defArgs st) (defBody st) (defScope st) dV kV doc pm an cdv ct) := ⟨oc, od, dV, kV, doc, pm, an, cdv, ct, osl, rfl, l, c⟩
theorem fnokG_of {P : Program} {w : World} {K : PySem.W.Frag} {mg : Str → Option Value} {base : Heap} {x qual : Str} {st : Stmt} {f : Addr} {fd : FuncData} {N ps : List Str} {k : Nat} {p : DSpE} (F : FunG K x qual st f fd) (S : FnScope N ps (defScope st))
    (len : ∀ ds M Φ Ξ, p ds M Φ Ξ → ds.length = ps.length)
    (h : ∀ X kp ds M Φ Ξ, p ds M Φ Ξ → InDefE P w K mg base N (defScope st) k X ⟨kp, fun C ns es _ M' => ∃ es2 M2, VwX ns es M' es2 M2 ∧ Ξ C ns es2 M2⟩ → DSs ⟨kp, fun C ns es _ M' => ∃ es2 M2, VwX ns es M' es2 M2 ∧ Ξ C ns es2 M2⟩ X (defBody st) (startD N.length ds) M { nx := fun _ M' => ∃ d2 M2, Vw .non M' d2 M2 ∧ Φ d2 M2, rt := fun d M' => ∃ d2 M2, Vw d M' d2 M2 ∧ Φ d2 M2 }) : FnOk P w K mg base (L2.CX P w) (k + 1) f fd ps (liftE p) := by
  obtain ⟨oc, od, dV, kV, doc, pm, an, cdv, ct, osl, rfl, lk, hcd⟩ := F.ex
  refine fn_of lk hcd S (fun vs H Q E hl => ?_) fun A outer s H vs Q E hr hl => ?_
  · obtain ⟨κ, ds, M, Φ, Ξ, R, r, q, _⟩ := hl
    rw [r.length]; exact len ds M Φ Ξ q
  · obtain ⟨κ, ds, M, Φ, Ξ, R, r, q, kk, kx⟩ := hl
    refine ⟨_, cSs, ?_⟩
    refine h _ κ ds M Φ Ξ q ⟨rfl, rfl, rfl, rfl, rfl, rfl, rfl, rfl, ⟨S.nd, rfl, hr⟩, PassesOwn.leaving, ?_, rfl, rfl⟩ κ _ H _ (fun _ h => h) (start_rs R r) ⟨fun δ M' σ H' ⟨d2, M2, h1, h2⟩ R' => ?_, fun v d M' δ σ H' ⟨d2, M2, h1, h2⟩ R' r' => ?_, fun _ _ _ _ z => z.elim, fun _ _ _ _ z => z.elim⟩
    · refine Takes.imp (takes_of (E := E) rfl rfl rfl rfl) fun cls dx σ H' hw => ?_
      obtain ⟨C, ns, es, δ, M', κ', rfl, ⟨es2, M2, hv, hX⟩, hb, R', x'⟩ := hw
      obtain ⟨R2, x2⟩ := hv κ' δ σ H' dx R' x'
      exact kx C ns es2 M2 H' dx hX ⟨fun q hq => R2.kp q (hb q hq), .nil, R2.cl, R2.nd⟩ x2
    · obtain ⟨R2, r2⟩ := h1 _ _ _ _ _ R' .non
      exact kk .non d2 M2 H' h2 ⟨R2.kp, .nil, R2.cl, R2.nd⟩ r2
    · obtain ⟨R2, r2⟩ := h1 _ _ _ _ _ R' r'
      exact kk v d2 M2 H' h2 ⟨R2.kp, .nil, R2.cl, R2.nd⟩ r2
/-! facts within a comprehension's block -/
section
variable {X X' : Cx} {scope : Scope} {k : Nat} {x f : Str} {n : Nat} {ks : List Str} {sel : Sel} {p : DSpE} {C : Addr}
theorem Bk.mE (h : Bk X X' scope) (d : MethEX X k C x n ks sel p) : MethEX X' k C x n ks sel p := by unfold MethEX; rw [h.prog, h.wd, h.K, h.mg, h.base]; exact d
theorem Bk.fld (h : Bk X X' scope) (d : FldP X.K C f) : FldP X'.K C f := by rw [h.K]; exact d
end
/-! ### loops and joins by the slots that change -/
def putAll (δ : Env') : List Nat → List (Option D) → Env'
  | i :: is, v :: vs => putAll (δ.set i v) is vs
  | _, _ => δ
theorem set_self {α : Type} {l : List (Option α)} {i : Nat} : l.set i (l.getD i none) = l := by
  apply List.ext_getElem?
  intro n
  by_cases hn : i = n
  · subst hn
    by_cases hl : i < l.length
    · rw [List.getElem?_set_self hl, List.getD_eq_getElem?_getD, List.getElem?_eq_getElem hl]; rfl
    · rw [List.getElem?_eq_none (by simpa using hl), List.getElem?_eq_none (by simpa using hl)]
  · rw [List.getElem?_set_ne hn]
theorem putAll_self {δ : Env'} : ∀ {cs : List Nat}, putAll δ cs (cs.map fun i => δ.getD i none) = δ
  | [] => rfl
  | c :: cs => by
    show putAll (δ.set c (δ.getD c none)) cs _ = δ
    rw [set_self]; exact putAll_self
section
variable {B : Bx} {X : Cx} {tg iter c : Expr} {st : Stmt} {sts body : List Stmt} {δ : Env'} {M : Mem} {Ψ : DEnds} {pos : Pos}
theorem ds_forC {n : Nat} (cs : List Nat) (z : Cz X n) (hp : PassesOwn (model X.prog X.w) X.A X.env X.xe)
    (h : DI B X tg iter δ M fun xs M' => ∃ Iv : Nat → List (Option D) → Mem → Prop, Iv 0 (cs.map fun i => δ.getD i none) M' ∧
      (∀ i x vs δ1 M1, xs[i]? = some x → Iv i vs M1 → δ1 = putAll δ cs vs → DG B X tg x δ1 M1 fun δ' M' => DSs B X body δ' M' { Ψ with nx := fun δ' M' => ∃ vs', δ' = putAll δ cs vs' ∧ Iv (i + 1) vs' M', ct := fun δ' M' => ∃ vs', δ' = putAll δ cs vs' ∧ Iv (i + 1) vs' M', bk := Ψ.nx }) ∧
      ∀ vs δ1 M1, Iv xs.length vs M1 → δ1 = putAll δ cs vs → Ψ.nx δ1 M1)
    (hs : ∀ x, foldedSetIterable iter X.env x = pure x := by intro _; rfl) : DS B X (.For tg iter body [] pos) δ M Ψ := by
  refine ds_for z hp ?_ hs
  obtain ⟨wi, pi, w⟩ := h
  refine ⟨wi, pi, fun κ σ H R hb Rr k => w κ σ H R hb Rr fun xs M' H' J κ' ⟨Iv, h0, h1, h2⟩ hk R' W => k xs M' H' J κ' ⟨fun i δ1 M1 => ∃ vs, δ1 = putAll δ cs vs ∧ Iv i vs M1, ⟨_, putAll_self.symm, h0⟩, fun i x δ1 M1 hx ⟨vs, e, hv⟩ => h1 i x vs δ1 M1 hx hv e, fun δ1 M1 ⟨vs, e, hv⟩ => h2 vs δ1 M1 hv e⟩ hk R' W⟩
theorem ds_cutC (cs : List Nat) (Mid : List (Option D) → Mem → Prop) (h1 : DS B X st δ M { Ψ with nx := fun δ' M' => ∃ vs, δ' = putAll δ cs vs ∧ Mid vs M' }) (h2 : ∀ vs δ1 M1, Mid vs M1 → δ1 = putAll δ cs vs → DSs B X sts δ1 M1 Ψ) : DSs B X (st :: sts) δ M Ψ :=
  ds_cut (fun δ1 M1 => ∃ vs, δ1 = putAll δ cs vs ∧ Mid vs M1) h1 fun δ1 M1 ⟨vs, e, hv⟩ => h2 vs δ1 M1 hv e
end
/-! ### items of typed lists -/
section
variable {K : PySem.W.Frag} {M : Mem} {Φ : D → Mem → Prop} {α : Type} {l : List α} {f : α → D} {i : Int}
theorem od_ixE (h : 0 ≤ i ∧ i < l.length) (k : ∀ y, l[i.toNat]? = some y → Φ (f y) M) : OpD (rIxU K) (.lst (l.map f)) (.int i) M Φ := by
  obtain ⟨y, h1, h2⟩ := at_map (f := f) h.1 h.2
  exact od_ixL h2 (k y h1)
end
end Hl
namespace Hl
open PySem L2
open PyProof.Rows hiding St
section
variable {B : Bx} {X : Cx} {e a b c o : Expr} {es rest : List Expr} {kw : Keyword} {kws : List Keyword} {st : Stmt} {sts body suite : List Stmt} {δ δ' : Env'} {M : Mem} {Φ : D → Mem → Prop} {Ψ : DEnds} {pos pos' apos pp np : Pos} {d x y : D} {ΦL : List D → Mem → Prop}
def selN (n : Nat) : Sel := (List.range n).map .inl
theorem selN_eq {ds : List D} {n : Nat} (h : ds.length = n) : selD (selN n) ds = ds := by
  subst h
  unfold selD selN
  rw [List.map_map]
  apply List.ext_getElem
  · simp
  · intro i h1 h2
    simp [List.getD, h2]
theorem ar_id {k : Nat} {p : DSpE} {ds : List D} {Ξ : XPost} (h : ds.length = k) (q : p ds M Φ Ξ) : ds.length = k ∧ ([] : List D).length = ([] : List Str).length ∧ p (selD (selN k) (ds ++ [])) M Φ Ξ := ⟨h, rfl, by rw [List.append_nil, selN_eq h]; exact q⟩
theorem ar_idM {k : Nat} {p : DSpE} {ds : List D} {Ξ : XPost} (h : ds.length = k) (q : p (x :: ds) M Φ Ξ) : ds.length = k ∧ ([] : List D).length = ([] : List Str).length ∧ p (selD (selN (k + 1)) (x :: ds ++ [])) M Φ Ξ := ⟨h, rfl, by rw [List.append_nil, selN_eq (by simp [h])]; exact q⟩
theorem ar_idN {k : Nat} {p : DSpE} {ds : List D} {Ξ : XPost} {Φ' : Addr → D → Mem → Prop} {Mm : Addr → Mem} (h : ds.length = k) (q : ∀ a, p (.raw (.ref a) :: ds) (Mm a) (Φ' a) Ξ) : ds.length = k ∧ ([] : List D).length = ([] : List Str).length ∧ ∀ a, p (selD (selN (k + 1)) (.raw (.ref a) :: ds ++ [])) (Mm a) (Φ' a) Ξ := ⟨h, rfl, fun a => by rw [List.append_nil, selN_eq (by simp [h])]; exact q a⟩
theorem ar_g {k : Nat} {p : DSpE} {ds zs : List D} {ks : List Str} {sel : Sel} {Ξ : XPost} (h : ds.length = k) (h2 : zs.length = ks.length) (q : p (selD sel (ds ++ zs)) M Φ Ξ) : ds.length = k ∧ zs.length = ks.length ∧ p (selD sel (ds ++ zs)) M Φ Ξ := ⟨h, h2, q⟩
theorem ar_gM {k : Nat} {p : DSpE} {ds zs : List D} {ks : List Str} {sel : Sel} {Ξ : XPost} (h : ds.length = k) (h2 : zs.length = ks.length) (q : p (selD sel (x :: ds ++ zs)) M Φ Ξ) : ds.length = k ∧ zs.length = ks.length ∧ p (selD sel (x :: ds ++ zs)) M Φ Ξ := ⟨h, h2, q⟩
theorem ar_gN {k : Nat} {p : DSpE} {ds zs : List D} {ks : List Str} {sel : Sel} {Ξ : XPost} {Φ' : Addr → D → Mem → Prop} {Mm : Addr → Mem} (h : ds.length = k) (h2 : zs.length = ks.length) (q : ∀ a, p (selD sel (.raw (.ref a) :: ds ++ zs)) (Mm a) (Φ' a) Ξ) : ds.length = k ∧ zs.length = ks.length ∧ ∀ a, p (selD sel (.raw (.ref a) :: ds ++ zs)) (Mm a) (Φ' a) Ξ := ⟨h, h2, q⟩
/-! methods, the class by the thing -/
def MtE (B : Bx) (X : Cx) (m : Nat) (pos : Pos) (es : List Expr) (kws : List Keyword) (mn : Str) (δ : Env') (x : D) (M1 : Mem) (Φ : D → Mem → Prop) : Prop := ∃ C k n ks sel p Ξ, MethEX X k C mn n ks sel p ∧ k ≤ m ∧ Lets X B δ Ξ ∧ PlA X pos es kws ks ∧ (∃ ns fs, IsO M1 x C ns fs ∧ ns.contains mn = false) ∧
  DAK B X es kws δ M1 fun ds zs M' => ds.length = n ∧ zs.length = ks.length ∧ p (selD sel (x :: ds ++ zs)) M' Φ Ξ
theorem de_mU {pl_ : Sem Bool} {m : Nat} {mn : Str} (z : Cz X m) (h : DE B X o δ M fun x M1 => MtE B X m pos es kws mn δ x M1 Φ)
    (ht : eval (.Call (.Attribute o mn apos) es kws pos) X.env = (do
      let ov ← eval o X.env
      standAt apos.atName
      let (f, first) ← holding [ov] (getMethod ov mn pl_)
      callWith pos f first (backTo pos (starEach es X.env)) (backToKw pos (keywordEach kws X.env))) := by rfl) : DE B X (.Call (.Attribute o mn apos) es kws pos) δ M Φ := by
  intro κ σ H Q hb R kk
  unfold tE
  intro pins s I
  refine PySem.W.methodCall_KW (pl := pl_) (thn ((cE (X := X) (e := o)).run pins s σ H (fun v H1 => ∃ x M1, MtE B X m pos es kws mn δ x M1 Φ ∧ Rs κ δ M1 σ H1 ∧ Rep M1.F H1 v x) I (h κ σ H _ hb R fun v x M1 H1 q R1 r1 => ⟨x, M1, q, R1, r1⟩)) fun u s1 ⟨v, H1, I1, rv, x, M1, hm, R1, r1⟩ => ?_) ht
  obtain ⟨C, k, n, ks, sel, p, Ξ, f, hk, lt, pl, ⟨ns, fs, io, hn⟩, hd⟩ := hm
  obtain ⟨fa, c, hm, h3⟩ := f.ex
  obtain ⟨W, tk, hx⟩ := lt
  obtain ⟨a, dx, vs0, rfl, ea, hl, rr⟩ := io.sq R1 r1
  obtain rfl : u = Value.ref a := rv
  refine getmeth_ok I1 ea c hm (lookup_zip hn) ?_
  refine dak_run (κ := (.ref a, x) :: κ) (first := [.ref a]) hm.kp pl hd I1 (fun q hq => List.mem_cons_of_mem _ (hb q hq)) (R1.push r1) fun us ws s2 vs zs ds es M2 H2 I2 rv rz ⟨l1, l2, q⟩ R2 r3 r4 => ?_
  have rs : Vals (V.ref a :: vs) (Value.ref a :: us) := .cons rfl rv
  refine run_E h3 (z.room.mono hk) (passAt tk σ) I2 rs rz (by rw [List.length_cons, r3.length, l1]) (by rw [r4.length]; exact l2) fun us' all rr so => ?_
  exact liftE_of so rr.length R2.pop ((Reps.cons R2.top r3).append r4) q kk fun C ns es M' H' dx e R' x => hx κ σ C ns es M' H' dx hb e R' x
theorem mt_v {m k n : Nat} {mn : Str} {C : Addr} {ns ks : List Str} {fs : List D} {sel : Sel} {p : DSpE} {Ξ : XPost} (f : MethEX X k C mn n ks sel p) (hk : k ≤ m) (lt : Lets X B δ Ξ) (pl : PlA X pos es kws ks) (hn : ns.contains mn = false)
    (h : DAK B X es kws δ M fun ds zs M' => ds.length = n ∧ zs.length = ks.length ∧ p (selD sel (.obj C ns fs :: ds ++ zs)) M' Φ Ξ) : MtE B X m pos es kws mn δ (.obj C ns fs) M Φ := ⟨C, k, n, ks, sel, p, Ξ, f, hk, lt, pl, ⟨ns, fs, .val _ _ _, hn⟩, h⟩
theorem mt_c {m k n : Nat} {mn : Str} {C q : Addr} {ns ks : List Str} {fs : List D} {sel : Sel} {p : DSpE} {Ξ : XPost} (j : Nat) (hm : M[j]? = some (q, .obj C ns fs)) (f : MethEX X k C mn n ks sel p) (hk : k ≤ m) (lt : Lets X B δ Ξ) (pl : PlA X pos es kws ks) (hn : ns.contains mn = false)
    (h : DAK B X es kws δ M fun ds zs M' => ds.length = n ∧ zs.length = ks.length ∧ p (selD sel (.raw (.ref q) :: ds ++ zs)) M' Φ Ξ) : MtE B X m pos es kws mn δ (.raw (.ref q)) M Φ := ⟨C, k, n, ks, sel, p, Ξ, f, hk, lt, pl, ⟨ns, fs, .cell j hm, hn⟩, h⟩
/-! an exception reaches a handler -/
theorem exh_yes {c0 C : Addr} {oi : Option Nat} {ns : List Str} {ds : List D} {r : List HdD} (hm : PySem.W.exmOne X.K (.ref C) (.ref c0) = some true) (h : ∀ a pn kp, DSs ⟨kp, fun _ _ _ _ _ => False⟩ (X.suite a pn) suite (envD oi δ (.exn C ns ds)) M (endsD oi Ψ)) : exH B X Ψ ((c0, oi, suite) :: r) C ns ds δ M := ⟨true, hm, (fun _ => h), (fun z => nomatch z)⟩
theorem exh_no {c0 C : Addr} {oi : Option Nat} {ns : List Str} {ds : List D} {r : List HdD} (hm : PySem.W.exmOne X.K (.ref C) (.ref c0) = some false) (h : exH B X Ψ r C ns ds δ M) : exH B X Ψ ((c0, oi, suite) :: r) C ns ds δ M := ⟨false, hm, (fun z => nomatch z), fun _ => h⟩
theorem kind_of {sc : Scope} {x : Str} (hs : X.env.scope = sc) (h : sc.names.lookup x = some .local) : X.env.kindOf x = some .local := by unfold Env.kindOf; rw [hs]; exact h
theorem len_andI {ds : List D} {ns : List Str} {P : Prop} (h1 : ds.length = ns.length) (h2 : ds.length ≤ 1000) (k : P) : ds.length = ns.length ∧ ds.length ≤ 1000 ∧ P := ⟨h1, h2, k⟩
/-- a store without calm -/
theorem ds_setN {i : Nat} {x : Str} (nd : X.N.Nodup) (l : Lo X i x) (h : DE B X e δ M fun d M' => Sets δ i d fun δ' => Ψ.nx δ' M') (hs : swapsWith e (some (.Name x pos')) pos.line X.env = pure false := by rfl) : DS B X (.Assign [.Name x pos'] e pos) δ M Ψ :=
  .of (ps_set nd l.at_ l.loc cE hs l.fn) fun κ σ H E hb R k => h κ σ H _ hb R fun v d M' H' q R' r => k.nx _ _ _ _ q.get (R'.put i r)
/-! a field is set, the class by the thing -/
def StF (K : PySem.W.Frag) (f : Str) (d x : D) (M : Mem) (Φ : Mem → Prop) : Prop := ∃ p C ns fs ns' fs' M', x = .raw (.ref p) ∧ Rpl p (.obj C ns fs) (.obj C ns' fs') M M' ∧ FldP K C f ∧ ns.length < 1000 ∧ putN f d ns fs = (ns', fs') ∧ Φ M'
theorem ds_fldU {f : Str} (h : DE B X e δ M fun d M1 => DE B X o δ M1 fun x M2 => StF X.K f d x M2 fun M3 => Ψ.nx δ M3)
    (hs : swapsWith e (some (.Attribute o f pos')) pos.line X.env = pure false := by rfl) : DS B X (.Assign [.Attribute o f pos'] e pos) δ M Ψ := ds_fld (h.mono fun d M1 h1 => h1.mono fun x M2 ⟨p, C, ns, fs, ns', fs', M3, e1, e2, ff, hl, hp, k⟩ => ⟨p, C, ns, fs, M3, e1, by rw [hp]; exact e2, ff, hl, k⟩) hs
theorem sf_n0 {K : PySem.W.Frag} {f : Str} {p C : Addr}   {ΦM : Mem → Prop} (j : Nat) (hm : M[j]? = some (p, .obj C [] [])) (ff : FldP K C f)  (k : ΦM (M.set j (p, .obj C [f] [d]))) : StF K f d (.raw (.ref p)) M ΦM := ⟨p, C, _, _, _, _, _, rfl, .cell j hm, ff, (by show 0 < 1000; decide), by simp [putN], k⟩
theorem sf_n1 {K : PySem.W.Frag} {f : Str} {p C : Addr} {n0 : Str} {x0 : D} {ΦM : Mem → Prop} (j : Nat) (hm : M[j]? = some (p, .obj C [n0] [x0])) (ff : FldP K C f) (h0 : (n0 = f) = False) (k : ΦM (M.set j (p, .obj C [n0, f] [x0, d]))) : StF K f d (.raw (.ref p)) M ΦM := ⟨p, C, _, _, _, _, _, rfl, .cell j hm, ff, (by show 1 < 1000; decide), by simp [putN, h0], k⟩
theorem sf_n2 {K : PySem.W.Frag} {f : Str} {p C : Addr} {n0 n1 : Str} {x0 x1 : D} {ΦM : Mem → Prop} (j : Nat) (hm : M[j]? = some (p, .obj C [n0, n1] [x0, x1])) (ff : FldP K C f) (h0 : (n0 = f) = False) (h1 : (n1 = f) = False) (k : ΦM (M.set j (p, .obj C [n0, n1, f] [x0, x1, d]))) : StF K f d (.raw (.ref p)) M ΦM := ⟨p, C, _, _, _, _, _, rfl, .cell j hm, ff, (by show 2 < 1000; decide), by simp [putN, h0, h1], k⟩
theorem sf_n3 {K : PySem.W.Frag} {f : Str} {p C : Addr} {n0 n1 n2 : Str} {x0 x1 x2 : D} {ΦM : Mem → Prop} (j : Nat) (hm : M[j]? = some (p, .obj C [n0, n1, n2] [x0, x1, x2])) (ff : FldP K C f) (h0 : (n0 = f) = False) (h1 : (n1 = f) = False) (h2 : (n2 = f) = False) (k : ΦM (M.set j (p, .obj C [n0, n1, n2, f] [x0, x1, x2, d]))) : StF K f d (.raw (.ref p)) M ΦM := ⟨p, C, _, _, _, _, _, rfl, .cell j hm, ff, (by show 3 < 1000; decide), by simp [putN, h0, h1, h2], k⟩
theorem sf_n4 {K : PySem.W.Frag} {f : Str} {p C : Addr} {n0 n1 n2 n3 : Str} {x0 x1 x2 x3 : D} {ΦM : Mem → Prop} (j : Nat) (hm : M[j]? = some (p, .obj C [n0, n1, n2, n3] [x0, x1, x2, x3])) (ff : FldP K C f) (h0 : (n0 = f) = False) (h1 : (n1 = f) = False) (h2 : (n2 = f) = False) (h3 : (n3 = f) = False) (k : ΦM (M.set j (p, .obj C [n0, n1, n2, n3, f] [x0, x1, x2, x3, d]))) : StF K f d (.raw (.ref p)) M ΦM := ⟨p, C, _, _, _, _, _, rfl, .cell j hm, ff, (by show 4 < 1000; decide), by simp [putN, h0, h1, h2, h3], k⟩
theorem sf_n5 {K : PySem.W.Frag} {f : Str} {p C : Addr} {n0 n1 n2 n3 n4 : Str} {x0 x1 x2 x3 x4 : D} {ΦM : Mem → Prop} (j : Nat) (hm : M[j]? = some (p, .obj C [n0, n1, n2, n3, n4] [x0, x1, x2, x3, x4])) (ff : FldP K C f) (h0 : (n0 = f) = False) (h1 : (n1 = f) = False) (h2 : (n2 = f) = False) (h3 : (n3 = f) = False) (h4 : (n4 = f) = False) (k : ΦM (M.set j (p, .obj C [n0, n1, n2, n3, n4, f] [x0, x1, x2, x3, x4, d]))) : StF K f d (.raw (.ref p)) M ΦM := ⟨p, C, _, _, _, _, _, rfl, .cell j hm, ff, (by show 5 < 1000; decide), by simp [putN, h0, h1, h2, h3, h4], k⟩
theorem isl_c {p : Addr} {ds : List D} {P : Prop} (j : Nat) (hm : M[j]? = some (p, .lst ds)) (k : P) : (∃ ds, IsL M (.raw (.ref p)) ds) ∧ P := ⟨⟨ds, .cell j hm⟩, k⟩
theorem idApp {K : PySem.W.Frag} {ds : List D} {r : V → List V → Hp → VK → Prop} (h : MtD K "list" r x ds M Φ) : MtD K "list" r x ds M Φ := h
theorem len_lt {n : Nat} (h : n ≤ 100000) : n < sizeLine := Nat.lt_of_le_of_lt h (by decide)
theorem idFld {f : Str} {K : PySem.W.Frag} (h : FldD K f x M Φ) : FldD K f x M Φ := h
theorem idMt {m : Nat} {mn : Str} (h : MtE B X m pos es kws mn δ x M Φ) : MtE B X m pos es kws mn δ x M Φ := h
theorem idStF {f : Str} {K : PySem.W.Frag} {ΦM : Mem → Prop} (h : StF K f d x M ΦM) : StF K f d x M ΦM := h
theorem idDAK {ΦA : List D → List D → Mem → Prop} (h : DAK B X es kws δ M ΦA) : DAK B X es kws δ M ΦA := h
theorem idAttr {f : Str} (h : DE B X (.Attribute o f pos) δ M Φ) : DE B X (.Attribute o f pos) δ M Φ := h
theorem idRaise {e' : Option Expr} {e2 : Option Expr} (h : DS B X (.Raise e' e2 pos) δ M Ψ) : DS B X (.Raise e' e2 pos) δ M Ψ := h
end
/-- the law of a def that may let exceptions out: it lets none -/
def pLawE (K : PySem.W.Frag) : DSpE := fun ds M Φ Ξ => ∃ ns, ds = [.scr K ns] ∧ ns.length ≤ 63 ∧ Φ (.bl true) M
theorem law_startE {K : PySem.W.Frag} {H : Hp} {a : Addr} {ns : List Int} (hl : ns.length ≤ 63) (hS : SqL K H a (ns.map V.int)) : liftE (pLawE K) [.ref a] H (fun v _ => v = .bl true) (fun _ _ _ => False) := by
  refine ⟨[], [.scr K ns], [], fun d _ => d = .bl true, fun _ _ _ _ => False, ⟨by simp, .nil, by simp, .nil⟩, .cons ?_ .nil, ⟨ns, rfl, hl, rfl⟩, fun v d M' H' e R r => by subst e; cases r; rfl, fun _ _ _ _ _ _ z => z.elim⟩
  rcases hS with h | h
  · exact .scrH (by simp [Mem.F]) h
  · exact .scrK fun _ => .inr h
theorem law_out {P : Program} {w : World} {outer : List Env} {H : Hp} {s : Shared} {u : Value} {s' : Shared} (h : L2.CX P w outer H s (fun _ _ _ => False) u s') : False := by
  obtain ⟨_, _, _, _, _, _, _, _, _, _, _, _, z⟩ := h
  exact z
end Hl
namespace Hl
open PySem L2
open PyProof.Rows hiding St
section
variable {B : Bx} {X : Cx} {e a b c o : Expr} {es rest : List Expr} {δ δ' : Env'} {M : Mem} {Φ : D → Mem → Prop} {Ψ : DEnds} {pos pos' apos pp np : Pos} {d x y : D}
/-! isinstance(e, (A, B)), e an exception that is held -/
def rIsXT (K : PySem.W.Frag) : List V → Hp → VK → Prop := fun xs H Q => ∃ (a C tp : Addr) (dx : Option Addr) (cs : List V) (us : List Value) (b : Bool), xs = [.ref a, .ref tp] ∧ H tp = some (.tup cs) ∧ Paired ClsV cs us ∧ H a = some (XO (.ref C) dx a) ∧ (dx = none ∨ ∃ d fs, dx = some d ∧ H d = some (.xd fs)) ∧ ExcP K C ∧ PySem.W.kitAny K (.ref C) us = some b ∧ Q (.bl b) H
theorem call_isXT : CallR X (.builtin "isinstance") (rIsXT X.K) := by
  intro pins s σ H xs us Q I r h
  obtain ⟨a, C, tp, dx, cs, ws, b, rfl, hT, k, ea, hd, T, e, q⟩ := h
  obtain ⟨u1, u2, rfl, r1, r2⟩ := vals2 r
  cases (show u2 = Value.ref tp from r2)
  cases (show u1 = Value.ref a from r1)
  obtain ⟨⟨oe, vs, ha, hz, hdt⟩, _, _⟩ := I.hok a _ ea
  have J : ∃ od, PySem.W.InstAt s.heap a oe C od := by
    rcases hd with rfl | ⟨d, fs, rfl, ed⟩
    · exact ⟨none, ha, hz.1, by unfold PySem.W.notCls; rw [hdt] <;> rfl, by rw [hz.2]; trivial⟩
    · have hx : ObjOk X.prog X.w H s.heap d (.xd fs) := I.hok d _ ed
      obtain ⟨mA, hns, hr⟩ := hx
      obtain ⟨od, ho, hl⟩ := lookIn_ns hns
      exact ⟨some od, ha, hz.1, by unfold PySem.W.notCls; rw [hdt] <;> rfl, by rw [hz.2]; exact ho⟩
  obtain ⟨od, J⟩ := J
  obtain ⟨_, its, rv, o, h1, h2, n, h3⟩ := (show ObjOk X.prog X.w H s.heap tp (.tup cs) from I.hok tp _ hT)
  have e3 := ClsV.all k rv
  subst e3
  obtain ⟨oc, od2, dt, sl⟩ := o
  simp only at h2 h3
  subst h2 h3
  exact PySem.W.kia_tup (PySem.W.kitx_exc T.cl T.ga T.gg T.hs T.ha T.hn T.ht T.hm) I.kIn J h1 e (fun z => nomatch z) fun tk => ⟨.bl b, H, I.tok tk, rfl, q⟩
def rIsiV (K : PySem.W.Frag) : List V → Hp → VK → Prop := fun xs H Q => rIsiU K xs H Q ∨ rIsXT K xs H Q
theorem de_isiV {p : Pos} (g : Gn X "isinstance") (h : DA B X [a, b] δ M fun ds M1 => CallD (rIsiV X.K) ds M1 Φ) (he : starEach [a, b] X.env = (false, eval a X.env) :: starEach [b] X.env := by rfl) (hpl : (backTo pos (starEach [b] X.env)).any (·.1) = false := by rfl) : DE B X (.Call (.Name "isinstance" p) [a, b] [] pos) δ M Φ := de_blt ((call_isi.or call_isX).or call_isXT) g boot_isinstance h (by decide) (by decide) he hpl
/-- a held exception and two own classes -/
theorem isx_t2 {K : PySem.W.Frag} {C : Addr} {ns : List Str} {fs : List D} {c1 c2 : V} {u1 u2 : Value} {b1 b2 : Bool} (T : ExcP K C) (h1 : ClsV c1 u1) (h2 : ClsV c2 u2) (k1 : PySem.W.kitOne K (.ref C) u1 = some b1) (k2 : PySem.W.kitOne K (.ref C) u2 = some b2) (k : Φ (.bl (b1 || b2)) M) : CallD (rIsiV K) [.exn C ns fs, .tup [.raw c1, .raw c2]] M Φ := .inr fun κ δ σ H vs Q R rs f => by
  cases rs with
  | cons r1 r2 =>
    cases r2 with
    | cons r2 r3 =>
      cases r3
      have kk : PySem.W.kitAny K (.ref C) [u1, u2] = some (b1 || b2) := by
        refine kitAny_cons k1 (fun e => ?_) fun e => by rw [e]; rfl
        rw [e]
        refine kitAny_cons k2 (fun e => ?_) fun e => by rw [e]; rfl
        rw [e]; exact kitAny_nil
      cases r2 with
      | tup hn e2 rr =>
        cases rr with
        | cons q1 rr =>
          cases rr with
          | cons q2 rr =>
            cases rr
            have := ClsD q1
            subst this
            have := ClsD q2
            subst this
            cases r1 with
            | exn0 h3 e1 => exact ⟨_, C, _, none, _, _, _, rfl, e2, .cons h1 (.cons h2 .nil), e1, .inl rfl, T, kk, f _ _ _ _ k R (.bl _)⟩
            | exn h3 e1 h4 e4 hl rr => exact ⟨_, C, _, _, _, _, _, rfl, e2, .cons h1 (.cons h2 .nil), e1, .inr ⟨_, _, rfl, e4⟩, T, kk, f _ _ _ _ k R (.bl _)⟩
end
/-! the name of a handler goes -/
def Uns (δ : Env') (i : Nat) (P : Env' → Prop) : Prop := P (δ.set i none)
theorem ua0 {P : Env' → Prop} {x0 : Option D} {r : Env'} (h : P (none :: r)) : Uns (x0 :: r) 0 P := h
theorem ua1 {P : Env' → Prop} {x0 x1 : Option D} {r : Env'} (h : P (x0 :: none :: r)) : Uns (x0 :: x1 :: r) 1 P := h
theorem ua2 {P : Env' → Prop} {x0 x1 x2 : Option D} {r : Env'} (h : P (x0 :: x1 :: none :: r)) : Uns (x0 :: x1 :: x2 :: r) 2 P := h
theorem ua3 {P : Env' → Prop} {x0 x1 x2 x3 : Option D} {r : Env'} (h : P (x0 :: x1 :: x2 :: none :: r)) : Uns (x0 :: x1 :: x2 :: x3 :: r) 3 P := h
theorem ua4 {P : Env' → Prop} {x0 x1 x2 x3 x4 : Option D} {r : Env'} (h : P (x0 :: x1 :: x2 :: x3 :: none :: r)) : Uns (x0 :: x1 :: x2 :: x3 :: x4 :: r) 4 P := h
theorem ua5 {P : Env' → Prop} {x0 x1 x2 x3 x4 x5 : Option D} {r : Env'} (h : P (x0 :: x1 :: x2 :: x3 :: x4 :: none :: r)) : Uns (x0 :: x1 :: x2 :: x3 :: x4 :: x5 :: r) 5 P := h
theorem ua6 {P : Env' → Prop} {x0 x1 x2 x3 x4 x5 x6 : Option D} {r : Env'} (h : P (x0 :: x1 :: x2 :: x3 :: x4 :: x5 :: none :: r)) : Uns (x0 :: x1 :: x2 :: x3 :: x4 :: x5 :: x6 :: r) 6 P := h
theorem ua7 {P : Env' → Prop} {x0 x1 x2 x3 x4 x5 x6 x7 : Option D} {r : Env'} (h : P (x0 :: x1 :: x2 :: x3 :: x4 :: x5 :: x6 :: none :: r)) : Uns (x0 :: x1 :: x2 :: x3 :: x4 :: x5 :: x6 :: x7 :: r) 7 P := h
theorem ua8 {P : Env' → Prop} {x0 x1 x2 x3 x4 x5 x6 x7 x8 : Option D} {r : Env'} (h : P (x0 :: x1 :: x2 :: x3 :: x4 :: x5 :: x6 :: x7 :: none :: r)) : Uns (x0 :: x1 :: x2 :: x3 :: x4 :: x5 :: x6 :: x7 :: x8 :: r) 8 P := h
theorem ua9 {P : Env' → Prop} {x0 x1 x2 x3 x4 x5 x6 x7 x8 x9 : Option D} {r : Env'} (h : P (x0 :: x1 :: x2 :: x3 :: x4 :: x5 :: x6 :: x7 :: x8 :: none :: r)) : Uns (x0 :: x1 :: x2 :: x3 :: x4 :: x5 :: x6 :: x7 :: x8 :: x9 :: r) 9 P := h
theorem ua10 {P : Env' → Prop} {x0 x1 x2 x3 x4 x5 x6 x7 x8 x9 x10 : Option D} {r : Env'} (h : P (x0 :: x1 :: x2 :: x3 :: x4 :: x5 :: x6 :: x7 :: x8 :: x9 :: none :: r)) : Uns (x0 :: x1 :: x2 :: x3 :: x4 :: x5 :: x6 :: x7 :: x8 :: x9 :: x10 :: r) 10 P := h
theorem ua11 {P : Env' → Prop} {x0 x1 x2 x3 x4 x5 x6 x7 x8 x9 x10 x11 : Option D} {r : Env'} (h : P (x0 :: x1 :: x2 :: x3 :: x4 :: x5 :: x6 :: x7 :: x8 :: x9 :: x10 :: none :: r)) : Uns (x0 :: x1 :: x2 :: x3 :: x4 :: x5 :: x6 :: x7 :: x8 :: x9 :: x10 :: x11 :: r) 11 P := h
theorem ua12 {P : Env' → Prop} {x0 x1 x2 x3 x4 x5 x6 x7 x8 x9 x10 x11 x12 : Option D} {r : Env'} (h : P (x0 :: x1 :: x2 :: x3 :: x4 :: x5 :: x6 :: x7 :: x8 :: x9 :: x10 :: x11 :: none :: r)) : Uns (x0 :: x1 :: x2 :: x3 :: x4 :: x5 :: x6 :: x7 :: x8 :: x9 :: x10 :: x11 :: x12 :: r) 12 P := h
theorem ua13 {P : Env' → Prop} {x0 x1 x2 x3 x4 x5 x6 x7 x8 x9 x10 x11 x12 x13 : Option D} {r : Env'} (h : P (x0 :: x1 :: x2 :: x3 :: x4 :: x5 :: x6 :: x7 :: x8 :: x9 :: x10 :: x11 :: x12 :: none :: r)) : Uns (x0 :: x1 :: x2 :: x3 :: x4 :: x5 :: x6 :: x7 :: x8 :: x9 :: x10 :: x11 :: x12 :: x13 :: r) 13 P := h
theorem ua14 {P : Env' → Prop} {x0 x1 x2 x3 x4 x5 x6 x7 x8 x9 x10 x11 x12 x13 x14 : Option D} {r : Env'} (h : P (x0 :: x1 :: x2 :: x3 :: x4 :: x5 :: x6 :: x7 :: x8 :: x9 :: x10 :: x11 :: x12 :: x13 :: none :: r)) : Uns (x0 :: x1 :: x2 :: x3 :: x4 :: x5 :: x6 :: x7 :: x8 :: x9 :: x10 :: x11 :: x12 :: x13 :: x14 :: r) 14 P := h
theorem ua15 {P : Env' → Prop} {x0 x1 x2 x3 x4 x5 x6 x7 x8 x9 x10 x11 x12 x13 x14 x15 : Option D} {r : Env'} (h : P (x0 :: x1 :: x2 :: x3 :: x4 :: x5 :: x6 :: x7 :: x8 :: x9 :: x10 :: x11 :: x12 :: x13 :: x14 :: none :: r)) : Uns (x0 :: x1 :: x2 :: x3 :: x4 :: x5 :: x6 :: x7 :: x8 :: x9 :: x10 :: x11 :: x12 :: x13 :: x14 :: x15 :: r) 15 P := h
theorem ua16 {P : Env' → Prop} {x0 x1 x2 x3 x4 x5 x6 x7 x8 x9 x10 x11 x12 x13 x14 x15 x16 : Option D} {r : Env'} (h : P (x0 :: x1 :: x2 :: x3 :: x4 :: x5 :: x6 :: x7 :: x8 :: x9 :: x10 :: x11 :: x12 :: x13 :: x14 :: x15 :: none :: r)) : Uns (x0 :: x1 :: x2 :: x3 :: x4 :: x5 :: x6 :: x7 :: x8 :: x9 :: x10 :: x11 :: x12 :: x13 :: x14 :: x15 :: x16 :: r) 16 P := h
theorem ua17 {P : Env' → Prop} {x0 x1 x2 x3 x4 x5 x6 x7 x8 x9 x10 x11 x12 x13 x14 x15 x16 x17 : Option D} {r : Env'} (h : P (x0 :: x1 :: x2 :: x3 :: x4 :: x5 :: x6 :: x7 :: x8 :: x9 :: x10 :: x11 :: x12 :: x13 :: x14 :: x15 :: x16 :: none :: r)) : Uns (x0 :: x1 :: x2 :: x3 :: x4 :: x5 :: x6 :: x7 :: x8 :: x9 :: x10 :: x11 :: x12 :: x13 :: x14 :: x15 :: x16 :: x17 :: r) 17 P := h
theorem ua18 {P : Env' → Prop} {x0 x1 x2 x3 x4 x5 x6 x7 x8 x9 x10 x11 x12 x13 x14 x15 x16 x17 x18 : Option D} {r : Env'} (h : P (x0 :: x1 :: x2 :: x3 :: x4 :: x5 :: x6 :: x7 :: x8 :: x9 :: x10 :: x11 :: x12 :: x13 :: x14 :: x15 :: x16 :: x17 :: none :: r)) : Uns (x0 :: x1 :: x2 :: x3 :: x4 :: x5 :: x6 :: x7 :: x8 :: x9 :: x10 :: x11 :: x12 :: x13 :: x14 :: x15 :: x16 :: x17 :: x18 :: r) 18 P := h
theorem ua19 {P : Env' → Prop} {x0 x1 x2 x3 x4 x5 x6 x7 x8 x9 x10 x11 x12 x13 x14 x15 x16 x17 x18 x19 : Option D} {r : Env'} (h : P (x0 :: x1 :: x2 :: x3 :: x4 :: x5 :: x6 :: x7 :: x8 :: x9 :: x10 :: x11 :: x12 :: x13 :: x14 :: x15 :: x16 :: x17 :: x18 :: none :: r)) : Uns (x0 :: x1 :: x2 :: x3 :: x4 :: x5 :: x6 :: x7 :: x8 :: x9 :: x10 :: x11 :: x12 :: x13 :: x14 :: x15 :: x16 :: x17 :: x18 :: x19 :: r) 19 P := h
theorem ua20 {P : Env' → Prop} {x0 x1 x2 x3 x4 x5 x6 x7 x8 x9 x10 x11 x12 x13 x14 x15 x16 x17 x18 x19 x20 : Option D} {r : Env'} (h : P (x0 :: x1 :: x2 :: x3 :: x4 :: x5 :: x6 :: x7 :: x8 :: x9 :: x10 :: x11 :: x12 :: x13 :: x14 :: x15 :: x16 :: x17 :: x18 :: x19 :: none :: r)) : Uns (x0 :: x1 :: x2 :: x3 :: x4 :: x5 :: x6 :: x7 :: x8 :: x9 :: x10 :: x11 :: x12 :: x13 :: x14 :: x15 :: x16 :: x17 :: x18 :: x19 :: x20 :: r) 20 P := h
theorem ua21 {P : Env' → Prop} {x0 x1 x2 x3 x4 x5 x6 x7 x8 x9 x10 x11 x12 x13 x14 x15 x16 x17 x18 x19 x20 x21 : Option D} {r : Env'} (h : P (x0 :: x1 :: x2 :: x3 :: x4 :: x5 :: x6 :: x7 :: x8 :: x9 :: x10 :: x11 :: x12 :: x13 :: x14 :: x15 :: x16 :: x17 :: x18 :: x19 :: x20 :: none :: r)) : Uns (x0 :: x1 :: x2 :: x3 :: x4 :: x5 :: x6 :: x7 :: x8 :: x9 :: x10 :: x11 :: x12 :: x13 :: x14 :: x15 :: x16 :: x17 :: x18 :: x19 :: x20 :: x21 :: r) 21 P := h
theorem ua22 {P : Env' → Prop} {x0 x1 x2 x3 x4 x5 x6 x7 x8 x9 x10 x11 x12 x13 x14 x15 x16 x17 x18 x19 x20 x21 x22 : Option D} {r : Env'} (h : P (x0 :: x1 :: x2 :: x3 :: x4 :: x5 :: x6 :: x7 :: x8 :: x9 :: x10 :: x11 :: x12 :: x13 :: x14 :: x15 :: x16 :: x17 :: x18 :: x19 :: x20 :: x21 :: none :: r)) : Uns (x0 :: x1 :: x2 :: x3 :: x4 :: x5 :: x6 :: x7 :: x8 :: x9 :: x10 :: x11 :: x12 :: x13 :: x14 :: x15 :: x16 :: x17 :: x18 :: x19 :: x20 :: x21 :: x22 :: r) 22 P := h
theorem ua23 {P : Env' → Prop} {x0 x1 x2 x3 x4 x5 x6 x7 x8 x9 x10 x11 x12 x13 x14 x15 x16 x17 x18 x19 x20 x21 x22 x23 : Option D} {r : Env'} (h : P (x0 :: x1 :: x2 :: x3 :: x4 :: x5 :: x6 :: x7 :: x8 :: x9 :: x10 :: x11 :: x12 :: x13 :: x14 :: x15 :: x16 :: x17 :: x18 :: x19 :: x20 :: x21 :: x22 :: none :: r)) : Uns (x0 :: x1 :: x2 :: x3 :: x4 :: x5 :: x6 :: x7 :: x8 :: x9 :: x10 :: x11 :: x12 :: x13 :: x14 :: x15 :: x16 :: x17 :: x18 :: x19 :: x20 :: x21 :: x22 :: x23 :: r) 23 P := h
theorem endA {Ψ : DEnds} {i : Nat} {δ : Env'} {M : Mem} (h : Uns δ i fun δ' => Ψ.nx δ' M) : (endsD (some i) Ψ).nx δ M := h
theorem idUns {δ : Env'} {i : Nat} {P : Env' → Prop} (h : Uns δ i P) : Uns δ i P := h
/-! x in xs, a list of ints -/
section
variable {M : Mem} {Φ : D → Mem → Prop} {y : D}
theorem inV_ints (z : Int) : ∀ zs : List Int, inV (.int z) (zs.map .int) = decide (z ∈ zs)
  | [] => by simp [inV]
  | w :: zs => by
    have ih := inV_ints z zs
    unfold inV at ih ⊢
    rw [List.map_cons, List.any_cons, ih]
    show ((w == z) || _) = _
    by_cases h : w = z
    · subst h; simp
    · simp [h, Ne.symm h, beq_eq_false_iff_ne.mpr h]
theorem flat_ints : ∀ zs : List Int, (zs.map V.int).all flatV = true
  | [] => rfl
  | _ :: zs => flat_ints zs
theorem od_inN {K : PySem.W.Frag} {z : Int} {zs : List Int} (h : IsL M y (zs.map .int)) (k : Φ (.bl (decide (z ∈ zs))) M) : OpD (rInU K) (.int z) y M Φ := .inr (OpD.inl (fun κ δ σ H v w Q R rv rw' f => by
  cases rv
  obtain ⟨p, us, rfl, e1, rr⟩ := h.sq R rw'
  have := rr.ints
  subst this
  refine ⟨p, _, rfl, .inl (SqL.of e1), rfl, flat_ints zs, ?_⟩
  show Q (.bl (inV _ _)) H
  rw [inV_ints]
  exact f _ _ M H k R (.bl _)))
theorem od_notinN {K : PySem.W.Frag} {z : Int} {zs : List Int} (h : IsL M y (zs.map .int)) (k : Φ (.bl (!decide (z ∈ zs))) M) : OpD (rNotInU K) (.int z) y M Φ := .inr (OpD.inl (fun κ δ σ H v w Q R rv rw' f => by
  cases rv
  obtain ⟨p, us, rfl, e1, rr⟩ := h.sq R rw'
  have := rr.ints
  subst this
  refine ⟨p, _, rfl, .inl (SqL.of e1), rfl, flat_ints zs, ?_⟩
  show Q (.bl (!inV _ _)) H
  rw [inV_ints]
  exact f _ _ M H k R (.bl _)))
end
end Hl
namespace Hl
open PySem L2
section
variable {K : PySem.W.Frag} {C : Addr} {cls : Value} {b : Bool}
theorem kcls_ref (hd : PySem.W.hasDictIn K C = true) (ht : PySem.W.typeIn K (.ref C) = some (.type "type")) (h : PySem.W.subIn K cls (.ref C) = some b) : PySem.W.kitCls K cls (.ref C) = some b := by
  obtain ⟨cd, hc, _⟩ := PySem.W.any_some hd
  have e2 : ((PySem.W.clsIn K C).isSome && PySem.W.typeIn K (.ref C) == some (.type "type")) = true := by rw [hc, ht] <;> rfl
  show (if ((PySem.W.clsIn K C).isSome && PySem.W.typeIn K (.ref C) == some (.type "type")) = true then PySem.W.subIn K cls (.ref C) else none) = some b
  rw [if_pos e2]
  exact h
theorem exm_mk (h1 : PySem.W.subIn K (.ref C) (.type "BaseException") = some true) (hd : PySem.W.hasDictIn K C = true) (ht : PySem.W.typeIn K (.ref C) = some (.type "type")) (h : PySem.W.subIn K cls (.ref C) = some b) : PySem.W.exmOne K cls (.ref C) = some b := by
  have e1 : (PySem.W.subIn K (.ref C) (.type "BaseException") == some true) = true := by rw [h1] <;> rfl
  unfold PySem.W.exmOne
  rw [if_pos e1]
  exact kcls_ref hd ht h
theorem kit_ref (hd : PySem.W.hasDictIn K C = true) (ht : PySem.W.typeIn K (.ref C) = some (.type "type")) (h : PySem.W.subIn K cls (.ref C) = some b) (hs : PySem.W.subIn K (.ref C) (.ref C) = some true) : PySem.W.kitOne K cls (.ref C) = some b := by
  unfold PySem.W.kitOne
  split
  · next e =>
    have e := beq_iff_eq.mp e
    cases b with
    | true => rfl
    | false =>
      rw [e, hs] at h
      cases h
  · exact kcls_ref hd ht h
theorem kit_same : PySem.W.kitOne K (.ref C) (.ref C) = some true := by
  unfold PySem.W.kitOne
  rw [if_pos (beq_self_eq_true _)]
theorem kit_bt {T : String} (hm : PySem.W.kitMeta T = true) (h : PySem.W.subIn K (.ref C) (.type T) = some b) : PySem.W.kitOne K (.ref C) (.type T) = some b := by
  unfold PySem.W.kitOne
  rw [if_neg (by intro e; cases (beq_iff_eq.mp e))]
  show (if PySem.W.kitMeta T = true then PySem.W.subIn K (.ref C) (.type T) else none) = some b
  rw [if_pos hm]
  exact h
theorem cls_some (hd : PySem.W.hasDictIn K C = true) : (PySem.W.clsIn K C).isSome = true := by
  obtain ⟨cd, hc, _⟩ := PySem.W.any_some hd
  rw [hc]; rfl
end
end Hl
namespace Hl
open PySem L2
open PyProof.Rows hiding St
section
variable {B : Bx} {X : Cx} {e a b c o : Expr} {es rest : List Expr} {st : Stmt} {sts : List Stmt} {δ δ' : Env'} {M : Mem} {Φ : D → Mem → Prop} {Ψ : DEnds} {pos pos' apos cpos pp np : Pos} {d x y : D} {ΦB : Bool → Mem → Prop}
/-! ### dicts -/
theorem look_none {k : Key} : ∀ {ws : List (Key × V)} {kvs : List (Key × D)}, ws.map (·.1) = kvs.map (·.1) → lookD kvs k = none → valV ws k = none
  | [], [], _, _ => rfl
  | [], _ :: _, h, _ => by cases h
  | _ :: _, [], h, _ => by cases h
  | (k1, v) :: ws, (k2, d') :: kvs, h, e => by
    have h1 : k1 = k2 := (List.cons.inj h).1
    have h2 : ws.map (·.1) = kvs.map (·.1) := (List.cons.inj h).2
    subst h1
    unfold lookD at e
    unfold valV
    by_cases hk : k1 = k
    · rw [List.find?_cons_of_pos (by simpa using hk)] at e
      cases e
    · rw [List.find?_cons_of_neg (by simpa using hk)] at e ⊢
      exact look_none h2 e
/-- x = {}: a cell at place k -/
theorem de_dnew (k : Nat) (h : ∀ p : Addr, Φ (.raw (.ref p)) (insM k (p, .dct []) M)) : DE B X (.Dict [] [] pos) δ M Φ := .of pe_dnewK fun κ σ H Q hb R kk p hp =>
  kk _ _ _ _ (h p) ((R.dct (kvs := []) (ws := []) hp rfl .nil).perm insM_perm) (.raw _)
/-- a dict, by its cell -/
inductive IsDc (M : Mem) : D → List (Key × D) → Prop
  | cell {p : Addr} {kvs : List (Key × D)} (j : Nat) (h : M[j]? = some (p, .dct kvs)) : IsDc M (.raw (.ref p)) kvs
  | lock {p : Addr} {o : Obj} {ws : List (Key × V)} {kvs : List (Key × D)} (j : Nat) (h : M[j]? = some (p, .fdc o ws kvs)) : IsDc M (.raw (.ref p)) kvs
  | inm {p : Addr} {kvs : List (Key × D)} (h : InM M p (.dct kvs)) : IsDc M (.raw (.ref p)) kvs
  | inmL {p : Addr} {o : Obj} {ws : List (Key × V)} {kvs : List (Key × D)} (h : InM M p (.fdc o ws kvs)) : IsDc M (.raw (.ref p)) kvs
  | val (kvs : List (Key × D)) : IsDc M (.fd (kvs.map (·.1)) (kvs.map (·.2))) kvs
theorem IsDc.sq {κ : List (V × D)} {σ : St} {H : Hp} {v : V} {x : D} {kvs : List (Key × D)} (h : IsDc M x kvs) (R : Rs κ δ M σ H) (r : Rep M.F H v x) : ∃ p ws, v = .ref p ∧ Rd H p (.dK ws) ∧ ws.map (·.1) = kvs.map (·.1) ∧ Reps M.F H (ws.map (·.2)) (kvs.map (·.2)) := by
  cases h with
  | cell j h =>
    cases r
    obtain ⟨ws, e1, e2, r1⟩ := R.at h
    exact ⟨_, ws, rfl, .inl e1, e2, r1⟩
  | lock j h =>
    cases r
    obtain ⟨e1, e2, r1⟩ := R.at h
    exact ⟨_, _, rfl, .inr ⟨_, e1⟩, e2, r1⟩
  | inm h =>
    cases r
    obtain ⟨ws, e1, e2, r1⟩ := h.ok R
    exact ⟨_, ws, rfl, .inl e1, e2, r1⟩
  | inmL h =>
    cases r
    obtain ⟨e1, e2, r1⟩ := h.ok R
    exact ⟨_, _, rfl, .inr ⟨_, e1⟩, e2, r1⟩
  | val kvs =>
    cases r with
    | fd h e e1 e2 r1 => subst e2; exact ⟨_, _, rfl, .inr ⟨_, e⟩, e1, r1⟩
theorem val_rep {F : List Addr} {H : Hp} {k : Key} {ws : List (Key × V)} {kvs : List (Key × D)} (h : ws.map (·.1) = kvs.map (·.1)) (r : Reps F H (ws.map (·.2)) (kvs.map (·.2))) : (lookD kvs k = none ∧ valV ws k = none) ∨ ∃ v d, valV ws k = some v ∧ lookD kvs k = some d ∧ Rep F H v d := by
  cases e : lookD kvs k with
  | none => exact .inl ⟨rfl, look_none h e⟩
  | some d =>
    obtain ⟨v, e1, r1⟩ := look_rep h r e
    exact .inr ⟨v, d, e1, rfl, r1⟩
def GtD (x y w : D) (M : Mem) (Φ : D → Mem → Prop) : Prop := ∃ kvs k, IsDc M x kvs ∧ y = kD k ∧ Φ ((lookD kvs k).getD w) M
/-- d.get(k, x) -/
theorem de_dget2 {n : Nat} (z : Cz X n) (h : DE B X o δ M fun x M1 => (∃ kvs, IsDc M1 x kvs) ∧ DE B X a δ M1 fun y M2 => DE B X b δ M2 fun w M3 => GtD x y w M3 Φ)
    (hbase : attributeBase o "get" X.env (eval o X.env) = eval o X.env := by rfl)
    (hfew : ((backTo cpos (starEach [a, b] X.env)).all (fun x => !x.1) && (backToKw cpos (keywordEach [] X.env)).all (fun x => x.1.isSome)
      && decide (([a, b] : List Expr).length + ([] : List Keyword).length + (if ([] : List Keyword).isEmpty then 0 else 1) < 30)) = true := by rfl)
    (hline : (apos.endLine == cpos.line) = true := by rfl) (htr : backTo cpos (starEach [a, b] X.env) = [(false, eval a X.env), (false, eval b X.env)] := by rfl) : DE B X (.Call (.Attribute o "get" apos) [a, b] [] cpos) δ M Φ :=
  .of (pe_dget2 (un1 z) cE cE cE ⟨hbase, hfew, hline, htr⟩) fun κ σ H Q hb R kk => h κ σ H _ hb R fun v x M1 H1 ⟨⟨kvs0, d0⟩, q1⟩ R1 r1 => by
    obtain ⟨p, ws0, rfl, e0, _⟩ := d0.sq R1 r1
    refine ⟨p, rfl, .inl ⟨ws0, e0⟩, q1 ((.ref p, x) :: κ) σ H1 _ (fun q hq => List.mem_cons_of_mem _ (hb q hq)) (R1.push r1) fun vy y M2 H2 q2 R2 r2 => ?_⟩
    refine q2 ((vy, y) :: (.ref p, x) :: κ) σ H2 _ (fun q hq => List.mem_cons_of_mem _ (List.mem_cons_of_mem _ (hb q hq))) (R2.push r2) fun vw w M3 H3 ⟨kvs, k, hd, ey, q3⟩ R3 r3 => ?_
    obtain ⟨p', ws, ep, e1, e2, rr⟩ := hd.sq R3 R3.pop.top
    cases ep
    have hy := R3.top
    subst ey
    have := rep_k hy
    subst this
    refine ⟨_, .inl ⟨ws, k, e1, rfl, rfl⟩, ?_⟩
    rcases val_rep (k := k) e2 rr with ⟨n1, n2⟩ | ⟨v, d, s1, s2, rv⟩
    · rw [n1] at q3; rw [n2]; exact kk _ _ _ _ q3 R3.pop.pop r3
    · rw [s2] at q3; rw [s1]; exact kk _ _ _ _ q3 R3.pop.pop rv
theorem isd_c {p : Addr} {kvs : List (Key × D)} {P : Prop} (j : Nat) (hm : M[j]? = some (p, .dct kvs)) (k : P) : (∃ kvs, IsDc M (.raw (.ref p)) kvs) ∧ P := ⟨⟨kvs, .cell j hm⟩, k⟩
theorem dg_i {p : Addr} {kvs : List (Key × D)} {i : Int} (j : Nat) (hm : M[j]? = some (p, .dct kvs)) (k : Φ ((lookD kvs (.inl i)).getD d) M) : GtD (.raw (.ref p)) (.int i) d M Φ := ⟨kvs, .inl i, .cell j hm, rfl, k⟩
theorem dg_s {p : Addr} {kvs : List (Key × D)} {i : Str} (j : Nat) (hm : M[j]? = some (p, .dct kvs)) (k : Φ ((lookD kvs (.inr i)).getD d) M) : GtD (.raw (.ref p)) (.str i) d M Φ := ⟨kvs, .inr i, .cell j hm, rfl, k⟩
end
end Hl
namespace Hl
open PySem L2
section
variable {M : Mem} {Φ : D → Mem → Prop} {ΦM : Mem → Prop} {x d : D} {α : Type} {l : List α} {f : α → D} {i : Int} {p : Addr} {K : PySem.W.Frag}
theorem od_ixEC (j : Nat) (hm : M[j]? = some (p, .lst (l.map f))) (h : 0 ≤ i ∧ i < l.length) (k : ∀ y, l[i.toNat]? = some y → Φ (f y) M) : OpD (rIxU K) (.raw (.ref p)) (.int i) M Φ := by
  obtain ⟨y, h1, h2⟩ := at_map (f := f) h.1 h.2
  exact od_ixC hm h2 (k y h1)
theorem cd_lenLM (h : IsL M x (l.map f)) (k : Φ (.int (l.length : Nat)) M) : CallD (rLenU K) [x] M Φ := cd_lenL h (by rw [List.length_map]; exact k)
theorem sd_listE {y : α} (j : Nat) (hm : M[j]? = some (p, .lst (l.map f))) (h : 0 ≤ i ∧ i < l.length) (hd : d = f y) (k : ΦM (M.set j (p, .lst ((l.set i.toNat y).map f)))) : SetD (.raw (.ref p)) (.int i) d M ΦM := by
  refine sd_list (m := i.toNat) hm ?_ (by rw [hd, ← List.map_set]; exact k)
  rw [List.length_map]
  obtain ⟨n, rfl⟩ : ∃ n : Nat, i = (n : Int) := ⟨i.toNat, by omega⟩
  exact ixN_nat' (by omega)
theorem sd_dictI {kvs : List (Key × D)} (j : Nat) (hm : M[j]? = some (p, .dct kvs)) (hl : kvs.length < sizeLine) (k : ΦM (M.set j (p, .dct (putD kvs (.inl i) d)))) : SetD (.raw (.ref p)) (.int i) d M ΦM := sd_dict (k := .inl i) j hm rfl hl k
theorem sd_dictS {kvs : List (Key × D)} {z : Str} (j : Nat) (hm : M[j]? = some (p, .dct kvs)) (hl : kvs.length < sizeLine) (k : ΦM (M.set j (p, .dct (putD kvs (.inr z) d)))) : SetD (.raw (.ref p)) (.str z) d M ΦM := sd_dict (k := .inr z) j hm rfl hl k
end
end Hl
namespace Hl
open PySem L2
open PyProof.Rows hiding St
/-! ### a op b op c .. of ints -/
def relOf : CmpOp → R2
  | .Lt => rLtU
  | .LtE => rLeU
  | .Gt => rGtU
  | .GtE => rGeU
  | _ => fun _ _ _ _ => False
theorem op_rel {X : Cx} : ∀ op : CmpOp, OpR X (compareOp op) (relOf op)
  | .Lt => op_lt
  | .LtE => op_le
  | .Gt => op_gt
  | .GtE => op_ge
  | .Eq => fun _ _ _ _ _ _ _ _ _ _ _ _ h => h.elim
  | .NotEq => fun _ _ _ _ _ _ _ _ _ _ _ _ h => h.elim
  | .Is => fun _ _ _ _ _ _ _ _ _ _ _ _ h => h.elim
  | .IsNot => fun _ _ _ _ _ _ _ _ _ _ _ _ h => h.elim
  | .In => fun _ _ _ _ _ _ _ _ _ _ _ _ h => h.elim
  | .NotIn => fun _ _ _ _ _ _ _ _ _ _ _ _ h => h.elim
def DLk (B : Bx) (X : Cx) : List CmpOp → List Expr → D → Env' → Mem → (Bool → Mem → Prop) → Prop
  | [op], [b], x, δ, M, Φ => DE B X b δ M fun y M1 => OpD (relOf op) x y M1 (toB Φ)
  | op :: op' :: ops, b :: b' :: bs, x, δ, M, Φ => DE B X b δ M fun y M1 => OpD (relOf op) x y M1 (toB fun t M2 => Br t (DLk B X (op' :: ops) (b' :: bs) y δ M2 Φ) (Φ false M2))
  | _, _, _, _, _, _ => False
section
variable {B : Bx} {X : Cx} {a b b' : Expr} {bs : List Expr} {op op' : CmpOp} {ops : List CmpOp} {δ : Env'} {M : Mem} {Φ : D → Mem → Prop} {ΦB : Bool → Mem → Prop} {pos : Pos} {x : D}
theorem lk_test : ∀ {ops : List CmpOp} {bs : List Expr} {x : D} {v : V} {u : Value} {M : Mem} {κ : List (V × D)} {σ : St} {H : Hp} {s : Shared} {pins : List (Addr × Obj)} {Q : Bool → Hp → Prop}, DLk B X ops bs x δ M ΦB → Inv X pins σ H s → RelV v u → (∀ q ∈ B.ps, q ∈ κ) → Rs κ δ M σ H → Rep M.F H v x → (∀ t M' H', ΦB t M' → Rs κ δ M' σ H' → Q t H') →
    wpAny (model X.prog X.w) X.A (testChain pos u ops (evalEach bs X.env)) (TP X pins σ Q) X.xe s
  | [op], [b], x, v, u, M, κ, σ, H, s, pins, Q, h, I, rv, hb, R, r, k => by
    refine test_last (thn ((cE (X := X) (e := b)).run pins s σ H (fun w H1 => ∃ y M1, OpD (relOf op) x y M1 (toB ΦB) ∧ Rs ((v, x) :: κ) δ M1 σ H1 ∧ Rep M1.F H1 w y) I (h ((v, x) :: κ) σ H _ (fun q hq => List.mem_cons_of_mem _ (hb q hq)) (R.push r) fun w y M1 H1 q R1 r1 => ⟨y, M1, q, R1, r1⟩)) fun u' s1 ⟨w, H1, I1, rw', y, M1, q, R1, r1⟩ => ?_)
    refine thn (op_rel op pins s1 σ H1 v w u u' (fun z H2 => ∃ t, z = .bl t ∧ Q t H2) I1 rv rw' (q κ δ σ H1 v w _ R1.pop R1.top r1 fun z d M2 H2 ⟨t, ed, q2⟩ R2 r2 => by subst ed; cases r2; exact ⟨t, rfl, k t M2 H2 q2 R2⟩)) fun c s2 ⟨z, H2, I2, r2, t, e, q2⟩ => ?_
    subst e
    cases r2
    exact wpAny_truthy_bool ⟨H2, I2, q2⟩
  | op :: op' :: ops, b :: b' :: bs, x, v, u, M, κ, σ, H, s, pins, Q, h, I, rv, hb, R, r, k => by
    refine test_link (thn ((cE (X := X) (e := b)).run pins s σ H (fun w H1 => ∃ y M1, OpD (relOf op) x y M1 (toB fun t M2 => Br t (DLk B X (op' :: ops) (b' :: bs) y δ M2 ΦB) (ΦB false M2)) ∧ Rs ((v, x) :: κ) δ M1 σ H1 ∧ Rep M1.F H1 w y) I (h ((v, x) :: κ) σ H _ (fun q hq => List.mem_cons_of_mem _ (hb q hq)) (R.push r) fun w y M1 H1 q R1 r1 => ⟨y, M1, q, R1, r1⟩)) fun u' s1 ⟨w, H1, I1, rw', y, M1, q, R1, r1⟩ => ?_)
    refine thn (op_rel op pins s1 σ H1 v w u u' (fun z H2 => ∃ t M2, z = .bl t ∧ Br t (DLk B X (op' :: ops) (b' :: bs) y δ M2 ΦB) (ΦB false M2) ∧ Rs ((w, y) :: κ) δ M2 σ H2) I1 rv rw' (q ((w, y) :: κ) δ σ H1 v w _ (R1.pop.push r1) R1.top r1 fun z d M2 H2 ⟨t, ed, q2⟩ R2 r2 => by subst ed; cases r2; exact ⟨t, M2, rfl, q2, R2⟩)) fun c s2 ⟨z, H2, I2, r2, t, M2, e, q2, R2⟩ => ?_
    subst e
    cases r2
    refine wpAny_truthy_bool ?_
    cases t with
    | false => exact ite_ff ⟨H2, I2, k _ _ _ (q2.2 rfl) R2.pop⟩
    | true => exact ite_tt (lk_test (q2.1 rfl) I2 rw' hb R2.pop R2.top k)
  | [], _, _, _, _, _, _, _, _, _, _, _, h, _, _, _, _, _, _ => h.elim
  | [_], [], _, _, _, _, _, _, _, _, _, _, h, _, _, _, _, _, _ => h.elim
  | [_], _ :: _ :: _, _, _, _, _, _, _, _, _, _, _, h, _, _, _, _, _, _ => h.elim
  | _ :: _ :: _, [], _, _, _, _, _, _, _, _, _, _, h, _, _, _, _, _, _ => h.elim
  | _ :: _ :: _, [_], _, _, _, _, _, _, _, _, _, _, h, _, _, _, _, _, _ => h.elim
theorem lk_val : ∀ {ops : List CmpOp} {bs : List Expr} {x : D} {v : V} {u : Value} {M : Mem} {κ : List (V × D)} {σ : St} {H : Hp} {s : Shared} {pins : List (Addr × Obj)} {Q : VK}, DLk B X ops bs x δ M ΦB → Inv X pins σ H s → RelV v u → (∀ q ∈ B.ps, q ∈ κ) → Rs κ δ M σ H → Rep M.F H v x → (∀ t M' H', ΦB t M' → Rs κ δ M' σ H' → Q (.bl t) H') →
    wpAny (model X.prog X.w) X.A (compareChain pos u ops (evalEach bs X.env)) (EP X pins σ Q) X.xe s
  | [op], [b], x, v, u, M, κ, σ, H, s, pins, Q, h, I, rv, hb, R, r, k => by
    refine chain_last (thn ((cE (X := X) (e := b)).run pins s σ H (fun w H1 => ∃ y M1, OpD (relOf op) x y M1 (toB ΦB) ∧ Rs ((v, x) :: κ) δ M1 σ H1 ∧ Rep M1.F H1 w y) I (h ((v, x) :: κ) σ H _ (fun q hq => List.mem_cons_of_mem _ (hb q hq)) (R.push r) fun w y M1 H1 q R1 r1 => ⟨y, M1, q, R1, r1⟩)) fun u' s1 ⟨w, H1, I1, rw', y, M1, q, R1, r1⟩ => ?_)
    exact op_rel op pins s1 σ H1 v w u u' Q I1 rv rw' (q κ δ σ H1 v w _ R1.pop R1.top r1 fun z d M2 H2 ⟨t, ed, q2⟩ R2 r2 => by subst ed; cases r2; exact k t M2 H2 q2 R2)
  | op :: op' :: ops, b :: b' :: bs, x, v, u, M, κ, σ, H, s, pins, Q, h, I, rv, hb, R, r, k => by
    refine chain_link (thn ((cE (X := X) (e := b)).run pins s σ H (fun w H1 => ∃ y M1, OpD (relOf op) x y M1 (toB fun t M2 => Br t (DLk B X (op' :: ops) (b' :: bs) y δ M2 ΦB) (ΦB false M2)) ∧ Rs ((v, x) :: κ) δ M1 σ H1 ∧ Rep M1.F H1 w y) I (h ((v, x) :: κ) σ H _ (fun q hq => List.mem_cons_of_mem _ (hb q hq)) (R.push r) fun w y M1 H1 q R1 r1 => ⟨y, M1, q, R1, r1⟩)) fun u' s1 ⟨w, H1, I1, rw', y, M1, q, R1, r1⟩ => ?_)
    refine thn (op_rel op pins s1 σ H1 v w u u' (fun z H2 => ∃ t M2, z = .bl t ∧ Br t (DLk B X (op' :: ops) (b' :: bs) y δ M2 ΦB) (ΦB false M2) ∧ Rs ((w, y) :: κ) δ M2 σ H2) I1 rv rw' (q ((w, y) :: κ) δ σ H1 v w _ (R1.pop.push r1) R1.top r1 fun z d M2 H2 ⟨t, ed, q2⟩ R2 r2 => by subst ed; cases r2; exact ⟨t, M2, rfl, q2, R2⟩)) fun c s2 ⟨z, H2, I2, r2, t, M2, e, q2, R2⟩ => ?_
    subst e
    cases r2
    refine wpAny_truthy_bool ?_
    cases t with
    | false => exact ite_ff ⟨.bl false, H2, I2, rfl, k _ _ _ (q2.2 rfl) R2.pop⟩
    | true => exact ite_tt (lk_val (q2.1 rfl) I2 rw' hb R2.pop R2.top k)
  | [], _, _, _, _, _, _, _, _, _, _, _, h, _, _, _, _, _, _ => h.elim
  | [_], [], _, _, _, _, _, _, _, _, _, _, h, _, _, _, _, _, _ => h.elim
  | [_], _ :: _ :: _, _, _, _, _, _, _, _, _, _, _, h, _, _, _, _, _, _ => h.elim
  | _ :: _ :: _, [], _, _, _, _, _, _, _, _, _, _, h, _, _, _, _, _, _ => h.elim
  | _ :: _ :: _, [_], _, _, _, _, _, _, _, _, _, _, h, _, _, _, _, _, _ => h.elim
theorem dt_chn (h : DE B X a δ M fun x M1 => DLk B X (op :: op' :: ops) (b :: b' :: bs) x δ M1 ΦB) (hm : lastMarks (op :: op' :: ops) (b :: b' :: bs) = false := by with_unfolding_all rfl) : DT B X (.Compare a (op :: op' :: ops) (b :: b' :: bs) pos) δ M ΦB := by
  intro κ σ H Q hb R k
  unfold tT
  intro pins s I
  refine isTrue_chain (thn ((cE (X := X) (e := a)).run pins s σ H (fun v H1 => ∃ x M1, DLk B X (op :: op' :: ops) (b :: b' :: bs) x δ M1 ΦB ∧ Rs κ δ M1 σ H1 ∧ Rep M1.F H1 v x) I (h κ σ H _ hb R fun v x M1 H1 q R1 r1 => ⟨x, M1, q, R1, r1⟩)) fun u s1 ⟨v, H1, I1, rv, x, M1, q, R1, r1⟩ => ?_) hm
  exact lk_test q I1 rv hb R1 r1 fun t M' H' q' R' => k t M' H' q' R'
theorem de_chn (h : DE B X a δ M fun x M1 => DLk B X (op :: op' :: ops) (b :: b' :: bs) x δ M1 fun t M2 => Φ (.bl t) M2) (hm : lastMarks (op :: op' :: ops) (b :: b' :: bs) = false := by with_unfolding_all rfl) : DE B X (.Compare a (op :: op' :: ops) (b :: b' :: bs) pos) δ M Φ := by
  intro κ σ H Q hb R k
  unfold tE
  intro pins s I
  refine Compare_chain (thn ((cE (X := X) (e := a)).run pins s σ H (fun v H1 => ∃ x M1, (DLk B X (op :: op' :: ops) (b :: b' :: bs) x δ M1 fun t M2 => Φ (.bl t) M2) ∧ Rs κ δ M1 σ H1 ∧ Rep M1.F H1 v x) I (h κ σ H _ hb R fun v x M1 H1 q R1 r1 => ⟨x, M1, q, R1, r1⟩)) fun u s1 ⟨v, H1, I1, rv, x, M1, q, R1, r1⟩ => ?_) hm
  exact lk_val q I1 rv hb R1 r1 fun t M' H' q' R' => k _ _ M' H' q' R' (.bl _)
theorem lk1le {i : Int} (h : DE B X b δ M fun y M1 => OpD rLeU (.int i) y M1 (toB ΦB)) : DLk B X [.LtE] [b] (.int i) δ M ΦB := h
theorem lk1lt {i : Int} (h : DE B X b δ M fun y M1 => OpD rLtU (.int i) y M1 (toB ΦB)) : DLk B X [.Lt] [b] (.int i) δ M ΦB := h
theorem lk1gt {i : Int} (h : DE B X b δ M fun y M1 => OpD rGtU (.int i) y M1 (toB ΦB)) : DLk B X [.Gt] [b] (.int i) δ M ΦB := h
theorem lk1ge {i : Int} (h : DE B X b δ M fun y M1 => OpD rGeU (.int i) y M1 (toB ΦB)) : DLk B X [.GtE] [b] (.int i) δ M ΦB := h
theorem lkle (h : DE B X b δ M fun y M1 => OpD rLeU x y M1 (toB fun t M2 => Br t (DLk B X (op' :: ops) (b' :: bs) y δ M2 ΦB) (ΦB false M2))) : DLk B X (.LtE :: op' :: ops) (b :: b' :: bs) x δ M ΦB := h
theorem lklt (h : DE B X b δ M fun y M1 => OpD rLtU x y M1 (toB fun t M2 => Br t (DLk B X (op' :: ops) (b' :: bs) y δ M2 ΦB) (ΦB false M2))) : DLk B X (.Lt :: op' :: ops) (b :: b' :: bs) x δ M ΦB := h
theorem lkgt (h : DE B X b δ M fun y M1 => OpD rGtU x y M1 (toB fun t M2 => Br t (DLk B X (op' :: ops) (b' :: bs) y δ M2 ΦB) (ΦB false M2))) : DLk B X (.Gt :: op' :: ops) (b :: b' :: bs) x δ M ΦB := h
theorem lkge (h : DE B X b δ M fun y M1 => OpD rGeU x y M1 (toB fun t M2 => Br t (DLk B X (op' :: ops) (b' :: bs) y δ M2 ΦB) (ΦB false M2))) : DLk B X (.GtE :: op' :: ops) (b :: b' :: bs) x δ M ΦB := h
theorem idLk (h : DLk B X ops bs x δ M ΦB) : DLk B X ops bs x δ M ΦB := h
end
end Hl
namespace Hl
open PySem L2
open PyProof.Rows hiding St
section
variable {B : Bx} {X : Cx} {e a b c o : Expr} {es rest : List Expr} {kw : Keyword} {kws : List Keyword} {st : Stmt} {sts body suite : List Stmt} {δ δ' : Env'} {M : Mem} {Φ : D → Mem → Prop} {Ψ : DEnds} {pos pos' apos pp np : Pos} {d x y : D} {ΦL : List D → Mem → Prop}
theorem fld_o {K : PySem.W.Frag} {f : Str} {C : Addr} {ns : List Str} {fs : List D} (io : IsO M x C ns fs) (ff : FldP K C f) (l : (ns.zip fs).lookup f = some d) (k : Φ d M) : FldD K f x M Φ := .inl ⟨C, ns, fs, d, io, ff, l, k⟩
theorem mt_o {m k n : Nat} {mn : Str} {C : Addr} {ns ks : List Str} {fs : List D} {sel : Sel} {p : DSpE} {Ξ : XPost} (io : IsO M x C ns fs) (f : MethEX X k C mn n ks sel p) (hk : k ≤ m) (lt : Lets X B δ Ξ) (pl : PlA X pos es kws ks) (hn : ns.contains mn = false)
    (h : DAK B X es kws δ M fun ds zs M' => ds.length = n ∧ zs.length = ks.length ∧ p (selD sel (x :: ds ++ zs)) M' Φ Ξ) : MtE B X m pos es kws mn δ x M Φ := ⟨C, k, n, ks, sel, p, Ξ, f, hk, lt, pl, ⟨ns, fs, io, hn⟩, h⟩
/-- behind an expression the state may be looked at otherwise -/
theorem DE.vw (h : DE B X e δ M fun d M' => ∃ d2 M2, Vw d M' d2 M2 ∧ Φ d2 M2) : DE B X e δ M Φ := fun κ σ H Q hb R k => h κ σ H Q hb R fun v d M' H' ⟨d2, M2, hv, q⟩ R' r' => let ⟨R2, r2⟩ := hv κ δ σ H' v R' r'; k v d2 M2 H' q R2 r2
/-- what becomes of a new object: kept as a cell, or frozen -/
def Made (a : Addr) (Φ : D → Mem → Prop) : D → Mem → Prop := fun d M2 => d = .non ∧ ∃ d2 M3, Vw (.raw (.ref a)) M2 d2 M3 ∧ Φ d2 M3
theorem de_kU {k m n : Nat} {x : Str} {ks : List Str} {sel : Sel} {p : DSpE} {Ξ : XPost} {C : Addr} (j : Nat) (z : Cz X m) (f : MakeEX X k x C n ks sel p) (hk : k + 1 ≤ m) (hg : Gl X x) (lt : Lets X B δ Ξ)
    (h : DAK B X es kws δ M fun ds zs M' => ds.length = n ∧ zs.length = ks.length ∧ ∀ a, p (selD sel (.raw (.ref a) :: ds ++ zs)) (insM j (a, .obj C [] []) M') (Made a Φ) Ξ) (pl : PlA X pos es kws ks) (hdb : (x == ("__debug__" : Str)) = false := by decide) : DE B X (.Call (.Name x pp) es kws pos) δ M Φ :=
  .vw (de_kE j z f hk hg lt h pl hdb)
theorem Made.cell {a : Addr} (k : Φ (.raw (.ref a)) M) : Made a Φ .non M := ⟨rfl, _, _, .refl, k⟩
theorem Made.val {a C : Addr} {ns : List Str} {ds : List D} (j : Nat) (hm : M[j]? = some (a, .obj C ns ds)) (k : Φ (.obj C ns ds) (M.eraseIdx j)) : Made a Φ .non M := ⟨rfl, _, _, .frzO j hm, k⟩
end
end Hl
namespace Hl
open PySem L2
open PyProof.Rows hiding St
section
variable {B : Bx} {X : Cx} {e a b c o : Expr} {es rest : List Expr} {st : Stmt} {sts body suite : List Stmt} {δ δ' : Env'} {M : Mem} {Φ : D → Mem → Prop} {Ψ : DEnds} {pos pos' apos pp np px py pz pt pt2 : Pos} {d : D} {x y w : Str} {kt k2 : Nat}
theorem sws2 (hx : X.env.kindOf x = some .local) (hy : X.env.kindOf y = some .local) (hk : X.env.blockKind = .function) (hne : (x == y) = false) (hl : (py.line == px.line) = true) (h1 : ([a, b].any fun | .Starred .. => true | _ => false) = false) (h2 : [a, b].all (foldedForSure 8) = false) (h3 : [a, b].all (constantsAlone 8) = false) :
    swappedStores [.Tuple [.Name x px, .Name y py] kt pt] (.Tuple [a, b] k2 pt2) X.env = pure (some [x, y]) := by
  have hyx : (y == x) = false := by
    rw [Bool.eq_false_iff] at hne ⊢
    intro h; exact hne (by rw [beq_iff_eq] at h ⊢; exact h.symm)
  unfold swappedStores
  simp only [bind_pure_comp, pure_bind]
  rw [if_neg (by simp [hk])]
  rw [if_neg (by intro h; exact absurd (h1.symm.trans h) (by decide))]
  have hn : ([Expr.Name x px, Expr.Name y py].filterMap fun
    | .Name id pos => if X.env.kindOf id == some .local && pos.line == (([Expr.Name x px, Expr.Name y py].head?.map (·.pos.line)).getD 0) then some id else none
    | _ => none) = [x, y] := by
    have e2 : (([Expr.Name x px, Expr.Name y py].head?.map (·.pos.line)).getD 0) = px.line := rfl
    rw [e2]
    simp [hx, hy, beq_iff_eq.mp hl]
  generalize hg : List.filterMap _ _ = L
  have hL : L = [x, y] := hg.symm.trans hn
  subst hL
  rw [if_neg (by simp [List.eraseDups_cons, hyx]), if_neg (by rw [h2]; decide), if_neg (by rw [h3]; decide)]
theorem sws3 (hx : X.env.kindOf x = some .local) (hy : X.env.kindOf y = some .local) (hw : X.env.kindOf w = some .local) (hk : X.env.blockKind = .function) (h12 : (y == x) = false) (h13 : (w == x) = false) (h23 : (w == y) = false) (hl : (py.line == px.line) = true) (hl2 : (pz.line == px.line) = true) (h1 : ([a, b, c].any fun | .Starred .. => true | _ => false) = false) (h2 : [a, b, c].all (foldedForSure 8) = false) (h3 : [a, b, c].all (constantsAlone 8) = false) :
    swappedStores [.Tuple [.Name x px, .Name y py, .Name w pz] kt pt] (.Tuple [a, b, c] k2 pt2) X.env = pure (some [x, y, w]) := by
  unfold swappedStores
  simp only [bind_pure_comp, pure_bind]
  rw [if_neg (by simp [hk])]
  rw [if_neg (by intro h; exact absurd (h1.symm.trans h) (by decide))]
  have hn : ([Expr.Name x px, Expr.Name y py, Expr.Name w pz].filterMap fun
    | .Name id pos => if X.env.kindOf id == some .local && pos.line == (([Expr.Name x px, Expr.Name y py, Expr.Name w pz].head?.map (·.pos.line)).getD 0) then some id else none
    | _ => none) = [x, y, w] := by
    have e2 : (([Expr.Name x px, Expr.Name y py, Expr.Name w pz].head?.map (·.pos.line)).getD 0) = px.line := rfl
    rw [e2]
    simp [hx, hy, hw, beq_iff_eq.mp hl, beq_iff_eq.mp hl2]
  generalize hg : List.filterMap _ _ = L
  have hL : L = [x, y, w] := hg.symm.trans hn
  subst hL
  rw [if_neg (by simp [List.eraseDups_cons, h12, h13, h23]), if_neg (by rw [h2]; decide), if_neg (by rw [h3]; decide)]
/-- a tuple of constants: no names are swapped -/
theorem swsC {ts vs : List Expr} (h2 : vs.all (foldedForSure 8) = true) (h1 : (vs.any fun | .Starred .. => true | _ => false) = false) : swappedStores [.Tuple ts kt pt] (.Tuple vs k2 pt2) X.env = pure none := by
  unfold swappedStores
  simp only [bind_pure_comp, pure_bind]
  split
  · rfl
  · split
    · rfl
    · split
      · rfl
      · rfl
theorem blk_of {sc : Scope} (hs : X.env.scope = sc) (h : sc.kind = .function) : X.env.blockKind = .function := by
  unfold Env.blockKind
  rw [hs, h]; rfl
theorem ds_par2 {n i j : Nat} (z : Cz X n) (li : Lo X i x) (lj : Lo X j y) (hij : i ≠ j) (hx : X.env.kindOf x = some .local) (hy : X.env.kindOf y = some .local) (hk : X.env.blockKind = .function) (hne : (x == y) = false)
    (h : DA B X [a, b] δ M fun ds M1 => ∃ d1 d2, ds = [d1, d2] ∧ Sets δ i d1 fun δ1 => Sets δ1 j d2 fun δ2 => Ψ.nx δ2 M1)
    (hl : (py.line == px.line) = true := by rfl) (h1 : ([a, b].any fun | .Starred .. => true | _ => false) = false := by rfl) (h2 : [a, b].all (foldedForSure 8) = false := by rfl) (h3 : [a, b].all (constantsAlone 8) = false := by rfl)
    (hs : swapsWithSole [.Tuple [.Name x px, .Name y py] kt pt] (.Tuple [a, b] k2 pt2) pos.line X.env = pure false := by rfl) : DS B X (.Assign [.Tuple [.Name x px, .Name y py] kt pt] (.Tuple [a, b] k2 pt2) pos) δ M Ψ :=
  .of (ps_par z.calm z.nd li.at_ lj.at_ hij hx hy cA (sws2 hx hy hk hne hl h1 h2 h3) hs) fun κ σ H E hb R k => h κ σ H _ hb R fun vs ds M1 H1 ⟨d1, d2, e, q⟩ R1 r1 => by
    subst e
    cases r1 with
    | cons r1 r2 =>
      cases r2 with
      | cons r2 r3 =>
        cases r3
        exact ⟨_, _, rfl, k.nx _ _ _ _ q.get.get ((R1.put i r1).put j r2)⟩
theorem ds_par3 {n i j l : Nat} (z : Cz X n) (li : Lo X i x) (lj : Lo X j y) (ll : Lo X l w) (hij : i ≠ j) (hil : i ≠ l) (hjl : j ≠ l) (hx : X.env.kindOf x = some .local) (hy : X.env.kindOf y = some .local) (hw : X.env.kindOf w = some .local) (hk : X.env.blockKind = .function) (h12 : (y == x) = false) (h13 : (w == x) = false) (h23 : (w == y) = false)
    (h : DA B X [a, b, c] δ M fun ds M1 => ∃ d1 d2 d3, ds = [d1, d2, d3] ∧ Sets δ i d1 fun δ1 => Sets δ1 j d2 fun δ2 => Sets δ2 l d3 fun δ3 => Ψ.nx δ3 M1)
    (hl : (py.line == px.line) = true := by rfl) (hl2 : (pz.line == px.line) = true := by rfl) (h1 : ([a, b, c].any fun | .Starred .. => true | _ => false) = false := by rfl) (h2 : [a, b, c].all (foldedForSure 8) = false := by rfl) (h3 : [a, b, c].all (constantsAlone 8) = false := by rfl)
    (hs : swapsWithSole [.Tuple [.Name x px, .Name y py, .Name w pz] kt pt] (.Tuple [a, b, c] k2 pt2) pos.line X.env = pure false := by rfl) : DS B X (.Assign [.Tuple [.Name x px, .Name y py, .Name w pz] kt pt] (.Tuple [a, b, c] k2 pt2) pos) δ M Ψ :=
  .of (ps_par3 z.calm z.nd li.at_ lj.at_ ll.at_ hij hil hjl hx hy hw cA (sws3 hx hy hw hk h12 h13 h23 hl hl2 h1 h2 h3) hs) fun κ σ H E hb R k => h κ σ H _ hb R fun vs ds M1 H1 ⟨d1, d2, d3, e, q⟩ R1 r1 => by
    subst e
    cases r1 with
    | cons r1 r2 =>
      cases r2 with
      | cons r2 r3 =>
        cases r3 with
        | cons r3 r4 =>
          cases r4
          exact ⟨_, _, _, rfl, k.nx _ _ _ _ q.get.get.get (((R1.put i r1).put j r2).put l r3)⟩
theorem ex_2 {d1 d2 : D} {P : D → D → Prop} (h : P d1 d2) : ∃ a b, [d1, d2] = [a, b] ∧ P a b := ⟨d1, d2, rfl, h⟩
theorem ex_3 {d1 d2 d3 : D} {P : D → D → D → Prop} (h : P d1 d2 d3) : ∃ a b c, [d1, d2, d3] = [a, b, c] ∧ P a b c := ⟨d1, d2, d3, rfl, h⟩
/-- a, b = constants -/
theorem ds_asgC {ts vs : List Expr} {kt k2 : Nat} (h : DE B X (.Tuple vs k2 pt2) δ M fun d M' => DG B X (.Tuple ts kt pt) d δ M' Ψ.nx) (h2 : vs.all (foldedForSure 8) = true := by rfl) (h1 : (vs.any fun | .Starred .. => true | _ => false) = false := by rfl) (hs : swapsWithSole [.Tuple ts kt pt] (.Tuple vs k2 pt2) pos.line X.env = pure false := by rfl) (h3 : (assignEach [.Tuple ts kt pt] X.env).map (·.2) = [assign (.Tuple ts kt pt) X.env] := by rfl) : DS B X (.Assign [.Tuple ts kt pt] (.Tuple vs k2 pt2) pos) δ M Ψ := ds_asg h hs (swsC h2 h1) h3
end
end Hl
namespace Hl
open PySem L2
open PyProof.Rows hiding St
section
variable {B : Bx} {X : Cx} {e a b c o : Expr} {es rest : List Expr} {kw : Keyword} {kws : List Keyword} {st : Stmt} {sts body suite : List Stmt} {δ δ' : Env'} {M : Mem} {Φ : D → Mem → Prop} {Ψ : DEnds} {pos pos' apos pp np : Pos} {d x y : D} {ΦL : List D → Mem → Prop}
/-- cells that are not wanted any more -/
theorem ws_drop {ts : TS} {M2 : Mem} (hm : M2.Sublist M) (h : WS B ts δ M2 Ψ) : WS B ts δ M Ψ := h.view fun κ σ H R => R.less hm
/-- the names of keywords -/
def kwN : List Keyword → List Str
  | [] => []
  | ⟨some n, _, _⟩ :: ks => n :: kwN ks
  | ⟨none, _, _⟩ :: ks => kwN ks
/-! calls, the fact chosen by the call's shape -/
theorem de_fS {k m : Nat} {x : Str} {sel : Sel} {p : DSpE} {Ξ : XPost} (z : Cz X m) (f : DefEX X k x es.length (kwN kws) sel p) (hk : k ≤ m) (hg : Gl X x) (lt : Lets X B δ Ξ)
    (h : DAK B X es kws δ M fun ds zs M' => ds.length = es.length ∧ zs.length = (kwN kws).length ∧ p (selD sel (ds ++ zs)) M' Φ Ξ) (pl : PlA X pos es kws (kwN kws)) (hdb : (x == ("__debug__" : Str)) = false := by decide) : DE B X (.Call (.Name x pp) es kws pos) δ M Φ := de_fE z f hk hg lt h pl hdb
theorem de_kS {k m : Nat} {x : Str} {sel : Sel} {p : DSpE} {Ξ : XPost} {C : Addr} (j : Nat) (z : Cz X m) (f : MakeEX X k x C es.length (kwN kws) sel p) (hk : k + 1 ≤ m) (hg : Gl X x) (lt : Lets X B δ Ξ)
    (h : DAK B X es kws δ M fun ds zs M' => ds.length = es.length ∧ zs.length = (kwN kws).length ∧ ∀ a, p (selD sel (.raw (.ref a) :: ds ++ zs)) (insM j (a, .obj C [] []) M') (Made a Φ) Ξ) (pl : PlA X pos es kws (kwN kws)) (hdb : (x == ("__debug__" : Str)) = false := by decide) : DE B X (.Call (.Name x pp) es kws pos) δ M Φ := de_kU j z f hk hg lt h pl hdb
theorem mt_vS {m k : Nat} {mn : Str} {C : Addr} {ns : List Str} {fs : List D} {sel : Sel} {p : DSpE} {Ξ : XPost} (f : MethEX X k C mn es.length (kwN kws) sel p) (hk : k ≤ m) (lt : Lets X B δ Ξ) (pl : PlA X pos es kws (kwN kws)) (hn : ns.contains mn = false)
    (h : DAK B X es kws δ M fun ds zs M' => ds.length = es.length ∧ zs.length = (kwN kws).length ∧ p (selD sel (.obj C ns fs :: ds ++ zs)) M' Φ Ξ) : MtE B X m pos es kws mn δ (.obj C ns fs) M Φ := mt_v f hk lt pl hn h
theorem mt_cS {m k : Nat} {mn : Str} {C q : Addr} {ns : List Str} {fs : List D} {sel : Sel} {p : DSpE} {Ξ : XPost} (j : Nat) (hm : M[j]? = some (q, .obj C ns fs)) (f : MethEX X k C mn es.length (kwN kws) sel p) (hk : k ≤ m) (lt : Lets X B δ Ξ) (pl : PlA X pos es kws (kwN kws)) (hn : ns.contains mn = false)
    (h : DAK B X es kws δ M fun ds zs M' => ds.length = es.length ∧ zs.length = (kwN kws).length ∧ p (selD sel (.raw (.ref q) :: ds ++ zs)) M' Φ Ξ) : MtE B X m pos es kws mn δ (.raw (.ref q)) M Φ := mt_c j hm f hk lt pl hn h
theorem mt_oS {m k : Nat} {mn : Str} {C : Addr} {ns : List Str} {fs : List D} {sel : Sel} {p : DSpE} {Ξ : XPost} (io : IsO M x C ns fs) (f : MethEX X k C mn es.length (kwN kws) sel p) (hk : k ≤ m) (lt : Lets X B δ Ξ) (pl : PlA X pos es kws (kwN kws)) (hn : ns.contains mn = false)
    (h : DAK B X es kws δ M fun ds zs M' => ds.length = es.length ∧ zs.length = (kwN kws).length ∧ p (selD sel (x :: ds ++ zs)) M' Φ Ξ) : MtE B X m pos es kws mn δ x M Φ := mt_o io f hk lt pl hn h
end
end Hl
namespace Hl
open PySem L2
open PyProof.Rows hiding St
section
variable {B : Bx} {X : Cx} {e a b c o : Expr} {es rest : List Expr} {kw : Keyword} {kws : List Keyword} {st : Stmt} {sts body suite : List Stmt} {δ δ' : Env'} {M : Mem} {Φ : D → Mem → Prop} {Ψ : DEnds} {pos pos' apos pp np : Pos} {d x y : D} {ΦL : List D → Mem → Prop}
theorem Reps.rev {F : List Addr} {H : Hp} {vs : List V} {ds : List D} (r : Reps F H vs ds) : Reps F H vs.reverse ds.reverse := by
  induction ds generalizing vs with
  | nil => cases r; exact .nil
  | cons d ds ih =>
    cases r with
    | cons r1 r2 =>
      rw [List.reverse_cons, List.reverse_cons]
      exact (ih r2).append (.cons r1 .nil)
theorem Reps.repl {F : List Addr} {H : Hp} {vs : List V} {ds : List D} (r : Reps F H vs ds) : ∀ n : Nat, Reps F H (List.replicate n vs).flatten (List.replicate n ds).flatten
  | 0 => .nil
  | n + 1 => by
    rw [List.replicate_succ, List.replicate_succ, List.flatten_cons, List.flatten_cons]
    exact r.append (Reps.repl r n)
/-- xs[::-1] -/
theorem de_rev {k : Nat} {p1 p2 p3 : Pos} (h : DE B X a δ M fun x M1 => ∃ ds, IsL M1 x ds ∧ Φ (.lst ds.reverse) M1) : DE B X (.Subscript a (.Slice none none (some (.UnaryOp .USub (.Constant (.int 1) k p1) p2)) p3) pos) δ M Φ :=
  .of (pe_revL cE) fun κ σ H Q hb R k => h κ σ H _ hb R fun v x M1 H1 ⟨ds, il, q⟩ R1 r1 => by
    obtain ⟨a, us, rfl, e1, rr⟩ := il.sq R1 r1
    refine ⟨a, us, rfl, SqL.of e1, fun p hp => ?_⟩
    obtain ⟨R', r'⟩ := R1.lstV rr.rev hp
    exact k _ _ _ _ q R' r'
/-- min of three -/
theorem de_min3 {n : Nat} (z : Cz X n) {p : Pos} (g : Gn X "min") (h : DA B X [a, b, c] δ M fun ds M1 => CallD (rNuC3 nuMin3) ds M1 Φ) (he : starEach [a, b, c] X.env = (false, eval a X.env) :: starEach [b, c] X.env := by rfl) (hpl : (backTo pos (starEach [b, c] X.env)).any (·.1) = false := by rfl) : DE B X (.Call (.Name "min" p) [a, b, c] [] pos) δ M Φ := de_blt (call_min3Nu z.calm) g boot_min h (by decide) (by decide) he hpl
theorem cd_min3 {i j l : Int} (k : Φ (.int (min (min i j) l)) M) : CallD (rNuC3 nuMin3) [.int i, .int j, .int l] M Φ := fun κ δ σ H vs Q R rs f => by
  cases rs with
  | cons r1 r2 =>
    cases r1
    cases r2 with
    | cons r2 r3 =>
      cases r2
      cases r3 with
      | cons r3 r4 =>
        cases r3
        cases r4
        refine ⟨_, _, _, .int (min (min i j) l), rfl, ?_, f _ _ _ _ k R (.int _)⟩
        have h2 : ∀ a b : Int, nuMin2 (.int a) (.int b) = some (.int (min a b)) := fun a b => by
          show some (if decide (b < a) = true then V.int b else V.int a) = _
          by_cases h : b < a
          · rw [if_pos (by simpa using h), Int.min_eq_right (by omega)]
          · rw [if_neg (by simpa using h), Int.min_eq_left (by omega)]
        unfold nuMin3
        rw [h2]
        exact h2 _ _
/-- [..] * n -/
theorem od_rep {ds : List D} {n : Int} (h : -(2 ^ 63) ≤ n ∧ n < 2 ^ 63 ∧ ds.length * n.toNat ≤ sizeLine) (k : Φ (.lst (List.replicate n.toNat ds).flatten) M) : OpD rRep (.lst ds) (.int n) M Φ := fun κ δ σ H v w Q R rv rw' f => by
  cases rw'
  cases rv with
  | lst h1 e1 r1 =>
    refine ⟨_, n, _, rfl, rfl, e1, h.1, h.2.1, by rw [r1.length]; exact h.2.2, fun p hp => ?_⟩
    obtain ⟨R', r'⟩ := R.lstV (r1.repl n.toNat) hp
    exact f _ _ M _ k R' r'
theorem de_repD {p : Pos} (h : DE B X (.List es p) δ M fun x M1 => DE B X b δ M1 fun y M2 => OpD rRep x y M2 Φ) : DE B X (.BinOp (.List es p) .Mult b pos) δ M Φ := de_bin op_rep h
end
end Hl
namespace Hl
open PySem L2
open PyProof.Rows hiding St
section
variable {B : Bx} {X : Cx} {e a b c o : Expr} {es rest : List Expr} {kw : Keyword} {kws : List Keyword} {st : Stmt} {sts body suite : List Stmt} {δ δ' : Env'} {M : Mem} {Φ : D → Mem → Prop} {ΦB : Bool → Mem → Prop} {Ψ : DEnds} {pos pos' apos pp np : Pos} {d x y : D} {ΦL : List D → Mem → Prop}
/-! ### is True, is not True, is False, is not False -/
def rIsBl : R2 := fun x y H Q => ∃ a b, x = .bl a ∧ y = .bl b ∧ Q (.bl (decide (a = b))) H
def rNotBl : R2 := fun x y H Q => ∃ a b, x = .bl a ∧ y = .bl b ∧ Q (.bl (!decide (a = b))) H
theorem od_isB {i j : Bool} (k : Φ (.bl (decide (i = j))) M) : OpD rIsBl (.bl i) (.bl j) M Φ := fun κ δ σ H v w Q R rv rw' h => by
  cases rv; cases rw'
  exact ⟨i, j, rfl, rfl, h _ _ M H k R (.bl _)⟩
theorem od_notB {i j : Bool} (k : Φ (.bl (!decide (i = j))) M) : OpD rNotBl (.bl i) (.bl j) M Φ := fun κ δ σ H v w Q R rv rw' h => by
  cases rv; cases rw'
  exact ⟨i, j, rfl, rfl, h _ _ M H k R (.bl _)⟩
theorem de_isB {t : Bool} {n : Nat} {p : Pos} (h : DE B X a δ M fun x M1 => OpD rIsBl x (.bl t) M1 Φ) : DE B X (.Compare a [.Is] [.Constant (.bool t) n p] pos) δ M Φ := de_cmp op_is_bl (nomark _) (h.mono fun _ _ q => de_bl q)
theorem de_isnotB {t : Bool} {n : Nat} {p : Pos} (h : DE B X a δ M fun x M1 => OpD rNotBl x (.bl t) M1 Φ) : DE B X (.Compare a [.IsNot] [.Constant (.bool t) n p] pos) δ M Φ := de_cmp op_isnot_bl (nomark _) (h.mono fun _ _ q => de_bl q)
theorem dt_isB {t : Bool} {n : Nat} {p : Pos} (h : DE B X a δ M fun x M1 => OpD rIsBl x (.bl t) M1 (toB ΦB)) : DT B X (.Compare a [.Is] [.Constant (.bool t) n p] pos) δ M ΦB := dt_cmp op_is_bl (nomark _) (h.mono fun _ _ q => de_bl q)
theorem dt_isnotB {t : Bool} {n : Nat} {p : Pos} (h : DE B X a δ M fun x M1 => OpD rNotBl x (.bl t) M1 (toB ΦB)) : DT B X (.Compare a [.IsNot] [.Constant (.bool t) n p] pos) δ M ΦB := dt_cmp op_isnot_bl (nomark _) (h.mono fun _ _ q => de_bl q)
/-- isinstance of a list that may change -/
theorem isi_cl {K : PySem.W.Frag} {T : String} {r : Bool} {ds : List D} (h : IsL M x ds) (hk : kitB "list" T = some r) (k : Φ (.bl r) M) : CallD (rIsi K) [x, .raw (.ty T)] M Φ := fun κ δ σ H vs Q R rs f => by
  cases rs with
  | cons r1 r2 =>
    cases r2 with
    | cons r2 r3 =>
      cases r2; cases r3
      obtain ⟨p, us, rfl, e1, rr⟩ := h.sq R r1
      exact ⟨_, _, .type "list", .type T, r, rfl, .ty T, .base (.lst e1), kit_ty hk, f _ _ _ _ k R (.bl _)⟩
end
end Hl
namespace Hl
open PySem L2
end Hl
namespace Hl
open PySem L2
open PyProof.Rows hiding St
section
variable {B : Bx} {X : Cx} {e a b c o : Expr} {es rest : List Expr} {kw : Keyword} {kws : List Keyword} {st : Stmt} {sts body suite : List Stmt} {δ δ' : Env'} {M : Mem} {Φ : D → Mem → Prop} {ΦB : Bool → Mem → Prop} {Ψ : DEnds} {pos pos' apos pp np : Pos} {d x y : D} {ΦL : List D → Mem → Prop}
/-! ### insert -/
def rIns : V → List V → Hp → VK → Prop := fun x vs H Q => ∃ (l : Addr) (xs : List V) (i : Int) (y : V), x = .ref l ∧ vs = [.int i, y] ∧ H l = some (.lst xs) ∧ xs.length < sizeLine ∧ 0 ≤ i ∧ i < 2 ^ 63 ∧
    Q .non (upd H l (.lst (xs.take i.toNat ++ [y] ++ xs.drop i.toNat)))
theorem de_insert {cpos : Pos} (h : DE B X o δ M fun x M1 => (∃ ds, IsL M1 x ds) ∧ DA B X [a, b] δ M1 fun ys M2 => MtD X.K "list" rIns x ys M2 Φ)
    (hbase : attributeBase o "insert" X.env (eval o X.env) = eval o X.env := by rfl)
    (hfew : ((backTo cpos (starEach [a, b] X.env)).all (fun x => !x.1) && (backToKw cpos (keywordEach [] X.env)).all (fun x => x.1.isSome)
      && decide (([a, b] : List Expr).length + ([] : List Keyword).length + (if ([] : List Keyword).isEmpty then 0 else 1) < 30)) = true := by rfl)
    (hline : (apos.endLine == cpos.line) = true := by rfl) (hs : starEach [a, b] X.env = (false, eval a X.env) :: starEach [b] X.env := by rfl) (hplain : (backTo cpos (starEach [b] X.env)).any (·.1) = false := by rfl) :
    DE B X (.Call (.Attribute o "insert" apos) [a, b] [] cpos) δ M Φ := de_bml PySem.F.slot_list_insert PySem.F.type_list_insert mt_insert h hbase hfew hline hs hplain
theorem okDs_all : ∀ {ds : List D}, (∀ d ∈ ds, okD d = true) → okDs ds = true
  | [], _ => rfl
  | d :: ds, h => by
    show (_ && _) = true
    rw [h d List.mem_cons_self, okDs_all fun x hx => h x (List.mem_cons_of_mem _ hx)]; rfl
theorem depth_all {n : Nat} : ∀ {ds : List D}, (∀ d ∈ ds, (toPy d).depth ≤ n) → PyData.depthAll (toPys ds) ≤ n
  | [], _ => Nat.zero_le _
  | d :: ds, h => by
    show max (toPy d).depth (PyData.depthAll (toPys ds)) ≤ n
    have h1 := h d List.mem_cons_self
    have h2 := depth_all (n := n) fun x hx => h x (List.mem_cons_of_mem _ hx)
    omega
theorem okE_all {ds : List D} (h : ∀ d ∈ ds, okD d = true ∧ (toPy d).depth ≤ 63) : okE (.lst ds) = true := by
  show (okDs ds && decide (PyData.depthAll (toPys ds) + 1 ≤ 64)) = true
  rw [okDs_all fun d hd => (h d hd).1, decide_eq_true (by have := depth_all (n := 63) fun d hd => (h d hd).2; omega)]; rfl
end
end Hl
namespace Hl
open PySem L2
open PyProof.Rows hiding St
section
variable {B : Bx} {X : Cx} {e a b c o : Expr} {es rest : List Expr} {δ δ' : Env'} {M : Mem} {Φ : D → Mem → Prop} {Ψ : DEnds} {d x y : D} {ΦL : List D → Mem → Prop}
/-- a comprehension over a range whose items are drawn -/
theorem LcH.drawT {β : Type} {scope : Scope} {elt : Expr} {own : List (Str × Nat)} {tk : Tk} {k : Nat} {s g : Addr} {b : Nat} {n : Nat} (P : β → Prop) (f : β → D) (c : Nat) (hn : n ≤ 1000) (hb : c * n ≤ b)
    (h : ∀ (p : Addr) acc (i : Nat) (b1 : Nat), i < n → c ≤ b1 → ∃ δ2, bindK tk (.int (0 + (i : Int))) (wipeD δ (own.map (·.2))) = some δ2 ∧ ∀ X', Bk X X' scope → DE B X' elt δ2 (insM k (p, .lst acc) ((s, .st g b1) :: M)) fun d M2 => ∃ y b2, P y ∧ b1 ≤ b2 + c ∧ d = f y ∧ M2 = insM k (p, .lst acc) ((s, .st g b2) :: M))
    (q : ∀ (ys : List β) b', ys.length = n → (∀ y ∈ ys, P y) → b ≤ b' + c * n → ΦL (ys.map f) ((s, .st g b') :: M)) : LcH k B X scope elt [] own tk δ (rangeD 0 n) ((s, .st g b) :: M) ΦL := by
  refine ⟨fun i acc M1 => ∃ (ys : List β) (b1 : Nat), acc = ys.map f ∧ M1 = (s, .st g b1) :: M ∧ ys.length = i ∧ (∀ y ∈ ys, P y) ∧ b ≤ b1 + c * i, ⟨[], b, rfl, rfl, rfl, (fun y hy => nomatch hy), by omega⟩, ?_, ?_⟩
  · rintro p i x acc M1 hx ⟨ys, b1, rfl, rfl, hl, hP, hbb⟩
    obtain ⟨hi, rfl⟩ := range_get hx
    have hci : c * i + c ≤ c * n := by have := Nat.mul_le_mul_left c (show i + 1 ≤ n by omega); rw [Nat.mul_add, Nat.mul_one] at this; exact this
    obtain ⟨δ2, e1, tu⟩ := h p (ys.map f) i b1 hi (by omega)
    refine ⟨by rw [List.length_map]; exact Nat.lt_of_lt_of_le (show ys.length < 1001 by omega) (by decide), δ2, e1, fun X' bk => (tu X' bk).mono ?_⟩
    rintro d M2 ⟨y, b2, hy, hb2, rfl, rfl⟩
    refine ⟨_, rfl, ys ++ [y], b2, by simp, rfl, by simp [hl], fun z hz => ?_, by rw [Nat.mul_add, Nat.mul_one]; omega⟩
    rcases List.mem_append.mp hz with hz | hz
    · exact hP z hz
    · rw [List.mem_singleton.mp hz]; exact hy
  · rintro acc M1 ⟨ys, b1, rfl, rfl, hl, hP, hbb⟩
    rw [range_len] at hl hbb
    exact q ys b1 hl hP hbb
end
end Hl
namespace Hl
open PySem L2
open PyProof.Rows hiding St
end Hl
namespace Hl
open PySem L2
end Hl
namespace Hl
open PySem L2
open PyProof.Rows hiding St
section
variable {B : Bx} {X : Cx} {e a b c o : Expr} {es rest : List Expr} {kw : Keyword} {kws : List Keyword} {st : Stmt} {sts body suite : List Stmt} {δ δ' : Env'} {M : Mem} {Φ : D → Mem → Prop} {ΦB : Bool → Mem → Prop} {Ψ : DEnds} {pos pos' apos pp np : Pos} {d x y : D} {ΦL : List D → Mem → Prop}
/-! ### lists put together, as a new one -/
/-! ### extend -/
theorem Reps.put {F : List Addr} {H : Hp} {d : D} : ∀ {vs : List V} {ds : List D} {i : Nat} {v : V}, Reps F H vs ds → vs[i]? = some v → Rep F H v d → Reps F H vs (ds.set i d)
  | _, _, _, _, .nil, _, _ => .nil
  | _, _, 0, _, .cons _ t, e, r => by simp at e; subst e; exact .cons r t
  | _, _, i + 1, _, .cons q t, e, r => .cons q (Reps.put (i := i) t (by simpa using e) r)
end
end Hl
namespace Hl
open PySem L2
open PyProof.Rows hiding St
end Hl
namespace Hl
open PySem L2
open PyProof.Rows hiding St
/-! ### a cell that is not changed any more: a plain list from here on, wherever it stands -/
mutual
inductive Up (q : Addr) (es : List D) : D → D → Prop
  | here : Up q es (.raw (.ref q)) (.lst es)
  | tup {ds ds' : List D} : Ups q es ds ds' → Up q es (.tup ds) (.tup ds')
  | same (d : D) : Up q es d d
inductive Ups (q : Addr) (es : List D) : List D → List D → Prop
  | nil : Ups q es [] []
  | cons {d d' : D} {ds ds' : List D} : Up q es d d' → Ups q es ds ds' → Ups q es (d :: ds) (d' :: ds')
end
inductive UpO (q : Addr) (es : List D) : List (Option D) → List (Option D) → Prop
  | nil : UpO q es [] []
  | some {d d' : D} {ds ds' : List (Option D)} : Up q es d d' → UpO q es ds ds' → UpO q es (some d :: ds) (some d' :: ds')
  | none {ds ds' : List (Option D)} : UpO q es ds ds' → UpO q es (none :: ds) (none :: ds')
  | any {o : Option D} {ds ds' : List (Option D)} : UpO q es ds ds' → UpO q es (o :: ds) (o :: ds')
section
variable {F F' : List Addr} {H : Hp} {q : Addr} {es : List D}
mutual
theorem Rep.up (k : Fwd F H F' H) (r0 : Rep F' H (.ref q) (.lst es)) : ∀ {d d' : D} {v : V}, Up q es d d' → Rep F H v d → Rep F' H v d'
  | _, _, _, .here, r => by cases r; exact r0
  | _, _, _, .tup u, r => by
    cases r with
    | tup h e rs => exact .tup (k _ _ h e).1 e (Reps.ups k r0 u rs)
  | _, _, _, .same _, r => r.fwd k
theorem Reps.ups (k : Fwd F H F' H) (r0 : Rep F' H (.ref q) (.lst es)) : ∀ {ds ds' : List D} {vs : List V}, Ups q es ds ds' → Reps F H vs ds → Reps F' H vs ds'
  | _, _, _, .nil, r => by cases r; exact .nil
  | _, _, _, .cons u us, r => by
    cases r with
    | cons r1 rs => exact .cons (Rep.up k r0 u r1) (Reps.ups k r0 us rs)
end
end
section
variable {B : Bx} {X : Cx} {δ δ' : Env'} {M : Mem} {Ψ : DEnds} {d x y : D}
theorem Vw.up {q : Addr} {es : List D} (j : Nat) (e : M[j]? = some (q, .lst es)) (hu : Up q es d x) : Vw d M x (M.eraseIdx j) := fun _ _ _ H _ R r => by
  obtain ⟨R2, r2⟩ := R.frz e
  exact ⟨R2, Rep.up (Fwd.less fun x hx => (F_sub erase_sub).subset hx) r2 hu r⟩
end
/-! ### data within data, some of them cells -/
mutual
inductive IsD (M : Mem) : D → D → Prop
  | val (d : D) : IsD M d d
  | cell {p : Addr} {ds ds' : List D} (j : Nat) (h : M[j]? = some (p, .lst ds)) : IsDs M ds ds' → IsD M (.raw (.ref p)) (.lst ds')
  | lst {ds ds' : List D} : IsDs M ds ds' → IsD M (.lst ds) (.lst ds')
  | tup {ds ds' : List D} : IsDs M ds ds' → IsD M (.tup ds) (.tup ds')
inductive IsDs (M : Mem) : List D → List D → Prop
  | nil : IsDs M [] []
  | cons {d d' : D} {ds ds' : List D} : IsD M d d' → IsDs M ds ds' → IsDs M (d :: ds) (d' :: ds')
end
theorem IsDs.refl {M : Mem} : ∀ ds : List D, IsDs M ds ds
  | [] => .nil
  | d :: ds => .cons (.val d) (IsDs.refl ds)
theorem IsDs.map {M : Mem} {α : Type} {f g : α → D} : ∀ {l : List α}, (∀ x ∈ l, IsD M (f x) (g x)) → IsDs M (l.map f) (l.map g)
  | [], _ => .nil
  | x :: l, h => .cons (h x List.mem_cons_self) (IsDs.map fun y hy => h y (List.mem_cons_of_mem _ hy))
section
variable {M : Mem} {δ : Env'} {κ : List (V × D)} {σ : St} {H : Hp} {K : PySem.W.Frag}
mutual
theorem IsD.dp (R : Rs κ δ M σ H) : ∀ {x d : D} {v : V}, IsD M x d → Rep M.F H v x → okD d = true → Dp K H v (toPy d)
  | _, _, _, .val _, r, k => rep_dp r k
  | _, _, _, .cell j h hs, r, k => by
    cases r
    obtain ⟨vs, e, rs⟩ := R.at h
    exact .lst (SqL.of e) (IsDs.dp R hs rs k)
  | _, _, _, .lst hs, r, k => by
    cases r with
    | lst h e rs => exact .lst (SqL.of e) (IsDs.dp R hs rs k)
  | _, _, _, .tup hs, r, k => by
    cases r with
    | tup h e rs => exact .tup (SqT.of e) (IsDs.dp R hs rs k)
theorem IsDs.dp (R : Rs κ δ M σ H) : ∀ {xs ds : List D} {vs : List V}, IsDs M xs ds → Reps M.F H vs xs → okDs ds = true → DpAll K H vs (toPys ds)
  | _, _, _, .nil, r, _ => by cases r; exact .nil
  | _, _, _, .cons h hs, r, k => by
    cases r with
    | cons r rs =>
      have k := Bool.and_eq_true_iff.mp (show (_ && _) = true from k)
      exact .cons (IsD.dp R h r k.1) (IsDs.dp R hs rs k.2)
end
end
section
variable {M : Mem} {Φ : D → Mem → Prop} {x y : D} {K : PySem.W.Frag}
theorem od_eqDD {x' y' : D} (hx : IsD M x x') (hy : IsD M y y') (kx : okE x' = true) (ky : okE y' = true) (k : Φ (.bl (PyData.eqv (toPy x') (toPy y'))) M) : OpD (rEqU K) x y M Φ := fun κ δ σ H v w Q R rv rw' h => .inr
  ⟨_, _, IsD.dp R hx rv (okE_ok kx), IsD.dp R hy rw' (okE_ok ky), okE_sh kx, okE_sh ky, h _ _ M H k R (.bl _)⟩
end
end Hl
namespace Hl
open PySem L2
open PyProof.Rows hiding St
end Hl
namespace Hl
open PySem L2
/-! ### a thing with its parts, opened and closed -/
section
variable {B : Bx} {X : Cx} {δ : Env'} {M : Mem} {Ψ : DEnds} {Φ : D → Mem → Prop} {d : D} {κ : List (V × D)} {σ : St} {H : Hp} {a : Addr} {c : SC} {N : List (Addr × SC)}
theorem grp_close (R : Rs κ δ (opn a c N ++ M) σ H) : Rs κ δ ((a, .grp c N) :: M) σ H := by
  have eF := F_opn (a := a) (c := c) (N := N) (M := M)
  refine ⟨fun q hq => by rw [← eF]; exact R.kp q hq, by rw [← eF]; exact R.sl, fun q hq => ?_, by rw [← eF]; exact R.nd⟩
  rw [← eF]
  rcases List.mem_cons.mp hq with rfl | hq
  · refine ⟨ok_up.mp (R.cl (a, c.up) (List.mem_append.mpr (.inl List.mem_cons_self))), fun p hp => ok_up.mp (R.cl (p.1, p.2.up) (List.mem_append.mpr (.inl (List.mem_cons_of_mem _ (List.mem_map.mpr ⟨p, hp, rfl⟩)))))⟩
  · exact R.cl q (List.mem_append.mpr (.inr hq))
theorem closed (k : Nat) (R : Rs κ δ (opn a c N ++ M) σ H) : Rs κ δ (insM k (a, .grp c N) M) σ H := (grp_close R).perm insM_perm
theorem Vw.close (k : Nat) : Vw d (opn a c N ++ M) d (insM k (a, .grp c N) M) := fun _ _ _ _ _ R r => ⟨closed k R, r.fwd (Fwd.less fun x hx => by
  have h := (F_perm (insM_perm (c := (a, .grp c N)) (k := k) (M := M))).mem_iff.mpr hx
  rw [F_opn]; exact h)⟩
theorem ws_vw {sts : List Stmt} {M2 : Mem} (v : ∀ d, Vw d M d M2) (h : DSs B X sts δ M2 Ψ) : DSs B X sts δ M Ψ := fun κ σ H E hb R k => h κ σ H E hb (v .non κ δ σ H .non R .non).1 k
end
end Hl
namespace Hl
open PySem L2
/-- a dict that nobody changes any more, as a value -/
abbrev fdD (kvs : List (Key × D)) : D := .fd (kvs.map (·.1)) (kvs.map (·.2))
section
variable {B : Bx} {X : Cx} {e a b c o : Expr} {es rest : List Expr} {st : Stmt} {sts : List Stmt} {δ δ' : Env'} {M : Mem} {Φ : D → Mem → Prop} {Ψ : DEnds} {te ta tb : TE} {tt : TT} {pos pos' apos cpos : Pos} {d x y : D} {ΦB : Bool → Mem → Prop} {ΦL : List D → Mem → Prop} {kvs : List (Key × D)} {k : Key}
variable {tg iter : Expr}
/-! ### in, d[k] -/
theorem some_look {F : List Addr} {H : Hp} {ws : List (Key × V)} (h : ws.map (·.1) = kvs.map (·.1)) (r : Reps F H (ws.map (·.2)) (kvs.map (·.2))) : (valV ws k).isSome = (lookD kvs k).isSome := by
  rcases val_rep (k := k) h r with ⟨n1, n2⟩ | ⟨v, d, s1, s2, rv⟩
  · rw [n1, n2]; rfl
  · rw [s1, s2]; rfl
theorem od_inK {K : PySem.W.Frag} (h : IsDc M y kvs) (hx : x = kD k) (q : Φ (.bl (lookD kvs k).isSome) M) : OpD (rInU K) x y M Φ := .inr (OpD.inr fun κ δ σ H v w Q R rv rw' f => by
  subst hx
  have := rep_k rv
  subst this
  obtain ⟨p, ws, rfl, e1, e2, rr⟩ := h.sq R rw'
  exact ⟨p, _, rfl, .inl ⟨ws, k, e1, rfl, rfl⟩, by rw [some_look e2 rr]; exact f _ _ M H q R (.bl _)⟩)
theorem od_ixK {K : PySem.W.Frag} (h : IsDc M x kvs) (hk : y = kD k) (hl : lookD kvs k = some d) (q : Φ d M) : OpD (rIxU K) x y M Φ := .inr fun κ δ σ H v w Q R rv rw' f => by
  subst hk
  have := rep_k rw'
  subst this
  obtain ⟨p, ws, rfl, e1, e2, rr⟩ := h.sq R rv
  obtain ⟨u, e3, r3⟩ := look_rep e2 rr hl
  exact ⟨p, u, rfl, .inl ⟨ws, k, e1, rfl, e3.symm⟩, f _ _ M H q R r3⟩
/-! ### list(d), dict(d), dict of pairs, len(d) -/
theorem rep_kD {F : List Addr} {H : Hp} : ∀ k : Key, Rep F H (kV k) (kD k)
  | .inl i => .int i
  | .inr x => .str x
abbrev prD (kv : Key × D) : D := .tup [kD kv.1, kv.2]
/-! ### for k in d, d frozen -/
theorem wd_itemsV {κ : List (V × D)} {a : Addr} {o : Obj} {ws : List (Key × V)} {kvs : List (Key × D)} : WalkD ((.ref a, .hp a (.frz o (.dK ws))) :: (.ref a, fdD kvs) :: κ) (kvs.map prD) (Iti a o ws) where
  goes := fun i δ M σ H hi R => by
    cases R.top with
    | hp hn e =>
      refine ⟨e, ?_⟩
      cases R.pop.top with
      | fd hn e' e1 e2 rr =>
        rw [e] at e'; cases e'
        have := congrArg List.length e1
        simp at this hi; omega
  stops := fun δ M σ H R => by
    cases R.top with
    | hp hn e =>
      refine ⟨e, ?_⟩
      cases R.pop.top with
      | fd hn e' e1 e2 rr =>
        rw [e] at e'; cases e'
        have := congrArg List.length e1
        simp at this ⊢; omega
  yields := fun i δ M σ H x H' hi R y => by
    obtain ⟨T, k, v, hk, rfl, hT, rfl⟩ := y
    cases R.top with
    | hp hn e =>
      cases R.pop.top with
      | fd hn e' e1 e2 rr =>
        rw [e] at e'; cases e'
        have hi2 : i < kvs.length := by simpa using hi
        obtain ⟨kv, hkv⟩ := lt_some hi2
        have hk1 : kv.1 = k := by
          have h1 : (ws.map (·.1))[i]? = some k := by rw [List.getElem?_map, hk]; rfl
          rw [e1, List.getElem?_map, hkv] at h1
          exact Option.some.inj h1
        subst e2
        obtain ⟨v', hv', rv⟩ := rr.get' (i := i) (d := kv.2) (by rw [List.getElem?_map, hkv]; rfl)
        rw [List.getElem?_map, hk] at hv'
        have : v = v' := Option.some.inj hv'
        subst this
        refine ⟨prD kv, by rw [List.getElem?_map, hkv]; rfl, R.new hT, ?_⟩
        refine .tup (R.fresh hT) upd_same (.cons ?_ (.cons (rv.fwd (Fwd.new hT)) .nil))
        rw [← hk1]; exact rep_kD _
theorem di_itemsV {elts : List Expr} {kk : Nat} {tpos : Pos} (h : DE B X iter δ M fun d M' => ∃ kvs, d = fdD kvs ∧ ΦL (kvs.map prD) M') (hbase : attributeBase iter "items" X.env (eval iter X.env) = eval iter X.env := by rfl) (hline : (apos.endLine == cpos.line) = true := by rfl) : DI B X (.Tuple elts kk tpos) (.Call (.Attribute iter "items" apos) [] [] cpos) δ M ΦL := ⟨_, pi_items cE hbase hline, fun κ σ H R hb Rr k => h κ σ H _ hb Rr fun v d M1 H1 ⟨kvs, ed, q⟩ R1 r1 => by
  subst ed
  cases r1 with
  | @fd a o ws ks vs ds hn e e1 e2 rr =>
    refine ⟨a, o, ws, rfl, e, k _ M1 H1 _ _ q (fun q hq => List.mem_cons_of_mem _ (List.mem_cons_of_mem _ hq)) ((R1.push (.fd hn e e1 e2 rr)).push (.hp hn e)) wd_itemsV⟩⟩
/-! ### a dict is frozen -/
theorem tE_frz {σ : St} {H : Hp} {Q : V → Hp → Prop} (h : tE X e σ H fun v H' => ∃ d u, H' d = some u ∧ Mut (some u) ∧ ∀ od, Q v (upd H' d (.frz od u))) : tE X e σ H Q := by
  unfold tE at h ⊢
  intro pins s I
  refine thn (h pins s I) fun v s1 ⟨x, H1, I1, r, d, u, hd, mu, q⟩ => ?_
  obtain ⟨od, I2⟩ := I1.lock hd mu
  exact ⟨x, _, I2, r, q od⟩
theorem Rs.frzD {κ : List (V × D)} {σ : St} {H : Hp} {j : Nat} {p : Addr} {od : Obj} {ws : List (Key × V)} (R : Rs κ δ M σ H) (e : M[j]? = some (p, .dct kvs)) (hw : H p = some (.dK ws)) (e2 : ws.map (·.1) = kvs.map (·.1)) (rr : Reps M.F H (ws.map (·.2)) (kvs.map (·.2))) : Rs κ δ (M.eraseIdx j) σ (upd H p (.frz od (.dK ws))) ∧ Rep (Mem.F (M.eraseIdx j)) (upd H p (.frz od (.dK ws))) (.ref p) (fdD kvs) := by
  have hp : p ∈ M.F := R.mem e p (by simp [own])
  have fw : Fwd M.F H (Mem.F (M.eraseIdx j)) (upd H p (.frz od (.dK ws))) := fun x o hx ho => ⟨fun z => hx ((F_sub erase_sub).subset z), by rw [upd_ne (fun (z : x = p) => hx (by rw [z]; exact hp))]; exact ho⟩
  have hne : p ∉ Mem.F (M.eraseIdx j) := F_erase R.nd e
  refine ⟨⟨fun q hq => (R.kp q hq).fwd fw, Paired.mono (fun _ _ h => h.fwd fw) R.sl, fun q hq => ?_, R.nd.sublist (F_sub erase_sub)⟩, .fd hne upd_same e2 rfl (rr.fwd fw)⟩
  exact (R.cl q (erase_sub.subset hq)).fwd fw fun x hx => upd_ne fun z => hne (z ▸ List.mem_flatMap.mpr ⟨q, hq, hx⟩)
/-- the value of an expression, a new dict, is frozen -/
theorem de_frz (h : DE B X e δ M fun d M' => ∃ (j : Nat) (p : Addr) (kvs : List (Key × D)), d = .raw (.ref p) ∧ M'[j]? = some (p, .dct kvs) ∧ Φ (fdD kvs) (M'.eraseIdx j)) : DE B X e δ M Φ := fun κ σ H Q hb R k => tE_frz (h κ σ H _ hb R fun v d M' H' ⟨j, p, kvs, ed, hm, q⟩ R' r' => by
  subst ed
  cases r'
  obtain ⟨ws, e1, e2, rr⟩ := R'.at hm
  refine ⟨p, _, e1, trivial, fun od => ?_⟩
  obtain ⟨R2, r2⟩ := R'.frzD (od := od) hm e1 e2 rr
  exact k _ _ _ _ q R2 r2)
end
end Hl
namespace Hl
open PySem L2
section
variable {B : Bx} {X : Cx} {e a b c o : Expr} {es rest : List Expr} {st : Stmt} {sts body : List Stmt} {δ δ' : Env'} {M : Mem} {Φ : D → Mem → Prop} {Ψ : DEnds} {te ta tb : TE} {tt : TT} {pos pos' apos : Pos} {d x y : D} {ΦB : Bool → Mem → Prop} {ΦL : List D → Mem → Prop}
variable {tg iter : Expr}
/-- a fact of a memory that stays where cells come in -/
def Anc (P : Mem → Prop) : Prop := ∀ M M' : Mem, (∀ x ∈ M, x ∈ M') → P M → P M'
theorem anc_in {p : Addr} {c : SC} : Anc fun M => InM M p c := fun _ _ h k => k.mono h
/-! ### walking a list that is a cell (and stays so) -/
structure WalkA (P : Mem → Prop) (κ : List (V × D)) (xs : List D) (J : It) : Prop where
  goes : ∀ i δ M σ H, i < xs.length → P M → Rs κ δ M σ H → J.go i H
  stops : ∀ δ M σ H, P M → Rs κ δ M σ H → J.stop xs.length H
  yields : ∀ i δ M σ H x H', i < xs.length → P M → Rs κ δ M σ H → J.yld i H x H' → ∃ d, xs[i]? = some d ∧ Rs κ δ M σ H' ∧ Rep M.F H' x d
def WIA (B : Bx) (wi : TI) (δ : Env') (M : Mem) (Φ : (Mem → Prop) → List D → Mem → Prop) : Prop := ∀ κ σ H R, (∀ q ∈ B.ps, q ∈ κ) → Rs κ δ M σ H → (∀ P xs M' H' J κ', Anc P → Φ P xs M' → (∀ q ∈ κ, q ∈ κ') → Rs κ' δ M' σ H' → WalkA P κ' xs J → R J H') → wi σ H R
def DIA (B : Bx) (X : Cx) (tg iter : Expr) (δ : Env') (M : Mem) (Φ : (Mem → Prop) → List D → Mem → Prop) : Prop := ∃ wi, PI X tg iter wi ∧ WIA B wi δ M Φ
theorem wa_list {κ : List (V × D)} {a : Addr} {ds : List D} {K : PySem.W.Frag} : WalkA (fun M => InM M a (.lst ds)) κ ds (Itl K a) where
  goes := fun i δ M σ H hi hm R => by
    obtain ⟨vs, e, r⟩ := hm.ok R
    obtain ⟨d, hd⟩ := lt_some hi
    obtain ⟨v, hv, _⟩ := r.get' hd
    exact ⟨_, v, SqL.of e, hv⟩
  stops := fun δ M σ H hm R => by
    obtain ⟨vs, e, r⟩ := hm.ok R
    exact ⟨_, SqL.of e, by rw [r.length]; exact Nat.le_refl _⟩
  yields := fun i δ M σ H x H' hi hm R y => by
    obtain ⟨rfl, y⟩ := y
    obtain ⟨vs, e, r⟩ := hm.ok R
    obtain ⟨d, hd, rd⟩ := r.get (y _ (SqL.of e))
    exact ⟨d, hd, R, rd⟩
theorem wa_keys {κ : List (V × D)} {a : Addr} {o : Obj} {ws : List (Key × V)} {kvs : List (Key × D)} : WalkA (fun M => InM M a (.fdc o ws kvs)) κ (kvs.map fun kv => kD kv.1) (Itk a o ws) where
  goes := fun i δ M σ H hi hm R => by
    obtain ⟨e, e1, rr⟩ := hm.ok R
    exact ⟨e, by have := congrArg List.length e1; simp at this hi; omega⟩
  stops := fun δ M σ H hm R => by
    obtain ⟨e, e1, rr⟩ := hm.ok R
    exact ⟨e, by have := congrArg List.length e1; simp at this ⊢; omega⟩
  yields := fun i δ M σ H x H' hi hm R y => by
    obtain ⟨rfl, k, v, hk, rfl⟩ := y
    obtain ⟨e, e1, rr⟩ := hm.ok R
    have h1 : (ws.map (·.1))[i]? = some k := by rw [List.getElem?_map, hk]; rfl
    rw [e1, List.getElem?_map] at h1
    cases hkv : kvs[i]? with
    | none => rw [hkv] at h1; cases h1
    | some kv =>
      rw [hkv] at h1
      have : kv.1 = k := Option.some.inj h1
      refine ⟨kD kv.1, by rw [List.getElem?_map, hkv]; rfl, R, ?_⟩
      rw [this]; exact rep_kD k
theorem di_cellA {ΦC : (Mem → Prop) → List D → Mem → Prop} (h : DE B X iter δ M fun d M' => ∃ p ds, d = .raw (.ref p) ∧ InM M' p (.lst ds) ∧ ΦC (fun M => InM M p (.lst ds)) ds M') : DIA B X tg iter δ M ΦC := ⟨_, pi_list cE, fun κ σ H R hb Rr k => h κ σ H _ hb Rr fun v d M1 H1 ⟨p, ds, ed, hm, q⟩ R1 r1 => by
  subst ed
  cases r1
  obtain ⟨vs, e1, rr⟩ := hm.ok R1
  exact ⟨_, rfl, ⟨_, SqL.of e1⟩, k _ ds M1 H1 _ _ anc_in q (fun q hq => hq) R1 wa_list⟩⟩
theorem di_keysA {ΦC : (Mem → Prop) → List D → Mem → Prop} (h : DE B X iter δ M fun d M' => ∃ (p : Addr) (o : Obj) (ws : List (Key × V)) (kvs : List (Key × D)), d = .raw (.ref p) ∧ InM M' p (.fdc o ws kvs) ∧ ΦC (fun M => InM M p (.fdc o ws kvs)) (kvs.map fun kv => kD kv.1) M') : DIA B X tg iter δ M ΦC := ⟨_, pi_keys cE, fun κ σ H R hb Rr k => h κ σ H _ hb Rr fun v d M1 H1 ⟨p, o, ws, kvs, ed, hm, q⟩ R1 r1 => by
  subst ed
  cases r1
  obtain ⟨e1, e2, rr⟩ := hm.ok R1
  exact ⟨p, o, rfl, .inl ⟨ws, e1, k _ _ M1 H1 _ _ anc_in q (fun q hq => hq) R1 wa_keys⟩⟩⟩
/-- the turns of a comprehension over a cell -/
def LcHA (k : Nat) (B : Bx) (X : Cx) (scope : Scope) (elt : Expr) (ifs : List Expr) (own : List (Str × Nat)) (tk : Tk) (δ : Env') (P : Mem → Prop) (xs : List D) (M' : Mem) (ΦL : List D → Mem → Prop) : Prop :=
  ∃ Iv : Nat → List D → Mem → Prop, Iv 0 [] M' ∧ (∀ (p : Addr) i x acc M1, xs[i]? = some x → Iv i acc M1 → acc.length < sizeLine ∧ ∃ δ2, bindK tk x (wipeD δ (own.map (·.2))) = some δ2 ∧
        Turn1 B X scope elt ifs δ2 (insM k (p, .lst acc) M1) fun od M2 => ∃ M3, M2 = insM k (p, .lst acc) M3 ∧ Iv (i + 1) (acc ++ od.toList) M3) ∧ (∀ acc M1, Iv xs.length acc M1 → ΦL acc M1) ∧ ∀ i acc M1, Iv i acc M1 → P M1
theorem wf_lcA {elt : Expr} {ifs : List Expr} {scope : Scope} {wi : TI} {k : Nat} (own : List (Str × Nat)) (tk : Tk) (hv : ∀ i ∈ slotsK tk, i ∈ own.map (·.2))
    (w : WIA B wi δ M fun P xs M' => LcHA k B X scope elt ifs own tk δ P xs M' ΦL) : WF B (tLc wi (gK X.K tk) (ttA X scope ifs) (teA X scope elt) (own.map (·.2))) δ M ΦL := by
  intro κ σ H Q hb R kk
  refine w κ σ H _ hb R fun P xs M1 H1 J κ' an ⟨Iv, h0, hst, hd, hme⟩ hk R1 W => ?_
  intro p hp
  have hin : ∀ {p : Addr} {acc : List D} {M : Mem}, P M → P (insM k (p, .lst acc) M) := fun h => an _ _ (fun x hx => insM_perm.mem_iff.mp (List.mem_cons_of_mem _ hx)) h
  have R1p : Rs κ' δ (insM k (p, .lst []) M1) σ (upd H1 p (.lst [])) := (R1.lst .nil hp).perm insM_perm
  refine ⟨fun i m H => m = xs.length - i ∧ i ≤ xs.length ∧ ∃ acc M, Iv i acc M ∧ Rs κ' δ (insM k (p, .lst acc) M) σ H, ⟨xs.length, by simp, Nat.zero_le _, [], M1, h0, R1p⟩, ?_⟩
  rintro i m H ⟨rfl, hi, acc, M, q, R⟩
  by_cases hlt : i < xs.length
  · refine .inr ⟨W.goes i δ _ σ H hlt (hin (hme _ _ _ q)) R, fun H' => ∃ acc' M', Iv (i + 1) acc' M' ∧ Rs κ' δ (insM k (p, .lst acc') M') σ H', fun H' ⟨acc', M', q', R'⟩ => ⟨xs.length - (i + 1), by omega, rfl, hlt, acc', M', q', R'⟩, fun x H' y => ?_⟩
    obtain ⟨d, hd1, R2, r2⟩ := W.yields i δ _ σ H x H' hlt (hin (hme _ _ _ q)) R y
    obtain ⟨hlen, δ2, eb, tu⟩ := hst p i d acc M hd1 q
    have Rw := (R2.push r2)
    let κ2 := κ' ++ sk σ δ
    have back : ∀ {M' : Mem} {H' : Hp}, (∀ q ∈ κ2, Rep M'.F H' q.1 q.2) → (∀ q ∈ M', CellOk M'.F H' q.1 q.2) → M'.F.Nodup → Rs κ' δ M' σ H' := fun h1 h2 h3 => ⟨fun q hq => h1 q (List.mem_append.mpr (.inl hq)), sk_back R2.sl fun q hq => h1 q (List.mem_append.mpr (.inr hq)), h2, h3⟩
    have R3 : Rs κ2 (wipeD δ (own.map (·.2))) (insM k (p, .lst acc) M) (L2.wipe σ (own.map (·.2))) H' := by
      have := R2.wipe (own.map (·.2))
      exact ⟨fun q hq => by
        rcases List.mem_append.mp hq with h | h
        · exact R2.kp q h
        · exact sk_rep R2.sl q h, this.sl, R2.cl, R2.nd⟩
    refine gK_run R3 r2 eb hv fun σ2 hw R4 => ⟨by rw [hw, wipe_none], ?_⟩
    have hb2 : ∀ q ∈ B.ps, q ∈ κ2 := fun q hq => List.mem_append.mpr (.inl (hk q (hb q hq)))
    have fin : ∀ {u : V} {d : D} {M2 : Mem} {H2 : Hp}, (∃ M3, M2 = insM k (p, .lst acc) M3 ∧ Iv (i + 1) (acc ++ [d]) M3) → Rs κ2 δ2 M2 σ2 H2 → Rep M2.F H2 u d → ∃ ac, H2 p = some (.lst ac) ∧ ac.length < sizeLine ∧ ∃ acc' M', Iv (i + 1) acc' M' ∧ Rs κ' δ (insM k (p, .lst acc') M') σ (upd H2 p (.lst (ac ++ [u]))) := by
      rintro u d M2 H2 ⟨M3, rfl, q3⟩ R5 r5
      have R6 := (back R5.kp R5.cl R5.nd).perm insM_perm.symm
      have r5 : Rep (Mem.F ((p, Cell.lst acc) :: M3)) H2 u d := r5.fwd (Fwd.less fun x hx => (F_perm insM_perm).mem_iff.mp hx)
      have hm : ((p, Cell.lst acc) :: M3)[0]? = some (p, .lst acc) := rfl
      obtain ⟨vs, e1, rr⟩ := R6.at hm
      refine ⟨vs, e1, by rw [rr.length]; exact hlen, acc ++ [d], M3, q3, ?_⟩
      have hpF : ∀ x, x ∉ (Mem.F ((p, Cell.lst acc) :: M3)) → upd H2 p (.lst (vs ++ [u])) x = H2 x := fun x hx => upd_ne fun z => hx (z ▸ R6.mem hm p (by simp [Hl.own]))
      have := R6.cell (c' := .lst (acc ++ [d])) hm rfl (H' := upd H2 p (.lst (vs ++ [u]))) (fun x hx => upd_ne (by simpa [Hl.own] using hx)) ⟨_, upd_same, (rr.append (.cons r5 .nil)).fwd (Fwd.same hpF)⟩
      exact Rs.perm this insM_perm
    match ifs, tu with
    | [], tu =>
      show (if true = true then teA X scope elt σ2 H' (fun y H4 => ∃ ac, H4 p = some (.lst ac) ∧ ac.length < sizeLine ∧ (∃ acc' M', Iv (i + 1) acc' M' ∧ Rs κ' δ (insM k (p, .lst acc') M') σ (upd H4 p (.lst (ac ++ [y]))))) else (∃ acc' M', Iv (i + 1) acc' M' ∧ Rs κ' δ (insM k (p, .lst acc') M') σ H'))
      rw [if_pos rfl]
      intro X' bk
      exact tu X' bk κ2 σ2 H' _ hb2 R4 fun u d M2 H2 q2 R5 r5 => fin q2 R5 r5
    | [c], tu =>
      intro X' bk
      refine tu X' bk κ2 σ2 H' _ hb2 R4 fun t M2 H2 q2 R5 => Br.ite ⟨fun e X2 bk2 => ?_, fun e => ?_⟩
      · exact q2.1 e X2 bk2 κ2 σ2 H2 _ hb2 R5 fun u d M3 H3 q3 R6 r6 => fin q3 R6 r6
      · obtain ⟨M3, rfl, q3⟩ := q2.2 e
        exact ⟨acc, M3, by simpa using q3, back R5.kp R5.cl R5.nd⟩
    | _ :: _ :: _, tu => exact tu.elim
  · have e : i = xs.length := by omega
    subst e
    refine .inl ⟨W.stops δ _ σ H (hin (hme _ _ _ q)) R, ?_⟩
    exact kk p acc M H (hd acc M q) ((R.sub hk).perm insM_perm.symm)
theorem df_lcA {tg iter elt : Expr} {ifs : List Expr} {scope sc : Scope} {N : List Str} {n : Nat} (k : Nat) (z : Cz X n) (hN : X.N = N) (hs : X.env.scope = sc) (own : List (Str × Nat)) (tk : Tk) (ok : blkC N sc scope own = true) (hv : ∀ i ∈ slotsK tk, i ∈ own.map (·.2)) (hg : ∀ X', Bk X X' scope → PG X' tg (gK X.K tk))
    (h : DIA B X tg iter δ M fun P xs M' => LcHA k B X scope elt ifs own tk δ P xs M' ΦL) (hf : ∀ x, foldedSetIterable iter X.env x = pure x := by intro _; rfl) : DF B X (.ListComp elt [⟨tg, iter, ifs, 0⟩] scope pos) δ M ΦL := by
  obtain ⟨wi, pi, w⟩ := h
  exact .of (pe_lc z.calm z.nd pi (blkOk_by (by rw [hN, hs]; exact ok)) (fun s H C cl fp => hg _ bk_blk) (fun s H C cl fp => pts_A) (fun s H C cl fp => pe_A) hf) (wf_lcA own tk hv w)
theorem LcHA.pureT {α β : Type} {scope : Scope} {elt : Expr} {ifs : List Expr} {own : List (Str × Nat)} {tk : Tk} {k : Nat} {P : Mem → Prop} (l : List α) (f : α → D) (G : α → Option β) (g : β → D) (hl : l.length ≤ sizeLine)
    (h : ∀ (p : Addr) acc a, a ∈ l → ∃ δ2, bindK tk (f a) (wipeD δ (own.map (·.2))) = some δ2 ∧ Turn1 B X scope elt ifs δ2 (insM k (p, .lst acc) M) fun od M2 => od = (G a).map g ∧ M2 = insM k (p, .lst acc) M)
    (hc : P M) (q : ΦL ((l.filterMap G).map g) M) : LcHA k B X scope elt ifs own tk δ P (l.map f) M ΦL := by
  refine ⟨fun i acc M1 => M1 = M ∧ acc = ((l.take i).filterMap G).map g ∧ acc.length ≤ i, ⟨rfl, rfl, Nat.le_refl _⟩, ?_, ?_, fun i acc M1 h => by rw [h.1]; exact hc⟩
  · rintro p i x acc M1 hx ⟨rfl, ha, hal⟩
    obtain ⟨a, ea, rfl⟩ := map_get hx
    have hi : i < l.length := (List.getElem?_eq_some_iff.mp ea).1
    obtain ⟨δ2, e1, tu⟩ := h p acc a (List.mem_of_getElem? ea)
    have fin : ∀ (od : Option D) M2, od = (G a).map g ∧ M2 = insM k (p, .lst acc) M1 → ∃ M3, M2 = insM k (p, .lst acc) M3 ∧ M3 = M1 ∧ acc ++ od.toList = ((l.take (i + 1)).filterMap G).map g ∧ (acc ++ od.toList).length ≤ i + 1 := by
      rintro od M2 ⟨rfl, rfl⟩
      refine ⟨M1, rfl, rfl, ?_, ?_⟩
      · rw [List.take_add_one, ea, List.filterMap_append, List.map_append, ← ha]
        cases e : G a <;> simp [e]
      · rw [List.length_append]
        cases G a <;> simp <;> omega
    refine ⟨by omega, δ2, e1, ?_⟩
    unfold Turn1 at tu ⊢
    match ifs, tu with
    | [], tu => exact fun X' bk => (tu X' bk).mono fun d M2 q => fin _ _ q
    | [c], tu => exact fun X' bk => (tu X' bk).mono fun t M2 q => ⟨fun e X2 bk2 => (q.1 e X2 bk2).mono fun d M3 q => fin _ _ q, fun e => fin _ _ (q.2 e)⟩
    | _ :: _ :: _, tu => exact tu.elim
  · rintro acc M1 ⟨rfl, rfl, _⟩
    rw [List.length_map, List.take_length]
    exact q
theorem LcHA.mapT {α β : Type} {scope : Scope} {elt : Expr} {own : List (Str × Nat)} {tk : Tk} {k : Nat} {P : Mem → Prop} (l : List α) (f : α → D) (G : α → β) (g : β → D) (hl : l.length ≤ sizeLine)
    (h : ∀ (p : Addr) acc a, a ∈ l → ∃ δ2, bindK tk (f a) (wipeD δ (own.map (·.2))) = some δ2 ∧ ∀ X', Bk X X' scope → DE B X' elt δ2 (insM k (p, .lst acc) M) fun d M2 => d = g (G a) ∧ M2 = insM k (p, .lst acc) M)
    (hc : P M) (q : ΦL ((l.map G).map g) M) : LcHA k B X scope elt [] own tk δ P (l.map f) M ΦL := by
  refine LcHA.pureT l f (fun a => some (G a)) g hl (fun p acc a ha => ?_) hc (by rw [List.filterMap_eq_map']; exact q)
  obtain ⟨δ2, e, tu⟩ := h p acc a ha
  exact ⟨δ2, e, fun X' bk => (tu X' bk).mono fun d M2 ⟨e1, e2⟩ => ⟨by rw [e1]; rfl, e2⟩⟩
end
end Hl
namespace Hl
open PySem L2
/-! ### data with a reference seen otherwise -/
section
variable {B : Bx} {X : Cx} {e a b c o : Expr} {es rest : List Expr} {st : Stmt} {sts body : List Stmt} {δ δ' : Env'} {M : Mem} {Φ : D → Mem → Prop} {Ψ : DEnds} {te ta tb : TE} {tt : TT} {pos pos' apos : Pos} {d x y : D} {ΦB : Bool → Mem → Prop} {ΦL : List D → Mem → Prop} {kvs : List (Key × D)} {k : Key}
variable {tg iter : Expr}
/-! ### a dict in the slots is frozen -/
/-! ### a dict is locked while a statement, or an expression, runs -/
theorem rs_lock {κ : List (V × D)} {σ : St} {H : Hp} {p : Addr} {od : Obj} {ws : List (Key × V)} {M1 : Mem} (R : Rs κ δ M σ H) (r : Rpl p (.dct kvs) (.fdc od ws kvs) M M1) (e2 : ws.map (·.1) = kvs.map (·.1)) (rr : Reps M.F H (ws.map (·.2)) (kvs.map (·.2))) : Rs κ δ M1 σ (upd H p (.frz od (.dK ws))) :=
  R.rpl r (fun x hx => upd_ne hx) ⟨upd_same, e2, rr.fwd (Fwd.same fun x hx => upd_ne fun (z : x = p) => hx (by rw [z]; exact r.inM.mem))⟩
theorem rs_unlock {κ : List (V × D)} {σ : St} {H : Hp} {p : Addr} {od : Obj} {ws : List (Key × V)} {M1 : Mem} (R : Rs κ δ M σ H) (r : Rpl p (.fdc od ws kvs) (.dct kvs) M M1) : H p = some (.frz od (.dK ws)) ∧ Rs κ δ M1 σ (upd H p (.dK ws)) := by
  obtain ⟨e1, e2, rr⟩ := r.inM.ok R
  exact ⟨e1, R.rpl r (fun x hx => upd_ne hx) ⟨ws, upd_same, e2, rr.fwd (Fwd.same fun x hx => upd_ne fun (z : x = p) => hx (by rw [z]; exact r.inM.mem))⟩⟩
theorem Rpl.F {p : Addr} {c c' : SC} {M' : Mem} (r : Rpl p c c' M M') : M'.F = M.F := by
  cases r with
  | cell j h => exact F_set h (by rw [own_up, own_up])
  | head j h => exact F_set h rfl
  | @part N b c0 j i h h2 => exact F_set h (by show b :: _ = b :: _; rw [map_set_fst h2])
def Unl (p : Addr) (od : Obj) (ws : List (Key × V)) (kvs : List (Key × D)) (P : Mem → Prop) (M : Mem) : Prop := ∃ M2, Rpl p (.fdc od ws kvs) (.dct kvs) M M2 ∧ P M2
theorem de_lock {p : Addr} (kvs : List (Key × D)) (hin : InM M p (.dct kvs)) (h : ∀ od ws, ∃ M1, Rpl p (.dct kvs) (.fdc od ws kvs) M M1 ∧ DE B X e δ M1 fun d => Unl p od ws kvs (Φ d)) : DE B X e δ M Φ :=
  .of (pe_lock cE) fun κ σ H Q hb R k => by
    obtain ⟨ws, e1, e2, rr⟩ := hin.ok R
    refine ⟨p, _, e1, trivial, fun od => ?_⟩
    obtain ⟨M1, r, h⟩ := h od ws
    refine h κ σ _ _ hb (rs_lock R r e2 rr) fun v d M' H' ⟨M2, r2, q⟩ R' r' => ?_
    obtain ⟨u1, u2⟩ := rs_unlock R' r2
    refine ⟨u1, k _ _ _ _ q u2 ?_⟩
    rw [r2.F]
    exact r'.fwd (Fwd.same fun x hx => upd_ne fun (z : x = p) => hx (by rw [z]; exact r2.inM.mem))
/-! ### fields of things with parts -/
theorem fld_h {K : PySem.W.Frag} {f : Str} {C p : Addr} {ns : List Str} {fs : List D} {N : List (Addr × SC)} (j : Nat) (hm : M[j]? = some (p, .grp (.obj C ns fs) N)) (ff : FldP K C f) (l : (ns.zip fs).lookup f = some d) (k : Φ d M) : FldD K f (.raw (.ref p)) M Φ := fld_o (.inm (.inr (.inl ⟨_, List.mem_of_getElem? hm⟩))) ff l k
theorem fld_p {K : PySem.W.Frag} {f : Str} {C p b : Addr} {ns : List Str} {fs : List D} {c0 : SC} {N : List (Addr × SC)} (j : Nat) (hm : M[j]? = some (b, .grp c0 N)) (hp : (p, SC.obj C ns fs) ∈ N) (ff : FldP K C f) (l : (ns.zip fs).lookup f = some d) (k : Φ d M) : FldD K f (.raw (.ref p)) M Φ := fld_o (.inm (.inr (.inr ⟨_, _, _, List.mem_of_getElem? hm, hp⟩))) ff l k
/-! ### o.f += e -/
end
end Hl
namespace Hl
open PySem L2
section
variable {B : Bx} {X : Cx} {e a b c o : Expr} {es rest : List Expr} {kws : List Keyword} {st : Stmt} {sts body : List Stmt} {δ δ' : Env'} {M : Mem} {Φ : D → Mem → Prop} {Ψ : DEnds} {te ta tb : TE} {tt : TT} {pos pos' apos : Pos} {d x y : D} {ΦB : Bool → Mem → Prop} {ΦL : List D → Mem → Prop} {kvs : List (Key × D)} {k : Key}
/-! ### methods of things with parts, and of their parts -/
theorem mt_hS {m k : Nat} {mn : Str} {C q : Addr} {ns : List Str} {fs : List D} {N : List (Addr × SC)} {sel : Sel} {p : DSpE} {Ξ : XPost} (j : Nat) (hm : M[j]? = some (q, .grp (.obj C ns fs) N)) (f : MethEX X k C mn es.length (kwN kws) sel p) (hk : k ≤ m) (lt : Lets X B δ Ξ) (pl : PlA X pos es kws (kwN kws)) (hn : ns.contains mn = false)
    (h : DAK B X es kws δ M fun ds zs M' => ds.length = es.length ∧ zs.length = (kwN kws).length ∧ p (selD sel (.raw (.ref q) :: ds ++ zs)) M' Φ Ξ) : MtE B X m pos es kws mn δ (.raw (.ref q)) M Φ := mt_o (.inm (.inr (.inl ⟨_, List.mem_of_getElem? hm⟩))) f hk lt pl hn h
theorem mt_pS {m k : Nat} {mn : Str} {C q b : Addr} {ns : List Str} {fs : List D} {c0 : SC} {N : List (Addr × SC)} {sel : Sel} {p : DSpE} {Ξ : XPost} (j : Nat) (hm : M[j]? = some (b, .grp c0 N)) (hp : (q, SC.obj C ns fs) ∈ N) (f : MethEX X k C mn es.length (kwN kws) sel p) (hk : k ≤ m) (lt : Lets X B δ Ξ) (pl : PlA X pos es kws (kwN kws)) (hn : ns.contains mn = false)
    (h : DAK B X es kws δ M fun ds zs M' => ds.length = es.length ∧ zs.length = (kwN kws).length ∧ p (selD sel (.raw (.ref q) :: ds ++ zs)) M' Φ Ξ) : MtE B X m pos es kws mn δ (.raw (.ref q)) M Φ := mt_o (.inm (.inr (.inr ⟨_, _, _, List.mem_of_getElem? hm, hp⟩))) f hk lt pl hn h
end
/-! ### a promise about the first cells, with other cells ahead of them -/
def anyw (p : DSpE) : DSpE := fun ds M Φ Ξ => ∃ L B M', M = L ++ (B ++ M') ∧ p ds (B ++ (L ++ M')) (fun d M2 => ∃ B2, M2 = B2 ++ (L ++ M') ∧ Φ d (L ++ (B2 ++ M'))) (fun C ns es M2 => ∃ B2, M2 = B2 ++ (L ++ M') ∧ Ξ C ns es (L ++ (B2 ++ M')))
section
variable {p : DSpE} {ds : List D} {M : Mem} {Φ : D → Mem → Prop} {Ξ : XPost} {x1 x2 x3 x4 x5 x6 c1 c2 c3 : Addr × Cell}
theorem anyw_1 (L : Mem) (h : p ds (c1 :: (L ++ M)) (fun d M2 => ∃ B2, M2 = B2 ++ (L ++ M) ∧ Φ d (L ++ (B2 ++ M))) (fun C ns es M2 => ∃ B2, M2 = B2 ++ (L ++ M) ∧ Ξ C ns es (L ++ (B2 ++ M)))) : anyw p ds (L ++ c1 :: M) Φ Ξ := ⟨L, [c1], M, rfl, h⟩
theorem anyw_3 (L : Mem) (h : p ds (c1 :: c2 :: c3 :: (L ++ M)) (fun d M2 => ∃ B2, M2 = B2 ++ (L ++ M) ∧ Φ d (L ++ (B2 ++ M))) (fun C ns es M2 => ∃ B2, M2 = B2 ++ (L ++ M) ∧ Ξ C ns es (L ++ (B2 ++ M)))) : anyw p ds (L ++ c1 :: c2 :: c3 :: M) Φ Ξ := ⟨L, [c1, c2, c3], M, rfl, h⟩
end
section
variable {B : Bx} {X : Cx} {sts : List Stmt} {δ : Env'} {Ψ : DEnds} {L N M : Mem} {d : D}
theorem ws_any (h : DSs B X sts δ (N ++ (L ++ M)) Ψ) : DSs B X sts δ (L ++ (N ++ M)) Ψ := ws_vw (fun d => .perm (List.perm_append_comm_assoc L N M)) h
theorem vw_any : Vw d (N ++ (L ++ M)) d (L ++ (N ++ M)) := .perm (List.perm_append_comm_assoc N L M)
end
section
variable {L M0 M1 M2 : Mem} {d : D} {Φ : D → Mem → Prop} {Ξ : XPost} {C : Addr} {ns : List Str} {es : List D}
theorem any_ret (k : ∃ B2, M2 = B2 ++ (L ++ M0) ∧ Φ d (L ++ (B2 ++ M0))) : ∃ d2 M3, Vw d M2 d2 M3 ∧ Φ d2 M3 := by
  obtain ⟨B2, rfl, k⟩ := k
  exact ⟨_, _, vw_any, k⟩
theorem any_retV {d0 : D} (v : Vw d0 M1 d M2) (k : ∃ B2, M2 = B2 ++ (L ++ M0) ∧ Φ d (L ++ (B2 ++ M0))) : ∃ d2 M3, Vw d0 M1 d2 M3 ∧ Φ d2 M3 := by
  obtain ⟨B2, rfl, k⟩ := k
  exact ⟨_, _, v.trans vw_any, k⟩
theorem Vw.fw {κ : List (V × D)} {δ : Env'} {σ : St} {H : Hp} (v : ∀ d, Vw d M1 d M2) (R : Rs κ δ M1 σ H) : Fwd M1.F H M2.F H := fun a o h e => by
  have := (v (.hp a o) κ δ σ H (.ref a) R (.hp h e)).2
  cases this with
  | hp h1 e1 => exact ⟨h1, e1⟩
theorem VwX.ofVw (v : ∀ d, Vw d M1 d M2) : VwX ns es M1 es M2 := fun κ δ σ H dx R x => ⟨(v .non κ δ σ H .non R .non).1, x.fwd (Vw.fw v R)⟩
theorem any_ex (k : ∃ B2, M2 = B2 ++ (L ++ M0) ∧ Ξ C ns es (L ++ (B2 ++ M0))) : ∃ es2 M3, VwX ns es M2 es2 M3 ∧ Ξ C ns es2 M3 := by
  obtain ⟨B2, rfl, k⟩ := k
  exact ⟨_, _, .ofVw fun d => vw_any, k⟩
end
end Hl
namespace Hl
open PySem L2
section
variable {B : Bx} {X : Cx} {e a b c o : Expr} {es rest : List Expr} {kws : List Keyword} {st : Stmt} {sts body : List Stmt} {δ δ' : Env'} {M : Mem} {Φ : D → Mem → Prop} {Ψ : DEnds} {te ta tb : TE} {tt : TT} {pos pos' apos cpos : Pos} {d x y : D} {ΦB : Bool → Mem → Prop} {ΦL : List D → Mem → Prop} {kvs : List (Key × D)} {k : Key}
/-! ### xs.count(y), xs.index(y) of truths -/
def rCountV (K : PySem.W.Frag) : V → List V → Hp → VK → Prop := fun x xs H Q => ∃ (a : Addr) (ys : List V) (y : V), x = V.ref a ∧ xs = [y] ∧ SqL K H a ys ∧ flatV y = true ∧ ys.all flatV = true ∧ Q (.int (ys.countP (fun z => eqV z y) : Nat)) H
theorem count_vals {y : V} : ∀ {ys : List V} {us : List Value}, Vals ys us → ys.all flatV = true → us.countP (eqU y) = ys.countP fun z => eqV z y
  | _, _, .nil, _ => rfl
  | z :: ys, u :: us, .cons r rs, f => by
    have f2 := Bool.and_eq_true_iff.mp (show (_ && _) = true from f)
    rw [List.countP_cons, List.countP_cons, count_vals rs f2.2, eqU_of r f2.1]
theorem mt_countV : MtR X "list.count" (rCountV X.K) := by
  intro pins s σ H x xs v us Q I rx rxs h
  obtain ⟨a, ys, y, rfl, rfl, hs, fy, fys, q⟩ := h
  cases rx
  cases rxs with
  | cons ry rt =>
    rename_i uy ut
    cases rt
    obtain ⟨its, rv, ⟨⟨cls, dd, data, sl⟩, n, ho, hc, hdn, hd⟩, hlen⟩ := I.list hs
    simp only at hc hd
    subst hc hd
    refine call_meets PySem.F.slot_list_count ⟨_, ho, rfl⟩ PySem.F.entry_list_count (PySem.F.args_list_count_2 _ _)
      (SeqAt.list_countAt a its.toArray n dd sl uy (eqU y)) ⟨ho, fun u' hu' => mem_eqAt ry fy rv fys u' (by simpa using hu'), ?_⟩
    refine ⟨.int _, H, I.tok _, ⟨s.toks, ?_⟩, q⟩
    show Value.int ((its.toArray.toList.countP (eqU y) : Nat) : Int) s.toks = _
    rw [List.toList_toArray, count_vals rv fys]
theorem flat_bls (bs : List Bool) : (bs.map V.bl).all flatV = true := by
  rw [List.all_eq_true]
  intro v hv
  obtain ⟨b, _, rfl⟩ := List.mem_map.mp hv
  rfl
theorem count_bls (bs : List Bool) : (bs.map V.bl).countP (fun z => eqV z (.bl true)) = bs.count true := by
  rw [List.countP_map]
  unfold List.count
  exact congrArg (fun p => List.countP p bs) (funext fun b => by cases b <;> rfl)
theorem de_count (h : DE B X o δ M fun x M1 => (∃ ds, IsL M1 x ds) ∧ DA B X [a] δ M1 fun ys M2 => MtD X.K "list" (rCountV X.K) x ys M2 Φ)
    (hbase : attributeBase o "count" X.env (eval o X.env) = eval o X.env := by rfl)
    (hfew : ((backTo cpos (starEach [a] X.env)).all (fun x => !x.1) && (backToKw cpos (keywordEach [] X.env)).all (fun x => x.1.isSome)
      && decide (([a] : List Expr).length + ([] : List Keyword).length + (if ([] : List Keyword).isEmpty then 0 else 1) < 30)) = true := by rfl)
    (hline : (apos.endLine == cpos.line) = true := by rfl) (hs : starEach [a] X.env = (false, eval a X.env) :: starEach [] X.env := by rfl) (hplain : (backTo cpos (starEach [] X.env)).any (·.1) = false := by rfl) :
    DE B X (.Call (.Attribute o "count" apos) [a] [] cpos) δ M Φ := de_bml PySem.F.slot_list_count PySem.F.type_list_count mt_countV h hbase hfew hline hs hplain
theorem de_index (h : DE B X o δ M fun x M1 => (∃ ds, IsL M1 x ds) ∧ DA B X [a] δ M1 fun ys M2 => MtD X.K "list" (rIndex X.K) x ys M2 Φ)
    (hbase : attributeBase o "index" X.env (eval o X.env) = eval o X.env := by rfl)
    (hfew : ((backTo cpos (starEach [a] X.env)).all (fun x => !x.1) && (backToKw cpos (keywordEach [] X.env)).all (fun x => x.1.isSome)
      && decide (([a] : List Expr).length + ([] : List Keyword).length + (if ([] : List Keyword).isEmpty then 0 else 1) < 30)) = true := by rfl)
    (hline : (apos.endLine == cpos.line) = true := by rfl) (hs : starEach [a] X.env = (false, eval a X.env) :: starEach [] X.env := by rfl) (hplain : (backTo cpos (starEach [] X.env)).any (·.1) = false := by rfl) :
    DE B X (.Call (.Attribute o "index" apos) [a] [] cpos) δ M Φ := de_bml PySem.F.slot_list_index PySem.F.type_list_index mt_index h hbase hfew hline hs hplain
theorem mt_cntB {K : PySem.W.Frag} {bs : List Bool} (h : IsL M x (bs.map .bl)) (k : Φ (.int (bs.count true : Nat)) M) : MtD K "list" (rCountV K) x [.bl true] M Φ := fun κ δ σ H v vs Q R rv rs f => by
  cases rs with
  | cons r1 r2 =>
    cases r1; cases r2
    obtain ⟨p, us, rfl, e1, rr⟩ := h.sq R rv
    have := rr.bls
    subst this
    exact ⟨p, _, _, rfl, rfl, SqL.of e1, rfl, flat_bls bs, by rw [count_bls]; exact f _ _ _ _ k R (.int _)⟩
theorem mt_idxB {K : PySem.W.Frag} {bs : List Bool} (j : Nat) (h : IsL M x (bs.map .bl)) (hj : bs[j]? = some true) (hno : ∀ m, m < j → bs[m]? = some false) (k : Φ (.int (j : Nat)) M) : MtD K "list" (rIndex K) x [.bl true] M Φ := fun κ δ σ H v vs Q R rv rs f => by
  cases rs with
  | cons r1 r2 =>
    cases r1; cases r2
    obtain ⟨p, us, rfl, e1, rr⟩ := h.sq R rv
    have := rr.bls
    subst this
    refine ⟨p, _, _, j, .bl true, rfl, rfl, SqL.of e1, rfl, flat_bls bs, by rw [List.getElem?_map, hj]; rfl, rfl, fun m z' hm hz => ?_, f _ _ _ _ k R (.int _)⟩
    rw [List.getElem?_map, hno m hm] at hz
    cases hz
    rfl
theorem od_inZT {K : PySem.W.Frag} {z : Str} (zs : List Str) (k : Φ (.bl (decide (z ∈ zs))) M) : OpD (rInU K) (.str z) (.tup (zs.map .str)) M Φ := .inr (OpD.inl (fun κ δ σ H v w Q R rv rw' f => by
  cases rv
  cases rw' with
  | tup h1 e1 rr =>
    have := reps_strs rr
    subst this
    refine ⟨_, _, rfl, .inr (SqT.of e1), rfl, flat_strs zs, ?_⟩
    show Q (.bl (inV _ _)) H
    rw [inV_strs]
    exact f _ _ M H k R (.bl _)))
/-! ### sep.join(texts) -/
theorem de_join (h : DE B X o δ M fun x M1 => ∃ z, x = .str z ∧ DE B X a δ M1 fun y M2 => ∃ ys : List Str, IsL M2 y (ys.map .str) ∧ (ys.map (·.length)).sum + ys.length * z.length ≤ 16777216 ∧ Φ (.str (Txt.join z ys)) M2)
    (hs : starEach [a] X.env = [(false, eval a X.env)] := by rfl) (hbase : attributeBase o "join" X.env (eval o X.env) = eval o X.env := by rfl) (hline : (apos.endLine == pos.line) = true := by rfl) : DE B X (.Call (.Attribute o "join" apos) [a] [] pos) δ M Φ :=
  .of (pe_join cE cE hs hbase hline) fun κ σ H Q hb R k => h κ σ H _ hb R fun v x M1 H1 ⟨z, ez, q1⟩ R1 r1 => by
    subst ez
    cases r1
    refine ⟨⟨z, rfl⟩, q1 κ σ H1 _ hb R1 fun vy y M2 H2 ⟨ys, il, hl, q2⟩ R2 r2 => ?_⟩
    obtain ⟨p, us, rfl, e1, rr⟩ := il.sq R2 r2
    have := rr.strs
    subst this
    exact ⟨z, p, ys, rfl, rfl, .inl (SqL.of e1), hl, k _ _ _ _ q2 R2 (.str _)⟩
end
/-! signs of a joined text -/
theorem join_signs (y : Str) (ys : List Str) : (Txt.join y ys).cps.toList = TL.joinL y.cps.toList (ys.map fun z => z.cps.toList) := by
  have e := TL.tl_join y ys
  rw [← TL.join_eq y ys] at e
  exact e
theorem joinL_nil : ∀ l : List (List Nat), TL.joinL [] l = l.flatten
  | [] => rfl
  | [p] => by simp [TL.joinL]
  | p :: q :: r => by
    show p ++ ([] ++ TL.joinL [] (q :: r)) = _
    rw [joinL_nil (q :: r)]; simp
end Hl
namespace Hl
open PySem L2
/-! ### facts of classes, not to be looked into -/
structure KitP (K : PySem.W.Frag) (t u : Value) (b : Bool) : Prop where
  is : PySem.W.kitOne K t u = some b
structure ExmP (K : PySem.W.Frag) (t u : Value) (b : Bool) : Prop where
  is : PySem.W.exmOne K t u = some b
structure MgP (mg : Str → Option Value) (x : Str) (C : Addr) : Prop where
  is : mg x = some (.ref C)
section
variable {B : Bx} {X X' : Cx} {δ : Env'} {M : Mem} {Φ : D → Mem → Prop} {Ψ : DEnds} {d x y : D} {scope : Scope} {suite : List Stmt} {pos : Pos}
theorem isx_xP {K : PySem.W.Frag} {C : Addr} {ns : List Str} {fs : List D} {c : V} {u : Value} {b : Bool} (T : ExcP K C) (hc : ClsV c u) (hk : KitP K (.ref C) u b) (k : Φ (.bl b) M) : CallD (rIsiU K) [.exn C ns fs, .raw c] M Φ := isx_x T hc hk.is k
theorem isx_oP {K : PySem.W.Frag} {C : Addr} {ns : List Str} {fs : List D} {c : V} {u : Value} {b : Bool} (h : IsO M x C ns fs) (T : InsP K C) (hc : ClsV c u) (hk : KitP K (.ref C) u b) (k : Φ (.bl b) M) : CallD (rIsiU K) [x, .raw c] M Φ := isx_o h T hc hk.is k
theorem isx_bP {K : PySem.W.Frag} {S : String} {c : V} {u : Value} {b : Bool} (hx : tyD x = some S) (hc : ClsV c u) (hk : KitP K (.type S) u b) (k : Φ (.bl b) M) : CallD (rIsiU K) [x, .raw c] M Φ := isx_b hx hc hk.is k
theorem isx_t2P {K : PySem.W.Frag} {C : Addr} {ns : List Str} {fs : List D} {c1 c2 : V} {u1 u2 : Value} {b1 b2 : Bool} (T : ExcP K C) (h1 : ClsV c1 u1) (h2 : ClsV c2 u2) (k1 : KitP K (.ref C) u1 b1) (k2 : KitP K (.ref C) u2 b2) (k : Φ (.bl (b1 || b2)) M) : CallD (rIsiV K) [.exn C ns fs, .tup [.raw c1, .raw c2]] M Φ := isx_t2 T h1 h2 k1.is k2.is k
theorem exh_yesP {c0 C : Addr} {oi : Option Nat} {ns : List Str} {ds : List D} {r : List HdD} (hm : ExmP X.K (.ref C) (.ref c0) true) (h : ∀ a pn kp, DSs ⟨kp, fun _ _ _ _ _ => False⟩ (X.suite a pn) suite (envD oi δ (.exn C ns ds)) M (endsD oi Ψ)) : exH B X Ψ ((c0, oi, suite) :: r) C ns ds δ M := exh_yes hm.is h
theorem exh_noP {c0 C : Addr} {oi : Option Nat} {ns : List Str} {ds : List D} {r : List HdD} (hm : ExmP X.K (.ref C) (.ref c0) false) (h : exH B X Ψ r C ns ds δ M) : exH B X Ψ ((c0, oi, suite) :: r) C ns ds δ M := exh_no hm.is h
theorem de_gclsP {x : Str} {C : Addr} (hg : Gl X x) (hm : MgP X.mg x C) (k : Φ (.raw (.ref C)) M) (hd : (x == ("__debug__" : Str)) = false := by decide) : DE B X (.Name x pos) δ M Φ := de_gcls hg hm.is k hd
end
end Hl
namespace Hl
open PySem L2
/-! ### zip of two lists of one length -/
def zipD (xs ys : List D) : List D := (xs.zip ys).map fun p => .tup [p.1, p.2]
theorem zipD_len {xs ys : List D} (h : xs.length = ys.length) : (zipD xs ys).length = xs.length := by
  unfold zipD; rw [List.length_map, List.length_zip, h, Nat.min_self]
theorem zipD_get {xs ys : List D} {i : Nat} {x y : D} (h1 : xs[i]? = some x) (h2 : ys[i]? = some y) : (zipD xs ys)[i]? = some (.tup [x, y]) := by
  unfold zipD
  rw [List.getElem?_map, List.getElem?_zip_eq_some (z := (x, y)) |>.mpr ⟨h1, h2⟩]; rfl
theorem wd_zip {κ : List (V × D)} {a b : Addr} {xs ys : List D} {K : PySem.W.Frag} (hl : xs.length = ys.length) : WalkD ((.ref a, .lst xs) :: (.ref b, .lst ys) :: κ) (zipD xs ys) (Itz K a b) where
  goes := fun i δ M σ H hi R => by
    rw [zipD_len hl] at hi
    cases R.top with
    | lst hn e r =>
      cases R.pop.top with
      | lst hn2 e2 r2 =>
        obtain ⟨d, hd⟩ := lt_some hi
        obtain ⟨d2, hd2⟩ := lt_some (show i < ys.length by omega)
        obtain ⟨v, hv, _⟩ := r.get' hd
        obtain ⟨v2, hv2, _⟩ := r2.get' hd2
        exact ⟨_, _, v, v2, SqL.of e, SqL.of e2, hv, hv2⟩
  stops := fun δ M σ H R => by
    rw [zipD_len hl]
    cases R.top with
    | lst hn e r =>
      cases R.pop.top with
      | lst hn2 e2 r2 => exact ⟨_, _, SqL.of e, SqL.of e2, .inl (by rw [r.length]; exact Nat.le_refl _)⟩
  yields := fun i δ M σ H x H' hi R y => by
    cases R.top with
    | lst hn e r =>
      cases R.pop.top with
      | lst hn2 e2 r2 =>
        obtain ⟨T, v, v2, rfl, hT, rfl, q1, q2⟩ := y
        obtain ⟨d, hd, rd⟩ := r.get (q1 _ (SqL.of e))
        obtain ⟨d2, hd2, rd2⟩ := r2.get (q2 _ (SqL.of e2))
        refine ⟨.tup [d, d2], zipD_get hd hd2, ?_⟩
        obtain ⟨R1, r1⟩ := R.tupV (p := T) (vs := [v, v2]) (ds := [d, d2]) (.cons rd (.cons rd2 .nil)) hT
        exact ⟨R1, r1⟩
section
variable {B : Bx} {X : Cx} {e a b c o : Expr} {δ δ' : Env'} {M : Mem} {pos pos' apos : Pos} {ΦL : List D → Mem → Prop}
theorem di_zip {p tpos : Pos} {elts : List Expr} {kk : Nat} (g : Gn X "zip") (h : DA B X [a, b] δ M fun ds M' => ∃ xs ys, ds = [.lst xs, .lst ys] ∧ xs.length = ys.length ∧ ΦL (zipD xs ys) M') (hs : starEach [a, b] X.env = (false, eval a X.env) :: starEach [b] X.env := by rfl) (hpl : (backTo pos (starEach [b] X.env)).any (·.1) = false := by rfl) : DI B X (.Tuple elts kk tpos) (.Call (.Name "zip" p) [a, b] [] pos) δ M ΦL :=
  ⟨_, pi_zip g.gl g.no cA hs hpl, fun κ σ H R hb Rr k => h κ σ H _ hb Rr fun vs ds M1 H1 ⟨xs, ys, ed, hl, q⟩ R1 r1 => by
    subst ed
    cases r1 with
    | cons ra rr =>
      cases rr with
      | cons rb rr =>
        cases rr
        cases ra with
        | lst hn e1 r1 =>
          cases rb with
          | lst hn2 e2 r2 =>
            exact ⟨_, _, _, _, rfl, SqL.of e1, SqL.of e2, k _ M1 H1 _ _ q (fun q hq => List.mem_cons_of_mem _ (List.mem_cons_of_mem _ hq)) ((R1.push (.lst hn2 e2 r2)).push (.lst hn e1 r1)) (wd_zip hl)⟩⟩
end
end Hl
namespace Hl
open PySem L2
open PyProof.Rows hiding St
/-! ### a list, a tuple, or a list that is a cell -/
inductive IsSq (M : Mem) : D → List D → Prop
  | lst (ds : List D) : IsSq M (.lst ds) ds
  | tup (ds : List D) : IsSq M (.tup ds) ds
  | cell {p : Addr} {ds : List D} (h : InM M p (.lst ds)) : IsSq M (.raw (.ref p)) ds
theorem anc_sq {y : D} {ds : List D} : Anc fun M => IsSq M y ds := fun M M' h k => by
  cases k with
  | lst => exact .lst _
  | tup => exact .tup _
  | cell h' => exact .cell (h'.mono h)
theorem IsSq.sq {κ : List (V × D)} {δ : Env'} {M : Mem} {σ : St} {H : Hp} {v : V} {x : D} {ds : List D} (h : IsSq M x ds) (R : Rs κ δ M σ H) (r : Rep M.F H v x) : ∃ p vs, v = .ref p ∧ (H p = some (.lst vs) ∨ H p = some (.tup vs)) ∧ Reps M.F H vs ds := by
  cases h with
  | lst => cases r with | lst h1 e1 r1 => exact ⟨_, _, rfl, .inl e1, r1⟩
  | tup => cases r with | tup h1 e1 r1 => exact ⟨_, _, rfl, .inr e1, r1⟩
  | cell h =>
    cases r
    obtain ⟨vs, e1, r1⟩ := h.ok R
    exact ⟨_, _, rfl, .inl e1, r1⟩
end Hl
namespace Hl
open PySem L2
section
variable {B : Bx} {X : Cx} {δ δ' : Env'} {M : Mem} {Φ : D → Mem → Prop} {d x y : D} {α : Type} {l : List α} {f : α → D} {i : Int}
theorem od_ixTE {K : PySem.W.Frag} (h : 0 ≤ i ∧ i < l.length) (k : ∀ y, l[i.toNat]? = some y → Φ (f y) M) : OpD (rIxU K) (.tup (l.map f)) (.int i) M Φ := by
  have hi : i.toNat < l.length := by omega
  obtain ⟨n, rfl⟩ : ∃ n : Nat, i = (n : Int) := ⟨i.toNat, by omega⟩
  have hn : n < l.length := by omega
  exact od_ixT (d := f l[n]) (at_mapN (by simp [hn])) (k _ (by simp [hn]))
end
end Hl
namespace Hl
open PySem L2
end Hl
namespace Hl
open PySem L2
open PyProof.Rows hiding St
section
variable {B : Bx} {X : Cx} {e a b c o : Expr} {es rest : List Expr} {δ δ' : Env'} {M M' : Mem} {Φ : D → Mem → Prop} {Ψ : DEnds} {pos pos' apos cpos : Pos} {d x y : D} {ΦL : List D → Mem → Prop}
/-! ### xs.clear() -/
def rClear : V → List V → Hp → VK → Prop := fun x vs H Q => ∃ l xs, x = .ref l ∧ vs = [] ∧ H l = some (.lst xs) ∧ Q .non (upd H l (.lst []))
theorem mt_clear : MtR X "list.clear" rClear := by
  intro pins s σ H x vs v us Q I rx rv h
  obtain ⟨l, xs, rfl, rfl, hH, q⟩ := h
  cases rx
  have hus := rv.zero
  subst hus
  obtain ⟨z, its, n, r, hl, e⟩ := I.lstM hH
  refine call_meets F.slot_list_clear ⟨_, e, rfl⟩ F.entry_list_clear (F.args_list_clear_1 _) (AutoSeq1.list_clear_list_0 l its.toArray n (by rw [List.size_toArray]; omega)) ⟨e, ?_⟩
  exact ⟨.non, _, I.lset (its' := []) hH e (by simp) .nil (Nat.zero_le _), rfl, q⟩
theorem de_bml0 {name : Str} {id : String} {r : V → List V → Hp → VK → Prop} (slot : Slot "list" name id) (hty : typeOf (.builtin id) = pure (.type "method_descriptor")) (hm : MtR X id r)
    (h : DE B X o δ M fun x M1 => (∃ ds, IsL M1 x ds) ∧ MtD X.K "list" r x [] M1 Φ)
    (hbase : attributeBase o name X.env (eval o X.env) = eval o X.env := by rfl) (hline : (apos.endLine == cpos.line) = true := by rfl) :
    DE B X (.Call (.Attribute o name apos) [] [] cpos) δ M Φ := .of (pe_bm0 PySem.F.plainAttrs_list slot hty hm cE hbase hline) fun κ σ H Q hb R k =>
  h κ σ H _ hb R fun v x M1 H1 ⟨⟨ds, il⟩, q⟩ R1 r1 => by
    obtain ⟨p, vs, ev, e1, rr⟩ := il.sq R1 r1
    refine ⟨by subst ev; exact .inl ⟨rfl, vs, SqL.of e1⟩, ?_⟩
    exact q κ δ σ H1 v [] Q R1 r1 .nil k
theorem de_clear (h : DE B X o δ M fun x M1 => (∃ ds, IsL M1 x ds) ∧ MtD X.K "list" rClear x [] M1 Φ)
    (hbase : attributeBase o "clear" X.env (eval o X.env) = eval o X.env := by rfl) (hline : (apos.endLine == cpos.line) = true := by rfl) :
    DE B X (.Call (.Attribute o "clear" apos) [] [] cpos) δ M Φ := de_bml0 PySem.F.slot_list_clear PySem.F.type_list_clear mt_clear h hbase hline
/-! ### a comprehension whose items are new cells, put behind all others -/
end
theorem IsO.mono {M M' : Mem} {x : D} {C : Addr} {ns : List Str} {ds : List D} (h : IsO M x C ns ds) (k : ∀ c ∈ M, c ∈ M') : IsO M' x C ns ds := by
  cases h with
  | val => exact .val _ _ _
  | cell j h => exact .inm ((InM.mono (M := M) (.inl (List.mem_of_getElem? h))) k)
  | inm h => exact .inm (h.mono k)
theorem IsSq.mono {M M' : Mem} {x : D} {ds : List D} (h : IsSq M x ds) (k : ∀ c ∈ M, c ∈ M') : IsSq M' x ds := anc_sq M M' k h
end Hl
namespace PySem.W
open PySem PySem.Calls PyProof.Rows Builtin
end PySem.W
namespace Hl
open PySem L2
open PyProof.Rows hiding St
end Hl
namespace Hl
open PySem L2
open PyProof.Rows hiding St
section
variable {B : Bx} {X : Cx} {e a b c o : Expr} {es rest : List Expr} {δ δ' : Env'} {M M' : Mem} {Φ : D → Mem → Prop} {pos pos' apos cpos : Pos} {d x y : D} {ΦL : List D → Mem → Prop}
/-! ### xs.pop() -/
theorem de_pop0 (h : DE B X o δ M fun x M1 => (∃ ds, IsL M1 x ds) ∧ MtD X.K "list" rPop x [] M1 Φ)
    (hbase : attributeBase o "pop" X.env (eval o X.env) = eval o X.env := by rfl) (hline : (apos.endLine == cpos.line) = true := by rfl) :
    DE B X (.Call (.Attribute o "pop" apos) [] [] cpos) δ M Φ := de_bml0 PySem.F.slot_list_pop PySem.F.type_list_pop mt_pop h hbase hline
/-! ### max of three -/
theorem de_max3 {n : Nat} (z : Cz X n) {p : Pos} (g : Gn X "max") (h : DA B X [a, b, c] δ M fun ds M1 => CallD (rNuC3 nuMax3) ds M1 Φ) (he : starEach [a, b, c] X.env = (false, eval a X.env) :: starEach [b, c] X.env := by rfl) (hpl : (backTo pos (starEach [b, c] X.env)).any (·.1) = false := by rfl) : DE B X (.Call (.Name "max" p) [a, b, c] [] pos) δ M Φ := de_blt (call_max3Nu z.calm) g boot_max h (by decide) (by decide) he hpl
theorem cd_max3 {i j l : Int} (k : Φ (.int (max (max i j) l)) M) : CallD (rNuC3 nuMax3) [.int i, .int j, .int l] M Φ := fun κ δ σ H vs Q R rs f => by
  cases rs with
  | cons r1 r2 =>
    cases r1
    cases r2 with
    | cons r2 r3 =>
      cases r2
      cases r3 with
      | cons r3 r4 =>
        cases r3
        cases r4
        refine ⟨_, _, _, .int (max (max i j) l), rfl, ?_, f _ _ _ _ k R (.int _)⟩
        have h2 : ∀ a b : Int, nuMax2 (.int a) (.int b) = some (.int (max a b)) := fun a b => by
          show some (if decide (a < b) = true then V.int b else V.int a) = _
          by_cases h : a < b
          · rw [if_pos (by simpa using h), Int.max_eq_right (by omega)]
          · rw [if_neg (by simpa using h), Int.max_eq_left (by omega)]
        unfold nuMax3
        rw [h2]
        exact h2 _ _
end
end Hl
namespace Hl
open PySem L2
open PyProof.Rows hiding St
/-! ### an exception made as a value -/
section
variable {X : Cx} {pins : List (Addr × Obj)} {σ : St} {H : Hp} {s s' : Shared}
theorem ep_mk {Q : XK} {Q' : VK} {u : Value} (m : MkP X pins σ Q u s') (q : ∀ cls d H' a, Q cls d H' → H' a = none → Q' (.ref a) (upd H' a (XO cls d a))) : EP X pins σ Q' u s' := by
  obtain ⟨a, oe, vs, sI, H', cls, d, rfl, J, k, hne, ha, hz, hd, h1, na, os, ag, r, q0⟩ := m
  refine ⟨.ref a, upd H' a (XO cls d a), ?_, rfl, q _ _ _ _ q0 na⟩
  exact Inv.landedX (B := PySem.W.hideAll sI.heap (frs X.stack)) J (fun b o e hb => PySem.W.hideAll_get _ e hb) (fun b o e => k b o (PySem.W.of_hideAll _ e)) (Heap.UpToSlots.of_keeps k) os ag na hne (xo_ok ha hz hd)
end
section
variable {X : Cx} {B : Bx} {δ : Env'} {M : Mem} {Φ : D → Mem → Prop} {e : Expr} {es : List Expr} {kws : List Keyword} {pos pp : Pos} {m : Nat}
theorem de_ofMk {t : St → Hp → XK → Prop} (hm : PMk X e t) (h : ∀ κ σ H, (∀ q ∈ B.ps, q ∈ κ) → Rs κ δ M σ H → t σ H fun cls d H' => ∃ C ns ds M', cls = .ref C ∧ Rs κ δ M' σ H' ∧ XRep M'.F H' d ns ds ∧ Φ (.exn C ns ds) M') : DE B X e δ M Φ := by
  intro κ σ H Q hb R k
  unfold tE
  intro pins s I
  refine wpAny_mono (hm pins s σ H _ I (h κ σ H hb R)) (fun u s1 mk => ep_mk mk fun cls d H' a ⟨C, ns, ds, M', e1, R1, x1, q⟩ na => ?_) fun _ _ x => x
  subst e1
  exact k _ _ M' _ q (R1.new na) (x1.held (R1.fresh na) na)
theorem de_exn0 {C : Addr} {x : Str} (T : Ex0 X.K X.mg x C) (hg : Gl X x) (h : Φ (.exn C [] []) M) (hdb : (x == ("__debug__" : Str)) = false := by decide) : DE B X (.Call (.Name x pp) [] [] pos) δ M Φ :=
  de_ofMk (pmk_own0 T hg hdb) fun κ σ H hb R => ⟨C, [], [], M, rfl, R, .inl ⟨rfl, rfl, rfl⟩, h⟩
end
/-! ### with keywords: type.__call__ on a class of exceptions -/
section
open PySem.W PySem.Calls PySem.HandSPX PyProof
variable {prog : Program} {w : World} {A : Around} {E : Value → Shared → Prop} {R : Result → Shared → Prop} {h : Heap} {g : Array GenState} {d : Drawn} {t : Nat} {os : OsState}
variable {nm q : Str} {C N : Addr} {bs bm bmB : List Value} {hdct : Bool} {sn : List Str} {sub : List Value} {ab : Bool} {col : Option Bool} {dd : Option Addr} {k0 k1 k2 k3 k5 : Option Value} {B newId initId : String} {kw : List (Str × Value)}
theorem check_newK {M : Model} (F : ExcBaseFacts B newId initId bmB) (hT : ∀ X : String, bm.contains (.type X) = bmB.contains (.type X)) {rest : List Value} {Q : Unit → Shared → Prop}
    (hC : h.get? C = some (excClassObj nm q C N bs bm hdct sn sub ab col dd k0 k1 k2 k3 k5 newId)) (hq : Q () ⟨h, g, d, t, os⟩) : wpAny M A (checkBuiltinCall newId ⟨.ref C :: rest, kw⟩) Q E ⟨h, g, d, t, os⟩ := by
  have hcont : (Value.ref C :: bm).contains (.type B) = true := by rw [List.contains_cons, hT, F.hasB, Bool.or_true]
  have hstar := F.noStar
  simp only [checkBuiltinCall, F.newKind, F.newSplit, F.newRow]
  repeat (first | refine wpAny_loadPart_at hC ?_ | (refine wpAny_isSubtype_exc hC ?_; rw [hcont]) | refine wpAny_staticBase_exc hC ?_ | refine wpAny_madeBy_exc hC ?_ | simp only [bne_self_eq_false, Bool.false_eq_true, if_false] | wp_step)
  exact hq
theorem newK (F : ExcBaseFacts B newId initId bmB) (hT : ∀ X : String, bm.contains (.type X) = bmB.contains (.type X)) {rest : List Value}
    (hC : h.get? C = some (excClassObj nm q C N bs bm hdct sn sub ab col dd k0 k1 k2 k3 k5 newId))
    (hq : R (.ok (.ret (.ref (h.objs.size + 1)))) ⟨(h.push { cls := .type "tuple", data := .seq rest.toArray }).push
      { cls := .ref C, data := .fields #[.ref h.objs.size, .none, .none, .none, .bool false, .none] }, g, d, t, os⟩) (hrest : rest.length ≤ sizeLine) :
    codeAny (model prog w) A (.builtin newId ⟨.ref C :: rest, kw⟩) R ⟨h, g, d, t, os⟩ := by
  have hends := F.ends
  have hcB : (Value.ref C :: bm).contains (.type B) = true := by rw [List.contains_cons, hT, F.hasB, Bool.or_true]
  have hcA : (Value.ref C :: bm).contains (.type "AttributeError") = false := by rw [List.contains_cons, hT, F.noAttr]; rfl
  have hcN : (Value.ref C :: bm).contains (.type "NameError") = false := by rw [List.contains_cons, hT, F.noName]; rfl
  refine codeAny_builtinAt F.entry ?_
  unfold Builtin.«BaseException.__new__»
  refine PySem.wpAt_bind ?_
  show PySem.wpAt _ _ _ (stack >>= _) _ _ _
  refine PySem.wpAt_bind (PySem.wpAt_stack fun p below => PySem.wpAt_of_wpAny ?_)
  wp_walk
  refine PySem.wpAt_of_wpAny ?_
  rw [F.owner]
  repeat (first | with_reducible refine wpAny_madeHere_exc F.canon hC ?_ | with_reducible refine wpAny_loadPart_at hC ?_ | (with_reducible refine wpAny_isSubtype_exc hC ?_; first | rw [hcB] | rw [hcA] | rw [hcN]) | wp_step)
  show R _ _
  rw [Heap.size_push]
  exact hq
theorem type_callK (F : ExcBaseFacts B newId initId bmB) (hT : ∀ X : String, bm.contains (.type X) = bmB.contains (.type X)) {rest : List Value} {fI : Addr} {Q : Fin → Shared → Prop}
    (hC : h.get? C = some (excClassObj nm q C N bs bm hdct sn sub ab col dd k0 k1 k2 k3 k5 newId))
    (hi : W.Looks (model prog w) h (typeLookup (.ref C) "__init__") (some (.ref fI))) (hb : ∀ self, W.Looks (model prog w) h (bindSpecial (.ref fI) self) (.ref fI, [self])) (hrest : rest.length ≤ sizeLine)
    (hq : codeAny (model prog w) A (.call (.ref fI) ⟨.ref (h.objs.size + 1) :: rest, kw⟩)
      (fun r s' => match r with | .ok (.ret v) => v = .none ∧ Q (.done (.ret (.ref (h.objs.size + 1)))) s' | .ok _ => False | .error e => E e s')
      ⟨(h.push (W.kdv_tup rest)).push (excO C h.objs.size), g, d, t, os⟩) :
    wpAny (model prog w) A (Builtin.«type.__call__» ⟨.ref C :: rest, kw⟩) Q E ⟨h, g, d, t, os⟩ := by
  repeat (first | with_reducible refine wpAny_loadPart_at hC ?_ | with_reducible refine wpAny_madeBy_exc hC ?_ | wp_step)
  refine codeAny_call_builtin_code (Code.quiet_builtin _ F.quiet) (check_newK F hT hC ?_)
  refine newK F hT hC ?_ hrest
  show wpAny _ _ _ _ _ _
  have k : ∀ b o, h.get? b = some o → ((h.push (W.kdv_tup rest)).push (excO C h.objs.size)).get? b = some o := fun b o e => Heap.get?_push_of_some _ (Heap.get?_push_of_some _ e)
  have hC₁ := k _ _ hC
  have hget : ((h.push (W.kdv_tup rest)).push (excO C h.objs.size)).get? (h.objs.size + 1) = some (excO C h.objs.size) := by heap_get
  have hcC : (Value.ref C :: bm).contains (.ref C) = true := by simp
  have i1 := hi.keeps k
  have b1 := (hb (.ref (h.objs.size + 1))).keeps k
  unfold isInstance
  repeat (first | with_reducible refine wpAny_loadPart_at hget ?_ | (with_reducible refine wpAny_isSubtype_exc hC₁ ?_; rw [hcC]) | wp_step)
  show wpAny _ _ (typeLookup (.ref C) _) _ _ _
  refine i1.at ?_
  refine wpAny_holding (wpAny_bind (b1.at ?_))
  refine wpAny_bind (wpAny_call (codeAny_mono hq fun r s' z => ?_))
  rcases r with e | (v | _ | _ | _) <;> first | exact z | exact z.elim | skip
  obtain ⟨rfl, z⟩ := z
  first
    | exact wpAny_pure (wpAny_pure z)
    | (wp_walk; exact z)
theorem check_tcK {M : Model} {rest : List Value} {Q : Unit → Shared → Prop} (hC : h.get? C = some (excClassObj nm q C N bs bm hdct sn sub ab col dd k0 k1 k2 k3 k5 newId))
    (hq : Q () ⟨h, g, d, t, os⟩) : wpAny M A (checkBuiltinCall "type.__call__" ⟨.ref C :: rest, kw⟩) Q E ⟨h, g, d, t, os⟩ := by
  have f3 := tc_sub
  have hT : (⟨h, g, d, t, os⟩ : Shared).TypeIs (.ref C) "type" := ⟨_, hC, rfl⟩
  simp only [checkBuiltinCall, tc_kind, tc_split]
  repeat (any_goals (first | assumption | with_reducible refine wpAny_loadPart_at hC ?_ | with_reducible refine wpAny_onRaise ?_ | with_reducible refine wpAny_map ?_ | wp_step))
theorem call_ownK (F : ExcBaseFacts B newId initId bmB) (hT : ∀ X : String, bm.contains (.type X) = bmB.contains (.type X)) {rest : List Value} {fI : Addr}
    (hC : h.get? C = some (excClassObj nm q C N bs bm hdct sn sub ab col dd k0 k1 k2 k3 k5 newId))
    (hi : W.Looks (model prog w) h (typeLookup (.ref C) "__init__") (some (.ref fI))) (hb : ∀ self, W.Looks (model prog w) h (bindSpecial (.ref fI) self) (.ref fI, [self])) (hrest : rest.length ≤ sizeLine)
    (hq : codeAny (model prog w) (A.under (.builtin "type.__call__" ⟨.ref C :: rest, kw⟩)) (.call (.ref fI) ⟨.ref (h.objs.size + 1) :: rest, kw⟩) (W.InitBack (h.objs.size + 1) R)
      ⟨(h.push (W.kdv_tup rest)).push (excO C h.objs.size), g, d, t, os⟩) :
    codeAny (model prog w) A (.call (.ref C) ⟨rest, kw⟩) R ⟨h, g, d, t, os⟩ := by
  have f1 := tc_lookup
  have f2 := tc_bind (.ref C)
  have hTy : (⟨h, g, d, t, os⟩ : Shared).TypeIs (.ref C) "type" := ⟨_, hC, rfl⟩
  refine codeAny_of_tree ?_
  show wpAny _ _ (callAny (.ref C) _) _ _ _
  repeat (any_goals (first | assumption | with_reducible refine wpAny_loadPart_at hC ?_ | wp_step))
  refine ⟨rfl, ?_⟩
  refine codeAny_call_builtin_at (Code.quiet_builtin _ (by decide +kernel)) entry_typeCall (check_tcK hC (type_callK F hT hC hi hb hrest ?_))
  refine codeAny_mono hq fun r s' z => ?_
  rcases r with e | (v | _ | _ | _) <;> exact z
end
/-- an own exception class whose __init__ keeps its arguments, called with arguments by place and by name -/
structure ExN (P : Program) (w : World) (K : PySem.W.Frag) (mg : Str → Option Value) (base : Heap) (x : Str) (C : Addr) (ns : List Str) (n : Nat) (ks : List Str) (sel : Sel) : Prop where
  gC : mg x = some (.ref C)
  T : OexC K C
  ex : ∃ fI fd ps, PySem.W.findIn K (.ref C) "__init__" = some (some (.ref fI)) ∧ PySem.W.typeIn K (.ref fI) = some (.type "function") ∧ CallB K fd ps (n + 1) ks (.inl 0 :: sel) ∧ FnOk P w K mg base CX0 1 fI fd ps (spXI C ns)
section
open PySem.W PySem.Calls PySem.HandSPX
variable {X : Cx} {B : Bx} {δ : Env'} {M : Mem} {Φ : D → Mem → Prop} {e : Expr} {es : List Expr} {kws : List Keyword} {pos pp : Pos} {m : Nat}
theorem de_exnN {C : Addr} {x : Str} {n : Nat} {ns ks : List Str} {sel : Sel} (z : Cz X m) (hn : 2 ≤ m) (T : ExN X.prog X.w X.K X.mg X.base x C ns n ks sel) (hg : Gl X x)
    (h : DAK B X es kws δ M fun ds zs M' => ds.length = n ∧ n ≤ 1000 ∧ zs.length = ks.length ∧ sel.length = ns.length ∧ ∀ x, Φ (.exn C ns.reverse (selD sel (x :: (ds ++ zs))).reverse) M') (pl : PlA X pos es kws ks)
    (hdb : (x == ("__debug__" : Str)) = false := by decide) : DE B X (.Call (.Name x pp) es kws pos) δ M Φ := by
  obtain ⟨fI, fd, ps, iC, tI, cb, F1⟩ := T.ex
  obtain ⟨nm, q, N, bs, bm, sn, sub, ab, col, dd, k0, k1, k2, k3, k5, hC, hbm⟩ := T.T.cls
  intro κ σ H Q hb R kk
  unfold tE
  intro pins s I
  refine wpAny_Call_Name_kw (ld_glob I hg T.gC ?_ hdb)
  refine dak_run (first := []) T.T.kC pl h I hb R fun us ws s2 vs zs ds zd M2 H2 I2 rv rz ⟨l1, l0, l2, l3, q⟩ R2 r1 r2 => ?_
  show wpAny _ _ (call (.ref C) us (ks.zip ws)) _ _ _
  obtain ⟨hp, g, dr, tk, os⟩ := s2
  have hsz : hp.objs.size ≤ hp.objs.size + 1 := Nat.le_succ _
  have na : H2 (hp.objs.size + 1) = none := I2.hok.fresh hsz
  have k2 : ∀ b o, hp.get? b = some o → ((hp.push (PySem.W.kdv_tup us)).push (PySem.HandSPX.excO C hp.objs.size)).get? b = some o := fun b o e => Heap.get?_push_of_some _ (Heap.get?_push_of_some _ e)
  have hget : ((hp.push (PySem.W.kdv_tup us)).push (PySem.HandSPX.excO C hp.objs.size)).get? (hp.objs.size + 1) = some (PySem.HandSPX.excO C hp.objs.size) := by heap_get
  have I3 : Inv X pins σ (upd H2 (hp.objs.size + 1) (exo (hp.objs.size + 1) C none)) ⟨(hp.push (PySem.W.kdv_tup us)).push (PySem.HandSPX.excO C hp.objs.size), g, dr, tk, os⟩ :=
    I2.laid (t' := tk) (a := hp.objs.size + 1) (o := exo (hp.objs.size + 1) C none) (h' := (hp.push (PySem.W.kdv_tup us)).push (PySem.HandSPX.excO C hp.objs.size)) k2 hsz (exo_ok hget)
  obtain ⟨a, ea0⟩ : ∃ a, a = hp.objs.size + 1 := ⟨_, rfl⟩
  rw [← ea0] at hsz na hget I3
  obtain ⟨all, so, b⟩ := cb.to ⟨_, g, dr, tk, os⟩ (.ref a :: us) ws I3.kIn (by rw [List.length_cons, ← rv.length, r1.length, l1]) (by rw [← rz.length, r2.length, l2])
  have rr : Vals (V.ref a :: (vs ++ zs)) (Value.ref a :: (us ++ ws)) := .cons rfl (rv.append rz)
  have r3 := so.vals rr
  obtain ⟨u0, all', rfl, so'⟩ : ∃ u0 all', all = u0 :: all' ∧ SelOk (.ref a :: (us ++ ws)) sel all' := by cases so; exact ⟨_, _, rfl, by assumption⟩
  have hR3 : Rs κ δ M2 σ (upd H2 a (exo a C none)) := R2.new na
  let QX : XK := fun cls d H' => ∃ C' ns' ds' M', cls = .ref C' ∧ Rs κ δ M' σ H' ∧ XRep M'.F H' d ns' ds' ∧ Φ (.exn C' ns' ds') M'
  have hl3 : (selV sel (V.ref a :: (vs ++ zs))).length = ns.length := by rw [← l3]; exact List.length_map ..
  have rp : Reps M2.F H2 (selV sel (V.ref a :: (vs ++ zs))) (selD sel (.raw (.ref a) :: (ds ++ zd))) :=
    SelOk.reps (us := .ref a :: (us ++ ws)) rr.length (.cons (.raw _) (r1.append r2)) so'
  have hq : spXI C ns (selV (.inl 0 :: sel) (V.ref a :: (vs ++ zs))) (upd H2 a (exo a C none)) (fun v H' => v = .non ∧ ∃ (d : Addr) (fs : List (Str × V)), H' a = some (exo a C (some d)) ∧ H' d = some (exd d fs) ∧ H2 d = none ∧ QX (.ref C) (some d) (upd (del H' a) d (.xd fs))) (fun _ _ _ => False) := by
    refine ⟨a, selV sel (V.ref a :: (vs ++ zs)), rfl, hl3, upd_same, fun dx H' n1 n2 e1 e2 e3 => ?_⟩
    have ndx : H2 dx = none := by rw [upd_ne n2] at n1; exact n1
    refine ⟨rfl, dx, _, e1, e2, ndx, ?_⟩
    have eq : upd (del H' a) dx (.xd (ns.reverse.zip (selV sel (V.ref a :: (vs ++ zs))).reverse)) = upd H2 dx (.xd (ns.reverse.zip (selV sel (V.ref a :: (vs ++ zs))).reverse)) := by
      funext b
      by_cases hb : b = dx
      · subst hb; rw [upd_same, upd_same]
      · rw [upd_ne hb, upd_ne hb]
        by_cases ha : b = a
        · subst ha; rw [del_same, na]
        · rw [del_ne ha, e3 b ha hb, upd_ne ha]
    rw [eq]
    exact ⟨C, ns.reverse, _, M2, rfl, R2.new ndx, .inr ⟨dx, _, rfl, R2.fresh ndx, upd_same, by rw [List.length_reverse, List.length_reverse, hl3], (Reps.reverse rp).fwd (Fwd.new ndx)⟩, q _⟩
  have hus : us.length ≤ sizeLine := by
    rw [← rv.length, r1.length, l1, sizeLine_eq]
    omega
  subst ea0
  refine wpAny_call (call_ownK F.excBase_ValueError (fun Y => PySem.HandSPX.refsVE_contains Y bm hbm) (I2.kIn _ _ hC) (PySem.W.looks_findIn I2.kIn iC) (fun self => PySem.W.bind_fn I2.kIn self tI) hus
    (codeAny_mono (F1.run _ X.stack _ _ ⟨Value.ref (hp.objs.size + 1) :: us, ks.zip ws⟩ _ _ _ (fun _ _ _ => False) ((z.room.mono hn).make C us (ks.zip ws)) (I3.env0.make C us (ks.zip ws)) b r3 hq) fun r s' hq' => ?_))
  cases r with
  | error er => exact hq'.elim
  | ok fl =>
    cases fl with
    | ret u =>
      obtain ⟨v, H3, os2, bare2, un2, hok2, rv', ev, d, fs, ea, ed, hd1, q2⟩ := hq'
      subst ev
      obtain ⟨h2, g2, d2, t2, os'⟩ := s'
      refine ⟨rv', ep_mk (mk_end (raises_own T.T.exC T.T.tyC) I2 (Nat.le_succ _) k2 un2 hok2 os2 bare2 ea ed hd1 q2) fun cls d' H' a' ⟨C', ns', ds', M', e1, R1', x1, q'⟩ na' => ?_⟩
      subst e1
      exact kk _ _ M' _ q' (R1'.new na') (x1.held (R1'.fresh na') na')
    | next => exact False.elim hq'
    | brk => exact False.elim hq'
    | cont => exact False.elim hq'
/-- an exception laid, by the call's shape -/
@[irreducible] def XnP (C : Addr) (ns : List Str) (sel : Sel) (n m : Nat) (Φ : D → Mem → Prop) (ds zs : List D) (M : Mem) : Prop := ds.length = n ∧ zs.length = m ∧ ∀ x, Φ (.exn C ns.reverse (selD sel (x :: (ds ++ zs))).reverse) M
theorem XnP.out {C : Addr} {ns : List Str} {sel : Sel} {n k : Nat} {ds zs : List D} (h : XnP C ns sel n k Φ ds zs M) : ds.length = n ∧ zs.length = k ∧ ∀ x, Φ (.exn C ns.reverse (selD sel (x :: (ds ++ zs))).reverse) M := by unfold XnP at h; exact h
theorem XnP.of {C : Addr} {ns : List Str} {sel : Sel} {n k : Nat} {ds zs : List D} (h : ds.length = n ∧ zs.length = k ∧ ∀ x, Φ (.exn C ns.reverse (selD sel (x :: (ds ++ zs))).reverse) M) : XnP C ns sel n k Φ ds zs M := by unfold XnP; exact h
theorem de_exnS {C : Addr} {x : Str} {ns : List Str} {sel : Sel} (z : Cz X m) (T : ExN X.prog X.w X.K X.mg X.base x C ns es.length (kwN kws) sel) (hn : 2 ≤ m) (h0 : es.length ≤ 1000) (h1 : sel.length = ns.length) (hg : Gl X x)
    (h : DAK B X es kws δ M fun ds zs M' => XnP C ns sel es.length (kwN kws).length Φ ds zs M') (pl : PlA X pos es kws (kwN kws))
    (hdb : (x == ("__debug__" : Str)) = false := by decide) : DE B X (.Call (.Name x pp) es kws pos) δ M Φ := by
  refine de_exnN z hn T hg ?_ pl hdb
  cases es <;> cases kws
  · have h := XnP.out h
    exact ⟨h.1, by simp, h.2.1, h1, h.2.2⟩
  · exact fun κ σ H Q hb R k => h κ σ H Q hb R fun vs ds M' H' q => k vs ds M' H' ⟨(XnP.out q).1, h0, (XnP.out q).2.1, h1, (XnP.out q).2.2⟩
  · exact fun κ σ H Q hb R k => h κ σ H Q hb R fun vs ds M' H' q => k vs ds M' H' ⟨(XnP.out q).1, h0, (XnP.out q).2.1, h1, (XnP.out q).2.2⟩
  · exact fun κ σ H Q hb R k => h κ σ H Q hb R fun vs ds M' H' q => k vs ds M' H' fun κ2 σ2 H2 Q2 hb2 R2 k2 => q κ2 σ2 H2 Q2 hb2 R2 fun vs2 ds2 M2 H2' q2 => k2 vs2 ds2 M2 H2' ⟨(XnP.out q2).1, h0, (XnP.out q2).2.1, h1, (XnP.out q2).2.2⟩
theorem xn_10 {C : Addr} {f : Str} {d : D} (h : Φ (.exn C [f] [d]) M) : XnP C [f] [.inl 1] 1 0 Φ [d] [] M := .of ⟨rfl, rfl, fun _ => h⟩
theorem xn_01 {C : Addr} {f : Str} {d : D} (h : Φ (.exn C [f] [d]) M) : XnP C [f] [.inl 1] 0 1 Φ [] [d] M := .of ⟨rfl, rfl, fun _ => h⟩
theorem xn_02 {C : Addr} {f g : Str} {d e : D} (h : Φ (.exn C [g, f] [d, e]) M) : XnP C [f, g] [.inl 2, .inl 1] 0 2 Φ [] [d, e] M := .of ⟨rfl, rfl, fun _ => h⟩
theorem xn_04 {C : Addr} {f g i j : Str} {d e a b : D} (h : Φ (.exn C [j, i, g, f] [e, d, b, a]) M) : XnP C [f, g, i, j] [.inl 3, .inl 4, .inl 1, .inl 2] 0 4 Φ [] [d, e, a, b] M := .of ⟨rfl, rfl, fun _ => h⟩
theorem idXn {C : Addr} {ns : List Str} {sel : Sel} {n k : Nat} {ds zs : List D} (h : XnP C ns sel n k Φ ds zs M) : XnP C ns sel n k Φ ds zs M := h
end
end Hl
namespace Hl
open PySem L2
open PyProof.Rows hiding St
/-! ### a, b, c = x, y, z where a name is a cell: no names are swapped -/
end Hl
namespace Hl
open PySem L2
open PyProof.Rows hiding St
/-! ### f-strings -/
section
variable {B : Bx} {X : Cx} {e a b c o : Expr} {es rest : List Expr} {δ δ' : Env'} {M : Mem} {Φ : D → Mem → Prop} {Ψ : DEnds} {pos pos' : Pos} {d x y : D}
def FmD (x : D) (M : Mem) (Φ : D → Mem → Prop) : Prop := (∃ y : Str, x = .str y ∧ y.length ≤ sizeLine ∧ Φ (.str y) M) ∨ ∃ i : Int, x = .int i ∧ i.natAbs.log2 < 1920 ∧ Φ (.str (toString i)) M
theorem fm_s {z : Str} (h : z.length ≤ sizeLine) (k : Φ (.str z) M) : FmD (.str z) M Φ := .inl ⟨z, rfl, h, k⟩
theorem fm_i {i : Int} (h : i.natAbs.log2 < 1920) (k : Φ (.str (toString i)) M) : FmD (.int i) M Φ := .inr ⟨i, rfl, h, k⟩
theorem de_fmt (h : DE B X e δ M fun x M' => FmD x M' Φ) : DE B X (.FormattedValue e (-1) none pos) δ M Φ := DE.of (pe_fmt cE) fun κ σ H Q hb R k => h κ σ H _ hb R fun v x M1 H1 q R1 r1 => by
  rcases q with ⟨z, rfl, hz, q⟩ | ⟨i, rfl, hz, q⟩
  · cases r1
    exact .inl ⟨z, rfl, hz, k _ _ M1 _ q R1 (.str _)⟩
  · cases r1
    exact .inr ⟨i, rfl, hz, k _ _ M1 _ q R1 (.str _)⟩
@[irreducible] def JnD (x : D) (acc : Str) (Φ : Str → Prop) : Prop := ∃ z : Str, x = .str z ∧ (acc ++ z).length ≤ sizeLine ∧ Φ (acc ++ z)
theorem jn_mk {z acc : Str} {Φ : Str → Prop} (h : (acc ++ z).length ≤ sizeLine) (k : Φ (acc ++ z)) : JnD (.str z) acc Φ := by unfold JnD; exact ⟨z, rfl, h, k⟩
theorem JnD.out {acc : Str} {Φ : Str → Prop} (h : JnD x acc Φ) : ∃ z : Str, x = .str z ∧ (acc ++ z).length ≤ sizeLine ∧ Φ (acc ++ z) := by unfold JnD at h; exact h
def DJr (B : Bx) (X : Cx) (δ : Env') (Φ : Str → Mem → Prop) : List Expr → Str → Mem → Prop
  | [], acc, M => Φ acc M
  | e :: es, acc, M => DE B X e δ M fun x M' => JnD x acc fun out => DJr B X δ Φ es out M'
@[irreducible] def DJ (B : Bx) (X : Cx) (δ : Env') (Φ : Str → Mem → Prop) (es : List Expr) (acc : Str) (M : Mem) : Prop := DJr B X δ Φ es acc M
theorem DJ_eq : @DJ = @DJr := by
  funext B X δ Φ es acc M
  unfold DJ
  rfl
theorem dj_nil {Φ : Str → Mem → Prop} {acc : Str} (h : Φ acc M) : DJ B X δ Φ [] acc M := by rw [DJ_eq] at *; exact h
theorem dj_cons {Φ : Str → Mem → Prop} {acc : Str} (h : DE B X e δ M fun x M' => JnD x acc fun out => DJ B X δ Φ es out M') : DJ B X δ Φ (e :: es) acc M := by rw [DJ_eq] at *; exact h
theorem pj_c : ∀ es : List Expr, PJ X es (es.map fun e => tE X e)
  | [] => .nil
  | e :: es => .cons cE (pj_c es)
theorem dj_run {Φ : Str → Mem → Prop} {κ : List (V × D)} {σ : St} (hb : ∀ q ∈ B.ps, q ∈ κ) : ∀ (es : List Expr) (acc : Str) (M : Mem) (H : Hp) (Q : Str → Hp → Prop), DJ B X δ Φ es acc M → Rs κ δ M σ H → (∀ out M1 H1, Φ out M1 → Rs κ δ M1 σ H1 → Q out H1) → tJs (es.map fun e => tE X e) acc σ H Q
  | [], acc, M, H, Q, h, R, k => by rw [DJ_eq] at h; exact k _ _ _ h R
  | e :: es, acc, M, H, Q, h, R, k => by
    rw [DJ_eq] at h
    refine h κ σ H _ hb R fun v x M1 H1 jq R1 r1 => ?_
    obtain ⟨z, ex, hz, q⟩ := JnD.out jq
    subst ex
    cases r1
    exact ⟨z, rfl, hz, dj_run hb es _ M1 H1 Q (by rw [DJ_eq]; exact q) R1 k⟩
theorem de_joined {v1 v2 : Expr} (h : DJ B X δ (fun out M' => Φ (.str out) M') (v1 :: v2 :: rest) Str.empty M) : DE B X (.JoinedStr (v1 :: v2 :: rest) pos) δ M Φ := DE.of (pe_joined (pj_c _)) fun κ σ H Q hb R k => dj_run hb _ _ M H _ h R fun out M1 H1 q R1 => k _ _ M1 H1 q R1 (.str _)
theorem de_joined1 (h : DE B X e δ M Φ) : DE B X (.JoinedStr [e] pos) δ M Φ := DE.of (pe_joined1 cE) h
end
end Hl
namespace Hl
open PySem L2
open PyProof.Rows hiding St
/-! ### str(x), repr(x) by the own __str__, __repr__ -/
end Hl
namespace Hl
open PySem L2
open PyProof.Rows hiding St
/-! ### o[i] op= e, o a list -/
end Hl
namespace Hl
open PySem L2
open PyProof.Rows hiding St
/-! ### f"{x}" by the own __str__; a, b, c = a list; lists in a thing's fields as values -/
end Hl
namespace Hl
open PySem L2
open PyProof.Rows hiding St
/-! ### a def of the top as a value: called by a local name -/
/-- the def at fa, as a value -/
structure FunV (P : Program) (w : World) (K : PySem.W.Frag) (mg : Str → Option Value) (base : Heap) (k : Nat) (fa : Addr) (n : Nat) (ks : List Str) (sel : Sel) (p : DSpE) : Prop where
  kp : PySem.W.keepIn K (.ref fa) = true
  fn : FnD P w K mg base k fa n ks sel p
abbrev FunVX (X : Cx) := FunV X.prog X.w X.K X.mg X.base
section
variable {B : Bx} {X : Cx} {es : List Expr} {kws : List Keyword} {δ : Env'} {M : Mem} {Φ : D → Mem → Prop} {pos pp : Pos} {k n m i : Nat} {x : Str} {ks : List Str} {sel : Sel} {p : DSpE} {Ξ : XPost} {fa : Addr}
theorem de_callL (z : Cz X m) (l : Nm X i x) (hd : δ[i]? = some (some (.raw (.ref fa)))) (f : FunVX X k fa n ks sel p) (hk : k ≤ m) (lt : Lets X B δ Ξ)
    (h : DAK B X es kws δ M fun ds zs M' => ds.length = n ∧ zs.length = ks.length ∧ p (selD sel (ds ++ zs)) M' Φ Ξ) (pl : PlA X pos es kws ks) : DE B X (.Call (.Name x pp) es kws pos) δ M Φ := by
  obtain ⟨h2, h3⟩ := f
  obtain ⟨W, tk, hx⟩ := lt
  intro κ σ H Q hb R kk
  unfold tE
  intro pins s I
  obtain ⟨v, ev, rv⟩ := R.get hd
  cases rv
  refine wpAny_Call_Name_kw (thn ((pe_var (pos := pp) l.at_ l.vis l.dbg l.cdc).run pins s σ H (fun v H1 => v = .ref fa ∧ H1 = H) I ⟨.ref fa, ev, rfl, rfl⟩) fun u s1 hv => ?_)
  obtain ⟨v, H1, I1, r1, e1, e2⟩ := hv
  subst e1
  rw [e2] at I1
  cases r1
  refine dak_run (first := []) h2 pl h I1 hb R fun us ws s2 vs zs ds es M2 H2 I2 rv rz q2 R2 r1 r2 => ?_
  obtain ⟨l1, l2, q⟩ := q2
  refine run_E h3 (z.room.mono hk) (passAt tk σ) I2 rv rz (by rw [r1.length]; exact l1) (by rw [r2.length]; exact l2) fun us' all rr so => ?_
  exact liftE_of so rr.length R2 (r1.append r2) q kk fun C ns es M' H' dx e R' x => hx κ σ C ns es M' H' dx hb e R' x
end
end Hl
namespace Hl
open PySem L2
open PyProof.Rows hiding St
/-! ### int(text), text.split(sep) -/
end Hl
namespace Hl
open PySem L2
open PyProof.Rows hiding St
/-! ### xs[a::2] -/
def ixs2 (a n : Nat) : List Nat := sliceRange ((min a n : Nat) : Int) (n : Int) 2
def step2 {α : Type} (a : Nat) (xs : List α) : List α := (ixs2 a xs.length).filterMap (xs[·]?)
theorem bounds2 (a n : Nat) : sliceBounds (some (a : Int)) none (some 2) n = (((min a n : Nat) : Int), (n : Int), 2) := by
  have h : ¬ ((a : Int) < 0) := by omega
  show ((max 0 (min (if (a : Int) < 0 then (a : Int) + n else (a : Int)) (n : Int)) : Int), (n : Int), (2 : Int)) = _
  rw [if_neg h]
  congr 1
  omega
theorem vals_pick {xs : List V} {its : List Value} (r : Vals xs its) : ∀ ix : List Nat, Vals (ix.filterMap (xs[·]?)) (ix.filterMap (its[·]?))
  | [] => .nil
  | i :: ix => by
    have hl := r.length
    by_cases h : i < xs.length
    · obtain ⟨u, hu, ru⟩ := r.get (List.getElem?_eq_getElem h)
      rw [List.filterMap_cons_some (List.getElem?_eq_getElem h), List.filterMap_cons_some hu]
      exact .cons ru (vals_pick r ix)
    · rw [List.filterMap_cons_none (List.getElem?_eq_none (by omega)), List.filterMap_cons_none (List.getElem?_eq_none (by omega))]
      exact vals_pick r ix
theorem reps_pick {F : List Addr} {H : Hp} : ∀ {vs : List V} {ds : List D}, Reps F H vs ds → ∀ i : Nat, (vs[i]? = none ∧ ds[i]? = none) ∨ ∃ v d, vs[i]? = some v ∧ ds[i]? = some d ∧ Rep F H v d
  | _, _, .nil, i => .inl ⟨by simp, by simp⟩
  | _, _, .cons r rs, 0 => .inr ⟨_, _, rfl, rfl, r⟩
  | _, _, .cons r rs, i + 1 => by
    simpa using reps_pick rs i
theorem reps_picks {F : List Addr} {H : Hp} {vs : List V} {ds : List D} (r : Reps F H vs ds) : ∀ ix : List Nat, Reps F H (ix.filterMap (vs[·]?)) (ix.filterMap (ds[·]?))
  | [] => .nil
  | i :: ix => by
    rcases reps_pick r i with ⟨h1, h2⟩ | ⟨v, d, h1, h2, h3⟩
    · rw [List.filterMap_cons_none h1, List.filterMap_cons_none h2]
      exact reps_picks r ix
    · rw [List.filterMap_cons_some h1, List.filterMap_cons_some h2]
      exact .cons h3 (reps_picks r ix)
def tStep2 (K : PySem.W.Frag) (a : Nat) (te : TE) : TE := fun σ H Q => te σ H fun x H1 => ∃ p xs, x = .ref p ∧ SqL K H1 p xs ∧ ∀ l, H1 l = none → Q (.ref l) (upd H1 l (.lst (step2 a xs)))
section
variable {B : Bx} {X : Cx} {e o : Expr} {δ : Env'} {M : Mem} {Φ : D → Mem → Prop} {ΦL : List D → Mem → Prop} {pos : Pos}
theorem pick_len {α : Type} (xs : List α) : ∀ ix : List Nat, (ix.filterMap (xs[·]?)).length ≤ ix.length := fun ix => List.length_filterMap_le _ _
theorem ixs2_len (a n : Nat) : (ixs2 a n).length ≤ n := by
  unfold ixs2 sliceRange
  rw [List.length_map, List.length_range]
  have : (2 : Int) > 0 := by decide
  simp only [this, if_true]
  split
  · omega
  · omega
theorem pe_step2 {te : TE} {a k0 k : Nat} {p0 p1 p3 : Pos} (he : PE X e te) : PE X (.Subscript e (.Slice (some (.Constant (.int (a : Int)) k0 p0)) none (some (.Constant (.int 2) k p1)) p3) pos) (tStep2 X.K a te) := by
  refine ⟨fun pins s σ H Q I h => ?_⟩
  refine Subscript_ (thn (he.run pins s σ H _ I h) fun v s1 ⟨x, H1, I1, r1, q1⟩ => ?_)
  obtain ⟨b, xs, ex, hx, q⟩ := q1
  subst ex
  cases r1
  have hlo : PO X (some (.Constant (.int (a : Int)) k0 p0)) (tPart (tC (.int (a : Int)))) := po_some pe_int
  have hst : PO X (some (.Constant (.int 2) k p1)) (tPart (tC (.int 2))) := po_some pe_int
  refine wpAny_Slice (thn (hlo.run pins s1 σ H1 (fun o H2 => o = some (a : Int) ∧ H2 = H1) I1 ⟨(a : Int), rfl, rfl, rfl⟩) fun vl s2 ⟨l, H2, I2, pl, el, e2⟩ => ?_)
  subst el e2
  refine thn (po_none.run pins s2 σ H2 (fun o H3 => o = none ∧ H3 = H2) I2 ⟨rfl, rfl⟩) fun vu s3 ⟨u, H3, I3, pu, eu, e3⟩ => ?_
  subst eu e3
  refine thn (hst.run pins s3 σ H3 (fun o H4 => o = some 2 ∧ H4 = H3) I3 ⟨2, rfl, rfl, rfl⟩) fun vs s4 ⟨o, H4, I4, ps, eo, e4⟩ => ?_
  subst eo e4
  have I5 : Inv X pins σ H4 { s4 with heap := s4.heap.push { cls := .type "slice", data := .fields #[vl, vu, vs] } } := I4.kept (t' := s4.toks) fun b ob q => Heap.get?_push_of_some _ q
  obtain ⟨its, r, ht, hz⟩ := I5.list hx
  have hlen := r.length
  show wpAny (model X.prog X.w) X.A (subscriptTail e (.Slice (some (.Constant (.int (a : Int)) k0 p0)) none (some (.Constant (.int 2) k p1)) p3) (.ref b) (.ref s4.heap.objs.size)) (EP X pins σ Q) X.xe { s4 with heap := s4.heap.push { cls := .type "slice", data := .fields #[vl, vu, vs] } }
  refine tail_any (ops := [.ref b, .ref s4.heap.objs.size]) ht.isList.typeIs (PySem.slot_list_getitem.lookup) ?_ (by with_unfolding_all rfl)
  refine wpAny_getItem_list_slice ht.isList (Heap.IsSliceOf.new _ vl vu vs) pl pu ps (by decide) ?_ (by rw [List.size_toArray]; omega)
  have ep : slicePick its.toArray (some (a : Int)) none (some 2) = ((ixs2 a its.length).filterMap (its[·]?)).toArray := by
    unfold slicePick
    rw [bounds2, List.size_toArray]
    show ((ixs2 a its.length).filterMap fun i => its.toArray[i]?).toArray = _
    simp
  rw [ep]
  have rv := vals_pick r (ixs2 a its.length)
  rw [← hlen] at rv ⊢
  refine ⟨.ref _, _, I5.laid (t' := s4.toks) (o := .lst (step2 a xs)) (fun b ob q => Heap.get?_push_of_some _ q) (Nat.le_refl _) ?_, rfl, q _ (I5.hok.fresh (Nat.le_refl _))⟩
  exact ⟨Nat.le_trans (Nat.le_trans (pick_len xs _) (ixs2_len _ _)) hz, _, 0, rv, Heap.get?_push_size _ rfl⟩
theorem df_step2 {a k0 k : Nat} {p0 p1 p3 : Pos} (h : DE B X e δ M fun x M1 => ∃ ds, IsL M1 x ds ∧ ΦL (step2 a ds) M1) : DF B X (.Subscript e (.Slice (some (.Constant (.int (a : Int)) k0 p0)) none (some (.Constant (.int 2) k p1)) p3) pos) δ M ΦL :=
  .of (pe_step2 cE) fun κ σ H Q hb R kk => h κ σ H _ hb R fun v x M1 H1 ⟨ds, il, q⟩ R1 r1 => by
    obtain ⟨p, us, rfl, e1, rr⟩ := il.sq R1 r1
    refine ⟨p, us, rfl, SqL.of e1, fun l hl => kk l _ M1 _ q (R1.lst ?_ hl)⟩
    have := reps_picks rr (ixs2 a us.length)
    unfold step2
    rw [← rr.length]
    exact this
end
end Hl
namespace Hc
noncomputable section
open PySem PySem.W PySem.Calls PyProof.Rows HeadRun
/-! the head's one run, cut at statements of the top -/
def goS (st : SharedT → Thread → Option (SharedT × Thread)) (n0 : Nat) (ann : Option Value) : Nat → SharedT → Thread → Option (SharedT × Thread)
  | 0, s, t => some (s, t)
  | m + 1, s, t => match through t with
    | true => none
    | false => match stepOk n0 ann t with
      | false => none
      | true => match st s t with
        | some (s', t') => frS s' fun s' => goS st n0 ann m s' t'
        | none => none
theorem goS_go {st : SharedT → Thread → Option (SharedT × Thread)} {n0 : Nat} {ann : Option Value} {m : Nat} : ∀ {k : Nat} {s s' : SharedT} {t t' : Thread}, goS st n0 ann k s t = some (s', t') → goF st n0 ann (k + m) s t = goF st n0 ann m s' t'
  | 0, s, s', t, t', h => by
    have h1 : some (s, t) = some (s', t') := h
    cases h1
    rw [Nat.zero_add]
  | k + 1, s, s', t, t', h => by
    have h1 : (match through t with
      | true => none
      | false => match stepOk n0 ann t with
        | false => none
        | true => match st s t with
          | some (s', t') => frS s' fun s' => goS st n0 ann k s' t'
          | none => none) = some (s', t') := h
    rw [show k + 1 + m = (k + m) + 1 by omega]
    show (match through t with
      | true => some s
      | false => match stepOk n0 ann t with
        | false => none
        | true => match st s t with
          | some (s', t') => frS s' fun s' => goF st n0 ann (k + m) s' t'
          | none => none) = _
    cases ht : through t with
    | true =>
      rw [ht] at h1
      cases h1
    | false =>
      rw [ht] at h1
      cases hk : stepOk n0 ann t with
      | false =>
        rw [hk] at h1
        cases h1
      | true =>
        rw [hk] at h1
        cases hs : st s t with
        | none =>
          rw [hs] at h1
          cases h1
        | some r =>
          obtain ⟨s2, t2⟩ := r
          rw [hs] at h1
          have h3 : (frS s2 fun s' => goS st n0 ann k s' t2) = some (s', t') := h1
          rw [frS_eq] at h3
          show (frS s2 fun s' => goF st n0 ann (k + m) s' t2) = _
          rw [frS_eq]
          exact goS_go h3
theorem goS_at {st : SharedT → Thread → Option (SharedT × Thread)} {n0 : Nat} {ann : Option Value} {m k n : Nat} {s s' : SharedT} {t t' : Thread} (h : goS st n0 ann k s t = some (s', t')) (e : n = k + m) : goF st n0 ann n s t = goF st n0 ann m s' t' := by rw [e]; exact goS_go h
theorem goF_mono {st : SharedT → Thread → Option (SharedT × Thread)} {n0 : Nat} {ann : Option Value} (j : Nat) : ∀ {k : Nat} {s r : SharedT} {t : Thread}, goF st n0 ann k s t = some r → goF st n0 ann (k + j) s t = some r
  | 0, _, _, _, h => by cases h
  | k + 1, s, r, t, h => by
    have h1 : (match through t with
      | true => some s
      | false => match stepOk n0 ann t with
        | false => none
        | true => match st s t with
          | some (s', t') => frS s' fun s' => goF st n0 ann k s' t'
          | none => none) = some r := h
    rw [show k + 1 + j = (k + j) + 1 by omega]
    show (match through t with
      | true => some s
      | false => match stepOk n0 ann t with
        | false => none
        | true => match st s t with
          | some (s', t') => frS s' fun s' => goF st n0 ann (k + j) s' t'
          | none => none) = some r
    cases ht : through t with
    | true =>
      rw [ht] at h1
      exact h1
    | false =>
      rw [ht] at h1
      cases hk : stepOk n0 ann t with
      | false =>
        rw [hk] at h1
        cases h1
      | true =>
        rw [hk] at h1
        cases hs : st s t with
        | none =>
          rw [hs] at h1
          cases h1
        | some q =>
          obtain ⟨s2, t2⟩ := q
          rw [hs] at h1
          have h3 : (frS s2 fun s' => goF st n0 ann k s' t2) = some r := h1
          rw [frS_eq] at h3
          show (frS s2 fun s' => goF st n0 ann (k + j) s' t2) = some r
          rw [frS_eq]
          exact goF_mono j h3
theorem nine {A B C D E F G I J : Type} {a a' : A} {b b' : B} {c c' : C} {d d' : D} {e e' : E} {f f' : F} {g g' : G} {i i' : I} {j j' : J} (ha : a = a') (hb : b = b') (hc : c = c') (hd : d = d') (he : e = e') (hf : f = f') (hg : g = g') (hi : i = i') (hj : j = j') : (a, b, c, d, e, f, g, i, j) = (a', b', c', d', e', f', g', i', j') := by rw [ha, hb, hc, hd, he, hf, hg, hi, hj]
/-- so many steps from the boot -/
def bootS (st : SharedT → Thread → Option (SharedT × Thread)) (k : Nat) (p : Program) (w : World) (os : OsState) : Option (Nat × SharedT × Thread) := match putAll (boot_heap w.params).objs.toList .nil 0 with
  | some (t, n) => frNat n fun n0 => (goS st n0 (bootAnn w) k (bootT w os (t, n0)) (topStub p)).map fun r => (n0, r.1, r.2)
  | none => none
theorem bootS_go {st : SharedT → Thread → Option (SharedT × Thread)} {k m M : Nat} {p : Program} {w : World} {os : OsState} {n0 : Nat} {s : SharedT} {t : Thread} (h : bootS st k p w os = some (n0, s, t)) (e : M = k + m) : endF st M p w os = goF st n0 (bootAnn w) m s t := by
  unfold bootS at h
  unfold endF
  cases q : putAll (boot_heap w.params).objs.toList .nil 0 with
  | none =>
    rw [q] at h
    cases h
  | some r =>
    obtain ⟨T, n⟩ := r
    rw [q] at h
    have h1 : (frNat n fun n0 => (goS st n0 (bootAnn w) k (bootT w os (T, n0)) (topStub p)).map fun r => (n0, r.1, r.2)) = some (n0, s, t) := h
    rw [frNat_eq] at h1
    show (frNat n fun n0 => goF st n0 (bootAnn w) M (bootT w os (T, n0)) (topStub p)) = _
    rw [frNat_eq]
    obtain ⟨⟨s2, t2⟩, h2, h3⟩ := Option.map_eq_some_iff.mp h1
    cases h3
    rw [e]
    exact goS_go h2
/-- what is left of the top at a statement -/
def thrOf (b : List Stmt) (env : Env) (c : Code) (p : Pos) (B : List Frame) : Thread := ⟨PySem.W.R.bindR (PySem.W.R.onRaiseR (PySem.W.Fast.tw12563942051412417395 b env) (PySem.W.Fast.tw9442747609961115081 env)) (fun f => Sem.pure (Fin.done f)), c, p, B⟩
open L2
abbrev s (x : String) : Str := Str.ofString x
abbrev r (a : Nat) : Value := .ref a
abbrev i (a : Nat) : Int := Int.ofNat a
abbrev u (x : String) (a : Nat) : Value := .str (Str.ofString x) a
abbrev e (p : Params) (x : String) (a : Nat) (v : Value) : DictEntry := ⟨PyData.keyHash p (Str.ofString x), .str (Str.ofString x) a, v⟩
abbrev dc (l : List DictEntry) (n : Nat) : Data := .dict l.toArray n
abbrev pg : Program := PySem.Challenge.rw_hourlanes_k50_lanes_built.row.prog
def tp (i : Nat) : Stmt := PySem.Challenge.pw_hourlanes_k50_lanes_built.main.body.getD i (.Pass ⟨0, 0, 0, 0⟩)
def envT : Env := { scope := pg.main.scope, locals := mainNs, globals := mainNs, cells := [], code := (r 13), frame := (.some 14) }
def codT : Code := Code.body (behindTheImports pg) envT
def frT : List Frame := [topFrame (@PySem.Pos.mk 0 0 0 0)]
def o3_1 (p : Params) : Obj := .mk (.type "dict") .none (dc [(e p "__name__" 165 (u "hourlanes.errors" 194)), (e p "__doc__" 166 .none), (e p "__package__" 167 .none), (e p "__loader__" 168 (.builtin "__main__.__loader__#opaque")), (e p "__spec__" 169 .none), (e p "__annotations__" 170 (r 6)), (e p "__builtins__" 171 (r 4)), (e p "__file__" 173 (u "/claim/cut.py" 172)), (e p "__cached__" 174 .none), (e p "_wall" 193 (r 21)), (e p "LaneError" 213 (r 31)), (e p "NoJar" 229 (r 44)), (e p "NoTick" 245 (r 56)), (e p "NoLane" 261 (r 68)), (e p "NoName" 286 (r 87)), (e p "Taken" 311 (r 106)), (e p "Unknown" 336 (r 125))] 17) #[]
def o11_1 (p : Params) : Obj := .mk (.type "tuple") .none (@PySem.Data.seq #[] 0) #[]
def o12_1 (p : Params) : Obj := .mk .none .none (@PySem.Data.fields (@List.toArray PySem.Value [(@PySem.Value.int (i 1) 0), (@PySem.Value.int (i 0) 0), (r 20), (@PySem.Value.int (i 5) 0), (@PySem.Value.int (i 0) 0), (r 27), (@PySem.Value.int (i 7) 0), (@PySem.Value.int (i 0) 0), (r 40), (@PySem.Value.int (i 9) 0), (@PySem.Value.int (i 0) 0), (r 52), (@PySem.Value.int (i 11) 0), (@PySem.Value.int (i 0) 0), (r 64), (@PySem.Value.int (i 13) 0), (@PySem.Value.int (i 0) 0), (r 76), (@PySem.Value.int (i 17) 0), (@PySem.Value.int (i 0) 0), (r 95), (@PySem.Value.int (i 21) 0), (@PySem.Value.int (i 0) 0), (r 114)])) #[]
def o13_1 (p : Params) : Obj := .mk (.type "code") .none (@PySem.Data.fields (@List.toArray PySem.Value [(u "<module>" 182), (u "<module>" 183), (u "/claim/cut.py" 184), (@PySem.Value.int (i 1) 0), (@PySem.Value.int (i 0) 0), (@PySem.Value.int (i 0) 0), (@PySem.Value.int (i 0) 0), (@PySem.Value.int (i 0) 0), (r 11), (@PySem.Value.bool Bool.false), (@PySem.Value.int (i 181) 0), (r 12), .none, .none, .none, .none, (@PySem.Value.int (i 185) 0), (@PySem.Value.int (i 1) 0), (u "/claim/cut.py" 186)])) #[]
def o14_1 (p : Params) : Obj := .mk (.type "frame") .none PySem.Data.plain (@List.toArray (@Option PySem.Value) [(.some (r 13)), (.some (r 3)), (.some (r 3)), .none, (.some (u "__main__" 164)), .none, (.some (r 0))])
def o15_1 (p : Params) : Obj := .mk (.type "tuple") .none (@PySem.Data.seq #[] 0) #[]
def o16_1 (p : Params) : Obj := .mk .none .none (@PySem.Data.fields #[]) #[]
def o17_1 (p : Params) : Obj := .mk (.type "tuple") .none (@PySem.Data.seq (@List.toArray PySem.Value [(u "k" 190)]) 0) #[]
def o18_1 (p : Params) : Obj := .mk (.type "tuple") .none (@PySem.Data.seq #[] 0) #[]
def o19_1 (p : Params) : Obj := .mk .none .none (.func (.mk (s "_wall") (s "_wall") (defArgs (tp 0)) (.stmts (defBody (tp 0))) (defScope (tp 0)) 0 [] .none .none .none .none .none .none .none 0)) #[]
def o20_1 (p : Params) : Obj := .mk (.type "code") .none (@PySem.Data.fields (@List.toArray PySem.Value [(u "_wall" 187), (u "_wall" 188), (u "/claim/cut.py" 189), (@PySem.Value.int (i 1) 0), (@PySem.Value.int (i 1) 0), (@PySem.Value.int (i 0) 0), (@PySem.Value.int (i 0) 0), (@PySem.Value.int (i 3) 0), (r 15), (@PySem.Value.bool Bool.true), (@PySem.Value.int (i 181) 0), (r 16), .none, (r 17), (r 18), (r 19), (@PySem.Value.int (i 191) 0), (@PySem.Value.int (i 1) 0), (u "/claim/cut.py" 192)])) #[]
def o21_1 (p : Params) : Obj := .mk (.type "function") .none (.func (.mk (s "_wall") (s "_wall") (defArgs (tp 0)) (.stmts (defBody (tp 0))) (defScope (tp 0)) 3 [] .none .none .none (u "__main__" 164) .none (r 20) .none 0)) #[]
def o22_1 (p : Params) : Obj := .mk (.type "tuple") .none (@PySem.Data.seq (@List.toArray PySem.Value [(.type "ValueError")]) 0) #[]
def o23_1 (p : Params) : Obj := .mk (.type "builtin_function_or_method") .none (@PySem.Data.fields (@List.toArray PySem.Value [(.builtin "type.__prepare__"), (.type "type")])) #[]
def o24_1 (p : Params) : Obj := .mk (.type "dict") .none (dc [(e p "__module__" 203 (u "hourlanes.errors" 194)), (e p "__qualname__" 205 (u "LaneError" 204)), (e p "__firstlineno__" 207 (@PySem.Value.int (i 5) 206)), (e p "__static_attributes__" 208 (r 29))] 4) #[]
def o25_1 (p : Params) : Obj := .mk (.type "tuple") .none (@PySem.Data.seq #[] 0) #[]
def o26_1 (p : Params) : Obj := .mk .none .none (@PySem.Data.fields #[]) #[]
def o27_1 (p : Params) : Obj := .mk (.type "code") .none (@PySem.Data.fields (@List.toArray PySem.Value [(u "LaneError" 198), (u "LaneError" 199), (u "/claim/cut.py" 200), (@PySem.Value.int (i 5) 0), (@PySem.Value.int (i 0) 0), (@PySem.Value.int (i 0) 0), (@PySem.Value.int (i 0) 0), (@PySem.Value.int (i 0) 0), (r 25), (@PySem.Value.bool Bool.false), (@PySem.Value.int (i 181) 0), (r 26), .none, .none, .none, .none, (@PySem.Value.int (i 201) 0), (@PySem.Value.int (i 5) 0), (u "/claim/cut.py" 202)])) #[]
def o28_1 (p : Params) : Obj := .mk (.type "frame") .none PySem.Data.plain (@List.toArray (@Option PySem.Value) [(.some (r 27)), (.some (r 3)), (.some (r 24)), .none, (.some (u "hourlanes.errors" 194)), .none, (.some (r 0))])
def o29_1 (p : Params) : Obj := .mk (.type "tuple") .none (@PySem.Data.seq #[] 0) #[]
def o30_1 (p : Params) : Obj := .mk (.type "dict") .none (dc [(e p "__module__" 203 (u "hourlanes.errors" 194)), (e p "__firstlineno__" 207 (@PySem.Value.int (i 5) 206)), (e p "__static_attributes__" 208 (r 29)), (e p "__weakref__" 210 (r 32)), (e p "__doc__" 211 .none)] 3) #[]
def o31_1 (p : Params) : Obj := .mk (.type "type") .none (@PySem.Data.cls (@PySem.ClassData.mk (s "LaneError") [(.type "ValueError")] [(r 31), (.type "ValueError"), (.type "Exception"), (.type "BaseException"), (.type "object")] 30 (s "LaneError") Bool.true [] [(r 44), (r 56), (r 68), (r 87), (r 106), (r 125)] Bool.false .none Bool.false)) (@List.toArray (@Option PySem.Value) [(.some (r 22)), .none, (.some (u "LaneError" 196)), (.some (u "LaneError" 204)), (.some (.builtin "ValueError.__new__")), (.some (@PySem.Value.bool Bool.true))])
def o32_1 (p : Params) : Obj := .mk (.type "getset_descriptor") .none (@PySem.Data.fields (@List.toArray PySem.Value [(u "__weakref__" 209), (r 31), (.builtin "ExceptionGroup.__weakref__"), .none])) #[]
def o33_1 (p : Params) : Obj := .mk (.type "super") .none (@PySem.Data.fields (@List.toArray PySem.Value [(r 31), (r 31), (r 31)])) #[]
def o34_1 (p : Params) : Obj := .mk (.type "builtin_function_or_method") .none (@PySem.Data.fields (@List.toArray PySem.Value [(.builtin "object.__init_subclass__"), (r 31)])) #[]
def o35_1 (p : Params) : Obj := .mk (.type "tuple") .none (@PySem.Data.seq (@List.toArray PySem.Value [(r 31)]) 0) #[]
def o36_1 (p : Params) : Obj := .mk (.type "builtin_function_or_method") .none (@PySem.Data.fields (@List.toArray PySem.Value [(.builtin "type.__prepare__"), (.type "type")])) #[]
def o37_1 (p : Params) : Obj := .mk (.type "dict") .none (dc [(e p "__module__" 221 (u "hourlanes.errors" 194)), (e p "__qualname__" 223 (u "NoJar" 222)), (e p "__firstlineno__" 225 (@PySem.Value.int (i 7) 224)), (e p "__static_attributes__" 226 (r 42))] 4) #[]
def o38_1 (p : Params) : Obj := .mk (.type "tuple") .none (@PySem.Data.seq #[] 0) #[]
def o39_1 (p : Params) : Obj := .mk .none .none (@PySem.Data.fields #[]) #[]
def o40_1 (p : Params) : Obj := .mk (.type "code") .none (@PySem.Data.fields (@List.toArray PySem.Value [(u "NoJar" 216), (u "NoJar" 217), (u "/claim/cut.py" 218), (@PySem.Value.int (i 7) 0), (@PySem.Value.int (i 0) 0), (@PySem.Value.int (i 0) 0), (@PySem.Value.int (i 0) 0), (@PySem.Value.int (i 0) 0), (r 38), (@PySem.Value.bool Bool.false), (@PySem.Value.int (i 181) 0), (r 39), .none, .none, .none, .none, (@PySem.Value.int (i 219) 0), (@PySem.Value.int (i 7) 0), (u "/claim/cut.py" 220)])) #[]
def o41_1 (p : Params) : Obj := .mk (.type "frame") .none PySem.Data.plain (@List.toArray (@Option PySem.Value) [(.some (r 40)), (.some (r 3)), (.some (r 37)), .none, (.some (u "hourlanes.errors" 194)), .none, (.some (r 0))])
def o42_1 (p : Params) : Obj := .mk (.type "tuple") .none (@PySem.Data.seq #[] 0) #[]
def o43_1 (p : Params) : Obj := .mk (.type "dict") .none (dc [(e p "__module__" 221 (u "hourlanes.errors" 194)), (e p "__firstlineno__" 225 (@PySem.Value.int (i 7) 224)), (e p "__static_attributes__" 226 (r 42)), (e p "__doc__" 227 .none)] 2) #[]
def o44_1 (p : Params) : Obj := .mk (.type "type") .none (@PySem.Data.cls (@PySem.ClassData.mk (s "NoJar") [(r 31)] [(r 44), (r 31), (.type "ValueError"), (.type "Exception"), (.type "BaseException"), (.type "object")] 43 (s "NoJar") Bool.true [] [] Bool.false .none Bool.false)) (@List.toArray (@Option PySem.Value) [(.some (r 35)), .none, (.some (u "NoJar" 214)), (.some (u "NoJar" 222)), (.some (.builtin "ValueError.__new__")), (.some (@PySem.Value.bool Bool.true))])
def o45_1 (p : Params) : Obj := .mk (.type "super") .none (@PySem.Data.fields (@List.toArray PySem.Value [(r 44), (r 44), (r 44)])) #[]
def o46_1 (p : Params) : Obj := .mk (.type "builtin_function_or_method") .none (@PySem.Data.fields (@List.toArray PySem.Value [(.builtin "object.__init_subclass__"), (r 44)])) #[]
def o47_1 (p : Params) : Obj := .mk (.type "tuple") .none (@PySem.Data.seq (@List.toArray PySem.Value [(r 31)]) 0) #[]
def o48_1 (p : Params) : Obj := .mk (.type "builtin_function_or_method") .none (@PySem.Data.fields (@List.toArray PySem.Value [(.builtin "type.__prepare__"), (.type "type")])) #[]
def o49_1 (p : Params) : Obj := .mk (.type "dict") .none (dc [(e p "__module__" 237 (u "hourlanes.errors" 194)), (e p "__qualname__" 239 (u "NoTick" 238)), (e p "__firstlineno__" 241 (@PySem.Value.int (i 9) 240)), (e p "__static_attributes__" 242 (r 54))] 4) #[]
def o50_1 (p : Params) : Obj := .mk (.type "tuple") .none (@PySem.Data.seq #[] 0) #[]
def o51_1 (p : Params) : Obj := .mk .none .none (@PySem.Data.fields #[]) #[]
def o52_1 (p : Params) : Obj := .mk (.type "code") .none (@PySem.Data.fields (@List.toArray PySem.Value [(u "NoTick" 232), (u "NoTick" 233), (u "/claim/cut.py" 234), (@PySem.Value.int (i 9) 0), (@PySem.Value.int (i 0) 0), (@PySem.Value.int (i 0) 0), (@PySem.Value.int (i 0) 0), (@PySem.Value.int (i 0) 0), (r 50), (@PySem.Value.bool Bool.false), (@PySem.Value.int (i 181) 0), (r 51), .none, .none, .none, .none, (@PySem.Value.int (i 235) 0), (@PySem.Value.int (i 9) 0), (u "/claim/cut.py" 236)])) #[]
def o53_1 (p : Params) : Obj := .mk (.type "frame") .none PySem.Data.plain (@List.toArray (@Option PySem.Value) [(.some (r 52)), (.some (r 3)), (.some (r 49)), .none, (.some (u "hourlanes.errors" 194)), .none, (.some (r 0))])
def o54_1 (p : Params) : Obj := .mk (.type "tuple") .none (@PySem.Data.seq #[] 0) #[]
def o55_1 (p : Params) : Obj := .mk (.type "dict") .none (dc [(e p "__module__" 237 (u "hourlanes.errors" 194)), (e p "__firstlineno__" 241 (@PySem.Value.int (i 9) 240)), (e p "__static_attributes__" 242 (r 54)), (e p "__doc__" 243 .none)] 2) #[]
def o56_1 (p : Params) : Obj := .mk (.type "type") .none (@PySem.Data.cls (@PySem.ClassData.mk (s "NoTick") [(r 31)] [(r 56), (r 31), (.type "ValueError"), (.type "Exception"), (.type "BaseException"), (.type "object")] 55 (s "NoTick") Bool.true [] [] Bool.false .none Bool.false)) (@List.toArray (@Option PySem.Value) [(.some (r 47)), .none, (.some (u "NoTick" 230)), (.some (u "NoTick" 238)), (.some (.builtin "ValueError.__new__")), (.some (@PySem.Value.bool Bool.true))])
def o57_1 (p : Params) : Obj := .mk (.type "super") .none (@PySem.Data.fields (@List.toArray PySem.Value [(r 56), (r 56), (r 56)])) #[]
def o58_1 (p : Params) : Obj := .mk (.type "builtin_function_or_method") .none (@PySem.Data.fields (@List.toArray PySem.Value [(.builtin "object.__init_subclass__"), (r 56)])) #[]
def o59_1 (p : Params) : Obj := .mk (.type "tuple") .none (@PySem.Data.seq (@List.toArray PySem.Value [(r 31)]) 0) #[]
def o60_1 (p : Params) : Obj := .mk (.type "builtin_function_or_method") .none (@PySem.Data.fields (@List.toArray PySem.Value [(.builtin "type.__prepare__"), (.type "type")])) #[]
def o61_1 (p : Params) : Obj := .mk (.type "dict") .none (dc [(e p "__module__" 253 (u "hourlanes.errors" 194)), (e p "__qualname__" 255 (u "NoLane" 254)), (e p "__firstlineno__" 257 (@PySem.Value.int (i 11) 256)), (e p "__static_attributes__" 258 (r 66))] 4) #[]
def o62_1 (p : Params) : Obj := .mk (.type "tuple") .none (@PySem.Data.seq #[] 0) #[]
def o63_1 (p : Params) : Obj := .mk .none .none (@PySem.Data.fields #[]) #[]
def o64_1 (p : Params) : Obj := .mk (.type "code") .none (@PySem.Data.fields (@List.toArray PySem.Value [(u "NoLane" 248), (u "NoLane" 249), (u "/claim/cut.py" 250), (@PySem.Value.int (i 11) 0), (@PySem.Value.int (i 0) 0), (@PySem.Value.int (i 0) 0), (@PySem.Value.int (i 0) 0), (@PySem.Value.int (i 0) 0), (r 62), (@PySem.Value.bool Bool.false), (@PySem.Value.int (i 181) 0), (r 63), .none, .none, .none, .none, (@PySem.Value.int (i 251) 0), (@PySem.Value.int (i 11) 0), (u "/claim/cut.py" 252)])) #[]
def o65_1 (p : Params) : Obj := .mk (.type "frame") .none PySem.Data.plain (@List.toArray (@Option PySem.Value) [(.some (r 64)), (.some (r 3)), (.some (r 61)), .none, (.some (u "hourlanes.errors" 194)), .none, (.some (r 0))])
def o66_1 (p : Params) : Obj := .mk (.type "tuple") .none (@PySem.Data.seq #[] 0) #[]
def o67_1 (p : Params) : Obj := .mk (.type "dict") .none (dc [(e p "__module__" 253 (u "hourlanes.errors" 194)), (e p "__firstlineno__" 257 (@PySem.Value.int (i 11) 256)), (e p "__static_attributes__" 258 (r 66)), (e p "__doc__" 259 .none)] 2) #[]
def o68_1 (p : Params) : Obj := .mk (.type "type") .none (@PySem.Data.cls (@PySem.ClassData.mk (s "NoLane") [(r 31)] [(r 68), (r 31), (.type "ValueError"), (.type "Exception"), (.type "BaseException"), (.type "object")] 67 (s "NoLane") Bool.true [] [] Bool.false .none Bool.false)) (@List.toArray (@Option PySem.Value) [(.some (r 59)), .none, (.some (u "NoLane" 246)), (.some (u "NoLane" 254)), (.some (.builtin "ValueError.__new__")), (.some (@PySem.Value.bool Bool.true))])
def o69_1 (p : Params) : Obj := .mk (.type "super") .none (@PySem.Data.fields (@List.toArray PySem.Value [(r 68), (r 68), (r 68)])) #[]
def o70_1 (p : Params) : Obj := .mk (.type "builtin_function_or_method") .none (@PySem.Data.fields (@List.toArray PySem.Value [(.builtin "object.__init_subclass__"), (r 68)])) #[]
def o71_1 (p : Params) : Obj := .mk (.type "tuple") .none (@PySem.Data.seq (@List.toArray PySem.Value [(r 31)]) 0) #[]
def o72_1 (p : Params) : Obj := .mk (.type "builtin_function_or_method") .none (@PySem.Data.fields (@List.toArray PySem.Value [(.builtin "type.__prepare__"), (.type "type")])) #[]
def o73_1 (p : Params) : Obj := .mk (.type "dict") .none (dc [(e p "__module__" 269 (u "hourlanes.errors" 194)), (e p "__qualname__" 271 (u "NoName" 270)), (e p "__firstlineno__" 273 (@PySem.Value.int (i 13) 272)), (e p "__init__" 281 (r 84)), (e p "__static_attributes__" 283 (r 85))] 5) #[]
def o74_1 (p : Params) : Obj := .mk (.type "tuple") .none (@PySem.Data.seq #[] 0) #[]
def o75_1 (p : Params) : Obj := .mk .none .none (@PySem.Data.fields (@List.toArray PySem.Value [(@PySem.Value.int (i 15) 0), (@PySem.Value.int (i 4) 0), (r 83)])) #[]
def o76_1 (p : Params) : Obj := .mk (.type "code") .none (@PySem.Data.fields (@List.toArray PySem.Value [(u "NoName" 264), (u "NoName" 265), (u "/claim/cut.py" 266), (@PySem.Value.int (i 13) 0), (@PySem.Value.int (i 0) 0), (@PySem.Value.int (i 0) 0), (@PySem.Value.int (i 0) 0), (@PySem.Value.int (i 0) 0), (r 74), (@PySem.Value.bool Bool.false), (@PySem.Value.int (i 181) 0), (r 75), .none, .none, .none, .none, (@PySem.Value.int (i 267) 0), (@PySem.Value.int (i 13) 0), (u "/claim/cut.py" 268)])) #[]
def o77_1 (p : Params) : Obj := .mk (.type "frame") .none PySem.Data.plain (@List.toArray (@Option PySem.Value) [(.some (r 76)), (.some (r 3)), (.some (r 73)), .none, (.some (u "hourlanes.errors" 194)), .none, (.some (r 0))])
def o78_1 (p : Params) : Obj := .mk (.type "tuple") .none (@PySem.Data.seq #[] 0) #[]
def o79_1 (p : Params) : Obj := .mk .none .none (@PySem.Data.fields #[]) #[]
def o80_1 (p : Params) : Obj := .mk (.type "tuple") .none (@PySem.Data.seq (@List.toArray PySem.Value [(u "self" 277), (u "name" 278)]) 0) #[]
def o81_1 (p : Params) : Obj := .mk (.type "tuple") .none (@PySem.Data.seq #[] 0) #[]
def o82_1 (p : Params) : Obj := .mk .none .none (.func (.mk (s "__init__") (s "NoName.__init__") (defArgs (inClass (tp 6) 0)) (.stmts (defBody (inClass (tp 6) 0))) (defScope (inClass (tp 6) 0)) 0 [] .none .none .none .none .none .none .none 0)) #[]
def o83_1 (p : Params) : Obj := .mk (.type "code") .none (@PySem.Data.fields (@List.toArray PySem.Value [(u "__init__" 274), (u "NoName.__init__" 275), (u "/claim/cut.py" 276), (@PySem.Value.int (i 15) 0), (@PySem.Value.int (i 2) 0), (@PySem.Value.int (i 0) 0), (@PySem.Value.int (i 0) 0), (@PySem.Value.int (i 3) 0), (r 78), (@PySem.Value.bool Bool.true), (@PySem.Value.int (i 181) 0), (r 79), .none, (r 80), (r 81), (r 82), (@PySem.Value.int (i 279) 0), (@PySem.Value.int (i 15) 0), (u "/claim/cut.py" 280)])) #[]
def o84_1 (p : Params) : Obj := .mk (.type "function") .none (.func (.mk (s "__init__") (s "NoName.__init__") (defArgs (inClass (tp 6) 0)) (.stmts (defBody (inClass (tp 6) 0))) (defScope (inClass (tp 6) 0)) 3 [] .none .none .none (u "hourlanes.errors" 194) .none (r 83) .none 0)) #[]
def o85_1 (p : Params) : Obj := .mk (.type "tuple") .none (@PySem.Data.seq (@List.toArray PySem.Value [(u "name" 282)]) 0) #[]
def o86_1 (p : Params) : Obj := .mk (.type "dict") .none (dc [(e p "__module__" 269 (u "hourlanes.errors" 194)), (e p "__firstlineno__" 273 (@PySem.Value.int (i 13) 272)), (e p "__init__" 281 (r 84)), (e p "__static_attributes__" 283 (r 85)), (e p "__doc__" 284 .none)] 2) #[]
def o87_1 (p : Params) : Obj := .mk (.type "type") .none (@PySem.Data.cls (@PySem.ClassData.mk (s "NoName") [(r 31)] [(r 87), (r 31), (.type "ValueError"), (.type "Exception"), (.type "BaseException"), (.type "object")] 86 (s "NoName") Bool.true [] [] Bool.false .none Bool.false)) (@List.toArray (@Option PySem.Value) [(.some (r 71)), .none, (.some (u "NoName" 262)), (.some (u "NoName" 270)), (.some (.builtin "ValueError.__new__")), (.some (@PySem.Value.bool Bool.true))])
def o88_1 (p : Params) : Obj := .mk (.type "super") .none (@PySem.Data.fields (@List.toArray PySem.Value [(r 87), (r 87), (r 87)])) #[]
def o89_1 (p : Params) : Obj := .mk (.type "builtin_function_or_method") .none (@PySem.Data.fields (@List.toArray PySem.Value [(.builtin "object.__init_subclass__"), (r 87)])) #[]
def o90_1 (p : Params) : Obj := .mk (.type "tuple") .none (@PySem.Data.seq (@List.toArray PySem.Value [(r 31)]) 0) #[]
def o91_1 (p : Params) : Obj := .mk (.type "builtin_function_or_method") .none (@PySem.Data.fields (@List.toArray PySem.Value [(.builtin "type.__prepare__"), (.type "type")])) #[]
def o92_1 (p : Params) : Obj := .mk (.type "dict") .none (dc [(e p "__module__" 294 (u "hourlanes.errors" 194)), (e p "__qualname__" 296 (u "Taken" 295)), (e p "__firstlineno__" 298 (@PySem.Value.int (i 17) 297)), (e p "__init__" 306 (r 103)), (e p "__static_attributes__" 308 (r 104))] 5) #[]
def o93_1 (p : Params) : Obj := .mk (.type "tuple") .none (@PySem.Data.seq #[] 0) #[]
def o94_1 (p : Params) : Obj := .mk .none .none (@PySem.Data.fields (@List.toArray PySem.Value [(@PySem.Value.int (i 19) 0), (@PySem.Value.int (i 4) 0), (r 102)])) #[]
def o95_1 (p : Params) : Obj := .mk (.type "code") .none (@PySem.Data.fields (@List.toArray PySem.Value [(u "Taken" 289), (u "Taken" 290), (u "/claim/cut.py" 291), (@PySem.Value.int (i 17) 0), (@PySem.Value.int (i 0) 0), (@PySem.Value.int (i 0) 0), (@PySem.Value.int (i 0) 0), (@PySem.Value.int (i 0) 0), (r 93), (@PySem.Value.bool Bool.false), (@PySem.Value.int (i 181) 0), (r 94), .none, .none, .none, .none, (@PySem.Value.int (i 292) 0), (@PySem.Value.int (i 17) 0), (u "/claim/cut.py" 293)])) #[]
def o96_1 (p : Params) : Obj := .mk (.type "frame") .none PySem.Data.plain (@List.toArray (@Option PySem.Value) [(.some (r 95)), (.some (r 3)), (.some (r 92)), .none, (.some (u "hourlanes.errors" 194)), .none, (.some (r 0))])
def o97_1 (p : Params) : Obj := .mk (.type "tuple") .none (@PySem.Data.seq #[] 0) #[]
def o98_1 (p : Params) : Obj := .mk .none .none (@PySem.Data.fields #[]) #[]
def o99_1 (p : Params) : Obj := .mk (.type "tuple") .none (@PySem.Data.seq (@List.toArray PySem.Value [(u "self" 302), (u "name" 303)]) 0) #[]
def o100_1 (p : Params) : Obj := .mk (.type "tuple") .none (@PySem.Data.seq #[] 0) #[]
def o101_1 (p : Params) : Obj := .mk .none .none (.func (.mk (s "__init__") (s "Taken.__init__") (defArgs (inClass (tp 7) 0)) (.stmts (defBody (inClass (tp 7) 0))) (defScope (inClass (tp 7) 0)) 0 [] .none .none .none .none .none .none .none 0)) #[]
def o102_1 (p : Params) : Obj := .mk (.type "code") .none (@PySem.Data.fields (@List.toArray PySem.Value [(u "__init__" 299), (u "Taken.__init__" 300), (u "/claim/cut.py" 301), (@PySem.Value.int (i 19) 0), (@PySem.Value.int (i 2) 0), (@PySem.Value.int (i 0) 0), (@PySem.Value.int (i 0) 0), (@PySem.Value.int (i 3) 0), (r 97), (@PySem.Value.bool Bool.true), (@PySem.Value.int (i 181) 0), (r 98), .none, (r 99), (r 100), (r 101), (@PySem.Value.int (i 304) 0), (@PySem.Value.int (i 19) 0), (u "/claim/cut.py" 305)])) #[]
def o103_1 (p : Params) : Obj := .mk (.type "function") .none (.func (.mk (s "__init__") (s "Taken.__init__") (defArgs (inClass (tp 7) 0)) (.stmts (defBody (inClass (tp 7) 0))) (defScope (inClass (tp 7) 0)) 3 [] .none .none .none (u "hourlanes.errors" 194) .none (r 102) .none 0)) #[]
def o104_1 (p : Params) : Obj := .mk (.type "tuple") .none (@PySem.Data.seq (@List.toArray PySem.Value [(u "name" 307)]) 0) #[]
def o105_1 (p : Params) : Obj := .mk (.type "dict") .none (dc [(e p "__module__" 294 (u "hourlanes.errors" 194)), (e p "__firstlineno__" 298 (@PySem.Value.int (i 17) 297)), (e p "__init__" 306 (r 103)), (e p "__static_attributes__" 308 (r 104)), (e p "__doc__" 309 .none)] 2) #[]
def o106_1 (p : Params) : Obj := .mk (.type "type") .none (@PySem.Data.cls (@PySem.ClassData.mk (s "Taken") [(r 31)] [(r 106), (r 31), (.type "ValueError"), (.type "Exception"), (.type "BaseException"), (.type "object")] 105 (s "Taken") Bool.true [] [] Bool.false .none Bool.false)) (@List.toArray (@Option PySem.Value) [(.some (r 90)), .none, (.some (u "Taken" 287)), (.some (u "Taken" 295)), (.some (.builtin "ValueError.__new__")), (.some (@PySem.Value.bool Bool.true))])
def o107_1 (p : Params) : Obj := .mk (.type "super") .none (@PySem.Data.fields (@List.toArray PySem.Value [(r 106), (r 106), (r 106)])) #[]
def o108_1 (p : Params) : Obj := .mk (.type "builtin_function_or_method") .none (@PySem.Data.fields (@List.toArray PySem.Value [(.builtin "object.__init_subclass__"), (r 106)])) #[]
def o109_1 (p : Params) : Obj := .mk (.type "tuple") .none (@PySem.Data.seq (@List.toArray PySem.Value [(r 31)]) 0) #[]
def o110_1 (p : Params) : Obj := .mk (.type "builtin_function_or_method") .none (@PySem.Data.fields (@List.toArray PySem.Value [(.builtin "type.__prepare__"), (.type "type")])) #[]
def o111_1 (p : Params) : Obj := .mk (.type "dict") .none (dc [(e p "__module__" 319 (u "hourlanes.errors" 194)), (e p "__qualname__" 321 (u "Unknown" 320)), (e p "__firstlineno__" 323 (@PySem.Value.int (i 21) 322)), (e p "__init__" 331 (r 122)), (e p "__static_attributes__" 333 (r 123))] 5) #[]
def o112_1 (p : Params) : Obj := .mk (.type "tuple") .none (@PySem.Data.seq #[] 0) #[]
def o113_1 (p : Params) : Obj := .mk .none .none (@PySem.Data.fields (@List.toArray PySem.Value [(@PySem.Value.int (i 23) 0), (@PySem.Value.int (i 4) 0), (r 121)])) #[]
def o114_1 (p : Params) : Obj := .mk (.type "code") .none (@PySem.Data.fields (@List.toArray PySem.Value [(u "Unknown" 314), (u "Unknown" 315), (u "/claim/cut.py" 316), (@PySem.Value.int (i 21) 0), (@PySem.Value.int (i 0) 0), (@PySem.Value.int (i 0) 0), (@PySem.Value.int (i 0) 0), (@PySem.Value.int (i 0) 0), (r 112), (@PySem.Value.bool Bool.false), (@PySem.Value.int (i 181) 0), (r 113), .none, .none, .none, .none, (@PySem.Value.int (i 317) 0), (@PySem.Value.int (i 21) 0), (u "/claim/cut.py" 318)])) #[]
def o115_1 (p : Params) : Obj := .mk (.type "frame") .none PySem.Data.plain (@List.toArray (@Option PySem.Value) [(.some (r 114)), (.some (r 3)), (.some (r 111)), .none, (.some (u "hourlanes.errors" 194)), .none, (.some (r 0))])
def o116_1 (p : Params) : Obj := .mk (.type "tuple") .none (@PySem.Data.seq #[] 0) #[]
def o117_1 (p : Params) : Obj := .mk .none .none (@PySem.Data.fields #[]) #[]
def o118_1 (p : Params) : Obj := .mk (.type "tuple") .none (@PySem.Data.seq (@List.toArray PySem.Value [(u "self" 327), (u "name" 328)]) 0) #[]
def o119_1 (p : Params) : Obj := .mk (.type "tuple") .none (@PySem.Data.seq #[] 0) #[]
def o120_1 (p : Params) : Obj := .mk .none .none (.func (.mk (s "__init__") (s "Unknown.__init__") (defArgs (inClass (tp 8) 0)) (.stmts (defBody (inClass (tp 8) 0))) (defScope (inClass (tp 8) 0)) 0 [] .none .none .none .none .none .none .none 0)) #[]
def o121_1 (p : Params) : Obj := .mk (.type "code") .none (@PySem.Data.fields (@List.toArray PySem.Value [(u "__init__" 324), (u "Unknown.__init__" 325), (u "/claim/cut.py" 326), (@PySem.Value.int (i 23) 0), (@PySem.Value.int (i 2) 0), (@PySem.Value.int (i 0) 0), (@PySem.Value.int (i 0) 0), (@PySem.Value.int (i 3) 0), (r 116), (@PySem.Value.bool Bool.true), (@PySem.Value.int (i 181) 0), (r 117), .none, (r 118), (r 119), (r 120), (@PySem.Value.int (i 329) 0), (@PySem.Value.int (i 23) 0), (u "/claim/cut.py" 330)])) #[]
def o122_1 (p : Params) : Obj := .mk (.type "function") .none (.func (.mk (s "__init__") (s "Unknown.__init__") (defArgs (inClass (tp 8) 0)) (.stmts (defBody (inClass (tp 8) 0))) (defScope (inClass (tp 8) 0)) 3 [] .none .none .none (u "hourlanes.errors" 194) .none (r 121) .none 0)) #[]
def o123_1 (p : Params) : Obj := .mk (.type "tuple") .none (@PySem.Data.seq (@List.toArray PySem.Value [(u "name" 332)]) 0) #[]
def o124_1 (p : Params) : Obj := .mk (.type "dict") .none (dc [(e p "__module__" 319 (u "hourlanes.errors" 194)), (e p "__firstlineno__" 323 (@PySem.Value.int (i 21) 322)), (e p "__init__" 331 (r 122)), (e p "__static_attributes__" 333 (r 123)), (e p "__doc__" 334 .none)] 2) #[]
def o125_1 (p : Params) : Obj := .mk (.type "type") .none (@PySem.Data.cls (@PySem.ClassData.mk (s "Unknown") [(r 31)] [(r 125), (r 31), (.type "ValueError"), (.type "Exception"), (.type "BaseException"), (.type "object")] 124 (s "Unknown") Bool.true [] [] Bool.false .none Bool.false)) (@List.toArray (@Option PySem.Value) [(.some (r 109)), .none, (.some (u "Unknown" 312)), (.some (u "Unknown" 320)), (.some (.builtin "ValueError.__new__")), (.some (@PySem.Value.bool Bool.true))])
def o126_1 (p : Params) : Obj := .mk (.type "super") .none (@PySem.Data.fields (@List.toArray PySem.Value [(r 125), (r 125), (r 125)])) #[]
def o127_1 (p : Params) : Obj := .mk (.type "builtin_function_or_method") .none (@PySem.Data.fields (@List.toArray PySem.Value [(.builtin "object.__init_subclass__"), (r 125)])) #[]
def t1_0 (p : Params) : BT := (.node (o15_1 p) (.node (o31_1 p) (.node (o63_1 p) (.node (o127_1 p) .nil .nil) .nil) (.node (o95_1 p) .nil .nil)) (.node (o47_1 p) (.node (o79_1 p) .nil .nil) (.node (o111_1 p) .nil .nil)))
def t1_1 (p : Params) : BT := (.node (o16_1 p) (.node (o32_1 p) (.node (o64_1 p) .nil .nil) (.node (o96_1 p) .nil .nil)) (.node (o48_1 p) (.node (o80_1 p) .nil .nil) (.node (o112_1 p) .nil .nil)))
def t1_2 (p : Params) : BT := (.node (o17_1 p) (.node (o33_1 p) (.node (o65_1 p) .nil .nil) (.node (o97_1 p) .nil .nil)) (.node (o49_1 p) (.node (o81_1 p) .nil .nil) (.node (o113_1 p) .nil .nil)))
def t1_3 (p : Params) : BT := (.node (o18_1 p) (.node (o34_1 p) (.node (o66_1 p) .nil .nil) (.node (o98_1 p) .nil .nil)) (.node (o50_1 p) (.node (o82_1 p) .nil .nil) (.node (o114_1 p) .nil .nil)))
def t1_4 (p : Params) : BT := (.node (o19_1 p) (.node (o35_1 p) (.node (o67_1 p) .nil .nil) (.node (o99_1 p) .nil .nil)) (.node (o51_1 p) (.node (o83_1 p) .nil .nil) (.node (o115_1 p) .nil .nil)))
def t1_5 (p : Params) : BT := (.node (o20_1 p) (.node (o36_1 p) (.node (o68_1 p) .nil .nil) (.node (o100_1 p) .nil .nil)) (.node (o52_1 p) (.node (o84_1 p) .nil .nil) (.node (o116_1 p) .nil .nil)))
def t1_6 (p : Params) : BT := (.node (o21_1 p) (.node (o37_1 p) (.node (o69_1 p) .nil .nil) (.node (o101_1 p) .nil .nil)) (.node (o53_1 p) (.node (o85_1 p) .nil .nil) (.node (o117_1 p) .nil .nil)))
def t1_7 (p : Params) : BT := (.node (o22_1 p) (.node (o38_1 p) (.node (o70_1 p) .nil .nil) (.node (o102_1 p) .nil .nil)) (.node (o54_1 p) (.node (o86_1 p) .nil .nil) (.node (o118_1 p) .nil .nil)))
def t1_8 (p : Params) : BT := (.node (o23_1 p) (.node (o39_1 p) (.node (o71_1 p) .nil .nil) (.node (o103_1 p) .nil .nil)) (.node (o55_1 p) (.node (o87_1 p) .nil .nil) (.node (o119_1 p) .nil .nil)))
def t1_9 (p : Params) : BT := (.node (o24_1 p) (.node (o40_1 p) (.node (o72_1 p) .nil .nil) (.node (o104_1 p) .nil .nil)) (.node (o56_1 p) (.node (o88_1 p) .nil .nil) (.node (o120_1 p) .nil .nil)))
def t1_10 (p : Params) : BT := (.node (o25_1 p) (.node (o41_1 p) (.node (o73_1 p) .nil .nil) (.node (o105_1 p) .nil .nil)) (.node (o57_1 p) (.node (o89_1 p) .nil .nil) (.node (o121_1 p) .nil .nil)))
def t1_11 (p : Params) : BT := (.node (o26_1 p) (.node (o42_1 p) (.node (o74_1 p) .nil .nil) (.node (o106_1 p) .nil .nil)) (.node (o58_1 p) (.node (o90_1 p) .nil .nil) (.node (o122_1 p) .nil .nil)))
def t1_12 (p : Params) : BT := (.node (o27_1 p) (.node (o43_1 p) (.node (o75_1 p) .nil .nil) (.node (o107_1 p) .nil .nil)) (.node (o59_1 p) (.node (o91_1 p) .nil .nil) (.node (o123_1 p) .nil .nil)))
def t1_13 (p : Params) : BT := (.node (o28_1 p) (.node (o44_1 p) (.node (o76_1 p) .nil .nil) (.node (o108_1 p) .nil .nil)) (.node (o60_1 p) (.node (o92_1 p) .nil .nil) (.node (o124_1 p) .nil .nil)))
def t1_14 (p : Params) : BT := (.node (o29_1 p) (.node (o45_1 p) (.node (o77_1 p) .nil .nil) (.node (o109_1 p) .nil .nil)) (.node (o61_1 p) (.node (o93_1 p) .nil .nil) (.node (o125_1 p) .nil .nil)))
def t1_15 (p : Params) : BT := (.node (o30_1 p) (.node (o46_1 p) (.node (o78_1 p) .nil .nil) (.node (o110_1 p) .nil .nil)) (.node (o62_1 p) (.node (o94_1 p) .nil .nil) (.node (o126_1 p) .nil .nil)))
def tree1 (p : Params) : BT := (.node (boot_o_0 p) (.node (boot_o_1 p) (.node (o3_1 p) (.node (boot_o_7 p) (t1_0 p) (t1_8 p)) (.node (o11_1 p) (t1_4 p) (t1_12 p))) (.node (boot_o_5 p) (.node (boot_o_9 p) (t1_2 p) (t1_10 p)) (.node (o13_1 p) (t1_6 p) (t1_14 p)))) (.node (boot_o_2 p) (.node (boot_o_4 p) (.node (boot_o_8 p) (t1_1 p) (t1_9 p)) (.node (o12_1 p) (t1_5 p) (t1_13 p))) (.node (boot_o_6 p) (.node (boot_o_10 p) (t1_3 p) (t1_11 p)) (.node (o14_1 p) (t1_7 p) (t1_15 p)))))
def st1 (w : World) (os : OsState) : SharedT := ⟨tree1 w.params, 128, (@PySem.Life.mk [] [] [] 0 [] [] Bool.false #[] [] 0 Bool.false Bool.false Bool.false (i 0) [(i 2000), (i 10), (i 10)] Bool.false 0 Bool.true [] [] 0 Bool.false), #[], (@PySem.Drawn.mk 0 0 0 0), 337, os⟩
def th1 : Thread := thrOf (pg.main.body.drop 9) envT codT (@PySem.Pos.mk 21 0 24 24) frT
theorem run1 (w : World) (os : OsState) : bootS (stepQ (denQ tabQ) pg w) 1610 pg w os = some (11, st1 w os, th1) := by kernel_rfl
def o3_2 (p : Params) : Obj := .mk (.type "dict") .none (dc [(e p "__name__" 165 (u "hourlanes.flows" 503)), (e p "__doc__" 166 .none), (e p "__package__" 167 .none), (e p "__loader__" 168 (.builtin "__main__.__loader__#opaque")), (e p "__spec__" 169 .none), (e p "__annotations__" 170 (r 6)), (e p "__builtins__" 171 (r 4)), (e p "__file__" 173 (u "/claim/cut.py" 172)), (e p "__cached__" 174 .none), (e p "_wall" 193 (r 21)), (e p "LaneError" 213 (r 31)), (e p "NoJar" 229 (r 44)), (e p "NoTick" 245 (r 56)), (e p "NoLane" 261 (r 68)), (e p "NoName" 286 (r 87)), (e p "Taken" 311 (r 106)), (e p "Unknown" 336 (r 125)), (e p "NoWay" 361 (r 144)), (e p "NoLot" 386 (r 163)), (e p "TooMany" 413 (r 182)), (e p "TooMuch" 444 (r 201)), (e p "NoText" 469 (r 220)), (e p "NoBook" 494 (r 239)), (e p "carried" 502 (r 246)), (e p "joined" 515 (r 253))] 25) #[]
def o12_2 (p : Params) : Obj := .mk .none .none (@PySem.Data.fields (@List.toArray PySem.Value [(@PySem.Value.int (i 1) 0), (@PySem.Value.int (i 0) 0), (r 20), (@PySem.Value.int (i 5) 0), (@PySem.Value.int (i 0) 0), (r 27), (@PySem.Value.int (i 7) 0), (@PySem.Value.int (i 0) 0), (r 40), (@PySem.Value.int (i 9) 0), (@PySem.Value.int (i 0) 0), (r 52), (@PySem.Value.int (i 11) 0), (@PySem.Value.int (i 0) 0), (r 64), (@PySem.Value.int (i 13) 0), (@PySem.Value.int (i 0) 0), (r 76), (@PySem.Value.int (i 17) 0), (@PySem.Value.int (i 0) 0), (r 95), (@PySem.Value.int (i 21) 0), (@PySem.Value.int (i 0) 0), (r 114), (@PySem.Value.int (i 25) 0), (@PySem.Value.int (i 0) 0), (r 133), (@PySem.Value.int (i 29) 0), (@PySem.Value.int (i 0) 0), (r 152), (@PySem.Value.int (i 33) 0), (@PySem.Value.int (i 0) 0), (r 171), (@PySem.Value.int (i 38) 0), (@PySem.Value.int (i 0) 0), (r 190), (@PySem.Value.int (i 45) 0), (@PySem.Value.int (i 0) 0), (r 209), (@PySem.Value.int (i 49) 0), (@PySem.Value.int (i 0) 0), (r 228), (@PySem.Value.int (i 54) 0), (@PySem.Value.int (i 0) 0), (r 245), (@PySem.Value.int (i 63) 0), (@PySem.Value.int (i 0) 0), (r 252)])) #[]
def o31_2 (p : Params) : Obj := .mk (.type "type") .none (@PySem.Data.cls (@PySem.ClassData.mk (s "LaneError") [(.type "ValueError")] [(r 31), (.type "ValueError"), (.type "Exception"), (.type "BaseException"), (.type "object")] 30 (s "LaneError") Bool.true [] [(r 44), (r 56), (r 68), (r 87), (r 106), (r 125), (r 144), (r 163), (r 182), (r 201), (r 220), (r 239)] Bool.false .none Bool.false)) (@List.toArray (@Option PySem.Value) [(.some (r 22)), .none, (.some (u "LaneError" 196)), (.some (u "LaneError" 204)), (.some (.builtin "ValueError.__new__")), (.some (@PySem.Value.bool Bool.true))])
def o128_2 (p : Params) : Obj := .mk (.type "tuple") .none (@PySem.Data.seq (@List.toArray PySem.Value [(r 31)]) 0) #[]
def o129_2 (p : Params) : Obj := .mk (.type "builtin_function_or_method") .none (@PySem.Data.fields (@List.toArray PySem.Value [(.builtin "type.__prepare__"), (.type "type")])) #[]
def o130_2 (p : Params) : Obj := .mk (.type "dict") .none (dc [(e p "__module__" 344 (u "hourlanes.errors" 194)), (e p "__qualname__" 346 (u "NoWay" 345)), (e p "__firstlineno__" 348 (@PySem.Value.int (i 25) 347)), (e p "__init__" 356 (r 141)), (e p "__static_attributes__" 358 (r 142))] 5) #[]
def o131_2 (p : Params) : Obj := .mk (.type "tuple") .none (@PySem.Data.seq #[] 0) #[]
def o132_2 (p : Params) : Obj := .mk .none .none (@PySem.Data.fields (@List.toArray PySem.Value [(@PySem.Value.int (i 27) 0), (@PySem.Value.int (i 4) 0), (r 140)])) #[]
def o133_2 (p : Params) : Obj := .mk (.type "code") .none (@PySem.Data.fields (@List.toArray PySem.Value [(u "NoWay" 339), (u "NoWay" 340), (u "/claim/cut.py" 341), (@PySem.Value.int (i 25) 0), (@PySem.Value.int (i 0) 0), (@PySem.Value.int (i 0) 0), (@PySem.Value.int (i 0) 0), (@PySem.Value.int (i 0) 0), (r 131), (@PySem.Value.bool Bool.false), (@PySem.Value.int (i 181) 0), (r 132), .none, .none, .none, .none, (@PySem.Value.int (i 342) 0), (@PySem.Value.int (i 25) 0), (u "/claim/cut.py" 343)])) #[]
def o134_2 (p : Params) : Obj := .mk (.type "frame") .none PySem.Data.plain (@List.toArray (@Option PySem.Value) [(.some (r 133)), (.some (r 3)), (.some (r 130)), .none, (.some (u "hourlanes.errors" 194)), .none, (.some (r 0))])
def o135_2 (p : Params) : Obj := .mk (.type "tuple") .none (@PySem.Data.seq #[] 0) #[]
def o136_2 (p : Params) : Obj := .mk .none .none (@PySem.Data.fields #[]) #[]
def o137_2 (p : Params) : Obj := .mk (.type "tuple") .none (@PySem.Data.seq (@List.toArray PySem.Value [(u "self" 352), (u "place" 353)]) 0) #[]
def o138_2 (p : Params) : Obj := .mk (.type "tuple") .none (@PySem.Data.seq #[] 0) #[]
def o139_2 (p : Params) : Obj := .mk .none .none (.func (.mk (s "__init__") (s "NoWay.__init__") (defArgs (inClass (tp 9) 0)) (.stmts (defBody (inClass (tp 9) 0))) (defScope (inClass (tp 9) 0)) 0 [] .none .none .none .none .none .none .none 0)) #[]
def o140_2 (p : Params) : Obj := .mk (.type "code") .none (@PySem.Data.fields (@List.toArray PySem.Value [(u "__init__" 349), (u "NoWay.__init__" 350), (u "/claim/cut.py" 351), (@PySem.Value.int (i 27) 0), (@PySem.Value.int (i 2) 0), (@PySem.Value.int (i 0) 0), (@PySem.Value.int (i 0) 0), (@PySem.Value.int (i 3) 0), (r 135), (@PySem.Value.bool Bool.true), (@PySem.Value.int (i 181) 0), (r 136), .none, (r 137), (r 138), (r 139), (@PySem.Value.int (i 354) 0), (@PySem.Value.int (i 27) 0), (u "/claim/cut.py" 355)])) #[]
def o141_2 (p : Params) : Obj := .mk (.type "function") .none (.func (.mk (s "__init__") (s "NoWay.__init__") (defArgs (inClass (tp 9) 0)) (.stmts (defBody (inClass (tp 9) 0))) (defScope (inClass (tp 9) 0)) 3 [] .none .none .none (u "hourlanes.errors" 194) .none (r 140) .none 0)) #[]
def o142_2 (p : Params) : Obj := .mk (.type "tuple") .none (@PySem.Data.seq (@List.toArray PySem.Value [(u "place" 357)]) 0) #[]
def o143_2 (p : Params) : Obj := .mk (.type "dict") .none (dc [(e p "__module__" 344 (u "hourlanes.errors" 194)), (e p "__firstlineno__" 348 (@PySem.Value.int (i 25) 347)), (e p "__init__" 356 (r 141)), (e p "__static_attributes__" 358 (r 142)), (e p "__doc__" 359 .none)] 2) #[]
def o144_2 (p : Params) : Obj := .mk (.type "type") .none (@PySem.Data.cls (@PySem.ClassData.mk (s "NoWay") [(r 31)] [(r 144), (r 31), (.type "ValueError"), (.type "Exception"), (.type "BaseException"), (.type "object")] 143 (s "NoWay") Bool.true [] [] Bool.false .none Bool.false)) (@List.toArray (@Option PySem.Value) [(.some (r 128)), .none, (.some (u "NoWay" 337)), (.some (u "NoWay" 345)), (.some (.builtin "ValueError.__new__")), (.some (@PySem.Value.bool Bool.true))])
def o145_2 (p : Params) : Obj := .mk (.type "super") .none (@PySem.Data.fields (@List.toArray PySem.Value [(r 144), (r 144), (r 144)])) #[]
def o146_2 (p : Params) : Obj := .mk (.type "builtin_function_or_method") .none (@PySem.Data.fields (@List.toArray PySem.Value [(.builtin "object.__init_subclass__"), (r 144)])) #[]
def o147_2 (p : Params) : Obj := .mk (.type "tuple") .none (@PySem.Data.seq (@List.toArray PySem.Value [(r 31)]) 0) #[]
def o148_2 (p : Params) : Obj := .mk (.type "builtin_function_or_method") .none (@PySem.Data.fields (@List.toArray PySem.Value [(.builtin "type.__prepare__"), (.type "type")])) #[]
def o149_2 (p : Params) : Obj := .mk (.type "dict") .none (dc [(e p "__module__" 369 (u "hourlanes.errors" 194)), (e p "__qualname__" 371 (u "NoLot" 370)), (e p "__firstlineno__" 373 (@PySem.Value.int (i 29) 372)), (e p "__init__" 381 (r 160)), (e p "__static_attributes__" 383 (r 161))] 5) #[]
def o150_2 (p : Params) : Obj := .mk (.type "tuple") .none (@PySem.Data.seq #[] 0) #[]
def o151_2 (p : Params) : Obj := .mk .none .none (@PySem.Data.fields (@List.toArray PySem.Value [(@PySem.Value.int (i 31) 0), (@PySem.Value.int (i 4) 0), (r 159)])) #[]
def o152_2 (p : Params) : Obj := .mk (.type "code") .none (@PySem.Data.fields (@List.toArray PySem.Value [(u "NoLot" 364), (u "NoLot" 365), (u "/claim/cut.py" 366), (@PySem.Value.int (i 29) 0), (@PySem.Value.int (i 0) 0), (@PySem.Value.int (i 0) 0), (@PySem.Value.int (i 0) 0), (@PySem.Value.int (i 0) 0), (r 150), (@PySem.Value.bool Bool.false), (@PySem.Value.int (i 181) 0), (r 151), .none, .none, .none, .none, (@PySem.Value.int (i 367) 0), (@PySem.Value.int (i 29) 0), (u "/claim/cut.py" 368)])) #[]
def o153_2 (p : Params) : Obj := .mk (.type "frame") .none PySem.Data.plain (@List.toArray (@Option PySem.Value) [(.some (r 152)), (.some (r 3)), (.some (r 149)), .none, (.some (u "hourlanes.errors" 194)), .none, (.some (r 0))])
def o154_2 (p : Params) : Obj := .mk (.type "tuple") .none (@PySem.Data.seq #[] 0) #[]
def o155_2 (p : Params) : Obj := .mk .none .none (@PySem.Data.fields #[]) #[]
def o156_2 (p : Params) : Obj := .mk (.type "tuple") .none (@PySem.Data.seq (@List.toArray PySem.Value [(u "self" 377), (u "place" 378)]) 0) #[]
def o157_2 (p : Params) : Obj := .mk (.type "tuple") .none (@PySem.Data.seq #[] 0) #[]
def o158_2 (p : Params) : Obj := .mk .none .none (.func (.mk (s "__init__") (s "NoLot.__init__") (defArgs (inClass (tp 10) 0)) (.stmts (defBody (inClass (tp 10) 0))) (defScope (inClass (tp 10) 0)) 0 [] .none .none .none .none .none .none .none 0)) #[]
def o159_2 (p : Params) : Obj := .mk (.type "code") .none (@PySem.Data.fields (@List.toArray PySem.Value [(u "__init__" 374), (u "NoLot.__init__" 375), (u "/claim/cut.py" 376), (@PySem.Value.int (i 31) 0), (@PySem.Value.int (i 2) 0), (@PySem.Value.int (i 0) 0), (@PySem.Value.int (i 0) 0), (@PySem.Value.int (i 3) 0), (r 154), (@PySem.Value.bool Bool.true), (@PySem.Value.int (i 181) 0), (r 155), .none, (r 156), (r 157), (r 158), (@PySem.Value.int (i 379) 0), (@PySem.Value.int (i 31) 0), (u "/claim/cut.py" 380)])) #[]
def o160_2 (p : Params) : Obj := .mk (.type "function") .none (.func (.mk (s "__init__") (s "NoLot.__init__") (defArgs (inClass (tp 10) 0)) (.stmts (defBody (inClass (tp 10) 0))) (defScope (inClass (tp 10) 0)) 3 [] .none .none .none (u "hourlanes.errors" 194) .none (r 159) .none 0)) #[]
def o161_2 (p : Params) : Obj := .mk (.type "tuple") .none (@PySem.Data.seq (@List.toArray PySem.Value [(u "place" 382)]) 0) #[]
def o162_2 (p : Params) : Obj := .mk (.type "dict") .none (dc [(e p "__module__" 369 (u "hourlanes.errors" 194)), (e p "__firstlineno__" 373 (@PySem.Value.int (i 29) 372)), (e p "__init__" 381 (r 160)), (e p "__static_attributes__" 383 (r 161)), (e p "__doc__" 384 .none)] 2) #[]
def o163_2 (p : Params) : Obj := .mk (.type "type") .none (@PySem.Data.cls (@PySem.ClassData.mk (s "NoLot") [(r 31)] [(r 163), (r 31), (.type "ValueError"), (.type "Exception"), (.type "BaseException"), (.type "object")] 162 (s "NoLot") Bool.true [] [] Bool.false .none Bool.false)) (@List.toArray (@Option PySem.Value) [(.some (r 147)), .none, (.some (u "NoLot" 362)), (.some (u "NoLot" 370)), (.some (.builtin "ValueError.__new__")), (.some (@PySem.Value.bool Bool.true))])
def o164_2 (p : Params) : Obj := .mk (.type "super") .none (@PySem.Data.fields (@List.toArray PySem.Value [(r 163), (r 163), (r 163)])) #[]
def o165_2 (p : Params) : Obj := .mk (.type "builtin_function_or_method") .none (@PySem.Data.fields (@List.toArray PySem.Value [(.builtin "object.__init_subclass__"), (r 163)])) #[]
def o166_2 (p : Params) : Obj := .mk (.type "tuple") .none (@PySem.Data.seq (@List.toArray PySem.Value [(r 31)]) 0) #[]
def o167_2 (p : Params) : Obj := .mk (.type "builtin_function_or_method") .none (@PySem.Data.fields (@List.toArray PySem.Value [(.builtin "type.__prepare__"), (.type "type")])) #[]
def o168_2 (p : Params) : Obj := .mk (.type "dict") .none (dc [(e p "__module__" 394 (u "hourlanes.errors" 194)), (e p "__qualname__" 396 (u "TooMany" 395)), (e p "__firstlineno__" 398 (@PySem.Value.int (i 33) 397)), (e p "__init__" 407 (r 179)), (e p "__static_attributes__" 410 (r 180))] 5) #[]
def o169_2 (p : Params) : Obj := .mk (.type "tuple") .none (@PySem.Data.seq #[] 0) #[]
def o170_2 (p : Params) : Obj := .mk .none .none (@PySem.Data.fields (@List.toArray PySem.Value [(@PySem.Value.int (i 35) 0), (@PySem.Value.int (i 4) 0), (r 178)])) #[]
def o171_2 (p : Params) : Obj := .mk (.type "code") .none (@PySem.Data.fields (@List.toArray PySem.Value [(u "TooMany" 389), (u "TooMany" 390), (u "/claim/cut.py" 391), (@PySem.Value.int (i 33) 0), (@PySem.Value.int (i 0) 0), (@PySem.Value.int (i 0) 0), (@PySem.Value.int (i 0) 0), (@PySem.Value.int (i 0) 0), (r 169), (@PySem.Value.bool Bool.false), (@PySem.Value.int (i 181) 0), (r 170), .none, .none, .none, .none, (@PySem.Value.int (i 392) 0), (@PySem.Value.int (i 33) 0), (u "/claim/cut.py" 393)])) #[]
def o172_2 (p : Params) : Obj := .mk (.type "frame") .none PySem.Data.plain (@List.toArray (@Option PySem.Value) [(.some (r 171)), (.some (r 3)), (.some (r 168)), .none, (.some (u "hourlanes.errors" 194)), .none, (.some (r 0))])
def o173_2 (p : Params) : Obj := .mk (.type "tuple") .none (@PySem.Data.seq #[] 0) #[]
def o174_2 (p : Params) : Obj := .mk .none .none (@PySem.Data.fields #[]) #[]
def o175_2 (p : Params) : Obj := .mk (.type "tuple") .none (@PySem.Data.seq (@List.toArray PySem.Value [(u "self" 402), (u "name" 403), (u "bound" 404)]) 0) #[]
def o176_2 (p : Params) : Obj := .mk (.type "tuple") .none (@PySem.Data.seq #[] 0) #[]
def o177_2 (p : Params) : Obj := .mk .none .none (.func (.mk (s "__init__") (s "TooMany.__init__") (defArgs (inClass (tp 11) 0)) (.stmts (defBody (inClass (tp 11) 0))) (defScope (inClass (tp 11) 0)) 0 [] .none .none .none .none .none .none .none 0)) #[]
def o178_2 (p : Params) : Obj := .mk (.type "code") .none (@PySem.Data.fields (@List.toArray PySem.Value [(u "__init__" 399), (u "TooMany.__init__" 400), (u "/claim/cut.py" 401), (@PySem.Value.int (i 35) 0), (@PySem.Value.int (i 3) 0), (@PySem.Value.int (i 0) 0), (@PySem.Value.int (i 0) 0), (@PySem.Value.int (i 3) 0), (r 173), (@PySem.Value.bool Bool.true), (@PySem.Value.int (i 181) 0), (r 174), .none, (r 175), (r 176), (r 177), (@PySem.Value.int (i 405) 0), (@PySem.Value.int (i 35) 0), (u "/claim/cut.py" 406)])) #[]
def o179_2 (p : Params) : Obj := .mk (.type "function") .none (.func (.mk (s "__init__") (s "TooMany.__init__") (defArgs (inClass (tp 11) 0)) (.stmts (defBody (inClass (tp 11) 0))) (defScope (inClass (tp 11) 0)) 3 [] .none .none .none (u "hourlanes.errors" 194) .none (r 178) .none 0)) #[]
def o180_2 (p : Params) : Obj := .mk (.type "tuple") .none (@PySem.Data.seq (@List.toArray PySem.Value [(u "bound" 408), (u "name" 409)]) 0) #[]
def o181_2 (p : Params) : Obj := .mk (.type "dict") .none (dc [(e p "__module__" 394 (u "hourlanes.errors" 194)), (e p "__firstlineno__" 398 (@PySem.Value.int (i 33) 397)), (e p "__init__" 407 (r 179)), (e p "__static_attributes__" 410 (r 180)), (e p "__doc__" 411 .none)] 2) #[]
def o182_2 (p : Params) : Obj := .mk (.type "type") .none (@PySem.Data.cls (@PySem.ClassData.mk (s "TooMany") [(r 31)] [(r 182), (r 31), (.type "ValueError"), (.type "Exception"), (.type "BaseException"), (.type "object")] 181 (s "TooMany") Bool.true [] [] Bool.false .none Bool.false)) (@List.toArray (@Option PySem.Value) [(.some (r 166)), .none, (.some (u "TooMany" 387)), (.some (u "TooMany" 395)), (.some (.builtin "ValueError.__new__")), (.some (@PySem.Value.bool Bool.true))])
def o183_2 (p : Params) : Obj := .mk (.type "super") .none (@PySem.Data.fields (@List.toArray PySem.Value [(r 182), (r 182), (r 182)])) #[]
def o184_2 (p : Params) : Obj := .mk (.type "builtin_function_or_method") .none (@PySem.Data.fields (@List.toArray PySem.Value [(.builtin "object.__init_subclass__"), (r 182)])) #[]
def o185_2 (p : Params) : Obj := .mk (.type "tuple") .none (@PySem.Data.seq (@List.toArray PySem.Value [(r 31)]) 0) #[]
def o186_2 (p : Params) : Obj := .mk (.type "builtin_function_or_method") .none (@PySem.Data.fields (@List.toArray PySem.Value [(.builtin "type.__prepare__"), (.type "type")])) #[]
def o187_2 (p : Params) : Obj := .mk (.type "dict") .none (dc [(e p "__module__" 421 (u "hourlanes.errors" 194)), (e p "__qualname__" 423 (u "TooMuch" 422)), (e p "__firstlineno__" 425 (@PySem.Value.int (i 38) 424)), (e p "__init__" 436 (r 198)), (e p "__static_attributes__" 441 (r 199))] 5) #[]
def o188_2 (p : Params) : Obj := .mk (.type "tuple") .none (@PySem.Data.seq #[] 0) #[]
def o189_2 (p : Params) : Obj := .mk .none .none (@PySem.Data.fields (@List.toArray PySem.Value [(@PySem.Value.int (i 40) 0), (@PySem.Value.int (i 4) 0), (r 197)])) #[]
def o190_2 (p : Params) : Obj := .mk (.type "code") .none (@PySem.Data.fields (@List.toArray PySem.Value [(u "TooMuch" 416), (u "TooMuch" 417), (u "/claim/cut.py" 418), (@PySem.Value.int (i 38) 0), (@PySem.Value.int (i 0) 0), (@PySem.Value.int (i 0) 0), (@PySem.Value.int (i 0) 0), (@PySem.Value.int (i 0) 0), (r 188), (@PySem.Value.bool Bool.false), (@PySem.Value.int (i 181) 0), (r 189), .none, .none, .none, .none, (@PySem.Value.int (i 419) 0), (@PySem.Value.int (i 38) 0), (u "/claim/cut.py" 420)])) #[]
def o191_2 (p : Params) : Obj := .mk (.type "frame") .none PySem.Data.plain (@List.toArray (@Option PySem.Value) [(.some (r 190)), (.some (r 3)), (.some (r 187)), .none, (.some (u "hourlanes.errors" 194)), .none, (.some (r 0))])
def o192_2 (p : Params) : Obj := .mk (.type "tuple") .none (@PySem.Data.seq #[] 0) #[]
def o193_2 (p : Params) : Obj := .mk .none .none (@PySem.Data.fields #[]) #[]
def o194_2 (p : Params) : Obj := .mk (.type "tuple") .none (@PySem.Data.seq (@List.toArray PySem.Value [(u "self" 429), (u "lane" 430), (u "first" 431), (u "end" 432), (u "rows" 433)]) 0) #[]
def o195_2 (p : Params) : Obj := .mk (.type "tuple") .none (@PySem.Data.seq #[] 0) #[]
def o196_2 (p : Params) : Obj := .mk .none .none (.func (.mk (s "__init__") (s "TooMuch.__init__") (defArgs (inClass (tp 12) 0)) (.stmts (defBody (inClass (tp 12) 0))) (defScope (inClass (tp 12) 0)) 0 [] .none .none .none .none .none .none .none 0)) #[]
def o197_2 (p : Params) : Obj := .mk (.type "code") .none (@PySem.Data.fields (@List.toArray PySem.Value [(u "__init__" 426), (u "TooMuch.__init__" 427), (u "/claim/cut.py" 428), (@PySem.Value.int (i 40) 0), (@PySem.Value.int (i 5) 0), (@PySem.Value.int (i 0) 0), (@PySem.Value.int (i 0) 0), (@PySem.Value.int (i 3) 0), (r 192), (@PySem.Value.bool Bool.true), (@PySem.Value.int (i 181) 0), (r 193), .none, (r 194), (r 195), (r 196), (@PySem.Value.int (i 434) 0), (@PySem.Value.int (i 40) 0), (u "/claim/cut.py" 435)])) #[]
def o198_2 (p : Params) : Obj := .mk (.type "function") .none (.func (.mk (s "__init__") (s "TooMuch.__init__") (defArgs (inClass (tp 12) 0)) (.stmts (defBody (inClass (tp 12) 0))) (defScope (inClass (tp 12) 0)) 3 [] .none .none .none (u "hourlanes.errors" 194) .none (r 197) .none 0)) #[]
def o199_2 (p : Params) : Obj := .mk (.type "tuple") .none (@PySem.Data.seq (@List.toArray PySem.Value [(u "end" 437), (u "first" 438), (u "lane" 439), (u "rows" 440)]) 0) #[]
def o200_2 (p : Params) : Obj := .mk (.type "dict") .none (dc [(e p "__module__" 421 (u "hourlanes.errors" 194)), (e p "__firstlineno__" 425 (@PySem.Value.int (i 38) 424)), (e p "__init__" 436 (r 198)), (e p "__static_attributes__" 441 (r 199)), (e p "__doc__" 442 .none)] 2) #[]
def o201_2 (p : Params) : Obj := .mk (.type "type") .none (@PySem.Data.cls (@PySem.ClassData.mk (s "TooMuch") [(r 31)] [(r 201), (r 31), (.type "ValueError"), (.type "Exception"), (.type "BaseException"), (.type "object")] 200 (s "TooMuch") Bool.true [] [] Bool.false .none Bool.false)) (@List.toArray (@Option PySem.Value) [(.some (r 185)), .none, (.some (u "TooMuch" 414)), (.some (u "TooMuch" 422)), (.some (.builtin "ValueError.__new__")), (.some (@PySem.Value.bool Bool.true))])
def o202_2 (p : Params) : Obj := .mk (.type "super") .none (@PySem.Data.fields (@List.toArray PySem.Value [(r 201), (r 201), (r 201)])) #[]
def o203_2 (p : Params) : Obj := .mk (.type "builtin_function_or_method") .none (@PySem.Data.fields (@List.toArray PySem.Value [(.builtin "object.__init_subclass__"), (r 201)])) #[]
def o204_2 (p : Params) : Obj := .mk (.type "tuple") .none (@PySem.Data.seq (@List.toArray PySem.Value [(r 31)]) 0) #[]
def o205_2 (p : Params) : Obj := .mk (.type "builtin_function_or_method") .none (@PySem.Data.fields (@List.toArray PySem.Value [(.builtin "type.__prepare__"), (.type "type")])) #[]
def o206_2 (p : Params) : Obj := .mk (.type "dict") .none (dc [(e p "__module__" 452 (u "hourlanes.errors" 194)), (e p "__qualname__" 454 (u "NoText" 453)), (e p "__firstlineno__" 456 (@PySem.Value.int (i 45) 455)), (e p "__init__" 464 (r 217)), (e p "__static_attributes__" 466 (r 218))] 5) #[]
def o207_2 (p : Params) : Obj := .mk (.type "tuple") .none (@PySem.Data.seq #[] 0) #[]
def o208_2 (p : Params) : Obj := .mk .none .none (@PySem.Data.fields (@List.toArray PySem.Value [(@PySem.Value.int (i 47) 0), (@PySem.Value.int (i 4) 0), (r 216)])) #[]
def o209_2 (p : Params) : Obj := .mk (.type "code") .none (@PySem.Data.fields (@List.toArray PySem.Value [(u "NoText" 447), (u "NoText" 448), (u "/claim/cut.py" 449), (@PySem.Value.int (i 45) 0), (@PySem.Value.int (i 0) 0), (@PySem.Value.int (i 0) 0), (@PySem.Value.int (i 0) 0), (@PySem.Value.int (i 0) 0), (r 207), (@PySem.Value.bool Bool.false), (@PySem.Value.int (i 181) 0), (r 208), .none, .none, .none, .none, (@PySem.Value.int (i 450) 0), (@PySem.Value.int (i 45) 0), (u "/claim/cut.py" 451)])) #[]
def o210_2 (p : Params) : Obj := .mk (.type "frame") .none PySem.Data.plain (@List.toArray (@Option PySem.Value) [(.some (r 209)), (.some (r 3)), (.some (r 206)), .none, (.some (u "hourlanes.errors" 194)), .none, (.some (r 0))])
def o211_2 (p : Params) : Obj := .mk (.type "tuple") .none (@PySem.Data.seq #[] 0) #[]
def o212_2 (p : Params) : Obj := .mk .none .none (@PySem.Data.fields #[]) #[]
def o213_2 (p : Params) : Obj := .mk (.type "tuple") .none (@PySem.Data.seq (@List.toArray PySem.Value [(u "self" 460), (u "row" 461)]) 0) #[]
def o214_2 (p : Params) : Obj := .mk (.type "tuple") .none (@PySem.Data.seq #[] 0) #[]
def o215_2 (p : Params) : Obj := .mk .none .none (.func (.mk (s "__init__") (s "NoText.__init__") (defArgs (inClass (tp 13) 0)) (.stmts (defBody (inClass (tp 13) 0))) (defScope (inClass (tp 13) 0)) 0 [] .none .none .none .none .none .none .none 0)) #[]
def o216_2 (p : Params) : Obj := .mk (.type "code") .none (@PySem.Data.fields (@List.toArray PySem.Value [(u "__init__" 457), (u "NoText.__init__" 458), (u "/claim/cut.py" 459), (@PySem.Value.int (i 47) 0), (@PySem.Value.int (i 2) 0), (@PySem.Value.int (i 0) 0), (@PySem.Value.int (i 0) 0), (@PySem.Value.int (i 3) 0), (r 211), (@PySem.Value.bool Bool.true), (@PySem.Value.int (i 181) 0), (r 212), .none, (r 213), (r 214), (r 215), (@PySem.Value.int (i 462) 0), (@PySem.Value.int (i 47) 0), (u "/claim/cut.py" 463)])) #[]
def o217_2 (p : Params) : Obj := .mk (.type "function") .none (.func (.mk (s "__init__") (s "NoText.__init__") (defArgs (inClass (tp 13) 0)) (.stmts (defBody (inClass (tp 13) 0))) (defScope (inClass (tp 13) 0)) 3 [] .none .none .none (u "hourlanes.errors" 194) .none (r 216) .none 0)) #[]
def o218_2 (p : Params) : Obj := .mk (.type "tuple") .none (@PySem.Data.seq (@List.toArray PySem.Value [(u "row" 465)]) 0) #[]
def o219_2 (p : Params) : Obj := .mk (.type "dict") .none (dc [(e p "__module__" 452 (u "hourlanes.errors" 194)), (e p "__firstlineno__" 456 (@PySem.Value.int (i 45) 455)), (e p "__init__" 464 (r 217)), (e p "__static_attributes__" 466 (r 218)), (e p "__doc__" 467 .none)] 2) #[]
def o220_2 (p : Params) : Obj := .mk (.type "type") .none (@PySem.Data.cls (@PySem.ClassData.mk (s "NoText") [(r 31)] [(r 220), (r 31), (.type "ValueError"), (.type "Exception"), (.type "BaseException"), (.type "object")] 219 (s "NoText") Bool.true [] [] Bool.false .none Bool.false)) (@List.toArray (@Option PySem.Value) [(.some (r 204)), .none, (.some (u "NoText" 445)), (.some (u "NoText" 453)), (.some (.builtin "ValueError.__new__")), (.some (@PySem.Value.bool Bool.true))])
def o221_2 (p : Params) : Obj := .mk (.type "super") .none (@PySem.Data.fields (@List.toArray PySem.Value [(r 220), (r 220), (r 220)])) #[]
def o222_2 (p : Params) : Obj := .mk (.type "builtin_function_or_method") .none (@PySem.Data.fields (@List.toArray PySem.Value [(.builtin "object.__init_subclass__"), (r 220)])) #[]
def o223_2 (p : Params) : Obj := .mk (.type "tuple") .none (@PySem.Data.seq (@List.toArray PySem.Value [(r 31)]) 0) #[]
def o224_2 (p : Params) : Obj := .mk (.type "builtin_function_or_method") .none (@PySem.Data.fields (@List.toArray PySem.Value [(.builtin "type.__prepare__"), (.type "type")])) #[]
def o225_2 (p : Params) : Obj := .mk (.type "dict") .none (dc [(e p "__module__" 477 (u "hourlanes.errors" 194)), (e p "__qualname__" 479 (u "NoBook" 478)), (e p "__firstlineno__" 481 (@PySem.Value.int (i 49) 480)), (e p "__init__" 489 (r 236)), (e p "__static_attributes__" 491 (r 237))] 5) #[]
def o226_2 (p : Params) : Obj := .mk (.type "tuple") .none (@PySem.Data.seq #[] 0) #[]
def o227_2 (p : Params) : Obj := .mk .none .none (@PySem.Data.fields (@List.toArray PySem.Value [(@PySem.Value.int (i 51) 0), (@PySem.Value.int (i 4) 0), (r 235)])) #[]
def o228_2 (p : Params) : Obj := .mk (.type "code") .none (@PySem.Data.fields (@List.toArray PySem.Value [(u "NoBook" 472), (u "NoBook" 473), (u "/claim/cut.py" 474), (@PySem.Value.int (i 49) 0), (@PySem.Value.int (i 0) 0), (@PySem.Value.int (i 0) 0), (@PySem.Value.int (i 0) 0), (@PySem.Value.int (i 0) 0), (r 226), (@PySem.Value.bool Bool.false), (@PySem.Value.int (i 181) 0), (r 227), .none, .none, .none, .none, (@PySem.Value.int (i 475) 0), (@PySem.Value.int (i 49) 0), (u "/claim/cut.py" 476)])) #[]
def o229_2 (p : Params) : Obj := .mk (.type "frame") .none PySem.Data.plain (@List.toArray (@Option PySem.Value) [(.some (r 228)), (.some (r 3)), (.some (r 225)), .none, (.some (u "hourlanes.errors" 194)), .none, (.some (r 0))])
def o230_2 (p : Params) : Obj := .mk (.type "tuple") .none (@PySem.Data.seq #[] 0) #[]
def o231_2 (p : Params) : Obj := .mk .none .none (@PySem.Data.fields #[]) #[]
def o232_2 (p : Params) : Obj := .mk (.type "tuple") .none (@PySem.Data.seq (@List.toArray PySem.Value [(u "self" 485), (u "row" 486)]) 0) #[]
def o233_2 (p : Params) : Obj := .mk (.type "tuple") .none (@PySem.Data.seq #[] 0) #[]
def o234_2 (p : Params) : Obj := .mk .none .none (.func (.mk (s "__init__") (s "NoBook.__init__") (defArgs (inClass (tp 14) 0)) (.stmts (defBody (inClass (tp 14) 0))) (defScope (inClass (tp 14) 0)) 0 [] .none .none .none .none .none .none .none 0)) #[]
def o235_2 (p : Params) : Obj := .mk (.type "code") .none (@PySem.Data.fields (@List.toArray PySem.Value [(u "__init__" 482), (u "NoBook.__init__" 483), (u "/claim/cut.py" 484), (@PySem.Value.int (i 51) 0), (@PySem.Value.int (i 2) 0), (@PySem.Value.int (i 0) 0), (@PySem.Value.int (i 0) 0), (@PySem.Value.int (i 3) 0), (r 230), (@PySem.Value.bool Bool.true), (@PySem.Value.int (i 181) 0), (r 231), .none, (r 232), (r 233), (r 234), (@PySem.Value.int (i 487) 0), (@PySem.Value.int (i 51) 0), (u "/claim/cut.py" 488)])) #[]
def o236_2 (p : Params) : Obj := .mk (.type "function") .none (.func (.mk (s "__init__") (s "NoBook.__init__") (defArgs (inClass (tp 14) 0)) (.stmts (defBody (inClass (tp 14) 0))) (defScope (inClass (tp 14) 0)) 3 [] .none .none .none (u "hourlanes.errors" 194) .none (r 235) .none 0)) #[]
def o237_2 (p : Params) : Obj := .mk (.type "tuple") .none (@PySem.Data.seq (@List.toArray PySem.Value [(u "row" 490)]) 0) #[]
def o238_2 (p : Params) : Obj := .mk (.type "dict") .none (dc [(e p "__module__" 477 (u "hourlanes.errors" 194)), (e p "__firstlineno__" 481 (@PySem.Value.int (i 49) 480)), (e p "__init__" 489 (r 236)), (e p "__static_attributes__" 491 (r 237)), (e p "__doc__" 492 .none)] 2) #[]
def o239_2 (p : Params) : Obj := .mk (.type "type") .none (@PySem.Data.cls (@PySem.ClassData.mk (s "NoBook") [(r 31)] [(r 239), (r 31), (.type "ValueError"), (.type "Exception"), (.type "BaseException"), (.type "object")] 238 (s "NoBook") Bool.true [] [] Bool.false .none Bool.false)) (@List.toArray (@Option PySem.Value) [(.some (r 223)), .none, (.some (u "NoBook" 470)), (.some (u "NoBook" 478)), (.some (.builtin "ValueError.__new__")), (.some (@PySem.Value.bool Bool.true))])
def o240_2 (p : Params) : Obj := .mk (.type "super") .none (@PySem.Data.fields (@List.toArray PySem.Value [(r 239), (r 239), (r 239)])) #[]
def o241_2 (p : Params) : Obj := .mk (.type "builtin_function_or_method") .none (@PySem.Data.fields (@List.toArray PySem.Value [(.builtin "object.__init_subclass__"), (r 239)])) #[]
def o242_2 (p : Params) : Obj := .mk (.type "tuple") .none (@PySem.Data.seq #[] 0) #[]
def o243_2 (p : Params) : Obj := .mk .none .none (@PySem.Data.fields #[]) #[]
def o244_2 (p : Params) : Obj := .mk .none .none (.func (.mk (s "carried") (s "carried") (defArgs (tp 16)) (.stmts (defBody (tp 16))) (defScope (tp 16)) 0 [] .none .none .none .none .none .none .none 0)) #[]
def o245_2 (p : Params) : Obj := .mk (.type "code") .none (@PySem.Data.fields (@List.toArray PySem.Value [(u "carried" 497), (u "carried" 498), (u "/claim/cut.py" 499), (@PySem.Value.int (i 54) 0), (@PySem.Value.int (i 2) 0), (@PySem.Value.int (i 0) 0), (@PySem.Value.int (i 0) 0), (@PySem.Value.int (i 3) 0), (r 242), (@PySem.Value.bool Bool.true), (@PySem.Value.int (i 181) 0), (r 243), .none, .none, .none, (r 244), (@PySem.Value.int (i 500) 0), (@PySem.Value.int (i 54) 0), (u "/claim/cut.py" 501)])) #[]
def o246_2 (p : Params) : Obj := .mk (.type "function") .none (.func (.mk (s "carried") (s "carried") (defArgs (tp 16)) (.stmts (defBody (tp 16))) (defScope (tp 16)) 3 [] .none .none .none (u "hourlanes.carrying" 495) .none (r 245) .none 0)) #[]
def o247_2 (p : Params) : Obj := .mk (.type "tuple") .none (@PySem.Data.seq #[] 0) #[]
def o248_2 (p : Params) : Obj := .mk .none .none (@PySem.Data.fields #[]) #[]
def o249_2 (p : Params) : Obj := .mk (.type "tuple") .none (@PySem.Data.seq (@List.toArray PySem.Value [(u "first" 508), (u "parts" 509), (u "rows" 510), (u "ticks" 511), (u "many" 512)]) 0) #[]
def o250_2 (p : Params) : Obj := .mk (.type "tuple") .none (@PySem.Data.seq #[] 0) #[]
def o251_2 (p : Params) : Obj := .mk .none .none (.func (.mk (s "joined") (s "joined") (defArgs (tp 18)) (.stmts (defBody (tp 18))) (defScope (tp 18)) 0 [] .none .none .none .none .none .none .none 0)) #[]
def o252_2 (p : Params) : Obj := .mk (.type "code") .none (@PySem.Data.fields (@List.toArray PySem.Value [(u "joined" 505), (u "joined" 506), (u "/claim/cut.py" 507), (@PySem.Value.int (i 63) 0), (@PySem.Value.int (i 2) 0), (@PySem.Value.int (i 0) 0), (@PySem.Value.int (i 0) 0), (@PySem.Value.int (i 3) 0), (r 247), (@PySem.Value.bool Bool.true), (@PySem.Value.int (i 181) 0), (r 248), .none, (r 249), (r 250), (r 251), (@PySem.Value.int (i 513) 0), (@PySem.Value.int (i 63) 0), (u "/claim/cut.py" 514)])) #[]
def o253_2 (p : Params) : Obj := .mk (.type "function") .none (.func (.mk (s "joined") (s "joined") (defArgs (tp 18)) (.stmts (defBody (tp 18))) (defScope (tp 18)) 3 [] .none .none .none (u "hourlanes.flows" 503) .none (r 252) .none 0)) #[]
def t2_0 (p : Params) : BT := (.node (o15_1 p) (.node (o31_2 p) (.node (o63_1 p) (.node (o127_1 p) .nil .nil) (.node (o191_2 p) .nil .nil)) (.node (o95_1 p) (.node (o159_2 p) .nil .nil) (.node (o223_2 p) .nil .nil))) (.node (o47_1 p) (.node (o79_1 p) (.node (o143_2 p) .nil .nil) (.node (o207_2 p) .nil .nil)) (.node (o111_1 p) (.node (o175_2 p) .nil .nil) (.node (o239_2 p) .nil .nil))))
def t2_1 (p : Params) : BT := (.node (o16_1 p) (.node (o32_1 p) (.node (o64_1 p) (.node (o128_2 p) .nil .nil) (.node (o192_2 p) .nil .nil)) (.node (o96_1 p) (.node (o160_2 p) .nil .nil) (.node (o224_2 p) .nil .nil))) (.node (o48_1 p) (.node (o80_1 p) (.node (o144_2 p) .nil .nil) (.node (o208_2 p) .nil .nil)) (.node (o112_1 p) (.node (o176_2 p) .nil .nil) (.node (o240_2 p) .nil .nil))))
def t2_2 (p : Params) : BT := (.node (o17_1 p) (.node (o33_1 p) (.node (o65_1 p) (.node (o129_2 p) .nil .nil) (.node (o193_2 p) .nil .nil)) (.node (o97_1 p) (.node (o161_2 p) .nil .nil) (.node (o225_2 p) .nil .nil))) (.node (o49_1 p) (.node (o81_1 p) (.node (o145_2 p) .nil .nil) (.node (o209_2 p) .nil .nil)) (.node (o113_1 p) (.node (o177_2 p) .nil .nil) (.node (o241_2 p) .nil .nil))))
def t2_3 (p : Params) : BT := (.node (o18_1 p) (.node (o34_1 p) (.node (o66_1 p) (.node (o130_2 p) .nil .nil) (.node (o194_2 p) .nil .nil)) (.node (o98_1 p) (.node (o162_2 p) .nil .nil) (.node (o226_2 p) .nil .nil))) (.node (o50_1 p) (.node (o82_1 p) (.node (o146_2 p) .nil .nil) (.node (o210_2 p) .nil .nil)) (.node (o114_1 p) (.node (o178_2 p) .nil .nil) (.node (o242_2 p) .nil .nil))))
def t2_4 (p : Params) : BT := (.node (o19_1 p) (.node (o35_1 p) (.node (o67_1 p) (.node (o131_2 p) .nil .nil) (.node (o195_2 p) .nil .nil)) (.node (o99_1 p) (.node (o163_2 p) .nil .nil) (.node (o227_2 p) .nil .nil))) (.node (o51_1 p) (.node (o83_1 p) (.node (o147_2 p) .nil .nil) (.node (o211_2 p) .nil .nil)) (.node (o115_1 p) (.node (o179_2 p) .nil .nil) (.node (o243_2 p) .nil .nil))))
def t2_5 (p : Params) : BT := (.node (o20_1 p) (.node (o36_1 p) (.node (o68_1 p) (.node (o132_2 p) .nil .nil) (.node (o196_2 p) .nil .nil)) (.node (o100_1 p) (.node (o164_2 p) .nil .nil) (.node (o228_2 p) .nil .nil))) (.node (o52_1 p) (.node (o84_1 p) (.node (o148_2 p) .nil .nil) (.node (o212_2 p) .nil .nil)) (.node (o116_1 p) (.node (o180_2 p) .nil .nil) (.node (o244_2 p) .nil .nil))))
def t2_6 (p : Params) : BT := (.node (o21_1 p) (.node (o37_1 p) (.node (o69_1 p) (.node (o133_2 p) .nil .nil) (.node (o197_2 p) .nil .nil)) (.node (o101_1 p) (.node (o165_2 p) .nil .nil) (.node (o229_2 p) .nil .nil))) (.node (o53_1 p) (.node (o85_1 p) (.node (o149_2 p) .nil .nil) (.node (o213_2 p) .nil .nil)) (.node (o117_1 p) (.node (o181_2 p) .nil .nil) (.node (o245_2 p) .nil .nil))))
def t2_7 (p : Params) : BT := (.node (o22_1 p) (.node (o38_1 p) (.node (o70_1 p) (.node (o134_2 p) .nil .nil) (.node (o198_2 p) .nil .nil)) (.node (o102_1 p) (.node (o166_2 p) .nil .nil) (.node (o230_2 p) .nil .nil))) (.node (o54_1 p) (.node (o86_1 p) (.node (o150_2 p) .nil .nil) (.node (o214_2 p) .nil .nil)) (.node (o118_1 p) (.node (o182_2 p) .nil .nil) (.node (o246_2 p) .nil .nil))))
def t2_8 (p : Params) : BT := (.node (o23_1 p) (.node (o39_1 p) (.node (o71_1 p) (.node (o135_2 p) .nil .nil) (.node (o199_2 p) .nil .nil)) (.node (o103_1 p) (.node (o167_2 p) .nil .nil) (.node (o231_2 p) .nil .nil))) (.node (o55_1 p) (.node (o87_1 p) (.node (o151_2 p) .nil .nil) (.node (o215_2 p) .nil .nil)) (.node (o119_1 p) (.node (o183_2 p) .nil .nil) (.node (o247_2 p) .nil .nil))))
def t2_9 (p : Params) : BT := (.node (o24_1 p) (.node (o40_1 p) (.node (o72_1 p) (.node (o136_2 p) .nil .nil) (.node (o200_2 p) .nil .nil)) (.node (o104_1 p) (.node (o168_2 p) .nil .nil) (.node (o232_2 p) .nil .nil))) (.node (o56_1 p) (.node (o88_1 p) (.node (o152_2 p) .nil .nil) (.node (o216_2 p) .nil .nil)) (.node (o120_1 p) (.node (o184_2 p) .nil .nil) (.node (o248_2 p) .nil .nil))))
def t2_10 (p : Params) : BT := (.node (o25_1 p) (.node (o41_1 p) (.node (o73_1 p) (.node (o137_2 p) .nil .nil) (.node (o201_2 p) .nil .nil)) (.node (o105_1 p) (.node (o169_2 p) .nil .nil) (.node (o233_2 p) .nil .nil))) (.node (o57_1 p) (.node (o89_1 p) (.node (o153_2 p) .nil .nil) (.node (o217_2 p) .nil .nil)) (.node (o121_1 p) (.node (o185_2 p) .nil .nil) (.node (o249_2 p) .nil .nil))))
def t2_11 (p : Params) : BT := (.node (o26_1 p) (.node (o42_1 p) (.node (o74_1 p) (.node (o138_2 p) .nil .nil) (.node (o202_2 p) .nil .nil)) (.node (o106_1 p) (.node (o170_2 p) .nil .nil) (.node (o234_2 p) .nil .nil))) (.node (o58_1 p) (.node (o90_1 p) (.node (o154_2 p) .nil .nil) (.node (o218_2 p) .nil .nil)) (.node (o122_1 p) (.node (o186_2 p) .nil .nil) (.node (o250_2 p) .nil .nil))))
def t2_12 (p : Params) : BT := (.node (o27_1 p) (.node (o43_1 p) (.node (o75_1 p) (.node (o139_2 p) .nil .nil) (.node (o203_2 p) .nil .nil)) (.node (o107_1 p) (.node (o171_2 p) .nil .nil) (.node (o235_2 p) .nil .nil))) (.node (o59_1 p) (.node (o91_1 p) (.node (o155_2 p) .nil .nil) (.node (o219_2 p) .nil .nil)) (.node (o123_1 p) (.node (o187_2 p) .nil .nil) (.node (o251_2 p) .nil .nil))))
def t2_13 (p : Params) : BT := (.node (o28_1 p) (.node (o44_1 p) (.node (o76_1 p) (.node (o140_2 p) .nil .nil) (.node (o204_2 p) .nil .nil)) (.node (o108_1 p) (.node (o172_2 p) .nil .nil) (.node (o236_2 p) .nil .nil))) (.node (o60_1 p) (.node (o92_1 p) (.node (o156_2 p) .nil .nil) (.node (o220_2 p) .nil .nil)) (.node (o124_1 p) (.node (o188_2 p) .nil .nil) (.node (o252_2 p) .nil .nil))))
def t2_14 (p : Params) : BT := (.node (o29_1 p) (.node (o45_1 p) (.node (o77_1 p) (.node (o141_2 p) .nil .nil) (.node (o205_2 p) .nil .nil)) (.node (o109_1 p) (.node (o173_2 p) .nil .nil) (.node (o237_2 p) .nil .nil))) (.node (o61_1 p) (.node (o93_1 p) (.node (o157_2 p) .nil .nil) (.node (o221_2 p) .nil .nil)) (.node (o125_1 p) (.node (o189_2 p) .nil .nil) (.node (o253_2 p) .nil .nil))))
def t2_15 (p : Params) : BT := (.node (o30_1 p) (.node (o46_1 p) (.node (o78_1 p) (.node (o142_2 p) .nil .nil) (.node (o206_2 p) .nil .nil)) (.node (o110_1 p) (.node (o174_2 p) .nil .nil) (.node (o238_2 p) .nil .nil))) (.node (o62_1 p) (.node (o94_1 p) (.node (o158_2 p) .nil .nil) (.node (o222_2 p) .nil .nil)) (.node (o126_1 p) (.node (o190_2 p) .nil .nil) .nil)))
def tree2 (p : Params) : BT := (.node (boot_o_0 p) (.node (boot_o_1 p) (.node (o3_2 p) (.node (boot_o_7 p) (t2_0 p) (t2_8 p)) (.node (o11_1 p) (t2_4 p) (t2_12 p))) (.node (boot_o_5 p) (.node (boot_o_9 p) (t2_2 p) (t2_10 p)) (.node (o13_1 p) (t2_6 p) (t2_14 p)))) (.node (boot_o_2 p) (.node (boot_o_4 p) (.node (boot_o_8 p) (t2_1 p) (t2_9 p)) (.node (o12_2 p) (t2_5 p) (t2_13 p))) (.node (boot_o_6 p) (.node (boot_o_10 p) (t2_3 p) (t2_11 p)) (.node (o14_1 p) (t2_7 p) (t2_15 p)))))
def st2 (w : World) (os : OsState) : SharedT := ⟨tree2 w.params, 254, (@PySem.Life.mk [] [] [] 0 [] [] Bool.false #[] [] 0 Bool.false Bool.false Bool.false (i 0) [(i 2000), (i 10), (i 10)] Bool.false 0 Bool.true [] [] 0 Bool.false), #[], (@PySem.Drawn.mk 0 0 0 0), 516, os⟩
def th2 : Thread := thrOf (pg.main.body.drop 19) envT codT (@PySem.Pos.mk 63 0 72 15) frT
theorem run2 (w : World) (os : OsState) : goS (stepQ (denQ tabQ) pg w) 11 (bootAnn w) 1555 (st1 w os) th1 = some (st2 w os, th2) := by kernel_rfl
def o3_3 (p : Params) : Obj := .mk (.type "dict") .none (dc [(e p "__name__" 165 (u "hourlanes.floor" 851)), (e p "__doc__" 166 .none), (e p "__package__" 167 .none), (e p "__loader__" 168 (.builtin "__main__.__loader__#opaque")), (e p "__spec__" 169 .none), (e p "__annotations__" 170 (r 6)), (e p "__builtins__" 171 (r 4)), (e p "__file__" 173 (u "/claim/cut.py" 172)), (e p "__cached__" 174 .none), (e p "_wall" 193 (r 21)), (e p "LaneError" 213 (r 31)), (e p "NoJar" 229 (r 44)), (e p "NoTick" 245 (r 56)), (e p "NoLane" 261 (r 68)), (e p "NoName" 286 (r 87)), (e p "Taken" 311 (r 106)), (e p "Unknown" 336 (r 125)), (e p "NoWay" 361 (r 144)), (e p "NoLot" 386 (r 163)), (e p "TooMany" 413 (r 182)), (e p "TooMuch" 444 (r 201)), (e p "NoText" 469 (r 220)), (e p "NoBook" 494 (r 239)), (e p "carried" 502 (r 246)), (e p "joined" 515 (r 253)), (e p "Flow" 611 (r 321)), (e p "hours_of" 624 (r 332)), (e p "Lot" 693 (r 375)), (e p "LETTERS" 697 (u "abcdefghijklmnopqrstuvwxyz" 696)), (e p "GREATEST_names" 699 (@PySem.Value.int (i 1000000000) 698)), (e p "LEGS" 701 (@PySem.Value.int (i 4) 700)), (e p "is_name" 709 (r 386)), (e p "is_size" 716 (r 393)), (e p "wrong_at" 728 (r 400)), (e p "window" 740 (r 407)), (e p "Scene" 850 (r 482)), (e p "GREATEST_floor" 854 (@PySem.Value.int (i 1000000000) 853))] 37) #[]
def o12_3 (p : Params) : Obj := .mk .none .none (@PySem.Data.fields (@List.toArray PySem.Value [(@PySem.Value.int (i 1) 0), (@PySem.Value.int (i 0) 0), (r 20), (@PySem.Value.int (i 5) 0), (@PySem.Value.int (i 0) 0), (r 27), (@PySem.Value.int (i 7) 0), (@PySem.Value.int (i 0) 0), (r 40), (@PySem.Value.int (i 9) 0), (@PySem.Value.int (i 0) 0), (r 52), (@PySem.Value.int (i 11) 0), (@PySem.Value.int (i 0) 0), (r 64), (@PySem.Value.int (i 13) 0), (@PySem.Value.int (i 0) 0), (r 76), (@PySem.Value.int (i 17) 0), (@PySem.Value.int (i 0) 0), (r 95), (@PySem.Value.int (i 21) 0), (@PySem.Value.int (i 0) 0), (r 114), (@PySem.Value.int (i 25) 0), (@PySem.Value.int (i 0) 0), (r 133), (@PySem.Value.int (i 29) 0), (@PySem.Value.int (i 0) 0), (r 152), (@PySem.Value.int (i 33) 0), (@PySem.Value.int (i 0) 0), (r 171), (@PySem.Value.int (i 38) 0), (@PySem.Value.int (i 0) 0), (r 190), (@PySem.Value.int (i 45) 0), (@PySem.Value.int (i 0) 0), (r 209), (@PySem.Value.int (i 49) 0), (@PySem.Value.int (i 0) 0), (r 228), (@PySem.Value.int (i 54) 0), (@PySem.Value.int (i 0) 0), (r 245), (@PySem.Value.int (i 63) 0), (@PySem.Value.int (i 0) 0), (r 252), (@PySem.Value.int (i 73) 0), (@PySem.Value.int (i 0) 0), (r 259), (@PySem.Value.int (i 124) 0), (@PySem.Value.int (i 0) 0), (r 331), (@PySem.Value.int (i 129) 0), (@PySem.Value.int (i 0) 0), (r 338), (@PySem.Value.int (i 167) 0), (@PySem.Value.int (i 0) 0), (r 385), (@PySem.Value.int (i 174) 0), (@PySem.Value.int (i 0) 0), (r 392), (@PySem.Value.int (i 176) 0), (@PySem.Value.int (i 0) 0), (r 399), (@PySem.Value.int (i 186) 0), (@PySem.Value.int (i 0) 0), (r 406), (@PySem.Value.int (i 189) 0), (@PySem.Value.int (i 0) 0), (r 413)])) #[]
def o254_3 (p : Params) : Obj := .mk (.type "tuple") .none (@PySem.Data.seq #[] 0) #[]
def o255_3 (p : Params) : Obj := .mk (.type "builtin_function_or_method") .none (@PySem.Data.fields (@List.toArray PySem.Value [(.builtin "type.__prepare__"), (.type "type")])) #[]
def o256_3 (p : Params) : Obj := .mk (.type "dict") .none (dc [(e p "__module__" 523 (u "hourlanes.flows" 503)), (e p "__qualname__" 525 (u "Flow" 524)), (e p "__firstlineno__" 527 (@PySem.Value.int (i 73) 526)), (e p "__init__" 536 (r 268)), (e p "may" 543 (r 275)), (e p "come" 552 (r 283)), (e p "ahead" 560 (r 290)), (e p "most" 570 (r 297)), (e p "mouthfuls" 579 (r 304)), (e p "bursts" 593 (r 311)), (e p "fits" 601 (r 318)), (e p "__static_attributes__" 604 (r 319))] 12) #[]
def o257_3 (p : Params) : Obj := .mk (.type "tuple") .none (@PySem.Data.seq #[] 0) #[]
def o258_3 (p : Params) : Obj := .mk .none .none (@PySem.Data.fields (@List.toArray PySem.Value [(@PySem.Value.int (i 75) 0), (@PySem.Value.int (i 4) 0), (r 267), (@PySem.Value.int (i 83) 0), (@PySem.Value.int (i 4) 0), (r 274), (@PySem.Value.int (i 86) 0), (@PySem.Value.int (i 4) 0), (r 282), (@PySem.Value.int (i 92) 0), (@PySem.Value.int (i 4) 0), (r 289), (@PySem.Value.int (i 97) 0), (@PySem.Value.int (i 4) 0), (r 296), (@PySem.Value.int (i 103) 0), (@PySem.Value.int (i 4) 0), (r 303), (@PySem.Value.int (i 110) 0), (@PySem.Value.int (i 4) 0), (r 310), (@PySem.Value.int (i 121) 0), (@PySem.Value.int (i 4) 0), (r 317)])) #[]
def o259_3 (p : Params) : Obj := .mk (.type "code") .none (@PySem.Data.fields (@List.toArray PySem.Value [(u "Flow" 518), (u "Flow" 519), (u "/claim/cut.py" 520), (@PySem.Value.int (i 73) 0), (@PySem.Value.int (i 0) 0), (@PySem.Value.int (i 0) 0), (@PySem.Value.int (i 0) 0), (@PySem.Value.int (i 0) 0), (r 257), (@PySem.Value.bool Bool.false), (@PySem.Value.int (i 181) 0), (r 258), .none, .none, .none, .none, (@PySem.Value.int (i 521) 0), (@PySem.Value.int (i 73) 0), (u "/claim/cut.py" 522)])) #[]
def o260_3 (p : Params) : Obj := .mk (.type "frame") .none PySem.Data.plain (@List.toArray (@Option PySem.Value) [(.some (r 259)), (.some (r 3)), (.some (r 256)), .none, (.some (u "hourlanes.flows" 503)), .none, (.some (r 0))])
def o261_3 (p : Params) : Obj := .mk (.type "tuple") .none (@PySem.Data.seq (@List.toArray PySem.Value [.none]) 0) #[]
def o262_3 (p : Params) : Obj := .mk (.type "tuple") .none (@PySem.Data.seq #[] 0) #[]
def o263_3 (p : Params) : Obj := .mk .none .none (@PySem.Data.fields #[]) #[]
def o264_3 (p : Params) : Obj := .mk (.type "tuple") .none (@PySem.Data.seq (@List.toArray PySem.Value [(u "self" 531), (u "jar" 532), (u "marks" 533)]) 0) #[]
def o265_3 (p : Params) : Obj := .mk (.type "tuple") .none (@PySem.Data.seq #[] 0) #[]
def o266_3 (p : Params) : Obj := .mk .none .none (.func (.mk (s "__init__") (s "Flow.__init__") (defArgs (inClass (tp 19) 0)) (.stmts (defBody (inClass (tp 19) 0))) (defScope (inClass (tp 19) 0)) 0 [] .none .none .none .none .none .none .none 0)) #[]
def o267_3 (p : Params) : Obj := .mk (.type "code") .none (@PySem.Data.fields (@List.toArray PySem.Value [(u "__init__" 528), (u "Flow.__init__" 529), (u "/claim/cut.py" 530), (@PySem.Value.int (i 75) 0), (@PySem.Value.int (i 3) 0), (@PySem.Value.int (i 0) 0), (@PySem.Value.int (i 0) 0), (@PySem.Value.int (i 3) 0), (r 262), (@PySem.Value.bool Bool.true), (@PySem.Value.int (i 181) 0), (r 263), .none, (r 264), (r 265), (r 266), (@PySem.Value.int (i 534) 0), (@PySem.Value.int (i 75) 0), (u "/claim/cut.py" 535)])) #[]
def o268_3 (p : Params) : Obj := .mk (.type "function") .none (.func (.mk (s "__init__") (s "Flow.__init__") (defArgs (inClass (tp 19) 0)) (.stmts (defBody (inClass (tp 19) 0))) (defScope (inClass (tp 19) 0)) 3 [] (r 261) .none .none (u "hourlanes.flows" 503) .none (r 267) .none 0)) #[]
def o269_3 (p : Params) : Obj := .mk (.type "tuple") .none (@PySem.Data.seq #[] 0) #[]
def o270_3 (p : Params) : Obj := .mk .none .none (@PySem.Data.fields #[]) #[]
def o271_3 (p : Params) : Obj := .mk (.type "tuple") .none (@PySem.Data.seq (@List.toArray PySem.Value [(u "self" 540)]) 0) #[]
def o272_3 (p : Params) : Obj := .mk (.type "tuple") .none (@PySem.Data.seq #[] 0) #[]
def o273_3 (p : Params) : Obj := .mk .none .none (.func (.mk (s "may") (s "Flow.may") (defArgs (inClass (tp 19) 1)) (.stmts (defBody (inClass (tp 19) 1))) (defScope (inClass (tp 19) 1)) 0 [] .none .none .none .none .none .none .none 0)) #[]
def o274_3 (p : Params) : Obj := .mk (.type "code") .none (@PySem.Data.fields (@List.toArray PySem.Value [(u "may" 537), (u "Flow.may" 538), (u "/claim/cut.py" 539), (@PySem.Value.int (i 83) 0), (@PySem.Value.int (i 1) 0), (@PySem.Value.int (i 0) 0), (@PySem.Value.int (i 0) 0), (@PySem.Value.int (i 3) 0), (r 269), (@PySem.Value.bool Bool.true), (@PySem.Value.int (i 181) 0), (r 270), .none, (r 271), (r 272), (r 273), (@PySem.Value.int (i 541) 0), (@PySem.Value.int (i 83) 0), (u "/claim/cut.py" 542)])) #[]
def o275_3 (p : Params) : Obj := .mk (.type "function") .none (.func (.mk (s "may") (s "Flow.may") (defArgs (inClass (tp 19) 1)) (.stmts (defBody (inClass (tp 19) 1))) (defScope (inClass (tp 19) 1)) 3 [] .none .none .none (u "hourlanes.flows" 503) .none (r 274) .none 0)) #[]
def o276_3 (p : Params) : Obj := .mk (.type "tuple") .none (@PySem.Data.seq (@List.toArray PySem.Value [(@PySem.Value.int (i 0) 544)]) 0) #[]
def o277_3 (p : Params) : Obj := .mk (.type "tuple") .none (@PySem.Data.seq #[] 0) #[]
def o278_3 (p : Params) : Obj := .mk .none .none (@PySem.Data.fields #[]) #[]
def o279_3 (p : Params) : Obj := .mk (.type "tuple") .none (@PySem.Data.seq (@List.toArray PySem.Value [(u "self" 548), (u "many" 549)]) 0) #[]
def o280_3 (p : Params) : Obj := .mk (.type "tuple") .none (@PySem.Data.seq #[] 0) #[]
def o281_3 (p : Params) : Obj := .mk .none .none (.func (.mk (s "come") (s "Flow.come") (defArgs (inClass (tp 19) 2)) (.stmts (defBody (inClass (tp 19) 2))) (defScope (inClass (tp 19) 2)) 0 [] .none .none .none .none .none .none .none 0)) #[]
def o282_3 (p : Params) : Obj := .mk (.type "code") .none (@PySem.Data.fields (@List.toArray PySem.Value [(u "come" 545), (u "Flow.come" 546), (u "/claim/cut.py" 547), (@PySem.Value.int (i 86) 0), (@PySem.Value.int (i 2) 0), (@PySem.Value.int (i 0) 0), (@PySem.Value.int (i 0) 0), (@PySem.Value.int (i 3) 0), (r 277), (@PySem.Value.bool Bool.true), (@PySem.Value.int (i 181) 0), (r 278), .none, (r 279), (r 280), (r 281), (@PySem.Value.int (i 550) 0), (@PySem.Value.int (i 86) 0), (u "/claim/cut.py" 551)])) #[]
def o283_3 (p : Params) : Obj := .mk (.type "function") .none (.func (.mk (s "come") (s "Flow.come") (defArgs (inClass (tp 19) 2)) (.stmts (defBody (inClass (tp 19) 2))) (defScope (inClass (tp 19) 2)) 3 [] (r 276) .none .none (u "hourlanes.flows" 503) .none (r 282) .none 0)) #[]
def o284_3 (p : Params) : Obj := .mk (.type "tuple") .none (@PySem.Data.seq #[] 0) #[]
def o285_3 (p : Params) : Obj := .mk .none .none (@PySem.Data.fields #[]) #[]
def o286_3 (p : Params) : Obj := .mk (.type "tuple") .none (@PySem.Data.seq (@List.toArray PySem.Value [(u "self" 556), (u "ticks" 557)]) 0) #[]
def o287_3 (p : Params) : Obj := .mk (.type "tuple") .none (@PySem.Data.seq #[] 0) #[]
def o288_3 (p : Params) : Obj := .mk .none .none (.func (.mk (s "ahead") (s "Flow.ahead") (defArgs (inClass (tp 19) 3)) (.stmts (defBody (inClass (tp 19) 3))) (defScope (inClass (tp 19) 3)) 0 [] .none .none .none .none .none .none .none 0)) #[]
def o289_3 (p : Params) : Obj := .mk (.type "code") .none (@PySem.Data.fields (@List.toArray PySem.Value [(u "ahead" 553), (u "Flow.ahead" 554), (u "/claim/cut.py" 555), (@PySem.Value.int (i 92) 0), (@PySem.Value.int (i 2) 0), (@PySem.Value.int (i 0) 0), (@PySem.Value.int (i 0) 0), (@PySem.Value.int (i 3) 0), (r 284), (@PySem.Value.bool Bool.true), (@PySem.Value.int (i 181) 0), (r 285), .none, (r 286), (r 287), (r 288), (@PySem.Value.int (i 558) 0), (@PySem.Value.int (i 92) 0), (u "/claim/cut.py" 559)])) #[]
def o290_3 (p : Params) : Obj := .mk (.type "function") .none (.func (.mk (s "ahead") (s "Flow.ahead") (defArgs (inClass (tp 19) 3)) (.stmts (defBody (inClass (tp 19) 3))) (defScope (inClass (tp 19) 3)) 3 [] .none .none .none (u "hourlanes.flows" 503) .none (r 289) .none 0)) #[]
def o291_3 (p : Params) : Obj := .mk (.type "tuple") .none (@PySem.Data.seq #[] 0) #[]
def o292_3 (p : Params) : Obj := .mk .none .none (@PySem.Data.fields #[]) #[]
def o293_3 (p : Params) : Obj := .mk (.type "tuple") .none (@PySem.Data.seq (@List.toArray PySem.Value [(u "self" 564), (u "after" 565), (u "ticks" 566), (u "marks" 567)]) 0) #[]
def o294_3 (p : Params) : Obj := .mk (.type "tuple") .none (@PySem.Data.seq #[] 0) #[]
def o295_3 (p : Params) : Obj := .mk .none .none (.func (.mk (s "most") (s "Flow.most") (defArgs (inClass (tp 19) 4)) (.stmts (defBody (inClass (tp 19) 4))) (defScope (inClass (tp 19) 4)) 0 [] .none .none .none .none .none .none .none 0)) #[]
def o296_3 (p : Params) : Obj := .mk (.type "code") .none (@PySem.Data.fields (@List.toArray PySem.Value [(u "most" 561), (u "Flow.most" 562), (u "/claim/cut.py" 563), (@PySem.Value.int (i 97) 0), (@PySem.Value.int (i 3) 0), (@PySem.Value.int (i 0) 0), (@PySem.Value.int (i 0) 0), (@PySem.Value.int (i 3) 0), (r 291), (@PySem.Value.bool Bool.true), (@PySem.Value.int (i 181) 0), (r 292), .none, (r 293), (r 294), (r 295), (@PySem.Value.int (i 568) 0), (@PySem.Value.int (i 97) 0), (u "/claim/cut.py" 569)])) #[]
def o297_3 (p : Params) : Obj := .mk (.type "function") .none (.func (.mk (s "most") (s "Flow.most") (defArgs (inClass (tp 19) 4)) (.stmts (defBody (inClass (tp 19) 4))) (defScope (inClass (tp 19) 4)) 3 [] .none .none .none (u "hourlanes.flows" 503) .none (r 296) .none 0)) #[]
def o298_3 (p : Params) : Obj := .mk (.type "tuple") .none (@PySem.Data.seq #[] 0) #[]
def o299_3 (p : Params) : Obj := .mk .none .none (@PySem.Data.fields #[]) #[]
def o300_3 (p : Params) : Obj := .mk (.type "tuple") .none (@PySem.Data.seq (@List.toArray PySem.Value [(u "self" 574), (u "marks" 575), (u "ticks" 576)]) 0) #[]
def o301_3 (p : Params) : Obj := .mk (.type "tuple") .none (@PySem.Data.seq #[] 0) #[]
def o302_3 (p : Params) : Obj := .mk .none .none (.func (.mk (s "mouthfuls") (s "Flow.mouthfuls") (defArgs (inClass (tp 19) 5)) (.stmts (defBody (inClass (tp 19) 5))) (defScope (inClass (tp 19) 5)) 0 [] .none .none .none .none .none .none .none 0)) #[]
def o303_3 (p : Params) : Obj := .mk (.type "code") .none (@PySem.Data.fields (@List.toArray PySem.Value [(u "mouthfuls" 571), (u "Flow.mouthfuls" 572), (u "/claim/cut.py" 573), (@PySem.Value.int (i 103) 0), (@PySem.Value.int (i 3) 0), (@PySem.Value.int (i 0) 0), (@PySem.Value.int (i 0) 0), (@PySem.Value.int (i 3) 0), (r 298), (@PySem.Value.bool Bool.true), (@PySem.Value.int (i 181) 0), (r 299), .none, (r 300), (r 301), (r 302), (@PySem.Value.int (i 577) 0), (@PySem.Value.int (i 103) 0), (u "/claim/cut.py" 578)])) #[]
def o304_3 (p : Params) : Obj := .mk (.type "function") .none (.func (.mk (s "mouthfuls") (s "Flow.mouthfuls") (defArgs (inClass (tp 19) 5)) (.stmts (defBody (inClass (tp 19) 5))) (defScope (inClass (tp 19) 5)) 3 [] .none .none .none (u "hourlanes.flows" 503) .none (r 303) .none 0)) #[]
def o305_3 (p : Params) : Obj := .mk (.type "tuple") .none (@PySem.Data.seq #[] 0) #[]
def o306_3 (p : Params) : Obj := .mk .none .none (@PySem.Data.fields #[]) #[]
def o307_3 (p : Params) : Obj := .mk (.type "tuple") .none (@PySem.Data.seq (@List.toArray PySem.Value [(u "self" 583), (u "after" 584), (u "ticks" 585), (u "marks" 586), (u "rate" 587), (u "mouth" 588), (u "full" 589), (u "left" 590)]) 0) #[]
def o308_3 (p : Params) : Obj := .mk (.type "tuple") .none (@PySem.Data.seq #[] 0) #[]
def o309_3 (p : Params) : Obj := .mk .none .none (.func (.mk (s "bursts") (s "Flow.bursts") (defArgs (inClass (tp 19) 6)) (.stmts (defBody (inClass (tp 19) 6))) (defScope (inClass (tp 19) 6)) 0 [] .none .none .none .none .none .none .none 0)) #[]
def o310_3 (p : Params) : Obj := .mk (.type "code") .none (@PySem.Data.fields (@List.toArray PySem.Value [(u "bursts" 580), (u "Flow.bursts" 581), (u "/claim/cut.py" 582), (@PySem.Value.int (i 110) 0), (@PySem.Value.int (i 3) 0), (@PySem.Value.int (i 0) 0), (@PySem.Value.int (i 0) 0), (@PySem.Value.int (i 3) 0), (r 305), (@PySem.Value.bool Bool.true), (@PySem.Value.int (i 181) 0), (r 306), .none, (r 307), (r 308), (r 309), (@PySem.Value.int (i 591) 0), (@PySem.Value.int (i 110) 0), (u "/claim/cut.py" 592)])) #[]
def o311_3 (p : Params) : Obj := .mk (.type "function") .none (.func (.mk (s "bursts") (s "Flow.bursts") (defArgs (inClass (tp 19) 6)) (.stmts (defBody (inClass (tp 19) 6))) (defScope (inClass (tp 19) 6)) 3 [] .none .none .none (u "hourlanes.flows" 503) .none (r 310) .none 0)) #[]
def o312_3 (p : Params) : Obj := .mk (.type "tuple") .none (@PySem.Data.seq #[] 0) #[]
def o313_3 (p : Params) : Obj := .mk .none .none (@PySem.Data.fields #[]) #[]
def o314_3 (p : Params) : Obj := .mk (.type "tuple") .none (@PySem.Data.seq (@List.toArray PySem.Value [(u "self" 597), (u "rows" 598)]) 0) #[]
def o315_3 (p : Params) : Obj := .mk (.type "tuple") .none (@PySem.Data.seq #[] 0) #[]
def o316_3 (p : Params) : Obj := .mk .none .none (.func (.mk (s "fits") (s "Flow.fits") (defArgs (inClass (tp 19) 7)) (.stmts (defBody (inClass (tp 19) 7))) (defScope (inClass (tp 19) 7)) 0 [] .none .none .none .none .none .none .none 0)) #[]
def o317_3 (p : Params) : Obj := .mk (.type "code") .none (@PySem.Data.fields (@List.toArray PySem.Value [(u "fits" 594), (u "Flow.fits" 595), (u "/claim/cut.py" 596), (@PySem.Value.int (i 121) 0), (@PySem.Value.int (i 2) 0), (@PySem.Value.int (i 0) 0), (@PySem.Value.int (i 0) 0), (@PySem.Value.int (i 3) 0), (r 312), (@PySem.Value.bool Bool.true), (@PySem.Value.int (i 181) 0), (r 313), .none, (r 314), (r 315), (r 316), (@PySem.Value.int (i 599) 0), (@PySem.Value.int (i 121) 0), (u "/claim/cut.py" 600)])) #[]
def o318_3 (p : Params) : Obj := .mk (.type "function") .none (.func (.mk (s "fits") (s "Flow.fits") (defArgs (inClass (tp 19) 7)) (.stmts (defBody (inClass (tp 19) 7))) (defScope (inClass (tp 19) 7)) 3 [] .none .none .none (u "hourlanes.flows" 503) .none (r 317) .none 0)) #[]
def o319_3 (p : Params) : Obj := .mk (.type "tuple") .none (@PySem.Data.seq (@List.toArray PySem.Value [(u "jar" 602), (u "marks" 603)]) 0) #[]
def o320_3 (p : Params) : Obj := .mk (.type "dict") .none (dc [(e p "__module__" 523 (u "hourlanes.flows" 503)), (e p "__firstlineno__" 527 (@PySem.Value.int (i 73) 526)), (e p "__init__" 536 (r 268)), (e p "may" 543 (r 275)), (e p "come" 552 (r 283)), (e p "ahead" 560 (r 290)), (e p "most" 570 (r 297)), (e p "mouthfuls" 579 (r 304)), (e p "bursts" 593 (r 311)), (e p "fits" 601 (r 318)), (e p "__static_attributes__" 604 (r 319)), (e p "__dict__" 606 (r 322)), (e p "__weakref__" 608 (r 323)), (e p "__doc__" 609 .none)] 4) #[]
def o321_3 (p : Params) : Obj := .mk (.type "type") .none (@PySem.Data.cls (@PySem.ClassData.mk (s "Flow") [(.type "object")] [(r 321), (.type "object")] 320 (s "Flow") Bool.true [] [] Bool.false .none Bool.false)) (@List.toArray (@Option PySem.Value) [.none, .none, (.some (u "Flow" 516)), (.some (u "Flow" 524)), (.some (.builtin "object.__new__")), (.some (@PySem.Value.bool Bool.true))])
def o322_3 (p : Params) : Obj := .mk (.type "getset_descriptor") .none (@PySem.Data.fields (@List.toArray PySem.Value [(u "__dict__" 605), (r 321), (.builtin "function.__dict__"), (.builtin "function.__dict__#set")])) #[]
def o323_3 (p : Params) : Obj := .mk (.type "getset_descriptor") .none (@PySem.Data.fields (@List.toArray PySem.Value [(u "__weakref__" 607), (r 321), (.builtin "ExceptionGroup.__weakref__"), .none])) #[]
def o324_3 (p : Params) : Obj := .mk (.type "super") .none (@PySem.Data.fields (@List.toArray PySem.Value [(r 321), (r 321), (r 321)])) #[]
def o325_3 (p : Params) : Obj := .mk (.type "builtin_function_or_method") .none (@PySem.Data.fields (@List.toArray PySem.Value [(.builtin "object.__init_subclass__"), (r 321)])) #[]
def o326_3 (p : Params) : Obj := .mk (.type "tuple") .none (@PySem.Data.seq #[] 0) #[]
def o327_3 (p : Params) : Obj := .mk .none .none (@PySem.Data.fields #[]) #[]
def o328_3 (p : Params) : Obj := .mk (.type "tuple") .none (@PySem.Data.seq (@List.toArray PySem.Value [(u "came" 617), (u "way" 618), (u "found" 619), (u "lane" 620), (u "wait" 621)]) 0) #[]
def o329_3 (p : Params) : Obj := .mk (.type "tuple") .none (@PySem.Data.seq #[] 0) #[]
def o330_3 (p : Params) : Obj := .mk .none .none (.func (.mk (s "hours_of") (s "hours_of") (defArgs (tp 21)) (.stmts (defBody (tp 21))) (defScope (tp 21)) 0 [] .none .none .none .none .none .none .none 0)) #[]
def o331_3 (p : Params) : Obj := .mk (.type "code") .none (@PySem.Data.fields (@List.toArray PySem.Value [(u "hours_of" 614), (u "hours_of" 615), (u "/claim/cut.py" 616), (@PySem.Value.int (i 124) 0), (@PySem.Value.int (i 2) 0), (@PySem.Value.int (i 0) 0), (@PySem.Value.int (i 0) 0), (@PySem.Value.int (i 3) 0), (r 326), (@PySem.Value.bool Bool.true), (@PySem.Value.int (i 181) 0), (r 327), .none, (r 328), (r 329), (r 330), (@PySem.Value.int (i 622) 0), (@PySem.Value.int (i 124) 0), (u "/claim/cut.py" 623)])) #[]
def o332_3 (p : Params) : Obj := .mk (.type "function") .none (.func (.mk (s "hours_of") (s "hours_of") (defArgs (tp 21)) (.stmts (defBody (tp 21))) (defScope (tp 21)) 3 [] .none .none .none (u "hourlanes.lots" 612) .none (r 331) .none 0)) #[]
def o333_3 (p : Params) : Obj := .mk (.type "tuple") .none (@PySem.Data.seq #[] 0) #[]
def o334_3 (p : Params) : Obj := .mk (.type "builtin_function_or_method") .none (@PySem.Data.fields (@List.toArray PySem.Value [(.builtin "type.__prepare__"), (.type "type")])) #[]
def o335_3 (p : Params) : Obj := .mk (.type "dict") .none (dc [(e p "__module__" 632 (u "hourlanes.lots" 612)), (e p "__qualname__" 634 (u "Lot" 633)), (e p "__firstlineno__" 636 (@PySem.Value.int (i 129) 635)), (e p "__init__" 642 (r 344)), (e p "leg_at" 651 (r 351)), (e p "arrive" 659 (r 358)), (e p "known_at" 672 (r 365)), (e p "told" 679 (r 372)), (e p "__static_attributes__" 686 (r 373))] 9) #[]
def o336_3 (p : Params) : Obj := .mk (.type "tuple") .none (@PySem.Data.seq #[] 0) #[]
def o337_3 (p : Params) : Obj := .mk .none .none (@PySem.Data.fields (@List.toArray PySem.Value [(@PySem.Value.int (i 131) 0), (@PySem.Value.int (i 4) 0), (r 343), (@PySem.Value.int (i 139) 0), (@PySem.Value.int (i 4) 0), (r 350), (@PySem.Value.int (i 145) 0), (@PySem.Value.int (i 4) 0), (r 357), (@PySem.Value.int (i 149) 0), (@PySem.Value.int (i 4) 0), (r 364), (@PySem.Value.int (i 161) 0), (@PySem.Value.int (i 4) 0), (r 371)])) #[]
def o338_3 (p : Params) : Obj := .mk (.type "code") .none (@PySem.Data.fields (@List.toArray PySem.Value [(u "Lot" 627), (u "Lot" 628), (u "/claim/cut.py" 629), (@PySem.Value.int (i 129) 0), (@PySem.Value.int (i 0) 0), (@PySem.Value.int (i 0) 0), (@PySem.Value.int (i 0) 0), (@PySem.Value.int (i 0) 0), (r 336), (@PySem.Value.bool Bool.false), (@PySem.Value.int (i 181) 0), (r 337), .none, .none, .none, .none, (@PySem.Value.int (i 630) 0), (@PySem.Value.int (i 129) 0), (u "/claim/cut.py" 631)])) #[]
def o339_3 (p : Params) : Obj := .mk (.type "frame") .none PySem.Data.plain (@List.toArray (@Option PySem.Value) [(.some (r 338)), (.some (r 3)), (.some (r 335)), .none, (.some (u "hourlanes.lots" 612)), .none, (.some (r 0))])
def o340_3 (p : Params) : Obj := .mk (.type "tuple") .none (@PySem.Data.seq #[] 0) #[]
def o341_3 (p : Params) : Obj := .mk .none .none (@PySem.Data.fields #[]) #[]
def o342_3 (p : Params) : Obj := .mk .none .none (.func (.mk (s "__init__") (s "Lot.__init__") (defArgs (inClass (tp 22) 0)) (.stmts (defBody (inClass (tp 22) 0))) (defScope (inClass (tp 22) 0)) 0 [] .none .none .none .none .none .none .none 0)) #[]
def o343_3 (p : Params) : Obj := .mk (.type "code") .none (@PySem.Data.fields (@List.toArray PySem.Value [(u "__init__" 637), (u "Lot.__init__" 638), (u "/claim/cut.py" 639), (@PySem.Value.int (i 131) 0), (@PySem.Value.int (i 5) 0), (@PySem.Value.int (i 0) 0), (@PySem.Value.int (i 0) 0), (@PySem.Value.int (i 3) 0), (r 340), (@PySem.Value.bool Bool.true), (@PySem.Value.int (i 181) 0), (r 341), .none, .none, .none, (r 342), (@PySem.Value.int (i 640) 0), (@PySem.Value.int (i 131) 0), (u "/claim/cut.py" 641)])) #[]
def o344_3 (p : Params) : Obj := .mk (.type "function") .none (.func (.mk (s "__init__") (s "Lot.__init__") (defArgs (inClass (tp 22) 0)) (.stmts (defBody (inClass (tp 22) 0))) (defScope (inClass (tp 22) 0)) 3 [] .none .none .none (u "hourlanes.lots" 612) .none (r 343) .none 0)) #[]
def o345_3 (p : Params) : Obj := .mk (.type "tuple") .none (@PySem.Data.seq #[] 0) #[]
def o346_3 (p : Params) : Obj := .mk .none .none (@PySem.Data.fields #[]) #[]
def o347_3 (p : Params) : Obj := .mk (.type "tuple") .none (@PySem.Data.seq (@List.toArray PySem.Value [(u "self" 646), (u "tick" 647), (u "place" 648)]) 0) #[]
def o348_3 (p : Params) : Obj := .mk (.type "tuple") .none (@PySem.Data.seq #[] 0) #[]
def o349_3 (p : Params) : Obj := .mk .none .none (.func (.mk (s "leg_at") (s "Lot.leg_at") (defArgs (inClass (tp 22) 1)) (.stmts (defBody (inClass (tp 22) 1))) (defScope (inClass (tp 22) 1)) 0 [] .none .none .none .none .none .none .none 0)) #[]
def o350_3 (p : Params) : Obj := .mk (.type "code") .none (@PySem.Data.fields (@List.toArray PySem.Value [(u "leg_at" 643), (u "Lot.leg_at" 644), (u "/claim/cut.py" 645), (@PySem.Value.int (i 139) 0), (@PySem.Value.int (i 2) 0), (@PySem.Value.int (i 0) 0), (@PySem.Value.int (i 0) 0), (@PySem.Value.int (i 3) 0), (r 345), (@PySem.Value.bool Bool.true), (@PySem.Value.int (i 181) 0), (r 346), .none, (r 347), (r 348), (r 349), (@PySem.Value.int (i 649) 0), (@PySem.Value.int (i 139) 0), (u "/claim/cut.py" 650)])) #[]
def o351_3 (p : Params) : Obj := .mk (.type "function") .none (.func (.mk (s "leg_at") (s "Lot.leg_at") (defArgs (inClass (tp 22) 1)) (.stmts (defBody (inClass (tp 22) 1))) (defScope (inClass (tp 22) 1)) 3 [] .none .none .none (u "hourlanes.lots" 612) .none (r 350) .none 0)) #[]
def o352_3 (p : Params) : Obj := .mk (.type "tuple") .none (@PySem.Data.seq #[] 0) #[]
def o353_3 (p : Params) : Obj := .mk .none .none (@PySem.Data.fields #[]) #[]
def o354_3 (p : Params) : Obj := .mk (.type "tuple") .none (@PySem.Data.seq (@List.toArray PySem.Value [(u "self" 655), (u "tick" 656)]) 0) #[]
def o355_3 (p : Params) : Obj := .mk (.type "tuple") .none (@PySem.Data.seq #[] 0) #[]
def o356_3 (p : Params) : Obj := .mk .none .none (.func (.mk (s "arrive") (s "Lot.arrive") (defArgs (inClass (tp 22) 2)) (.stmts (defBody (inClass (tp 22) 2))) (defScope (inClass (tp 22) 2)) 0 [] .none .none .none .none .none .none .none 0)) #[]
def o357_3 (p : Params) : Obj := .mk (.type "code") .none (@PySem.Data.fields (@List.toArray PySem.Value [(u "arrive" 652), (u "Lot.arrive" 653), (u "/claim/cut.py" 654), (@PySem.Value.int (i 145) 0), (@PySem.Value.int (i 2) 0), (@PySem.Value.int (i 0) 0), (@PySem.Value.int (i 0) 0), (@PySem.Value.int (i 3) 0), (r 352), (@PySem.Value.bool Bool.true), (@PySem.Value.int (i 181) 0), (r 353), .none, (r 354), (r 355), (r 356), (@PySem.Value.int (i 657) 0), (@PySem.Value.int (i 145) 0), (u "/claim/cut.py" 658)])) #[]
def o358_3 (p : Params) : Obj := .mk (.type "function") .none (.func (.mk (s "arrive") (s "Lot.arrive") (defArgs (inClass (tp 22) 2)) (.stmts (defBody (inClass (tp 22) 2))) (defScope (inClass (tp 22) 2)) 3 [] .none .none .none (u "hourlanes.lots" 612) .none (r 357) .none 0)) #[]
def o359_3 (p : Params) : Obj := .mk (.type "tuple") .none (@PySem.Data.seq #[] 0) #[]
def o360_3 (p : Params) : Obj := .mk .none .none (@PySem.Data.fields #[]) #[]
def o361_3 (p : Params) : Obj := .mk (.type "tuple") .none (@PySem.Data.seq (@List.toArray PySem.Value [(u "self" 663), (u "lane" 664), (u "now" 665), (u "found" 666), (u "place" 667), (u "come" 668), (u "hour" 669)]) 0) #[]
def o362_3 (p : Params) : Obj := .mk (.type "tuple") .none (@PySem.Data.seq #[] 0) #[]
def o363_3 (p : Params) : Obj := .mk .none .none (.func (.mk (s "known_at") (s "Lot.known_at") (defArgs (inClass (tp 22) 3)) (.stmts (defBody (inClass (tp 22) 3))) (defScope (inClass (tp 22) 3)) 0 [] .none .none .none .none .none .none .none 0)) #[]
def o364_3 (p : Params) : Obj := .mk (.type "code") .none (@PySem.Data.fields (@List.toArray PySem.Value [(u "known_at" 660), (u "Lot.known_at" 661), (u "/claim/cut.py" 662), (@PySem.Value.int (i 149) 0), (@PySem.Value.int (i 3) 0), (@PySem.Value.int (i 0) 0), (@PySem.Value.int (i 0) 0), (@PySem.Value.int (i 3) 0), (r 359), (@PySem.Value.bool Bool.true), (@PySem.Value.int (i 181) 0), (r 360), .none, (r 361), (r 362), (r 363), (@PySem.Value.int (i 670) 0), (@PySem.Value.int (i 149) 0), (u "/claim/cut.py" 671)])) #[]
def o365_3 (p : Params) : Obj := .mk (.type "function") .none (.func (.mk (s "known_at") (s "Lot.known_at") (defArgs (inClass (tp 22) 3)) (.stmts (defBody (inClass (tp 22) 3))) (defScope (inClass (tp 22) 3)) 3 [] .none .none .none (u "hourlanes.lots" 612) .none (r 364) .none 0)) #[]
def o366_3 (p : Params) : Obj := .mk (.type "tuple") .none (@PySem.Data.seq #[] 0) #[]
def o367_3 (p : Params) : Obj := .mk .none .none (@PySem.Data.fields #[]) #[]
def o368_3 (p : Params) : Obj := .mk (.type "tuple") .none (@PySem.Data.seq (@List.toArray PySem.Value [(u "self" 676)]) 0) #[]
def o369_3 (p : Params) : Obj := .mk (.type "tuple") .none (@PySem.Data.seq #[] 0) #[]
def o370_3 (p : Params) : Obj := .mk .none .none (.func (.mk (s "told") (s "Lot.told") (defArgs (inClass (tp 22) 4)) (.stmts (defBody (inClass (tp 22) 4))) (defScope (inClass (tp 22) 4)) 0 [] .none .none .none .none .none .none .none 0)) #[]
def o371_3 (p : Params) : Obj := .mk (.type "code") .none (@PySem.Data.fields (@List.toArray PySem.Value [(u "told" 673), (u "Lot.told" 674), (u "/claim/cut.py" 675), (@PySem.Value.int (i 161) 0), (@PySem.Value.int (i 1) 0), (@PySem.Value.int (i 0) 0), (@PySem.Value.int (i 0) 0), (@PySem.Value.int (i 3) 0), (r 366), (@PySem.Value.bool Bool.true), (@PySem.Value.int (i 181) 0), (r 367), .none, (r 368), (r 369), (r 370), (@PySem.Value.int (i 677) 0), (@PySem.Value.int (i 161) 0), (u "/claim/cut.py" 678)])) #[]
def o372_3 (p : Params) : Obj := .mk (.type "function") .none (.func (.mk (s "told") (s "Lot.told") (defArgs (inClass (tp 22) 4)) (.stmts (defBody (inClass (tp 22) 4))) (defScope (inClass (tp 22) 4)) 3 [] .none .none .none (u "hourlanes.lots" 612) .none (r 371) .none 0)) #[]
def o373_3 (p : Params) : Obj := .mk (.type "tuple") .none (@PySem.Data.seq (@List.toArray PySem.Value [(u "came" 680), (u "hours" 681), (u "lanes" 682), (u "left" 683), (u "many" 684), (u "name" 685)]) 0) #[]
def o374_3 (p : Params) : Obj := .mk (.type "dict") .none (dc [(e p "__module__" 632 (u "hourlanes.lots" 612)), (e p "__firstlineno__" 636 (@PySem.Value.int (i 129) 635)), (e p "__init__" 642 (r 344)), (e p "leg_at" 651 (r 351)), (e p "arrive" 659 (r 358)), (e p "known_at" 672 (r 365)), (e p "told" 679 (r 372)), (e p "__static_attributes__" 686 (r 373)), (e p "__dict__" 688 (r 376)), (e p "__weakref__" 690 (r 377)), (e p "__doc__" 691 .none)] 4) #[]
def o375_3 (p : Params) : Obj := .mk (.type "type") .none (@PySem.Data.cls (@PySem.ClassData.mk (s "Lot") [(.type "object")] [(r 375), (.type "object")] 374 (s "Lot") Bool.true [] [] Bool.false .none Bool.false)) (@List.toArray (@Option PySem.Value) [.none, .none, (.some (u "Lot" 625)), (.some (u "Lot" 633)), (.some (.builtin "object.__new__")), (.some (@PySem.Value.bool Bool.true))])
def o376_3 (p : Params) : Obj := .mk (.type "getset_descriptor") .none (@PySem.Data.fields (@List.toArray PySem.Value [(u "__dict__" 687), (r 375), (.builtin "function.__dict__"), (.builtin "function.__dict__#set")])) #[]
def o377_3 (p : Params) : Obj := .mk (.type "getset_descriptor") .none (@PySem.Data.fields (@List.toArray PySem.Value [(u "__weakref__" 689), (r 375), (.builtin "ExceptionGroup.__weakref__"), .none])) #[]
def o378_3 (p : Params) : Obj := .mk (.type "super") .none (@PySem.Data.fields (@List.toArray PySem.Value [(r 375), (r 375), (r 375)])) #[]
def o379_3 (p : Params) : Obj := .mk (.type "builtin_function_or_method") .none (@PySem.Data.fields (@List.toArray PySem.Value [(.builtin "object.__init_subclass__"), (r 375)])) #[]
def o380_3 (p : Params) : Obj := .mk (.type "tuple") .none (@PySem.Data.seq #[] 0) #[]
def o381_3 (p : Params) : Obj := .mk .none .none (@PySem.Data.fields #[]) #[]
def o382_3 (p : Params) : Obj := .mk (.type "tuple") .none (@PySem.Data.seq (@List.toArray PySem.Value [(u "text" 705), (u "sign" 706)]) 0) #[]
def o383_3 (p : Params) : Obj := .mk (.type "tuple") .none (@PySem.Data.seq #[] 0) #[]
def o384_3 (p : Params) : Obj := .mk .none .none (.func (.mk (s "is_name") (s "is_name") (defArgs (tp 27)) (.stmts (defBody (tp 27))) (defScope (tp 27)) 0 [] .none .none .none .none .none .none .none 0)) #[]
def o385_3 (p : Params) : Obj := .mk (.type "code") .none (@PySem.Data.fields (@List.toArray PySem.Value [(u "is_name" 702), (u "is_name" 703), (u "/claim/cut.py" 704), (@PySem.Value.int (i 167) 0), (@PySem.Value.int (i 1) 0), (@PySem.Value.int (i 0) 0), (@PySem.Value.int (i 0) 0), (@PySem.Value.int (i 3) 0), (r 380), (@PySem.Value.bool Bool.true), (@PySem.Value.int (i 181) 0), (r 381), .none, (r 382), (r 383), (r 384), (@PySem.Value.int (i 707) 0), (@PySem.Value.int (i 167) 0), (u "/claim/cut.py" 708)])) #[]
def o386_3 (p : Params) : Obj := .mk (.type "function") .none (.func (.mk (s "is_name") (s "is_name") (defArgs (tp 27)) (.stmts (defBody (tp 27))) (defScope (tp 27)) 3 [] .none .none .none (u "hourlanes.names" 694) .none (r 385) .none 0)) #[]
def o387_3 (p : Params) : Obj := .mk (.type "tuple") .none (@PySem.Data.seq #[] 0) #[]
def o388_3 (p : Params) : Obj := .mk .none .none (@PySem.Data.fields #[]) #[]
def o389_3 (p : Params) : Obj := .mk (.type "tuple") .none (@PySem.Data.seq (@List.toArray PySem.Value [(u "number" 713)]) 0) #[]
def o390_3 (p : Params) : Obj := .mk (.type "tuple") .none (@PySem.Data.seq #[] 0) #[]
def o391_3 (p : Params) : Obj := .mk .none .none (.func (.mk (s "is_size") (s "is_size") (defArgs (tp 28)) (.stmts (defBody (tp 28))) (defScope (tp 28)) 0 [] .none .none .none .none .none .none .none 0)) #[]
def o392_3 (p : Params) : Obj := .mk (.type "code") .none (@PySem.Data.fields (@List.toArray PySem.Value [(u "is_size" 710), (u "is_size" 711), (u "/claim/cut.py" 712), (@PySem.Value.int (i 174) 0), (@PySem.Value.int (i 1) 0), (@PySem.Value.int (i 0) 0), (@PySem.Value.int (i 0) 0), (@PySem.Value.int (i 3) 0), (r 387), (@PySem.Value.bool Bool.true), (@PySem.Value.int (i 181) 0), (r 388), .none, (r 389), (r 390), (r 391), (@PySem.Value.int (i 714) 0), (@PySem.Value.int (i 174) 0), (u "/claim/cut.py" 715)])) #[]
def o393_3 (p : Params) : Obj := .mk (.type "function") .none (.func (.mk (s "is_size") (s "is_size") (defArgs (tp 28)) (.stmts (defBody (tp 28))) (defScope (tp 28)) 3 [] .none .none .none (u "hourlanes.names" 694) .none (r 392) .none 0)) #[]
def o394_3 (p : Params) : Obj := .mk (.type "tuple") .none (@PySem.Data.seq #[] 0) #[]
def o395_3 (p : Params) : Obj := .mk .none .none (@PySem.Data.fields #[]) #[]
def o396_3 (p : Params) : Obj := .mk (.type "tuple") .none (@PySem.Data.seq (@List.toArray PySem.Value [(u "way" 720), (u "lanes" 721), (u "met" 722), (u "at" 723), (u "lane" 724), (u "wait" 725)]) 0) #[]
def o397_3 (p : Params) : Obj := .mk (.type "tuple") .none (@PySem.Data.seq #[] 0) #[]
def o398_3 (p : Params) : Obj := .mk .none .none (.func (.mk (s "wrong_at") (s "wrong_at") (defArgs (tp 29)) (.stmts (defBody (tp 29))) (defScope (tp 29)) 0 [] .none .none .none .none .none .none .none 0)) #[]
def o399_3 (p : Params) : Obj := .mk (.type "code") .none (@PySem.Data.fields (@List.toArray PySem.Value [(u "wrong_at" 717), (u "wrong_at" 718), (u "/claim/cut.py" 719), (@PySem.Value.int (i 176) 0), (@PySem.Value.int (i 2) 0), (@PySem.Value.int (i 0) 0), (@PySem.Value.int (i 0) 0), (@PySem.Value.int (i 3) 0), (r 394), (@PySem.Value.bool Bool.true), (@PySem.Value.int (i 181) 0), (r 395), .none, (r 396), (r 397), (r 398), (@PySem.Value.int (i 726) 0), (@PySem.Value.int (i 176) 0), (u "/claim/cut.py" 727)])) #[]
def o400_3 (p : Params) : Obj := .mk (.type "function") .none (.func (.mk (s "wrong_at") (s "wrong_at") (defArgs (tp 29)) (.stmts (defBody (tp 29))) (defScope (tp 29)) 3 [] .none .none .none (u "hourlanes.names" 694) .none (r 399) .none 0)) #[]
def o401_3 (p : Params) : Obj := .mk (.type "tuple") .none (@PySem.Data.seq #[] 0) #[]
def o402_3 (p : Params) : Obj := .mk .none .none (@PySem.Data.fields #[]) #[]
def o403_3 (p : Params) : Obj := .mk (.type "tuple") .none (@PySem.Data.seq (@List.toArray PySem.Value [(u "now" 734), (u "first" 735), (u "last" 736), (u "begin" 737)]) 0) #[]
def o404_3 (p : Params) : Obj := .mk (.type "tuple") .none (@PySem.Data.seq #[] 0) #[]
def o405_3 (p : Params) : Obj := .mk .none .none (.func (.mk (s "window") (s "window") (defArgs (tp 31)) (.stmts (defBody (tp 31))) (defScope (tp 31)) 0 [] .none .none .none .none .none .none .none 0)) #[]
def o406_3 (p : Params) : Obj := .mk (.type "code") .none (@PySem.Data.fields (@List.toArray PySem.Value [(u "window" 731), (u "window" 732), (u "/claim/cut.py" 733), (@PySem.Value.int (i 186) 0), (@PySem.Value.int (i 3) 0), (@PySem.Value.int (i 0) 0), (@PySem.Value.int (i 0) 0), (@PySem.Value.int (i 3) 0), (r 401), (@PySem.Value.bool Bool.true), (@PySem.Value.int (i 181) 0), (r 402), .none, (r 403), (r 404), (r 405), (@PySem.Value.int (i 738) 0), (@PySem.Value.int (i 186) 0), (u "/claim/cut.py" 739)])) #[]
def o407_3 (p : Params) : Obj := .mk (.type "function") .none (.func (.mk (s "window") (s "window") (defArgs (tp 31)) (.stmts (defBody (tp 31))) (defScope (tp 31)) 3 [] .none .none .none (u "hourlanes.scenes" 729) .none (r 406) .none 0)) #[]
def o408_3 (p : Params) : Obj := .mk (.type "tuple") .none (@PySem.Data.seq #[] 0) #[]
def o409_3 (p : Params) : Obj := .mk (.type "builtin_function_or_method") .none (@PySem.Data.fields (@List.toArray PySem.Value [(.builtin "type.__prepare__"), (.type "type")])) #[]
def o410_3 (p : Params) : Obj := .mk (.type "dict") .none (dc [(e p "__module__" 748 (u "hourlanes.scenes" 729)), (e p "__qualname__" 750 (u "Scene" 749)), (e p "__firstlineno__" 752 (@PySem.Value.int (i 189) 751)), (e p "__init__" 759 (r 420)), (e p "known_rows" 766 (r 427)), (e p "ask_rows" 772 (r 432)), (e p "need_known" 778 (r 437)), (e p "need_asked" 793 (r 444)), (e p "need" 802 (r 451)), (e p "holds" 811 (r 458)), (e p "with_ask" 821 (r 465)), (e p "with_width" 829 (r 472)), (e p "with_opens" 837 (r 479)), (e p "__static_attributes__" 843 (r 480))] 14) #[]
def o411_3 (p : Params) : Obj := .mk (.type "tuple") .none (@PySem.Data.seq #[] 0) #[]
def o412_3 (p : Params) : Obj := .mk .none .none (@PySem.Data.fields (@List.toArray PySem.Value [(@PySem.Value.int (i 191) 0), (@PySem.Value.int (i 4) 0), (r 419), (@PySem.Value.int (i 198) 0), (@PySem.Value.int (i 4) 0), (r 426), (@PySem.Value.int (i 201) 0), (@PySem.Value.int (i 4) 0), (r 431), (@PySem.Value.int (i 204) 0), (@PySem.Value.int (i 4) 0), (r 436), (@PySem.Value.int (i 207) 0), (@PySem.Value.int (i 4) 0), (r 443), (@PySem.Value.int (i 214) 0), (@PySem.Value.int (i 4) 0), (r 450), (@PySem.Value.int (i 217) 0), (@PySem.Value.int (i 4) 0), (r 457), (@PySem.Value.int (i 220) 0), (@PySem.Value.int (i 4) 0), (r 464), (@PySem.Value.int (i 223) 0), (@PySem.Value.int (i 4) 0), (r 471), (@PySem.Value.int (i 226) 0), (@PySem.Value.int (i 4) 0), (r 478)])) #[]
def o413_3 (p : Params) : Obj := .mk (.type "code") .none (@PySem.Data.fields (@List.toArray PySem.Value [(u "Scene" 743), (u "Scene" 744), (u "/claim/cut.py" 745), (@PySem.Value.int (i 189) 0), (@PySem.Value.int (i 0) 0), (@PySem.Value.int (i 0) 0), (@PySem.Value.int (i 0) 0), (@PySem.Value.int (i 0) 0), (r 411), (@PySem.Value.bool Bool.false), (@PySem.Value.int (i 181) 0), (r 412), .none, .none, .none, .none, (@PySem.Value.int (i 746) 0), (@PySem.Value.int (i 189) 0), (u "/claim/cut.py" 747)])) #[]
def o414_3 (p : Params) : Obj := .mk (.type "frame") .none PySem.Data.plain (@List.toArray (@Option PySem.Value) [(.some (r 413)), (.some (r 3)), (.some (r 410)), .none, (.some (u "hourlanes.scenes" 729)), .none, (.some (r 0))])
def o415_3 (p : Params) : Obj := .mk (.type "tuple") .none (@PySem.Data.seq (@List.toArray PySem.Value [(@PySem.Value.int (i 0) 753)]) 0) #[]
def o416_3 (p : Params) : Obj := .mk (.type "tuple") .none (@PySem.Data.seq #[] 0) #[]
def o417_3 (p : Params) : Obj := .mk .none .none (@PySem.Data.fields #[]) #[]
def o418_3 (p : Params) : Obj := .mk .none .none (.func (.mk (s "__init__") (s "Scene.__init__") (defArgs (inClass (tp 32) 0)) (.stmts (defBody (inClass (tp 32) 0))) (defScope (inClass (tp 32) 0)) 0 [] .none .none .none .none .none .none .none 0)) #[]
def o419_3 (p : Params) : Obj := .mk (.type "code") .none (@PySem.Data.fields (@List.toArray PySem.Value [(u "__init__" 754), (u "Scene.__init__" 755), (u "/claim/cut.py" 756), (@PySem.Value.int (i 191) 0), (@PySem.Value.int (i 6) 0), (@PySem.Value.int (i 0) 0), (@PySem.Value.int (i 0) 0), (@PySem.Value.int (i 3) 0), (r 416), (@PySem.Value.bool Bool.true), (@PySem.Value.int (i 181) 0), (r 417), .none, .none, .none, (r 418), (@PySem.Value.int (i 757) 0), (@PySem.Value.int (i 191) 0), (u "/claim/cut.py" 758)])) #[]
def o420_3 (p : Params) : Obj := .mk (.type "function") .none (.func (.mk (s "__init__") (s "Scene.__init__") (defArgs (inClass (tp 32) 0)) (.stmts (defBody (inClass (tp 32) 0))) (defScope (inClass (tp 32) 0)) 3 [] (r 415) .none .none (u "hourlanes.scenes" 729) .none (r 419) .none 0)) #[]
def o421_3 (p : Params) : Obj := .mk (.type "tuple") .none (@PySem.Data.seq #[] 0) #[]
def o422_3 (p : Params) : Obj := .mk .none .none (@PySem.Data.fields #[]) #[]
def o423_3 (p : Params) : Obj := .mk (.type "tuple") .none (@PySem.Data.seq (@List.toArray PySem.Value [(u "self" 763)]) 0) #[]
def o424_3 (p : Params) : Obj := .mk (.type "tuple") .none (@PySem.Data.seq #[] 0) #[]
def o425_3 (p : Params) : Obj := .mk .none .none (.func (.mk (s "known_rows") (s "Scene.known_rows") (defArgs (inClass (tp 32) 1)) (.stmts (defBody (inClass (tp 32) 1))) (defScope (inClass (tp 32) 1)) 0 [] .none .none .none .none .none .none .none 0)) #[]
def o426_3 (p : Params) : Obj := .mk (.type "code") .none (@PySem.Data.fields (@List.toArray PySem.Value [(u "known_rows" 760), (u "Scene.known_rows" 761), (u "/claim/cut.py" 762), (@PySem.Value.int (i 198) 0), (@PySem.Value.int (i 1) 0), (@PySem.Value.int (i 0) 0), (@PySem.Value.int (i 0) 0), (@PySem.Value.int (i 3) 0), (r 421), (@PySem.Value.bool Bool.true), (@PySem.Value.int (i 181) 0), (r 422), .none, (r 423), (r 424), (r 425), (@PySem.Value.int (i 764) 0), (@PySem.Value.int (i 198) 0), (u "/claim/cut.py" 765)])) #[]
def o427_3 (p : Params) : Obj := .mk (.type "function") .none (.func (.mk (s "known_rows") (s "Scene.known_rows") (defArgs (inClass (tp 32) 1)) (.stmts (defBody (inClass (tp 32) 1))) (defScope (inClass (tp 32) 1)) 3 [] .none .none .none (u "hourlanes.scenes" 729) .none (r 426) .none 0)) #[]
def o428_3 (p : Params) : Obj := .mk (.type "tuple") .none (@PySem.Data.seq #[] 0) #[]
def o429_3 (p : Params) : Obj := .mk .none .none (@PySem.Data.fields #[]) #[]
def o430_3 (p : Params) : Obj := .mk .none .none (.func (.mk (s "ask_rows") (s "Scene.ask_rows") (defArgs (inClass (tp 32) 2)) (.stmts (defBody (inClass (tp 32) 2))) (defScope (inClass (tp 32) 2)) 0 [] .none .none .none .none .none .none .none 0)) #[]
def o431_3 (p : Params) : Obj := .mk (.type "code") .none (@PySem.Data.fields (@List.toArray PySem.Value [(u "ask_rows" 767), (u "Scene.ask_rows" 768), (u "/claim/cut.py" 769), (@PySem.Value.int (i 201) 0), (@PySem.Value.int (i 1) 0), (@PySem.Value.int (i 0) 0), (@PySem.Value.int (i 0) 0), (@PySem.Value.int (i 3) 0), (r 428), (@PySem.Value.bool Bool.true), (@PySem.Value.int (i 181) 0), (r 429), .none, .none, .none, (r 430), (@PySem.Value.int (i 770) 0), (@PySem.Value.int (i 201) 0), (u "/claim/cut.py" 771)])) #[]
def o432_3 (p : Params) : Obj := .mk (.type "function") .none (.func (.mk (s "ask_rows") (s "Scene.ask_rows") (defArgs (inClass (tp 32) 2)) (.stmts (defBody (inClass (tp 32) 2))) (defScope (inClass (tp 32) 2)) 3 [] .none .none .none (u "hourlanes.scenes" 729) .none (r 431) .none 0)) #[]
def o433_3 (p : Params) : Obj := .mk (.type "tuple") .none (@PySem.Data.seq #[] 0) #[]
def o434_3 (p : Params) : Obj := .mk .none .none (@PySem.Data.fields #[]) #[]
def o435_3 (p : Params) : Obj := .mk .none .none (.func (.mk (s "need_known") (s "Scene.need_known") (defArgs (inClass (tp 32) 3)) (.stmts (defBody (inClass (tp 32) 3))) (defScope (inClass (tp 32) 3)) 0 [] .none .none .none .none .none .none .none 0)) #[]
def o436_3 (p : Params) : Obj := .mk (.type "code") .none (@PySem.Data.fields (@List.toArray PySem.Value [(u "need_known" 773), (u "Scene.need_known" 774), (u "/claim/cut.py" 775), (@PySem.Value.int (i 204) 0), (@PySem.Value.int (i 3) 0), (@PySem.Value.int (i 0) 0), (@PySem.Value.int (i 0) 0), (@PySem.Value.int (i 3) 0), (r 433), (@PySem.Value.bool Bool.true), (@PySem.Value.int (i 181) 0), (r 434), .none, .none, .none, (r 435), (@PySem.Value.int (i 776) 0), (@PySem.Value.int (i 204) 0), (u "/claim/cut.py" 777)])) #[]
def o437_3 (p : Params) : Obj := .mk (.type "function") .none (.func (.mk (s "need_known") (s "Scene.need_known") (defArgs (inClass (tp 32) 3)) (.stmts (defBody (inClass (tp 32) 3))) (defScope (inClass (tp 32) 3)) 3 [] .none .none .none (u "hourlanes.scenes" 729) .none (r 436) .none 0)) #[]
def o438_3 (p : Params) : Obj := .mk (.type "tuple") .none (@PySem.Data.seq #[] 0) #[]
def o439_3 (p : Params) : Obj := .mk .none .none (@PySem.Data.fields #[]) #[]
def o440_3 (p : Params) : Obj := .mk (.type "tuple") .none (@PySem.Data.seq (@List.toArray PySem.Value [(u "self" 782), (u "first" 783), (u "end" 784), (u "found" 785), (u "flow" 786), (u "after" 787), (u "wait" 788), (u "ahead" 789), (u "ticks" 790)]) 0) #[]
def o441_3 (p : Params) : Obj := .mk (.type "tuple") .none (@PySem.Data.seq #[] 0) #[]
def o442_3 (p : Params) : Obj := .mk .none .none (.func (.mk (s "need_asked") (s "Scene.need_asked") (defArgs (inClass (tp 32) 4)) (.stmts (defBody (inClass (tp 32) 4))) (defScope (inClass (tp 32) 4)) 0 [] .none .none .none .none .none .none .none 0)) #[]
def o443_3 (p : Params) : Obj := .mk (.type "code") .none (@PySem.Data.fields (@List.toArray PySem.Value [(u "need_asked" 779), (u "Scene.need_asked" 780), (u "/claim/cut.py" 781), (@PySem.Value.int (i 207) 0), (@PySem.Value.int (i 3) 0), (@PySem.Value.int (i 0) 0), (@PySem.Value.int (i 0) 0), (@PySem.Value.int (i 3) 0), (r 438), (@PySem.Value.bool Bool.true), (@PySem.Value.int (i 181) 0), (r 439), .none, (r 440), (r 441), (r 442), (@PySem.Value.int (i 791) 0), (@PySem.Value.int (i 207) 0), (u "/claim/cut.py" 792)])) #[]
def o444_3 (p : Params) : Obj := .mk (.type "function") .none (.func (.mk (s "need_asked") (s "Scene.need_asked") (defArgs (inClass (tp 32) 4)) (.stmts (defBody (inClass (tp 32) 4))) (defScope (inClass (tp 32) 4)) 3 [] .none .none .none (u "hourlanes.scenes" 729) .none (r 443) .none 0)) #[]
def o445_3 (p : Params) : Obj := .mk (.type "tuple") .none (@PySem.Data.seq #[] 0) #[]
def o446_3 (p : Params) : Obj := .mk .none .none (@PySem.Data.fields #[]) #[]
def o447_3 (p : Params) : Obj := .mk (.type "tuple") .none (@PySem.Data.seq (@List.toArray PySem.Value [(u "self" 797), (u "first" 798), (u "end" 799)]) 0) #[]
def o448_3 (p : Params) : Obj := .mk (.type "tuple") .none (@PySem.Data.seq #[] 0) #[]
def o449_3 (p : Params) : Obj := .mk .none .none (.func (.mk (s "need") (s "Scene.need") (defArgs (inClass (tp 32) 5)) (.stmts (defBody (inClass (tp 32) 5))) (defScope (inClass (tp 32) 5)) 0 [] .none .none .none .none .none .none .none 0)) #[]
def o450_3 (p : Params) : Obj := .mk (.type "code") .none (@PySem.Data.fields (@List.toArray PySem.Value [(u "need" 794), (u "Scene.need" 795), (u "/claim/cut.py" 796), (@PySem.Value.int (i 214) 0), (@PySem.Value.int (i 3) 0), (@PySem.Value.int (i 0) 0), (@PySem.Value.int (i 0) 0), (@PySem.Value.int (i 3) 0), (r 445), (@PySem.Value.bool Bool.true), (@PySem.Value.int (i 181) 0), (r 446), .none, (r 447), (r 448), (r 449), (@PySem.Value.int (i 800) 0), (@PySem.Value.int (i 214) 0), (u "/claim/cut.py" 801)])) #[]
def o451_3 (p : Params) : Obj := .mk (.type "function") .none (.func (.mk (s "need") (s "Scene.need") (defArgs (inClass (tp 32) 5)) (.stmts (defBody (inClass (tp 32) 5))) (defScope (inClass (tp 32) 5)) 3 [] .none .none .none (u "hourlanes.scenes" 729) .none (r 450) .none 0)) #[]
def o452_3 (p : Params) : Obj := .mk (.type "tuple") .none (@PySem.Data.seq #[] 0) #[]
def o453_3 (p : Params) : Obj := .mk .none .none (@PySem.Data.fields #[]) #[]
def o454_3 (p : Params) : Obj := .mk (.type "tuple") .none (@PySem.Data.seq (@List.toArray PySem.Value [(u "self" 806), (u "first" 807), (u "end" 808)]) 0) #[]
def o455_3 (p : Params) : Obj := .mk (.type "tuple") .none (@PySem.Data.seq #[] 0) #[]
def o456_3 (p : Params) : Obj := .mk .none .none (.func (.mk (s "holds") (s "Scene.holds") (defArgs (inClass (tp 32) 6)) (.stmts (defBody (inClass (tp 32) 6))) (defScope (inClass (tp 32) 6)) 0 [] .none .none .none .none .none .none .none 0)) #[]
def o457_3 (p : Params) : Obj := .mk (.type "code") .none (@PySem.Data.fields (@List.toArray PySem.Value [(u "holds" 803), (u "Scene.holds" 804), (u "/claim/cut.py" 805), (@PySem.Value.int (i 217) 0), (@PySem.Value.int (i 3) 0), (@PySem.Value.int (i 0) 0), (@PySem.Value.int (i 0) 0), (@PySem.Value.int (i 3) 0), (r 452), (@PySem.Value.bool Bool.true), (@PySem.Value.int (i 181) 0), (r 453), .none, (r 454), (r 455), (r 456), (@PySem.Value.int (i 809) 0), (@PySem.Value.int (i 217) 0), (u "/claim/cut.py" 810)])) #[]
def o458_3 (p : Params) : Obj := .mk (.type "function") .none (.func (.mk (s "holds") (s "Scene.holds") (defArgs (inClass (tp 32) 6)) (.stmts (defBody (inClass (tp 32) 6))) (defScope (inClass (tp 32) 6)) 3 [] .none .none .none (u "hourlanes.scenes" 729) .none (r 457) .none 0)) #[]
def o459_3 (p : Params) : Obj := .mk (.type "tuple") .none (@PySem.Data.seq #[] 0) #[]
def o460_3 (p : Params) : Obj := .mk .none .none (@PySem.Data.fields #[]) #[]
def o461_3 (p : Params) : Obj := .mk (.type "tuple") .none (@PySem.Data.seq (@List.toArray PySem.Value [(u "self" 815), (u "flow" 816), (u "after" 817), (u "wait" 818)]) 0) #[]
def o462_3 (p : Params) : Obj := .mk (.type "tuple") .none (@PySem.Data.seq #[] 0) #[]
def o463_3 (p : Params) : Obj := .mk .none .none (.func (.mk (s "with_ask") (s "Scene.with_ask") (defArgs (inClass (tp 32) 7)) (.stmts (defBody (inClass (tp 32) 7))) (defScope (inClass (tp 32) 7)) 0 [] .none .none .none .none .none .none .none 0)) #[]
def o464_3 (p : Params) : Obj := .mk (.type "code") .none (@PySem.Data.fields (@List.toArray PySem.Value [(u "with_ask" 812), (u "Scene.with_ask" 813), (u "/claim/cut.py" 814), (@PySem.Value.int (i 220) 0), (@PySem.Value.int (i 4) 0), (@PySem.Value.int (i 0) 0), (@PySem.Value.int (i 0) 0), (@PySem.Value.int (i 3) 0), (r 459), (@PySem.Value.bool Bool.true), (@PySem.Value.int (i 181) 0), (r 460), .none, (r 461), (r 462), (r 463), (@PySem.Value.int (i 819) 0), (@PySem.Value.int (i 220) 0), (u "/claim/cut.py" 820)])) #[]
def o465_3 (p : Params) : Obj := .mk (.type "function") .none (.func (.mk (s "with_ask") (s "Scene.with_ask") (defArgs (inClass (tp 32) 7)) (.stmts (defBody (inClass (tp 32) 7))) (defScope (inClass (tp 32) 7)) 3 [] .none .none .none (u "hourlanes.scenes" 729) .none (r 464) .none 0)) #[]
def o466_3 (p : Params) : Obj := .mk (.type "tuple") .none (@PySem.Data.seq #[] 0) #[]
def o467_3 (p : Params) : Obj := .mk .none .none (@PySem.Data.fields #[]) #[]
def o468_3 (p : Params) : Obj := .mk (.type "tuple") .none (@PySem.Data.seq (@List.toArray PySem.Value [(u "self" 825), (u "width" 826)]) 0) #[]
def o469_3 (p : Params) : Obj := .mk (.type "tuple") .none (@PySem.Data.seq #[] 0) #[]
def o470_3 (p : Params) : Obj := .mk .none .none (.func (.mk (s "with_width") (s "Scene.with_width") (defArgs (inClass (tp 32) 8)) (.stmts (defBody (inClass (tp 32) 8))) (defScope (inClass (tp 32) 8)) 0 [] .none .none .none .none .none .none .none 0)) #[]
def o471_3 (p : Params) : Obj := .mk (.type "code") .none (@PySem.Data.fields (@List.toArray PySem.Value [(u "with_width" 822), (u "Scene.with_width" 823), (u "/claim/cut.py" 824), (@PySem.Value.int (i 223) 0), (@PySem.Value.int (i 2) 0), (@PySem.Value.int (i 0) 0), (@PySem.Value.int (i 0) 0), (@PySem.Value.int (i 3) 0), (r 466), (@PySem.Value.bool Bool.true), (@PySem.Value.int (i 181) 0), (r 467), .none, (r 468), (r 469), (r 470), (@PySem.Value.int (i 827) 0), (@PySem.Value.int (i 223) 0), (u "/claim/cut.py" 828)])) #[]
def o472_3 (p : Params) : Obj := .mk (.type "function") .none (.func (.mk (s "with_width") (s "Scene.with_width") (defArgs (inClass (tp 32) 8)) (.stmts (defBody (inClass (tp 32) 8))) (defScope (inClass (tp 32) 8)) 3 [] .none .none .none (u "hourlanes.scenes" 729) .none (r 471) .none 0)) #[]
def o473_3 (p : Params) : Obj := .mk (.type "tuple") .none (@PySem.Data.seq #[] 0) #[]
def o474_3 (p : Params) : Obj := .mk .none .none (@PySem.Data.fields #[]) #[]
def o475_3 (p : Params) : Obj := .mk (.type "tuple") .none (@PySem.Data.seq (@List.toArray PySem.Value [(u "self" 833), (u "opens" 834)]) 0) #[]
def o476_3 (p : Params) : Obj := .mk (.type "tuple") .none (@PySem.Data.seq #[] 0) #[]
def o477_3 (p : Params) : Obj := .mk .none .none (.func (.mk (s "with_opens") (s "Scene.with_opens") (defArgs (inClass (tp 32) 9)) (.stmts (defBody (inClass (tp 32) 9))) (defScope (inClass (tp 32) 9)) 0 [] .none .none .none .none .none .none .none 0)) #[]
def o478_3 (p : Params) : Obj := .mk (.type "code") .none (@PySem.Data.fields (@List.toArray PySem.Value [(u "with_opens" 830), (u "Scene.with_opens" 831), (u "/claim/cut.py" 832), (@PySem.Value.int (i 226) 0), (@PySem.Value.int (i 2) 0), (@PySem.Value.int (i 0) 0), (@PySem.Value.int (i 0) 0), (@PySem.Value.int (i 3) 0), (r 473), (@PySem.Value.bool Bool.true), (@PySem.Value.int (i 181) 0), (r 474), .none, (r 475), (r 476), (r 477), (@PySem.Value.int (i 835) 0), (@PySem.Value.int (i 226) 0), (u "/claim/cut.py" 836)])) #[]
def o479_3 (p : Params) : Obj := .mk (.type "function") .none (.func (.mk (s "with_opens") (s "Scene.with_opens") (defArgs (inClass (tp 32) 9)) (.stmts (defBody (inClass (tp 32) 9))) (defScope (inClass (tp 32) 9)) 3 [] .none .none .none (u "hourlanes.scenes" 729) .none (r 478) .none 0)) #[]
def o480_3 (p : Params) : Obj := .mk (.type "tuple") .none (@PySem.Data.seq (@List.toArray PySem.Value [(u "now" 838), (u "open_asks" 839), (u "opens" 840), (u "sure" 841), (u "width" 842)]) 0) #[]
def o481_3 (p : Params) : Obj := .mk (.type "dict") .none (dc [(e p "__module__" 748 (u "hourlanes.scenes" 729)), (e p "__firstlineno__" 752 (@PySem.Value.int (i 189) 751)), (e p "__init__" 759 (r 420)), (e p "known_rows" 766 (r 427)), (e p "ask_rows" 772 (r 432)), (e p "need_known" 778 (r 437)), (e p "need_asked" 793 (r 444)), (e p "need" 802 (r 451)), (e p "holds" 811 (r 458)), (e p "with_ask" 821 (r 465)), (e p "with_width" 829 (r 472)), (e p "with_opens" 837 (r 479)), (e p "__static_attributes__" 843 (r 480)), (e p "__dict__" 845 (r 483)), (e p "__weakref__" 847 (r 484)), (e p "__doc__" 848 .none)] 4) #[]
def o482_3 (p : Params) : Obj := .mk (.type "type") .none (@PySem.Data.cls (@PySem.ClassData.mk (s "Scene") [(.type "object")] [(r 482), (.type "object")] 481 (s "Scene") Bool.true [] [] Bool.false .none Bool.false)) (@List.toArray (@Option PySem.Value) [.none, .none, (.some (u "Scene" 741)), (.some (u "Scene" 749)), (.some (.builtin "object.__new__")), (.some (@PySem.Value.bool Bool.true))])
def o483_3 (p : Params) : Obj := .mk (.type "getset_descriptor") .none (@PySem.Data.fields (@List.toArray PySem.Value [(u "__dict__" 844), (r 482), (.builtin "function.__dict__"), (.builtin "function.__dict__#set")])) #[]
def o484_3 (p : Params) : Obj := .mk (.type "getset_descriptor") .none (@PySem.Data.fields (@List.toArray PySem.Value [(u "__weakref__" 846), (r 482), (.builtin "ExceptionGroup.__weakref__"), .none])) #[]
def o485_3 (p : Params) : Obj := .mk (.type "super") .none (@PySem.Data.fields (@List.toArray PySem.Value [(r 482), (r 482), (r 482)])) #[]
def o486_3 (p : Params) : Obj := .mk (.type "builtin_function_or_method") .none (@PySem.Data.fields (@List.toArray PySem.Value [(.builtin "object.__init_subclass__"), (r 482)])) #[]
def t3_0 (p : Params) : BT := (.node (o15_1 p) (.node (o31_2 p) (.node (o63_1 p) (.node (o127_1 p) (.node (o255_3 p) .nil .nil) (.node (o383_3 p) .nil .nil)) (.node (o191_2 p) (.node (o319_3 p) .nil .nil) (.node (o447_3 p) .nil .nil))) (.node (o95_1 p) (.node (o159_2 p) (.node (o287_3 p) .nil .nil) (.node (o415_3 p) .nil .nil)) (.node (o223_2 p) (.node (o351_3 p) .nil .nil) (.node (o479_3 p) .nil .nil)))) (.node (o47_1 p) (.node (o79_1 p) (.node (o143_2 p) (.node (o271_3 p) .nil .nil) (.node (o399_3 p) .nil .nil)) (.node (o207_2 p) (.node (o335_3 p) .nil .nil) (.node (o463_3 p) .nil .nil))) (.node (o111_1 p) (.node (o175_2 p) (.node (o303_3 p) .nil .nil) (.node (o431_3 p) .nil .nil)) (.node (o239_2 p) (.node (o367_3 p) .nil .nil) .nil))))
def t3_1 (p : Params) : BT := (.node (o16_1 p) (.node (o32_1 p) (.node (o64_1 p) (.node (o128_2 p) (.node (o256_3 p) .nil .nil) (.node (o384_3 p) .nil .nil)) (.node (o192_2 p) (.node (o320_3 p) .nil .nil) (.node (o448_3 p) .nil .nil))) (.node (o96_1 p) (.node (o160_2 p) (.node (o288_3 p) .nil .nil) (.node (o416_3 p) .nil .nil)) (.node (o224_2 p) (.node (o352_3 p) .nil .nil) (.node (o480_3 p) .nil .nil)))) (.node (o48_1 p) (.node (o80_1 p) (.node (o144_2 p) (.node (o272_3 p) .nil .nil) (.node (o400_3 p) .nil .nil)) (.node (o208_2 p) (.node (o336_3 p) .nil .nil) (.node (o464_3 p) .nil .nil))) (.node (o112_1 p) (.node (o176_2 p) (.node (o304_3 p) .nil .nil) (.node (o432_3 p) .nil .nil)) (.node (o240_2 p) (.node (o368_3 p) .nil .nil) .nil))))
def t3_2 (p : Params) : BT := (.node (o17_1 p) (.node (o33_1 p) (.node (o65_1 p) (.node (o129_2 p) (.node (o257_3 p) .nil .nil) (.node (o385_3 p) .nil .nil)) (.node (o193_2 p) (.node (o321_3 p) .nil .nil) (.node (o449_3 p) .nil .nil))) (.node (o97_1 p) (.node (o161_2 p) (.node (o289_3 p) .nil .nil) (.node (o417_3 p) .nil .nil)) (.node (o225_2 p) (.node (o353_3 p) .nil .nil) (.node (o481_3 p) .nil .nil)))) (.node (o49_1 p) (.node (o81_1 p) (.node (o145_2 p) (.node (o273_3 p) .nil .nil) (.node (o401_3 p) .nil .nil)) (.node (o209_2 p) (.node (o337_3 p) .nil .nil) (.node (o465_3 p) .nil .nil))) (.node (o113_1 p) (.node (o177_2 p) (.node (o305_3 p) .nil .nil) (.node (o433_3 p) .nil .nil)) (.node (o241_2 p) (.node (o369_3 p) .nil .nil) .nil))))
def t3_3 (p : Params) : BT := (.node (o18_1 p) (.node (o34_1 p) (.node (o66_1 p) (.node (o130_2 p) (.node (o258_3 p) .nil .nil) (.node (o386_3 p) .nil .nil)) (.node (o194_2 p) (.node (o322_3 p) .nil .nil) (.node (o450_3 p) .nil .nil))) (.node (o98_1 p) (.node (o162_2 p) (.node (o290_3 p) .nil .nil) (.node (o418_3 p) .nil .nil)) (.node (o226_2 p) (.node (o354_3 p) .nil .nil) (.node (o482_3 p) .nil .nil)))) (.node (o50_1 p) (.node (o82_1 p) (.node (o146_2 p) (.node (o274_3 p) .nil .nil) (.node (o402_3 p) .nil .nil)) (.node (o210_2 p) (.node (o338_3 p) .nil .nil) (.node (o466_3 p) .nil .nil))) (.node (o114_1 p) (.node (o178_2 p) (.node (o306_3 p) .nil .nil) (.node (o434_3 p) .nil .nil)) (.node (o242_2 p) (.node (o370_3 p) .nil .nil) .nil))))
def t3_4 (p : Params) : BT := (.node (o19_1 p) (.node (o35_1 p) (.node (o67_1 p) (.node (o131_2 p) (.node (o259_3 p) .nil .nil) (.node (o387_3 p) .nil .nil)) (.node (o195_2 p) (.node (o323_3 p) .nil .nil) (.node (o451_3 p) .nil .nil))) (.node (o99_1 p) (.node (o163_2 p) (.node (o291_3 p) .nil .nil) (.node (o419_3 p) .nil .nil)) (.node (o227_2 p) (.node (o355_3 p) .nil .nil) (.node (o483_3 p) .nil .nil)))) (.node (o51_1 p) (.node (o83_1 p) (.node (o147_2 p) (.node (o275_3 p) .nil .nil) (.node (o403_3 p) .nil .nil)) (.node (o211_2 p) (.node (o339_3 p) .nil .nil) (.node (o467_3 p) .nil .nil))) (.node (o115_1 p) (.node (o179_2 p) (.node (o307_3 p) .nil .nil) (.node (o435_3 p) .nil .nil)) (.node (o243_2 p) (.node (o371_3 p) .nil .nil) .nil))))
def t3_5 (p : Params) : BT := (.node (o20_1 p) (.node (o36_1 p) (.node (o68_1 p) (.node (o132_2 p) (.node (o260_3 p) .nil .nil) (.node (o388_3 p) .nil .nil)) (.node (o196_2 p) (.node (o324_3 p) .nil .nil) (.node (o452_3 p) .nil .nil))) (.node (o100_1 p) (.node (o164_2 p) (.node (o292_3 p) .nil .nil) (.node (o420_3 p) .nil .nil)) (.node (o228_2 p) (.node (o356_3 p) .nil .nil) (.node (o484_3 p) .nil .nil)))) (.node (o52_1 p) (.node (o84_1 p) (.node (o148_2 p) (.node (o276_3 p) .nil .nil) (.node (o404_3 p) .nil .nil)) (.node (o212_2 p) (.node (o340_3 p) .nil .nil) (.node (o468_3 p) .nil .nil))) (.node (o116_1 p) (.node (o180_2 p) (.node (o308_3 p) .nil .nil) (.node (o436_3 p) .nil .nil)) (.node (o244_2 p) (.node (o372_3 p) .nil .nil) .nil))))
def t3_6 (p : Params) : BT := (.node (o21_1 p) (.node (o37_1 p) (.node (o69_1 p) (.node (o133_2 p) (.node (o261_3 p) .nil .nil) (.node (o389_3 p) .nil .nil)) (.node (o197_2 p) (.node (o325_3 p) .nil .nil) (.node (o453_3 p) .nil .nil))) (.node (o101_1 p) (.node (o165_2 p) (.node (o293_3 p) .nil .nil) (.node (o421_3 p) .nil .nil)) (.node (o229_2 p) (.node (o357_3 p) .nil .nil) (.node (o485_3 p) .nil .nil)))) (.node (o53_1 p) (.node (o85_1 p) (.node (o149_2 p) (.node (o277_3 p) .nil .nil) (.node (o405_3 p) .nil .nil)) (.node (o213_2 p) (.node (o341_3 p) .nil .nil) (.node (o469_3 p) .nil .nil))) (.node (o117_1 p) (.node (o181_2 p) (.node (o309_3 p) .nil .nil) (.node (o437_3 p) .nil .nil)) (.node (o245_2 p) (.node (o373_3 p) .nil .nil) .nil))))
def t3_7 (p : Params) : BT := (.node (o22_1 p) (.node (o38_1 p) (.node (o70_1 p) (.node (o134_2 p) (.node (o262_3 p) .nil .nil) (.node (o390_3 p) .nil .nil)) (.node (o198_2 p) (.node (o326_3 p) .nil .nil) (.node (o454_3 p) .nil .nil))) (.node (o102_1 p) (.node (o166_2 p) (.node (o294_3 p) .nil .nil) (.node (o422_3 p) .nil .nil)) (.node (o230_2 p) (.node (o358_3 p) .nil .nil) (.node (o486_3 p) .nil .nil)))) (.node (o54_1 p) (.node (o86_1 p) (.node (o150_2 p) (.node (o278_3 p) .nil .nil) (.node (o406_3 p) .nil .nil)) (.node (o214_2 p) (.node (o342_3 p) .nil .nil) (.node (o470_3 p) .nil .nil))) (.node (o118_1 p) (.node (o182_2 p) (.node (o310_3 p) .nil .nil) (.node (o438_3 p) .nil .nil)) (.node (o246_2 p) (.node (o374_3 p) .nil .nil) .nil))))
def t3_8 (p : Params) : BT := (.node (o23_1 p) (.node (o39_1 p) (.node (o71_1 p) (.node (o135_2 p) (.node (o263_3 p) .nil .nil) (.node (o391_3 p) .nil .nil)) (.node (o199_2 p) (.node (o327_3 p) .nil .nil) (.node (o455_3 p) .nil .nil))) (.node (o103_1 p) (.node (o167_2 p) (.node (o295_3 p) .nil .nil) (.node (o423_3 p) .nil .nil)) (.node (o231_2 p) (.node (o359_3 p) .nil .nil) .nil))) (.node (o55_1 p) (.node (o87_1 p) (.node (o151_2 p) (.node (o279_3 p) .nil .nil) (.node (o407_3 p) .nil .nil)) (.node (o215_2 p) (.node (o343_3 p) .nil .nil) (.node (o471_3 p) .nil .nil))) (.node (o119_1 p) (.node (o183_2 p) (.node (o311_3 p) .nil .nil) (.node (o439_3 p) .nil .nil)) (.node (o247_2 p) (.node (o375_3 p) .nil .nil) .nil))))
def t3_9 (p : Params) : BT := (.node (o24_1 p) (.node (o40_1 p) (.node (o72_1 p) (.node (o136_2 p) (.node (o264_3 p) .nil .nil) (.node (o392_3 p) .nil .nil)) (.node (o200_2 p) (.node (o328_3 p) .nil .nil) (.node (o456_3 p) .nil .nil))) (.node (o104_1 p) (.node (o168_2 p) (.node (o296_3 p) .nil .nil) (.node (o424_3 p) .nil .nil)) (.node (o232_2 p) (.node (o360_3 p) .nil .nil) .nil))) (.node (o56_1 p) (.node (o88_1 p) (.node (o152_2 p) (.node (o280_3 p) .nil .nil) (.node (o408_3 p) .nil .nil)) (.node (o216_2 p) (.node (o344_3 p) .nil .nil) (.node (o472_3 p) .nil .nil))) (.node (o120_1 p) (.node (o184_2 p) (.node (o312_3 p) .nil .nil) (.node (o440_3 p) .nil .nil)) (.node (o248_2 p) (.node (o376_3 p) .nil .nil) .nil))))
def t3_10 (p : Params) : BT := (.node (o25_1 p) (.node (o41_1 p) (.node (o73_1 p) (.node (o137_2 p) (.node (o265_3 p) .nil .nil) (.node (o393_3 p) .nil .nil)) (.node (o201_2 p) (.node (o329_3 p) .nil .nil) (.node (o457_3 p) .nil .nil))) (.node (o105_1 p) (.node (o169_2 p) (.node (o297_3 p) .nil .nil) (.node (o425_3 p) .nil .nil)) (.node (o233_2 p) (.node (o361_3 p) .nil .nil) .nil))) (.node (o57_1 p) (.node (o89_1 p) (.node (o153_2 p) (.node (o281_3 p) .nil .nil) (.node (o409_3 p) .nil .nil)) (.node (o217_2 p) (.node (o345_3 p) .nil .nil) (.node (o473_3 p) .nil .nil))) (.node (o121_1 p) (.node (o185_2 p) (.node (o313_3 p) .nil .nil) (.node (o441_3 p) .nil .nil)) (.node (o249_2 p) (.node (o377_3 p) .nil .nil) .nil))))
def t3_11 (p : Params) : BT := (.node (o26_1 p) (.node (o42_1 p) (.node (o74_1 p) (.node (o138_2 p) (.node (o266_3 p) .nil .nil) (.node (o394_3 p) .nil .nil)) (.node (o202_2 p) (.node (o330_3 p) .nil .nil) (.node (o458_3 p) .nil .nil))) (.node (o106_1 p) (.node (o170_2 p) (.node (o298_3 p) .nil .nil) (.node (o426_3 p) .nil .nil)) (.node (o234_2 p) (.node (o362_3 p) .nil .nil) .nil))) (.node (o58_1 p) (.node (o90_1 p) (.node (o154_2 p) (.node (o282_3 p) .nil .nil) (.node (o410_3 p) .nil .nil)) (.node (o218_2 p) (.node (o346_3 p) .nil .nil) (.node (o474_3 p) .nil .nil))) (.node (o122_1 p) (.node (o186_2 p) (.node (o314_3 p) .nil .nil) (.node (o442_3 p) .nil .nil)) (.node (o250_2 p) (.node (o378_3 p) .nil .nil) .nil))))
def t3_12 (p : Params) : BT := (.node (o27_1 p) (.node (o43_1 p) (.node (o75_1 p) (.node (o139_2 p) (.node (o267_3 p) .nil .nil) (.node (o395_3 p) .nil .nil)) (.node (o203_2 p) (.node (o331_3 p) .nil .nil) (.node (o459_3 p) .nil .nil))) (.node (o107_1 p) (.node (o171_2 p) (.node (o299_3 p) .nil .nil) (.node (o427_3 p) .nil .nil)) (.node (o235_2 p) (.node (o363_3 p) .nil .nil) .nil))) (.node (o59_1 p) (.node (o91_1 p) (.node (o155_2 p) (.node (o283_3 p) .nil .nil) (.node (o411_3 p) .nil .nil)) (.node (o219_2 p) (.node (o347_3 p) .nil .nil) (.node (o475_3 p) .nil .nil))) (.node (o123_1 p) (.node (o187_2 p) (.node (o315_3 p) .nil .nil) (.node (o443_3 p) .nil .nil)) (.node (o251_2 p) (.node (o379_3 p) .nil .nil) .nil))))
def t3_13 (p : Params) : BT := (.node (o28_1 p) (.node (o44_1 p) (.node (o76_1 p) (.node (o140_2 p) (.node (o268_3 p) .nil .nil) (.node (o396_3 p) .nil .nil)) (.node (o204_2 p) (.node (o332_3 p) .nil .nil) (.node (o460_3 p) .nil .nil))) (.node (o108_1 p) (.node (o172_2 p) (.node (o300_3 p) .nil .nil) (.node (o428_3 p) .nil .nil)) (.node (o236_2 p) (.node (o364_3 p) .nil .nil) .nil))) (.node (o60_1 p) (.node (o92_1 p) (.node (o156_2 p) (.node (o284_3 p) .nil .nil) (.node (o412_3 p) .nil .nil)) (.node (o220_2 p) (.node (o348_3 p) .nil .nil) (.node (o476_3 p) .nil .nil))) (.node (o124_1 p) (.node (o188_2 p) (.node (o316_3 p) .nil .nil) (.node (o444_3 p) .nil .nil)) (.node (o252_2 p) (.node (o380_3 p) .nil .nil) .nil))))
def t3_14 (p : Params) : BT := (.node (o29_1 p) (.node (o45_1 p) (.node (o77_1 p) (.node (o141_2 p) (.node (o269_3 p) .nil .nil) (.node (o397_3 p) .nil .nil)) (.node (o205_2 p) (.node (o333_3 p) .nil .nil) (.node (o461_3 p) .nil .nil))) (.node (o109_1 p) (.node (o173_2 p) (.node (o301_3 p) .nil .nil) (.node (o429_3 p) .nil .nil)) (.node (o237_2 p) (.node (o365_3 p) .nil .nil) .nil))) (.node (o61_1 p) (.node (o93_1 p) (.node (o157_2 p) (.node (o285_3 p) .nil .nil) (.node (o413_3 p) .nil .nil)) (.node (o221_2 p) (.node (o349_3 p) .nil .nil) (.node (o477_3 p) .nil .nil))) (.node (o125_1 p) (.node (o189_2 p) (.node (o317_3 p) .nil .nil) (.node (o445_3 p) .nil .nil)) (.node (o253_2 p) (.node (o381_3 p) .nil .nil) .nil))))
def t3_15 (p : Params) : BT := (.node (o30_1 p) (.node (o46_1 p) (.node (o78_1 p) (.node (o142_2 p) (.node (o270_3 p) .nil .nil) (.node (o398_3 p) .nil .nil)) (.node (o206_2 p) (.node (o334_3 p) .nil .nil) (.node (o462_3 p) .nil .nil))) (.node (o110_1 p) (.node (o174_2 p) (.node (o302_3 p) .nil .nil) (.node (o430_3 p) .nil .nil)) (.node (o238_2 p) (.node (o366_3 p) .nil .nil) .nil))) (.node (o62_1 p) (.node (o94_1 p) (.node (o158_2 p) (.node (o286_3 p) .nil .nil) (.node (o414_3 p) .nil .nil)) (.node (o222_2 p) (.node (o350_3 p) .nil .nil) (.node (o478_3 p) .nil .nil))) (.node (o126_1 p) (.node (o190_2 p) (.node (o318_3 p) .nil .nil) (.node (o446_3 p) .nil .nil)) (.node (o254_3 p) (.node (o382_3 p) .nil .nil) .nil))))
def tree3 (p : Params) : BT := (.node (boot_o_0 p) (.node (boot_o_1 p) (.node (o3_3 p) (.node (boot_o_7 p) (t3_0 p) (t3_8 p)) (.node (o11_1 p) (t3_4 p) (t3_12 p))) (.node (boot_o_5 p) (.node (boot_o_9 p) (t3_2 p) (t3_10 p)) (.node (o13_1 p) (t3_6 p) (t3_14 p)))) (.node (boot_o_2 p) (.node (boot_o_4 p) (.node (boot_o_8 p) (t3_1 p) (t3_9 p)) (.node (o12_3 p) (t3_5 p) (t3_13 p))) (.node (boot_o_6 p) (.node (boot_o_10 p) (t3_3 p) (t3_11 p)) (.node (o14_1 p) (t3_7 p) (t3_15 p)))))
def st3 (w : World) (os : OsState) : SharedT := ⟨tree3 w.params, 487, (@PySem.Life.mk [] [] [] 0 [] [] Bool.false #[] [] 0 Bool.false Bool.false Bool.false (i 0) [(i 2000), (i 10), (i 10)] Bool.false 0 Bool.true [] [] 0 Bool.false), #[], (@PySem.Drawn.mk 0 0 0 0), 855, os⟩
def th3 : Thread := thrOf (pg.main.body.drop 35) envT codT (@PySem.Pos.mk 229 0 229 14) frT
theorem run3 (w : World) (os : OsState) : goS (stepQ (denQ tabQ) pg w) 11 (bootAnn w) 1559 (st2 w os) th2 = some (st3 w os, th3) := by kernel_rfl
def o3_4 (p : Params) : Obj := .mk (.type "dict") .none (dc [(e p "__name__" 165 (u "law_hourlanes_k50_lanes_built" 1382)), (e p "__doc__" 166 .none), (e p "__package__" 167 .none), (e p "__loader__" 168 (.builtin "__main__.__loader__#opaque")), (e p "__spec__" 169 .none), (e p "__annotations__" 170 (r 6)), (e p "__builtins__" 171 (r 4)), (e p "__file__" 173 (u "/claim/cut.py" 172)), (e p "__cached__" 174 .none), (e p "_wall" 193 (r 21)), (e p "LaneError" 213 (r 31)), (e p "NoJar" 229 (r 44)), (e p "NoTick" 245 (r 56)), (e p "NoLane" 261 (r 68)), (e p "NoName" 286 (r 87)), (e p "Taken" 311 (r 106)), (e p "Unknown" 336 (r 125)), (e p "NoWay" 361 (r 144)), (e p "NoLot" 386 (r 163)), (e p "TooMany" 413 (r 182)), (e p "TooMuch" 444 (r 201)), (e p "NoText" 469 (r 220)), (e p "NoBook" 494 (r 239)), (e p "carried" 502 (r 246)), (e p "joined" 515 (r 253)), (e p "Flow" 611 (r 321)), (e p "hours_of" 624 (r 332)), (e p "Lot" 693 (r 375)), (e p "LETTERS" 697 (u "abcdefghijklmnopqrstuvwxyz" 696)), (e p "GREATEST_names" 699 (@PySem.Value.int (i 1000000000) 698)), (e p "LEGS" 701 (@PySem.Value.int (i 4) 700)), (e p "is_name" 709 (r 386)), (e p "is_size" 716 (r 393)), (e p "wrong_at" 728 (r 400)), (e p "window" 740 (r 407)), (e p "Scene" 850 (r 482)), (e p "GREATEST_floor" 854 (@PySem.Value.int (i 1000000000) 853)), (e p "Floor" 1130 (r 686)), (e p "future" 1151 (r 697)), (e p "quiet" 1168 (r 704)), (e p "starts" 1174 (r 709)), (e p "ends" 1180 (r 714)), (e p "long_enough" 1188 (r 721)), (e p "over_from" 1194 (r 726)), (e p "over" 1200 (r 731)), (e p "need_room" 1208 (r 736)), (e p "House" 1381 (r 862)), (e p "_law_begun" 1389 (r 871)), (e p "_law_take" 1402 (r 878)), (e p "_law_pick" 1410 (r 885)), (e p "_law_names" 1416 (r 890)), (e p "_law_spoilt" 1426 (r 897)), (e p "_law_is_name" 1432 (r 902)), (e p "_law_alone" 1442 (r 909)), (e p "_law_done" 1452 (r 916)), (e p "_law_width" 1460 (r 923)), (e p "_law_word" 1466 (r 928)), (e p "law" 1472 (r 933))] 58) #[]
def o12_4 (p : Params) : Obj := .mk .none .none (@PySem.Data.fields (@List.toArray PySem.Value [(@PySem.Value.int (i 1) 0), (@PySem.Value.int (i 0) 0), (r 20), (@PySem.Value.int (i 5) 0), (@PySem.Value.int (i 0) 0), (r 27), (@PySem.Value.int (i 7) 0), (@PySem.Value.int (i 0) 0), (r 40), (@PySem.Value.int (i 9) 0), (@PySem.Value.int (i 0) 0), (r 52), (@PySem.Value.int (i 11) 0), (@PySem.Value.int (i 0) 0), (r 64), (@PySem.Value.int (i 13) 0), (@PySem.Value.int (i 0) 0), (r 76), (@PySem.Value.int (i 17) 0), (@PySem.Value.int (i 0) 0), (r 95), (@PySem.Value.int (i 21) 0), (@PySem.Value.int (i 0) 0), (r 114), (@PySem.Value.int (i 25) 0), (@PySem.Value.int (i 0) 0), (r 133), (@PySem.Value.int (i 29) 0), (@PySem.Value.int (i 0) 0), (r 152), (@PySem.Value.int (i 33) 0), (@PySem.Value.int (i 0) 0), (r 171), (@PySem.Value.int (i 38) 0), (@PySem.Value.int (i 0) 0), (r 190), (@PySem.Value.int (i 45) 0), (@PySem.Value.int (i 0) 0), (r 209), (@PySem.Value.int (i 49) 0), (@PySem.Value.int (i 0) 0), (r 228), (@PySem.Value.int (i 54) 0), (@PySem.Value.int (i 0) 0), (r 245), (@PySem.Value.int (i 63) 0), (@PySem.Value.int (i 0) 0), (r 252), (@PySem.Value.int (i 73) 0), (@PySem.Value.int (i 0) 0), (r 259), (@PySem.Value.int (i 124) 0), (@PySem.Value.int (i 0) 0), (r 331), (@PySem.Value.int (i 129) 0), (@PySem.Value.int (i 0) 0), (r 338), (@PySem.Value.int (i 167) 0), (@PySem.Value.int (i 0) 0), (r 385), (@PySem.Value.int (i 174) 0), (@PySem.Value.int (i 0) 0), (r 392), (@PySem.Value.int (i 176) 0), (@PySem.Value.int (i 0) 0), (r 399), (@PySem.Value.int (i 186) 0), (@PySem.Value.int (i 0) 0), (r 406), (@PySem.Value.int (i 189) 0), (@PySem.Value.int (i 0) 0), (r 413), (@PySem.Value.int (i 230) 0), (@PySem.Value.int (i 0) 0), (r 492), (@PySem.Value.int (i 368) 0), (@PySem.Value.int (i 0) 0), (r 696), (@PySem.Value.int (i 376) 0), (@PySem.Value.int (i 0) 0), (r 703), (@PySem.Value.int (i 384) 0), (@PySem.Value.int (i 0) 0), (r 708), (@PySem.Value.int (i 386) 0), (@PySem.Value.int (i 0) 0), (r 713), (@PySem.Value.int (i 398) 0), (@PySem.Value.int (i 0) 0), (r 720), (@PySem.Value.int (i 403) 0), (@PySem.Value.int (i 0) 0), (r 725), (@PySem.Value.int (i 414) 0), (@PySem.Value.int (i 0) 0), (r 730), (@PySem.Value.int (i 423) 0), (@PySem.Value.int (i 0) 0), (r 735), (@PySem.Value.int (i 432) 0), (@PySem.Value.int (i 0) 0), (r 742), (@PySem.Value.int (i 524) 0), (@PySem.Value.int (i 0) 0), (r 870), (@PySem.Value.int (i 526) 0), (@PySem.Value.int (i 0) 0), (r 877), (@PySem.Value.int (i 540) 0), (@PySem.Value.int (i 0) 0), (r 884), (@PySem.Value.int (i 542) 0), (@PySem.Value.int (i 0) 0), (r 889), (@PySem.Value.int (i 554) 0), (@PySem.Value.int (i 0) 0), (r 896), (@PySem.Value.int (i 558) 0), (@PySem.Value.int (i 0) 0), (r 901), (@PySem.Value.int (i 560) 0), (@PySem.Value.int (i 0) 0), (r 908), (@PySem.Value.int (i 576) 0), (@PySem.Value.int (i 0) 0), (r 915), (@PySem.Value.int (i 583) 0), (@PySem.Value.int (i 0) 0), (r 922), (@PySem.Value.int (i 586) 0), (@PySem.Value.int (i 0) 0), (r 927), (@PySem.Value.int (i 594) 0), (@PySem.Value.int (i 0) 0), (r 932)])) #[]
def o487_4 (p : Params) : Obj := .mk (.type "tuple") .none (@PySem.Data.seq #[] 0) #[]
def o488_4 (p : Params) : Obj := .mk (.type "builtin_function_or_method") .none (@PySem.Data.fields (@List.toArray PySem.Value [(.builtin "type.__prepare__"), (.type "type")])) #[]
def o489_4 (p : Params) : Obj := .mk (.type "dict") .none (dc [(e p "__module__" 862 (u "hourlanes.floor" 851)), (e p "__qualname__" 864 (u "Floor" 863)), (e p "__firstlineno__" 866 (@PySem.Value.int (i 230) 865)), (e p "__init__" 873 (r 500)), (e p "need_lane" 881 (r 507)), (e p "need_stream" 889 (r 514)), (e p "need_width" 897 (r 521)), (e p "need_new" 906 (r 528)), (e p "need_way" 915 (r 535)), (e p "need_build" 924 (r 542)), (e p "need_in" 933 (r 549)), (e p "need_turn" 942 (r 556)), (e p "need_widen" 951 (r 563)), (e p "need_shut" 960 (r 570)), (e p "add_lane" 969 (r 577)), (e p "turned_flow" 978 (r 584)), (e p "terms_with" 984 (r 589)), (e p "set_terms" 992 (r 596)), (e p "drop_terms" 1000 (r 603)), (e p "set_width" 1009 (r 610)), (e p "opens_of" 1017 (r 617)), (e p "opens_by" 1026 (r 624)), (e p "set_shut" 1035 (r 631)), (e p "scene_by" 1053 (r 638)), (e p "need_comings" 1064 (r 645)), (e p "bring" 1078 (r 652)), (e p "at_lane" 1090 (r 659)), (e p "is_open" 1098 (r 666)), (e p "is_late" 1105 (r 673)), (e p "outs" 1111 (r 678)), (e p "go_on" 1117 (r 683)), (e p "__static_attributes__" 1123 (r 684))] 32) #[]
def o490_4 (p : Params) : Obj := .mk (.type "tuple") .none (@PySem.Data.seq #[] 0) #[]
def o491_4 (p : Params) : Obj := .mk .none .none (@PySem.Data.fields (@List.toArray PySem.Value [(@PySem.Value.int (i 232) 0), (@PySem.Value.int (i 4) 0), (r 499), (@PySem.Value.int (i 239) 0), (@PySem.Value.int (i 4) 0), (r 506), (@PySem.Value.int (i 243) 0), (@PySem.Value.int (i 4) 0), (r 513), (@PySem.Value.int (i 247) 0), (@PySem.Value.int (i 4) 0), (r 520), (@PySem.Value.int (i 251) 0), (@PySem.Value.int (i 4) 0), (r 527), (@PySem.Value.int (i 257) 0), (@PySem.Value.int (i 4) 0), (r 534), (@PySem.Value.int (i 262) 0), (@PySem.Value.int (i 4) 0), (r 541), (@PySem.Value.int (i 266) 0), (@PySem.Value.int (i 4) 0), (r 548), (@PySem.Value.int (i 269) 0), (@PySem.Value.int (i 4) 0), (r 555), (@PySem.Value.int (i 273) 0), (@PySem.Value.int (i 4) 0), (r 562), (@PySem.Value.int (i 276) 0), (@PySem.Value.int (i 4) 0), (r 569), (@PySem.Value.int (i 281) 0), (@PySem.Value.int (i 4) 0), (r 576), (@PySem.Value.int (i 285) 0), (@PySem.Value.int (i 4) 0), (r 583), (@PySem.Value.int (i 288) 0), (@PySem.Value.int (i 4) 0), (r 588), (@PySem.Value.int (i 293) 0), (@PySem.Value.int (i 4) 0), (r 595), (@PySem.Value.int (i 296) 0), (@PySem.Value.int (i 4) 0), (r 602), (@PySem.Value.int (i 299) 0), (@PySem.Value.int (i 4) 0), (r 609), (@PySem.Value.int (i 302) 0), (@PySem.Value.int (i 4) 0), (r 616), (@PySem.Value.int (i 305) 0), (@PySem.Value.int (i 4) 0), (r 623), (@PySem.Value.int (i 308) 0), (@PySem.Value.int (i 4) 0), (r 630), (@PySem.Value.int (i 311) 0), (@PySem.Value.int (i 4) 0), (r 637), (@PySem.Value.int (i 325) 0), (@PySem.Value.int (i 4) 0), (r 644), (@PySem.Value.int (i 334) 0), (@PySem.Value.int (i 4) 0), (r 651), (@PySem.Value.int (i 347) 0), (@PySem.Value.int (i 4) 0), (r 658), (@PySem.Value.int (i 355) 0), (@PySem.Value.int (i 4) 0), (r 665), (@PySem.Value.int (i 358) 0), (@PySem.Value.int (i 4) 0), (r 672), (@PySem.Value.int (i 361) 0), (@PySem.Value.int (i 4) 0), (r 677), (@PySem.Value.int (i 364) 0), (@PySem.Value.int (i 4) 0), (r 682)])) #[]
def o492_4 (p : Params) : Obj := .mk (.type "code") .none (@PySem.Data.fields (@List.toArray PySem.Value [(u "Floor" 857), (u "Floor" 858), (u "/claim/cut.py" 859), (@PySem.Value.int (i 230) 0), (@PySem.Value.int (i 0) 0), (@PySem.Value.int (i 0) 0), (@PySem.Value.int (i 0) 0), (@PySem.Value.int (i 0) 0), (r 490), (@PySem.Value.bool Bool.false), (@PySem.Value.int (i 181) 0), (r 491), .none, .none, .none, .none, (@PySem.Value.int (i 860) 0), (@PySem.Value.int (i 230) 0), (u "/claim/cut.py" 861)])) #[]
def o493_4 (p : Params) : Obj := .mk (.type "frame") .none PySem.Data.plain (@List.toArray (@Option PySem.Value) [(.some (r 492)), (.some (r 3)), (.some (r 489)), .none, (.some (u "hourlanes.floor" 851)), .none, (.some (r 0))])
def o494_4 (p : Params) : Obj := .mk (.type "tuple") .none (@PySem.Data.seq #[] 0) #[]
def o495_4 (p : Params) : Obj := .mk .none .none (@PySem.Data.fields #[]) #[]
def o496_4 (p : Params) : Obj := .mk (.type "tuple") .none (@PySem.Data.seq (@List.toArray PySem.Value [(u "self" 870)]) 0) #[]
def o497_4 (p : Params) : Obj := .mk (.type "tuple") .none (@PySem.Data.seq #[] 0) #[]
def o498_4 (p : Params) : Obj := .mk .none .none (.func (.mk (s "__init__") (s "Floor.__init__") (defArgs (inClass (tp 35) 0)) (.stmts (defBody (inClass (tp 35) 0))) (defScope (inClass (tp 35) 0)) 0 [] .none .none .none .none .none .none .none 0)) #[]
def o499_4 (p : Params) : Obj := .mk (.type "code") .none (@PySem.Data.fields (@List.toArray PySem.Value [(u "__init__" 867), (u "Floor.__init__" 868), (u "/claim/cut.py" 869), (@PySem.Value.int (i 232) 0), (@PySem.Value.int (i 1) 0), (@PySem.Value.int (i 0) 0), (@PySem.Value.int (i 0) 0), (@PySem.Value.int (i 3) 0), (r 494), (@PySem.Value.bool Bool.true), (@PySem.Value.int (i 181) 0), (r 495), .none, (r 496), (r 497), (r 498), (@PySem.Value.int (i 871) 0), (@PySem.Value.int (i 232) 0), (u "/claim/cut.py" 872)])) #[]
def o500_4 (p : Params) : Obj := .mk (.type "function") .none (.func (.mk (s "__init__") (s "Floor.__init__") (defArgs (inClass (tp 35) 0)) (.stmts (defBody (inClass (tp 35) 0))) (defScope (inClass (tp 35) 0)) 3 [] .none .none .none (u "hourlanes.floor" 851) .none (r 499) .none 0)) #[]
def o501_4 (p : Params) : Obj := .mk (.type "tuple") .none (@PySem.Data.seq #[] 0) #[]
def o502_4 (p : Params) : Obj := .mk .none .none (@PySem.Data.fields #[]) #[]
def o503_4 (p : Params) : Obj := .mk (.type "tuple") .none (@PySem.Data.seq (@List.toArray PySem.Value [(u "self" 877), (u "lane" 878)]) 0) #[]
def o504_4 (p : Params) : Obj := .mk (.type "tuple") .none (@PySem.Data.seq #[] 0) #[]
def o505_4 (p : Params) : Obj := .mk .none .none (.func (.mk (s "need_lane") (s "Floor.need_lane") (defArgs (inClass (tp 35) 1)) (.stmts (defBody (inClass (tp 35) 1))) (defScope (inClass (tp 35) 1)) 0 [] .none .none .none .none .none .none .none 0)) #[]
def o506_4 (p : Params) : Obj := .mk (.type "code") .none (@PySem.Data.fields (@List.toArray PySem.Value [(u "need_lane" 874), (u "Floor.need_lane" 875), (u "/claim/cut.py" 876), (@PySem.Value.int (i 239) 0), (@PySem.Value.int (i 2) 0), (@PySem.Value.int (i 0) 0), (@PySem.Value.int (i 0) 0), (@PySem.Value.int (i 3) 0), (r 501), (@PySem.Value.bool Bool.true), (@PySem.Value.int (i 181) 0), (r 502), .none, (r 503), (r 504), (r 505), (@PySem.Value.int (i 879) 0), (@PySem.Value.int (i 239) 0), (u "/claim/cut.py" 880)])) #[]
def o507_4 (p : Params) : Obj := .mk (.type "function") .none (.func (.mk (s "need_lane") (s "Floor.need_lane") (defArgs (inClass (tp 35) 1)) (.stmts (defBody (inClass (tp 35) 1))) (defScope (inClass (tp 35) 1)) 3 [] .none .none .none (u "hourlanes.floor" 851) .none (r 506) .none 0)) #[]
def o508_4 (p : Params) : Obj := .mk (.type "tuple") .none (@PySem.Data.seq #[] 0) #[]
def o509_4 (p : Params) : Obj := .mk .none .none (@PySem.Data.fields #[]) #[]
def o510_4 (p : Params) : Obj := .mk (.type "tuple") .none (@PySem.Data.seq (@List.toArray PySem.Value [(u "self" 885), (u "name" 886)]) 0) #[]
def o511_4 (p : Params) : Obj := .mk (.type "tuple") .none (@PySem.Data.seq #[] 0) #[]
def o512_4 (p : Params) : Obj := .mk .none .none (.func (.mk (s "need_stream") (s "Floor.need_stream") (defArgs (inClass (tp 35) 2)) (.stmts (defBody (inClass (tp 35) 2))) (defScope (inClass (tp 35) 2)) 0 [] .none .none .none .none .none .none .none 0)) #[]
def o513_4 (p : Params) : Obj := .mk (.type "code") .none (@PySem.Data.fields (@List.toArray PySem.Value [(u "need_stream" 882), (u "Floor.need_stream" 883), (u "/claim/cut.py" 884), (@PySem.Value.int (i 243) 0), (@PySem.Value.int (i 2) 0), (@PySem.Value.int (i 0) 0), (@PySem.Value.int (i 0) 0), (@PySem.Value.int (i 3) 0), (r 508), (@PySem.Value.bool Bool.true), (@PySem.Value.int (i 181) 0), (r 509), .none, (r 510), (r 511), (r 512), (@PySem.Value.int (i 887) 0), (@PySem.Value.int (i 243) 0), (u "/claim/cut.py" 888)])) #[]
def o514_4 (p : Params) : Obj := .mk (.type "function") .none (.func (.mk (s "need_stream") (s "Floor.need_stream") (defArgs (inClass (tp 35) 2)) (.stmts (defBody (inClass (tp 35) 2))) (defScope (inClass (tp 35) 2)) 3 [] .none .none .none (u "hourlanes.floor" 851) .none (r 513) .none 0)) #[]
def o515_4 (p : Params) : Obj := .mk (.type "tuple") .none (@PySem.Data.seq #[] 0) #[]
def o516_4 (p : Params) : Obj := .mk .none .none (@PySem.Data.fields #[]) #[]
def o517_4 (p : Params) : Obj := .mk (.type "tuple") .none (@PySem.Data.seq (@List.toArray PySem.Value [(u "self" 893), (u "width" 894)]) 0) #[]
def o518_4 (p : Params) : Obj := .mk (.type "tuple") .none (@PySem.Data.seq #[] 0) #[]
def o519_4 (p : Params) : Obj := .mk .none .none (.func (.mk (s "need_width") (s "Floor.need_width") (defArgs (inClass (tp 35) 3)) (.stmts (defBody (inClass (tp 35) 3))) (defScope (inClass (tp 35) 3)) 0 [] .none .none .none .none .none .none .none 0)) #[]
def o520_4 (p : Params) : Obj := .mk (.type "code") .none (@PySem.Data.fields (@List.toArray PySem.Value [(u "need_width" 890), (u "Floor.need_width" 891), (u "/claim/cut.py" 892), (@PySem.Value.int (i 247) 0), (@PySem.Value.int (i 2) 0), (@PySem.Value.int (i 0) 0), (@PySem.Value.int (i 0) 0), (@PySem.Value.int (i 3) 0), (r 515), (@PySem.Value.bool Bool.true), (@PySem.Value.int (i 181) 0), (r 516), .none, (r 517), (r 518), (r 519), (@PySem.Value.int (i 895) 0), (@PySem.Value.int (i 247) 0), (u "/claim/cut.py" 896)])) #[]
def o521_4 (p : Params) : Obj := .mk (.type "function") .none (.func (.mk (s "need_width") (s "Floor.need_width") (defArgs (inClass (tp 35) 3)) (.stmts (defBody (inClass (tp 35) 3))) (defScope (inClass (tp 35) 3)) 3 [] .none .none .none (u "hourlanes.floor" 851) .none (r 520) .none 0)) #[]
def o522_4 (p : Params) : Obj := .mk (.type "tuple") .none (@PySem.Data.seq #[] 0) #[]
def o523_4 (p : Params) : Obj := .mk .none .none (@PySem.Data.fields #[]) #[]
def o524_4 (p : Params) : Obj := .mk (.type "tuple") .none (@PySem.Data.seq (@List.toArray PySem.Value [(u "self" 901), (u "name" 902), (u "taken" 903)]) 0) #[]
def o525_4 (p : Params) : Obj := .mk (.type "tuple") .none (@PySem.Data.seq #[] 0) #[]
def o526_4 (p : Params) : Obj := .mk .none .none (.func (.mk (s "need_new") (s "Floor.need_new") (defArgs (inClass (tp 35) 4)) (.stmts (defBody (inClass (tp 35) 4))) (defScope (inClass (tp 35) 4)) 0 [] .none .none .none .none .none .none .none 0)) #[]
def o527_4 (p : Params) : Obj := .mk (.type "code") .none (@PySem.Data.fields (@List.toArray PySem.Value [(u "need_new" 898), (u "Floor.need_new" 899), (u "/claim/cut.py" 900), (@PySem.Value.int (i 251) 0), (@PySem.Value.int (i 3) 0), (@PySem.Value.int (i 0) 0), (@PySem.Value.int (i 0) 0), (@PySem.Value.int (i 3) 0), (r 522), (@PySem.Value.bool Bool.true), (@PySem.Value.int (i 181) 0), (r 523), .none, (r 524), (r 525), (r 526), (@PySem.Value.int (i 904) 0), (@PySem.Value.int (i 251) 0), (u "/claim/cut.py" 905)])) #[]
def o528_4 (p : Params) : Obj := .mk (.type "function") .none (.func (.mk (s "need_new") (s "Floor.need_new") (defArgs (inClass (tp 35) 4)) (.stmts (defBody (inClass (tp 35) 4))) (defScope (inClass (tp 35) 4)) 3 [] .none .none .none (u "hourlanes.floor" 851) .none (r 527) .none 0)) #[]
def o529_4 (p : Params) : Obj := .mk (.type "tuple") .none (@PySem.Data.seq #[] 0) #[]
def o530_4 (p : Params) : Obj := .mk .none .none (@PySem.Data.fields #[]) #[]
def o531_4 (p : Params) : Obj := .mk (.type "tuple") .none (@PySem.Data.seq (@List.toArray PySem.Value [(u "self" 910), (u "way" 911), (u "place" 912)]) 0) #[]
def o532_4 (p : Params) : Obj := .mk (.type "tuple") .none (@PySem.Data.seq #[] 0) #[]
def o533_4 (p : Params) : Obj := .mk .none .none (.func (.mk (s "need_way") (s "Floor.need_way") (defArgs (inClass (tp 35) 5)) (.stmts (defBody (inClass (tp 35) 5))) (defScope (inClass (tp 35) 5)) 0 [] .none .none .none .none .none .none .none 0)) #[]
def o534_4 (p : Params) : Obj := .mk (.type "code") .none (@PySem.Data.fields (@List.toArray PySem.Value [(u "need_way" 907), (u "Floor.need_way" 908), (u "/claim/cut.py" 909), (@PySem.Value.int (i 257) 0), (@PySem.Value.int (i 2) 0), (@PySem.Value.int (i 0) 0), (@PySem.Value.int (i 0) 0), (@PySem.Value.int (i 3) 0), (r 529), (@PySem.Value.bool Bool.true), (@PySem.Value.int (i 181) 0), (r 530), .none, (r 531), (r 532), (r 533), (@PySem.Value.int (i 913) 0), (@PySem.Value.int (i 257) 0), (u "/claim/cut.py" 914)])) #[]
def o535_4 (p : Params) : Obj := .mk (.type "function") .none (.func (.mk (s "need_way") (s "Floor.need_way") (defArgs (inClass (tp 35) 5)) (.stmts (defBody (inClass (tp 35) 5))) (defScope (inClass (tp 35) 5)) 3 [] .none .none .none (u "hourlanes.floor" 851) .none (r 534) .none 0)) #[]
def o536_4 (p : Params) : Obj := .mk (.type "tuple") .none (@PySem.Data.seq #[] 0) #[]
def o537_4 (p : Params) : Obj := .mk .none .none (@PySem.Data.fields #[]) #[]
def o538_4 (p : Params) : Obj := .mk (.type "tuple") .none (@PySem.Data.seq (@List.toArray PySem.Value [(u "self" 919), (u "name" 920), (u "width" 921)]) 0) #[]
def o539_4 (p : Params) : Obj := .mk (.type "tuple") .none (@PySem.Data.seq #[] 0) #[]
def o540_4 (p : Params) : Obj := .mk .none .none (.func (.mk (s "need_build") (s "Floor.need_build") (defArgs (inClass (tp 35) 6)) (.stmts (defBody (inClass (tp 35) 6))) (defScope (inClass (tp 35) 6)) 0 [] .none .none .none .none .none .none .none 0)) #[]
def o541_4 (p : Params) : Obj := .mk (.type "code") .none (@PySem.Data.fields (@List.toArray PySem.Value [(u "need_build" 916), (u "Floor.need_build" 917), (u "/claim/cut.py" 918), (@PySem.Value.int (i 262) 0), (@PySem.Value.int (i 3) 0), (@PySem.Value.int (i 0) 0), (@PySem.Value.int (i 0) 0), (@PySem.Value.int (i 3) 0), (r 536), (@PySem.Value.bool Bool.true), (@PySem.Value.int (i 181) 0), (r 537), .none, (r 538), (r 539), (r 540), (@PySem.Value.int (i 922) 0), (@PySem.Value.int (i 262) 0), (u "/claim/cut.py" 923)])) #[]
def o542_4 (p : Params) : Obj := .mk (.type "function") .none (.func (.mk (s "need_build") (s "Floor.need_build") (defArgs (inClass (tp 35) 6)) (.stmts (defBody (inClass (tp 35) 6))) (defScope (inClass (tp 35) 6)) 3 [] .none .none .none (u "hourlanes.floor" 851) .none (r 541) .none 0)) #[]
def o543_4 (p : Params) : Obj := .mk (.type "tuple") .none (@PySem.Data.seq #[] 0) #[]
def o544_4 (p : Params) : Obj := .mk .none .none (@PySem.Data.fields #[]) #[]
def o545_4 (p : Params) : Obj := .mk (.type "tuple") .none (@PySem.Data.seq (@List.toArray PySem.Value [(u "self" 928), (u "name" 929), (u "way" 930)]) 0) #[]
def o546_4 (p : Params) : Obj := .mk (.type "tuple") .none (@PySem.Data.seq #[] 0) #[]
def o547_4 (p : Params) : Obj := .mk .none .none (.func (.mk (s "need_in") (s "Floor.need_in") (defArgs (inClass (tp 35) 7)) (.stmts (defBody (inClass (tp 35) 7))) (defScope (inClass (tp 35) 7)) 0 [] .none .none .none .none .none .none .none 0)) #[]
def o548_4 (p : Params) : Obj := .mk (.type "code") .none (@PySem.Data.fields (@List.toArray PySem.Value [(u "need_in" 925), (u "Floor.need_in" 926), (u "/claim/cut.py" 927), (@PySem.Value.int (i 266) 0), (@PySem.Value.int (i 3) 0), (@PySem.Value.int (i 0) 0), (@PySem.Value.int (i 0) 0), (@PySem.Value.int (i 3) 0), (r 543), (@PySem.Value.bool Bool.true), (@PySem.Value.int (i 181) 0), (r 544), .none, (r 545), (r 546), (r 547), (@PySem.Value.int (i 931) 0), (@PySem.Value.int (i 266) 0), (u "/claim/cut.py" 932)])) #[]
def o549_4 (p : Params) : Obj := .mk (.type "function") .none (.func (.mk (s "need_in") (s "Floor.need_in") (defArgs (inClass (tp 35) 7)) (.stmts (defBody (inClass (tp 35) 7))) (defScope (inClass (tp 35) 7)) 3 [] .none .none .none (u "hourlanes.floor" 851) .none (r 548) .none 0)) #[]
def o550_4 (p : Params) : Obj := .mk (.type "tuple") .none (@PySem.Data.seq #[] 0) #[]
def o551_4 (p : Params) : Obj := .mk .none .none (@PySem.Data.fields #[]) #[]
def o552_4 (p : Params) : Obj := .mk (.type "tuple") .none (@PySem.Data.seq (@List.toArray PySem.Value [(u "self" 937), (u "name" 938), (u "way" 939)]) 0) #[]
def o553_4 (p : Params) : Obj := .mk (.type "tuple") .none (@PySem.Data.seq #[] 0) #[]
def o554_4 (p : Params) : Obj := .mk .none .none (.func (.mk (s "need_turn") (s "Floor.need_turn") (defArgs (inClass (tp 35) 8)) (.stmts (defBody (inClass (tp 35) 8))) (defScope (inClass (tp 35) 8)) 0 [] .none .none .none .none .none .none .none 0)) #[]
def o555_4 (p : Params) : Obj := .mk (.type "code") .none (@PySem.Data.fields (@List.toArray PySem.Value [(u "need_turn" 934), (u "Floor.need_turn" 935), (u "/claim/cut.py" 936), (@PySem.Value.int (i 269) 0), (@PySem.Value.int (i 3) 0), (@PySem.Value.int (i 0) 0), (@PySem.Value.int (i 0) 0), (@PySem.Value.int (i 3) 0), (r 550), (@PySem.Value.bool Bool.true), (@PySem.Value.int (i 181) 0), (r 551), .none, (r 552), (r 553), (r 554), (@PySem.Value.int (i 940) 0), (@PySem.Value.int (i 269) 0), (u "/claim/cut.py" 941)])) #[]
def o556_4 (p : Params) : Obj := .mk (.type "function") .none (.func (.mk (s "need_turn") (s "Floor.need_turn") (defArgs (inClass (tp 35) 8)) (.stmts (defBody (inClass (tp 35) 8))) (defScope (inClass (tp 35) 8)) 3 [] .none .none .none (u "hourlanes.floor" 851) .none (r 555) .none 0)) #[]
def o557_4 (p : Params) : Obj := .mk (.type "tuple") .none (@PySem.Data.seq #[] 0) #[]
def o558_4 (p : Params) : Obj := .mk .none .none (@PySem.Data.fields #[]) #[]
def o559_4 (p : Params) : Obj := .mk (.type "tuple") .none (@PySem.Data.seq (@List.toArray PySem.Value [(u "self" 946), (u "lane" 947), (u "width" 948)]) 0) #[]
def o560_4 (p : Params) : Obj := .mk (.type "tuple") .none (@PySem.Data.seq #[] 0) #[]
def o561_4 (p : Params) : Obj := .mk .none .none (.func (.mk (s "need_widen") (s "Floor.need_widen") (defArgs (inClass (tp 35) 9)) (.stmts (defBody (inClass (tp 35) 9))) (defScope (inClass (tp 35) 9)) 0 [] .none .none .none .none .none .none .none 0)) #[]
def o562_4 (p : Params) : Obj := .mk (.type "code") .none (@PySem.Data.fields (@List.toArray PySem.Value [(u "need_widen" 943), (u "Floor.need_widen" 944), (u "/claim/cut.py" 945), (@PySem.Value.int (i 273) 0), (@PySem.Value.int (i 3) 0), (@PySem.Value.int (i 0) 0), (@PySem.Value.int (i 0) 0), (@PySem.Value.int (i 3) 0), (r 557), (@PySem.Value.bool Bool.true), (@PySem.Value.int (i 181) 0), (r 558), .none, (r 559), (r 560), (r 561), (@PySem.Value.int (i 949) 0), (@PySem.Value.int (i 273) 0), (u "/claim/cut.py" 950)])) #[]
def o563_4 (p : Params) : Obj := .mk (.type "function") .none (.func (.mk (s "need_widen") (s "Floor.need_widen") (defArgs (inClass (tp 35) 9)) (.stmts (defBody (inClass (tp 35) 9))) (defScope (inClass (tp 35) 9)) 3 [] .none .none .none (u "hourlanes.floor" 851) .none (r 562) .none 0)) #[]
def o564_4 (p : Params) : Obj := .mk (.type "tuple") .none (@PySem.Data.seq #[] 0) #[]
def o565_4 (p : Params) : Obj := .mk .none .none (@PySem.Data.fields #[]) #[]
def o566_4 (p : Params) : Obj := .mk (.type "tuple") .none (@PySem.Data.seq (@List.toArray PySem.Value [(u "self" 955), (u "lane" 956), (u "ticks" 957)]) 0) #[]
def o567_4 (p : Params) : Obj := .mk (.type "tuple") .none (@PySem.Data.seq #[] 0) #[]
def o568_4 (p : Params) : Obj := .mk .none .none (.func (.mk (s "need_shut") (s "Floor.need_shut") (defArgs (inClass (tp 35) 10)) (.stmts (defBody (inClass (tp 35) 10))) (defScope (inClass (tp 35) 10)) 0 [] .none .none .none .none .none .none .none 0)) #[]
def o569_4 (p : Params) : Obj := .mk (.type "code") .none (@PySem.Data.fields (@List.toArray PySem.Value [(u "need_shut" 952), (u "Floor.need_shut" 953), (u "/claim/cut.py" 954), (@PySem.Value.int (i 276) 0), (@PySem.Value.int (i 3) 0), (@PySem.Value.int (i 0) 0), (@PySem.Value.int (i 0) 0), (@PySem.Value.int (i 3) 0), (r 564), (@PySem.Value.bool Bool.true), (@PySem.Value.int (i 181) 0), (r 565), .none, (r 566), (r 567), (r 568), (@PySem.Value.int (i 958) 0), (@PySem.Value.int (i 276) 0), (u "/claim/cut.py" 959)])) #[]
def o570_4 (p : Params) : Obj := .mk (.type "function") .none (.func (.mk (s "need_shut") (s "Floor.need_shut") (defArgs (inClass (tp 35) 10)) (.stmts (defBody (inClass (tp 35) 10))) (defScope (inClass (tp 35) 10)) 3 [] .none .none .none (u "hourlanes.floor" 851) .none (r 569) .none 0)) #[]
def o571_4 (p : Params) : Obj := .mk (.type "tuple") .none (@PySem.Data.seq #[] 0) #[]
def o572_4 (p : Params) : Obj := .mk .none .none (@PySem.Data.fields #[]) #[]
def o573_4 (p : Params) : Obj := .mk (.type "tuple") .none (@PySem.Data.seq (@List.toArray PySem.Value [(u "self" 964), (u "name" 965), (u "width" 966)]) 0) #[]
def o574_4 (p : Params) : Obj := .mk (.type "tuple") .none (@PySem.Data.seq #[] 0) #[]
def o575_4 (p : Params) : Obj := .mk .none .none (.func (.mk (s "add_lane") (s "Floor.add_lane") (defArgs (inClass (tp 35) 11)) (.stmts (defBody (inClass (tp 35) 11))) (defScope (inClass (tp 35) 11)) 0 [] .none .none .none .none .none .none .none 0)) #[]
def o576_4 (p : Params) : Obj := .mk (.type "code") .none (@PySem.Data.fields (@List.toArray PySem.Value [(u "add_lane" 961), (u "Floor.add_lane" 962), (u "/claim/cut.py" 963), (@PySem.Value.int (i 281) 0), (@PySem.Value.int (i 3) 0), (@PySem.Value.int (i 0) 0), (@PySem.Value.int (i 0) 0), (@PySem.Value.int (i 3) 0), (r 571), (@PySem.Value.bool Bool.true), (@PySem.Value.int (i 181) 0), (r 572), .none, (r 573), (r 574), (r 575), (@PySem.Value.int (i 967) 0), (@PySem.Value.int (i 281) 0), (u "/claim/cut.py" 968)])) #[]
def o577_4 (p : Params) : Obj := .mk (.type "function") .none (.func (.mk (s "add_lane") (s "Floor.add_lane") (defArgs (inClass (tp 35) 11)) (.stmts (defBody (inClass (tp 35) 11))) (defScope (inClass (tp 35) 11)) 3 [] .none .none .none (u "hourlanes.floor" 851) .none (r 576) .none 0)) #[]
def o578_4 (p : Params) : Obj := .mk (.type "tuple") .none (@PySem.Data.seq #[] 0) #[]
def o579_4 (p : Params) : Obj := .mk .none .none (@PySem.Data.fields #[]) #[]
def o580_4 (p : Params) : Obj := .mk (.type "tuple") .none (@PySem.Data.seq (@List.toArray PySem.Value [(u "self" 973), (u "name" 974), (u "jar" 975)]) 0) #[]
def o581_4 (p : Params) : Obj := .mk (.type "tuple") .none (@PySem.Data.seq #[] 0) #[]
def o582_4 (p : Params) : Obj := .mk .none .none (.func (.mk (s "turned_flow") (s "Floor.turned_flow") (defArgs (inClass (tp 35) 12)) (.stmts (defBody (inClass (tp 35) 12))) (defScope (inClass (tp 35) 12)) 0 [] .none .none .none .none .none .none .none 0)) #[]
def o583_4 (p : Params) : Obj := .mk (.type "code") .none (@PySem.Data.fields (@List.toArray PySem.Value [(u "turned_flow" 970), (u "Floor.turned_flow" 971), (u "/claim/cut.py" 972), (@PySem.Value.int (i 285) 0), (@PySem.Value.int (i 3) 0), (@PySem.Value.int (i 0) 0), (@PySem.Value.int (i 0) 0), (@PySem.Value.int (i 3) 0), (r 578), (@PySem.Value.bool Bool.true), (@PySem.Value.int (i 181) 0), (r 579), .none, (r 580), (r 581), (r 582), (@PySem.Value.int (i 976) 0), (@PySem.Value.int (i 285) 0), (u "/claim/cut.py" 977)])) #[]
def o584_4 (p : Params) : Obj := .mk (.type "function") .none (.func (.mk (s "turned_flow") (s "Floor.turned_flow") (defArgs (inClass (tp 35) 12)) (.stmts (defBody (inClass (tp 35) 12))) (defScope (inClass (tp 35) 12)) 3 [] .none .none .none (u "hourlanes.floor" 851) .none (r 583) .none 0)) #[]
def o585_4 (p : Params) : Obj := .mk (.type "tuple") .none (@PySem.Data.seq #[] 0) #[]
def o586_4 (p : Params) : Obj := .mk .none .none (@PySem.Data.fields #[]) #[]
def o587_4 (p : Params) : Obj := .mk .none .none (.func (.mk (s "terms_with") (s "Floor.terms_with") (defArgs (inClass (tp 35) 13)) (.stmts (defBody (inClass (tp 35) 13))) (defScope (inClass (tp 35) 13)) 0 [] .none .none .none .none .none .none .none 0)) #[]
def o588_4 (p : Params) : Obj := .mk (.type "code") .none (@PySem.Data.fields (@List.toArray PySem.Value [(u "terms_with" 979), (u "Floor.terms_with" 980), (u "/claim/cut.py" 981), (@PySem.Value.int (i 288) 0), (@PySem.Value.int (i 4) 0), (@PySem.Value.int (i 0) 0), (@PySem.Value.int (i 0) 0), (@PySem.Value.int (i 3) 0), (r 585), (@PySem.Value.bool Bool.true), (@PySem.Value.int (i 181) 0), (r 586), .none, .none, .none, (r 587), (@PySem.Value.int (i 982) 0), (@PySem.Value.int (i 288) 0), (u "/claim/cut.py" 983)])) #[]
def o589_4 (p : Params) : Obj := .mk (.type "function") .none (.func (.mk (s "terms_with") (s "Floor.terms_with") (defArgs (inClass (tp 35) 13)) (.stmts (defBody (inClass (tp 35) 13))) (defScope (inClass (tp 35) 13)) 3 [] .none .none .none (u "hourlanes.floor" 851) .none (r 588) .none 0)) #[]
def o590_4 (p : Params) : Obj := .mk (.type "tuple") .none (@PySem.Data.seq #[] 0) #[]
def o591_4 (p : Params) : Obj := .mk .none .none (@PySem.Data.fields #[]) #[]
def o592_4 (p : Params) : Obj := .mk (.type "tuple") .none (@PySem.Data.seq (@List.toArray PySem.Value [(u "self" 988), (u "terms" 989)]) 0) #[]
def o593_4 (p : Params) : Obj := .mk (.type "tuple") .none (@PySem.Data.seq #[] 0) #[]
def o594_4 (p : Params) : Obj := .mk .none .none (.func (.mk (s "set_terms") (s "Floor.set_terms") (defArgs (inClass (tp 35) 14)) (.stmts (defBody (inClass (tp 35) 14))) (defScope (inClass (tp 35) 14)) 0 [] .none .none .none .none .none .none .none 0)) #[]
def o595_4 (p : Params) : Obj := .mk (.type "code") .none (@PySem.Data.fields (@List.toArray PySem.Value [(u "set_terms" 985), (u "Floor.set_terms" 986), (u "/claim/cut.py" 987), (@PySem.Value.int (i 293) 0), (@PySem.Value.int (i 2) 0), (@PySem.Value.int (i 0) 0), (@PySem.Value.int (i 0) 0), (@PySem.Value.int (i 3) 0), (r 590), (@PySem.Value.bool Bool.true), (@PySem.Value.int (i 181) 0), (r 591), .none, (r 592), (r 593), (r 594), (@PySem.Value.int (i 990) 0), (@PySem.Value.int (i 293) 0), (u "/claim/cut.py" 991)])) #[]
def o596_4 (p : Params) : Obj := .mk (.type "function") .none (.func (.mk (s "set_terms") (s "Floor.set_terms") (defArgs (inClass (tp 35) 14)) (.stmts (defBody (inClass (tp 35) 14))) (defScope (inClass (tp 35) 14)) 3 [] .none .none .none (u "hourlanes.floor" 851) .none (r 595) .none 0)) #[]
def o597_4 (p : Params) : Obj := .mk (.type "tuple") .none (@PySem.Data.seq #[] 0) #[]
def o598_4 (p : Params) : Obj := .mk .none .none (@PySem.Data.fields #[]) #[]
def o599_4 (p : Params) : Obj := .mk (.type "tuple") .none (@PySem.Data.seq (@List.toArray PySem.Value [(u "self" 996), (u "name" 997)]) 0) #[]
def o600_4 (p : Params) : Obj := .mk (.type "tuple") .none (@PySem.Data.seq #[] 0) #[]
def o601_4 (p : Params) : Obj := .mk .none .none (.func (.mk (s "drop_terms") (s "Floor.drop_terms") (defArgs (inClass (tp 35) 15)) (.stmts (defBody (inClass (tp 35) 15))) (defScope (inClass (tp 35) 15)) 0 [] .none .none .none .none .none .none .none 0)) #[]
def o602_4 (p : Params) : Obj := .mk (.type "code") .none (@PySem.Data.fields (@List.toArray PySem.Value [(u "drop_terms" 993), (u "Floor.drop_terms" 994), (u "/claim/cut.py" 995), (@PySem.Value.int (i 296) 0), (@PySem.Value.int (i 2) 0), (@PySem.Value.int (i 0) 0), (@PySem.Value.int (i 0) 0), (@PySem.Value.int (i 3) 0), (r 597), (@PySem.Value.bool Bool.true), (@PySem.Value.int (i 181) 0), (r 598), .none, (r 599), (r 600), (r 601), (@PySem.Value.int (i 998) 0), (@PySem.Value.int (i 296) 0), (u "/claim/cut.py" 999)])) #[]
def o603_4 (p : Params) : Obj := .mk (.type "function") .none (.func (.mk (s "drop_terms") (s "Floor.drop_terms") (defArgs (inClass (tp 35) 15)) (.stmts (defBody (inClass (tp 35) 15))) (defScope (inClass (tp 35) 15)) 3 [] .none .none .none (u "hourlanes.floor" 851) .none (r 602) .none 0)) #[]
def o604_4 (p : Params) : Obj := .mk (.type "tuple") .none (@PySem.Data.seq #[] 0) #[]
def o605_4 (p : Params) : Obj := .mk .none .none (@PySem.Data.fields #[]) #[]
def o606_4 (p : Params) : Obj := .mk (.type "tuple") .none (@PySem.Data.seq (@List.toArray PySem.Value [(u "self" 1004), (u "lane" 1005), (u "width" 1006)]) 0) #[]
def o607_4 (p : Params) : Obj := .mk (.type "tuple") .none (@PySem.Data.seq #[] 0) #[]
def o608_4 (p : Params) : Obj := .mk .none .none (.func (.mk (s "set_width") (s "Floor.set_width") (defArgs (inClass (tp 35) 16)) (.stmts (defBody (inClass (tp 35) 16))) (defScope (inClass (tp 35) 16)) 0 [] .none .none .none .none .none .none .none 0)) #[]
def o609_4 (p : Params) : Obj := .mk (.type "code") .none (@PySem.Data.fields (@List.toArray PySem.Value [(u "set_width" 1001), (u "Floor.set_width" 1002), (u "/claim/cut.py" 1003), (@PySem.Value.int (i 299) 0), (@PySem.Value.int (i 3) 0), (@PySem.Value.int (i 0) 0), (@PySem.Value.int (i 0) 0), (@PySem.Value.int (i 3) 0), (r 604), (@PySem.Value.bool Bool.true), (@PySem.Value.int (i 181) 0), (r 605), .none, (r 606), (r 607), (r 608), (@PySem.Value.int (i 1007) 0), (@PySem.Value.int (i 299) 0), (u "/claim/cut.py" 1008)])) #[]
def o610_4 (p : Params) : Obj := .mk (.type "function") .none (.func (.mk (s "set_width") (s "Floor.set_width") (defArgs (inClass (tp 35) 16)) (.stmts (defBody (inClass (tp 35) 16))) (defScope (inClass (tp 35) 16)) 3 [] .none .none .none (u "hourlanes.floor" 851) .none (r 609) .none 0)) #[]
def o611_4 (p : Params) : Obj := .mk (.type "tuple") .none (@PySem.Data.seq #[] 0) #[]
def o612_4 (p : Params) : Obj := .mk .none .none (@PySem.Data.fields #[]) #[]
def o613_4 (p : Params) : Obj := .mk (.type "tuple") .none (@PySem.Data.seq (@List.toArray PySem.Value [(u "self" 1013), (u "lane" 1014)]) 0) #[]
def o614_4 (p : Params) : Obj := .mk (.type "tuple") .none (@PySem.Data.seq #[] 0) #[]
def o615_4 (p : Params) : Obj := .mk .none .none (.func (.mk (s "opens_of") (s "Floor.opens_of") (defArgs (inClass (tp 35) 17)) (.stmts (defBody (inClass (tp 35) 17))) (defScope (inClass (tp 35) 17)) 0 [] .none .none .none .none .none .none .none 0)) #[]
def o616_4 (p : Params) : Obj := .mk (.type "code") .none (@PySem.Data.fields (@List.toArray PySem.Value [(u "opens_of" 1010), (u "Floor.opens_of" 1011), (u "/claim/cut.py" 1012), (@PySem.Value.int (i 302) 0), (@PySem.Value.int (i 2) 0), (@PySem.Value.int (i 0) 0), (@PySem.Value.int (i 0) 0), (@PySem.Value.int (i 3) 0), (r 611), (@PySem.Value.bool Bool.true), (@PySem.Value.int (i 181) 0), (r 612), .none, (r 613), (r 614), (r 615), (@PySem.Value.int (i 1015) 0), (@PySem.Value.int (i 302) 0), (u "/claim/cut.py" 1016)])) #[]
def o617_4 (p : Params) : Obj := .mk (.type "function") .none (.func (.mk (s "opens_of") (s "Floor.opens_of") (defArgs (inClass (tp 35) 17)) (.stmts (defBody (inClass (tp 35) 17))) (defScope (inClass (tp 35) 17)) 3 [] .none .none .none (u "hourlanes.floor" 851) .none (r 616) .none 0)) #[]
def o618_4 (p : Params) : Obj := .mk (.type "tuple") .none (@PySem.Data.seq #[] 0) #[]
def o619_4 (p : Params) : Obj := .mk .none .none (@PySem.Data.fields #[]) #[]
def o620_4 (p : Params) : Obj := .mk (.type "tuple") .none (@PySem.Data.seq (@List.toArray PySem.Value [(u "self" 1021), (u "lane" 1022), (u "ticks" 1023)]) 0) #[]
def o621_4 (p : Params) : Obj := .mk (.type "tuple") .none (@PySem.Data.seq #[] 0) #[]
def o622_4 (p : Params) : Obj := .mk .none .none (.func (.mk (s "opens_by") (s "Floor.opens_by") (defArgs (inClass (tp 35) 18)) (.stmts (defBody (inClass (tp 35) 18))) (defScope (inClass (tp 35) 18)) 0 [] .none .none .none .none .none .none .none 0)) #[]
def o623_4 (p : Params) : Obj := .mk (.type "code") .none (@PySem.Data.fields (@List.toArray PySem.Value [(u "opens_by" 1018), (u "Floor.opens_by" 1019), (u "/claim/cut.py" 1020), (@PySem.Value.int (i 305) 0), (@PySem.Value.int (i 3) 0), (@PySem.Value.int (i 0) 0), (@PySem.Value.int (i 0) 0), (@PySem.Value.int (i 3) 0), (r 618), (@PySem.Value.bool Bool.true), (@PySem.Value.int (i 181) 0), (r 619), .none, (r 620), (r 621), (r 622), (@PySem.Value.int (i 1024) 0), (@PySem.Value.int (i 305) 0), (u "/claim/cut.py" 1025)])) #[]
def o624_4 (p : Params) : Obj := .mk (.type "function") .none (.func (.mk (s "opens_by") (s "Floor.opens_by") (defArgs (inClass (tp 35) 18)) (.stmts (defBody (inClass (tp 35) 18))) (defScope (inClass (tp 35) 18)) 3 [] .none .none .none (u "hourlanes.floor" 851) .none (r 623) .none 0)) #[]
def o625_4 (p : Params) : Obj := .mk (.type "tuple") .none (@PySem.Data.seq #[] 0) #[]
def o626_4 (p : Params) : Obj := .mk .none .none (@PySem.Data.fields #[]) #[]
def o627_4 (p : Params) : Obj := .mk (.type "tuple") .none (@PySem.Data.seq (@List.toArray PySem.Value [(u "self" 1030), (u "lane" 1031), (u "opens" 1032)]) 0) #[]
def o628_4 (p : Params) : Obj := .mk (.type "tuple") .none (@PySem.Data.seq #[] 0) #[]
def o629_4 (p : Params) : Obj := .mk .none .none (.func (.mk (s "set_shut") (s "Floor.set_shut") (defArgs (inClass (tp 35) 19)) (.stmts (defBody (inClass (tp 35) 19))) (defScope (inClass (tp 35) 19)) 0 [] .none .none .none .none .none .none .none 0)) #[]
def o630_4 (p : Params) : Obj := .mk (.type "code") .none (@PySem.Data.fields (@List.toArray PySem.Value [(u "set_shut" 1027), (u "Floor.set_shut" 1028), (u "/claim/cut.py" 1029), (@PySem.Value.int (i 308) 0), (@PySem.Value.int (i 3) 0), (@PySem.Value.int (i 0) 0), (@PySem.Value.int (i 0) 0), (@PySem.Value.int (i 3) 0), (r 625), (@PySem.Value.bool Bool.true), (@PySem.Value.int (i 181) 0), (r 626), .none, (r 627), (r 628), (r 629), (@PySem.Value.int (i 1033) 0), (@PySem.Value.int (i 308) 0), (u "/claim/cut.py" 1034)])) #[]
def o631_4 (p : Params) : Obj := .mk (.type "function") .none (.func (.mk (s "set_shut") (s "Floor.set_shut") (defArgs (inClass (tp 35) 19)) (.stmts (defBody (inClass (tp 35) 19))) (defScope (inClass (tp 35) 19)) 3 [] .none .none .none (u "hourlanes.floor" 851) .none (r 630) .none 0)) #[]
def o632_4 (p : Params) : Obj := .mk (.type "tuple") .none (@PySem.Data.seq #[] 0) #[]
def o633_4 (p : Params) : Obj := .mk .none .none (@PySem.Data.fields #[]) #[]
def o634_4 (p : Params) : Obj := .mk (.type "tuple") .none (@PySem.Data.seq (@List.toArray PySem.Value [(u "self" 1039), (u "lane" 1040), (u "terms" 1041), (u "knowns" 1042), (u "lot" 1043), (u "asks" 1044), (u "name" 1045), (u "flow" 1046), (u "way" 1047), (u "after" 1048), (u "leg" 1049), (u "wait" 1050)]) 0) #[]
def o635_4 (p : Params) : Obj := .mk (.type "tuple") .none (@PySem.Data.seq #[] 0) #[]
def o636_4 (p : Params) : Obj := .mk .none .none (.func (.mk (s "scene_by") (s "Floor.scene_by") (defArgs (inClass (tp 35) 20)) (.stmts (defBody (inClass (tp 35) 20))) (defScope (inClass (tp 35) 20)) 0 [] .none .none .none .none .none .none .none 0)) #[]
def o637_4 (p : Params) : Obj := .mk (.type "code") .none (@PySem.Data.fields (@List.toArray PySem.Value [(u "scene_by" 1036), (u "Floor.scene_by" 1037), (u "/claim/cut.py" 1038), (@PySem.Value.int (i 311) 0), (@PySem.Value.int (i 3) 0), (@PySem.Value.int (i 0) 0), (@PySem.Value.int (i 0) 0), (@PySem.Value.int (i 3) 0), (r 632), (@PySem.Value.bool Bool.true), (@PySem.Value.int (i 181) 0), (r 633), .none, (r 634), (r 635), (r 636), (@PySem.Value.int (i 1051) 0), (@PySem.Value.int (i 311) 0), (u "/claim/cut.py" 1052)])) #[]
def o638_4 (p : Params) : Obj := .mk (.type "function") .none (.func (.mk (s "scene_by") (s "Floor.scene_by") (defArgs (inClass (tp 35) 20)) (.stmts (defBody (inClass (tp 35) 20))) (defScope (inClass (tp 35) 20)) 3 [] .none .none .none (u "hourlanes.floor" 851) .none (r 637) .none 0)) #[]
def o639_4 (p : Params) : Obj := .mk (.type "tuple") .none (@PySem.Data.seq #[] 0) #[]
def o640_4 (p : Params) : Obj := .mk .none .none (@PySem.Data.fields #[]) #[]
def o641_4 (p : Params) : Obj := .mk (.type "tuple") .none (@PySem.Data.seq (@List.toArray PySem.Value [(u "self" 1057), (u "comes" 1058), (u "name" 1059), (u "bound" 1060), (u "many" 1061)]) 0) #[]
def o642_4 (p : Params) : Obj := .mk (.type "tuple") .none (@PySem.Data.seq #[] 0) #[]
def o643_4 (p : Params) : Obj := .mk .none .none (.func (.mk (s "need_comings") (s "Floor.need_comings") (defArgs (inClass (tp 35) 21)) (.stmts (defBody (inClass (tp 35) 21))) (defScope (inClass (tp 35) 21)) 0 [] .none .none .none .none .none .none .none 0)) #[]
def o644_4 (p : Params) : Obj := .mk (.type "code") .none (@PySem.Data.fields (@List.toArray PySem.Value [(u "need_comings" 1054), (u "Floor.need_comings" 1055), (u "/claim/cut.py" 1056), (@PySem.Value.int (i 325) 0), (@PySem.Value.int (i 2) 0), (@PySem.Value.int (i 0) 0), (@PySem.Value.int (i 0) 0), (@PySem.Value.int (i 3) 0), (r 639), (@PySem.Value.bool Bool.true), (@PySem.Value.int (i 181) 0), (r 640), .none, (r 641), (r 642), (r 643), (@PySem.Value.int (i 1062) 0), (@PySem.Value.int (i 325) 0), (u "/claim/cut.py" 1063)])) #[]
def o645_4 (p : Params) : Obj := .mk (.type "function") .none (.func (.mk (s "need_comings") (s "Floor.need_comings") (defArgs (inClass (tp 35) 21)) (.stmts (defBody (inClass (tp 35) 21))) (defScope (inClass (tp 35) 21)) 3 [] .none .none .none (u "hourlanes.floor" 851) .none (r 644) .none 0)) #[]
def o646_4 (p : Params) : Obj := .mk (.type "tuple") .none (@PySem.Data.seq #[] 0) #[]
def o647_4 (p : Params) : Obj := .mk .none .none (@PySem.Data.fields #[]) #[]
def o648_4 (p : Params) : Obj := .mk (.type "tuple") .none (@PySem.Data.seq (@List.toArray PySem.Value [(u "self" 1068), (u "comes" 1069), (u "found" 1070), (u "name" 1071), (u "flow" 1072), (u "way" 1073), (u "many" 1074), (u "lot" 1075)]) 0) #[]
def o649_4 (p : Params) : Obj := .mk (.type "tuple") .none (@PySem.Data.seq #[] 0) #[]
def o650_4 (p : Params) : Obj := .mk .none .none (.func (.mk (s "bring") (s "Floor.bring") (defArgs (inClass (tp 35) 22)) (.stmts (defBody (inClass (tp 35) 22))) (defScope (inClass (tp 35) 22)) 0 [] .none .none .none .none .none .none .none 0)) #[]
def o651_4 (p : Params) : Obj := .mk (.type "code") .none (@PySem.Data.fields (@List.toArray PySem.Value [(u "bring" 1065), (u "Floor.bring" 1066), (u "/claim/cut.py" 1067), (@PySem.Value.int (i 334) 0), (@PySem.Value.int (i 2) 0), (@PySem.Value.int (i 0) 0), (@PySem.Value.int (i 0) 0), (@PySem.Value.int (i 3) 0), (r 646), (@PySem.Value.bool Bool.true), (@PySem.Value.int (i 181) 0), (r 647), .none, (r 648), (r 649), (r 650), (@PySem.Value.int (i 1076) 0), (@PySem.Value.int (i 334) 0), (u "/claim/cut.py" 1077)])) #[]
def o652_4 (p : Params) : Obj := .mk (.type "function") .none (.func (.mk (s "bring") (s "Floor.bring") (defArgs (inClass (tp 35) 22)) (.stmts (defBody (inClass (tp 35) 22))) (defScope (inClass (tp 35) 22)) 3 [] .none .none .none (u "hourlanes.floor" 851) .none (r 651) .none 0)) #[]
def o653_4 (p : Params) : Obj := .mk (.type "tuple") .none (@PySem.Data.seq #[] 0) #[]
def o654_4 (p : Params) : Obj := .mk .none .none (@PySem.Data.fields #[]) #[]
def o655_4 (p : Params) : Obj := .mk (.type "tuple") .none (@PySem.Data.seq (@List.toArray PySem.Value [(u "self" 1082), (u "lane" 1083), (u "tick" 1084), (u "found" 1085), (u "lot" 1086), (u "place" 1087)]) 0) #[]
def o656_4 (p : Params) : Obj := .mk (.type "tuple") .none (@PySem.Data.seq #[] 0) #[]
def o657_4 (p : Params) : Obj := .mk .none .none (.func (.mk (s "at_lane") (s "Floor.at_lane") (defArgs (inClass (tp 35) 23)) (.stmts (defBody (inClass (tp 35) 23))) (defScope (inClass (tp 35) 23)) 0 [] .none .none .none .none .none .none .none 0)) #[]
def o658_4 (p : Params) : Obj := .mk (.type "code") .none (@PySem.Data.fields (@List.toArray PySem.Value [(u "at_lane" 1079), (u "Floor.at_lane" 1080), (u "/claim/cut.py" 1081), (@PySem.Value.int (i 347) 0), (@PySem.Value.int (i 3) 0), (@PySem.Value.int (i 0) 0), (@PySem.Value.int (i 0) 0), (@PySem.Value.int (i 3) 0), (r 653), (@PySem.Value.bool Bool.true), (@PySem.Value.int (i 181) 0), (r 654), .none, (r 655), (r 656), (r 657), (@PySem.Value.int (i 1088) 0), (@PySem.Value.int (i 347) 0), (u "/claim/cut.py" 1089)])) #[]
def o659_4 (p : Params) : Obj := .mk (.type "function") .none (.func (.mk (s "at_lane") (s "Floor.at_lane") (defArgs (inClass (tp 35) 23)) (.stmts (defBody (inClass (tp 35) 23))) (defScope (inClass (tp 35) 23)) 3 [] .none .none .none (u "hourlanes.floor" 851) .none (r 658) .none 0)) #[]
def o660_4 (p : Params) : Obj := .mk (.type "tuple") .none (@PySem.Data.seq #[] 0) #[]
def o661_4 (p : Params) : Obj := .mk .none .none (@PySem.Data.fields #[]) #[]
def o662_4 (p : Params) : Obj := .mk (.type "tuple") .none (@PySem.Data.seq (@List.toArray PySem.Value [(u "self" 1094), (u "lane" 1095)]) 0) #[]
def o663_4 (p : Params) : Obj := .mk (.type "tuple") .none (@PySem.Data.seq #[] 0) #[]
def o664_4 (p : Params) : Obj := .mk .none .none (.func (.mk (s "is_open") (s "Floor.is_open") (defArgs (inClass (tp 35) 24)) (.stmts (defBody (inClass (tp 35) 24))) (defScope (inClass (tp 35) 24)) 0 [] .none .none .none .none .none .none .none 0)) #[]
def o665_4 (p : Params) : Obj := .mk (.type "code") .none (@PySem.Data.fields (@List.toArray PySem.Value [(u "is_open" 1091), (u "Floor.is_open" 1092), (u "/claim/cut.py" 1093), (@PySem.Value.int (i 355) 0), (@PySem.Value.int (i 2) 0), (@PySem.Value.int (i 0) 0), (@PySem.Value.int (i 0) 0), (@PySem.Value.int (i 3) 0), (r 660), (@PySem.Value.bool Bool.true), (@PySem.Value.int (i 181) 0), (r 661), .none, (r 662), (r 663), (r 664), (@PySem.Value.int (i 1096) 0), (@PySem.Value.int (i 355) 0), (u "/claim/cut.py" 1097)])) #[]
def o666_4 (p : Params) : Obj := .mk (.type "function") .none (.func (.mk (s "is_open") (s "Floor.is_open") (defArgs (inClass (tp 35) 24)) (.stmts (defBody (inClass (tp 35) 24))) (defScope (inClass (tp 35) 24)) 3 [] .none .none .none (u "hourlanes.floor" 851) .none (r 665) .none 0)) #[]
def o667_4 (p : Params) : Obj := .mk (.type "tuple") .none (@PySem.Data.seq #[] 0) #[]
def o668_4 (p : Params) : Obj := .mk .none .none (@PySem.Data.fields #[]) #[]
def o669_4 (p : Params) : Obj := .mk (.type "tuple") .none (@PySem.Data.seq (@List.toArray PySem.Value [(u "self" 1102)]) 0) #[]
def o670_4 (p : Params) : Obj := .mk (.type "tuple") .none (@PySem.Data.seq #[] 0) #[]
def o671_4 (p : Params) : Obj := .mk .none .none (.func (.mk (s "is_late") (s "Floor.is_late") (defArgs (inClass (tp 35) 25)) (.stmts (defBody (inClass (tp 35) 25))) (defScope (inClass (tp 35) 25)) 0 [] .none .none .none .none .none .none .none 0)) #[]
def o672_4 (p : Params) : Obj := .mk (.type "code") .none (@PySem.Data.fields (@List.toArray PySem.Value [(u "is_late" 1099), (u "Floor.is_late" 1100), (u "/claim/cut.py" 1101), (@PySem.Value.int (i 358) 0), (@PySem.Value.int (i 1) 0), (@PySem.Value.int (i 0) 0), (@PySem.Value.int (i 0) 0), (@PySem.Value.int (i 3) 0), (r 667), (@PySem.Value.bool Bool.true), (@PySem.Value.int (i 181) 0), (r 668), .none, (r 669), (r 670), (r 671), (@PySem.Value.int (i 1103) 0), (@PySem.Value.int (i 358) 0), (u "/claim/cut.py" 1104)])) #[]
def o673_4 (p : Params) : Obj := .mk (.type "function") .none (.func (.mk (s "is_late") (s "Floor.is_late") (defArgs (inClass (tp 35) 25)) (.stmts (defBody (inClass (tp 35) 25))) (defScope (inClass (tp 35) 25)) 3 [] .none .none .none (u "hourlanes.floor" 851) .none (r 672) .none 0)) #[]
def o674_4 (p : Params) : Obj := .mk (.type "tuple") .none (@PySem.Data.seq #[] 0) #[]
def o675_4 (p : Params) : Obj := .mk .none .none (@PySem.Data.fields #[]) #[]
def o676_4 (p : Params) : Obj := .mk .none .none (.func (.mk (s "outs") (s "Floor.outs") (defArgs (inClass (tp 35) 26)) (.stmts (defBody (inClass (tp 35) 26))) (defScope (inClass (tp 35) 26)) 0 [] .none .none .none .none .none .none .none 0)) #[]
def o677_4 (p : Params) : Obj := .mk (.type "code") .none (@PySem.Data.fields (@List.toArray PySem.Value [(u "outs" 1106), (u "Floor.outs" 1107), (u "/claim/cut.py" 1108), (@PySem.Value.int (i 361) 0), (@PySem.Value.int (i 1) 0), (@PySem.Value.int (i 0) 0), (@PySem.Value.int (i 0) 0), (@PySem.Value.int (i 3) 0), (r 674), (@PySem.Value.bool Bool.true), (@PySem.Value.int (i 181) 0), (r 675), .none, .none, .none, (r 676), (@PySem.Value.int (i 1109) 0), (@PySem.Value.int (i 361) 0), (u "/claim/cut.py" 1110)])) #[]
def o678_4 (p : Params) : Obj := .mk (.type "function") .none (.func (.mk (s "outs") (s "Floor.outs") (defArgs (inClass (tp 35) 26)) (.stmts (defBody (inClass (tp 35) 26))) (defScope (inClass (tp 35) 26)) 3 [] .none .none .none (u "hourlanes.floor" 851) .none (r 677) .none 0)) #[]
def o679_4 (p : Params) : Obj := .mk (.type "tuple") .none (@PySem.Data.seq #[] 0) #[]
def o680_4 (p : Params) : Obj := .mk .none .none (@PySem.Data.fields #[]) #[]
def o681_4 (p : Params) : Obj := .mk .none .none (.func (.mk (s "go_on") (s "Floor.go_on") (defArgs (inClass (tp 35) 27)) (.stmts (defBody (inClass (tp 35) 27))) (defScope (inClass (tp 35) 27)) 0 [] .none .none .none .none .none .none .none 0)) #[]
def o682_4 (p : Params) : Obj := .mk (.type "code") .none (@PySem.Data.fields (@List.toArray PySem.Value [(u "go_on" 1112), (u "Floor.go_on" 1113), (u "/claim/cut.py" 1114), (@PySem.Value.int (i 364) 0), (@PySem.Value.int (i 1) 0), (@PySem.Value.int (i 0) 0), (@PySem.Value.int (i 0) 0), (@PySem.Value.int (i 3) 0), (r 679), (@PySem.Value.bool Bool.true), (@PySem.Value.int (i 181) 0), (r 680), .none, .none, .none, (r 681), (@PySem.Value.int (i 1115) 0), (@PySem.Value.int (i 364) 0), (u "/claim/cut.py" 1116)])) #[]
def o683_4 (p : Params) : Obj := .mk (.type "function") .none (.func (.mk (s "go_on") (s "Floor.go_on") (defArgs (inClass (tp 35) 27)) (.stmts (defBody (inClass (tp 35) 27))) (defScope (inClass (tp 35) 27)) 3 [] .none .none .none (u "hourlanes.floor" 851) .none (r 682) .none 0)) #[]
def o684_4 (p : Params) : Obj := .mk (.type "tuple") .none (@PySem.Data.seq (@List.toArray PySem.Value [(u "line" 1118), (u "now" 1119), (u "shut_until" 1120), (u "terms" 1121), (u "widths" 1122)]) 0) #[]
def o685_4 (p : Params) : Obj := .mk (.type "dict") .none (dc [(e p "__module__" 862 (u "hourlanes.floor" 851)), (e p "__firstlineno__" 866 (@PySem.Value.int (i 230) 865)), (e p "__init__" 873 (r 500)), (e p "need_lane" 881 (r 507)), (e p "need_stream" 889 (r 514)), (e p "need_width" 897 (r 521)), (e p "need_new" 906 (r 528)), (e p "need_way" 915 (r 535)), (e p "need_build" 924 (r 542)), (e p "need_in" 933 (r 549)), (e p "need_turn" 942 (r 556)), (e p "need_widen" 951 (r 563)), (e p "need_shut" 960 (r 570)), (e p "add_lane" 969 (r 577)), (e p "turned_flow" 978 (r 584)), (e p "terms_with" 984 (r 589)), (e p "set_terms" 992 (r 596)), (e p "drop_terms" 1000 (r 603)), (e p "set_width" 1009 (r 610)), (e p "opens_of" 1017 (r 617)), (e p "opens_by" 1026 (r 624)), (e p "set_shut" 1035 (r 631)), (e p "scene_by" 1053 (r 638)), (e p "need_comings" 1064 (r 645)), (e p "bring" 1078 (r 652)), (e p "at_lane" 1090 (r 659)), (e p "is_open" 1098 (r 666)), (e p "is_late" 1105 (r 673)), (e p "outs" 1111 (r 678)), (e p "go_on" 1117 (r 683)), (e p "__static_attributes__" 1123 (r 684)), (e p "__dict__" 1125 (r 687)), (e p "__weakref__" 1127 (r 688)), (e p "__doc__" 1128 .none)] 4) #[]
def o686_4 (p : Params) : Obj := .mk (.type "type") .none (@PySem.Data.cls (@PySem.ClassData.mk (s "Floor") [(.type "object")] [(r 686), (.type "object")] 685 (s "Floor") Bool.true [] [] Bool.false .none Bool.false)) (@List.toArray (@Option PySem.Value) [.none, .none, (.some (u "Floor" 855)), (.some (u "Floor" 863)), (.some (.builtin "object.__new__")), (.some (@PySem.Value.bool Bool.true))])
def o687_4 (p : Params) : Obj := .mk (.type "getset_descriptor") .none (@PySem.Data.fields (@List.toArray PySem.Value [(u "__dict__" 1124), (r 686), (.builtin "function.__dict__"), (.builtin "function.__dict__#set")])) #[]
def o688_4 (p : Params) : Obj := .mk (.type "getset_descriptor") .none (@PySem.Data.fields (@List.toArray PySem.Value [(u "__weakref__" 1126), (r 686), (.builtin "ExceptionGroup.__weakref__"), .none])) #[]
def o689_4 (p : Params) : Obj := .mk (.type "super") .none (@PySem.Data.fields (@List.toArray PySem.Value [(r 686), (r 686), (r 686)])) #[]
def o690_4 (p : Params) : Obj := .mk (.type "builtin_function_or_method") .none (@PySem.Data.fields (@List.toArray PySem.Value [(.builtin "object.__init_subclass__"), (r 686)])) #[]
def o691_4 (p : Params) : Obj := .mk (.type "tuple") .none (@PySem.Data.seq #[] 0) #[]
def o692_4 (p : Params) : Obj := .mk .none .none (@PySem.Data.fields #[]) #[]
def o693_4 (p : Params) : Obj := .mk (.type "tuple") .none (@PySem.Data.seq (@List.toArray PySem.Value [(u "scene" 1136), (u "first" 1137), (u "end" 1138), (u "found" 1139), (u "place" 1140), (u "flow" 1141), (u "after" 1142), (u "wait" 1143), (u "ahead" 1144), (u "ticks" 1145), (u "begin" 1146), (u "turns" 1147), (u "many" 1148)]) 0) #[]
def o694_4 (p : Params) : Obj := .mk (.type "tuple") .none (@PySem.Data.seq #[] 0) #[]
def o695_4 (p : Params) : Obj := .mk .none .none (.func (.mk (s "future") (s "future") (defArgs (tp 37)) (.stmts (defBody (tp 37))) (defScope (tp 37)) 0 [] .none .none .none .none .none .none .none 0)) #[]
def o696_4 (p : Params) : Obj := .mk (.type "code") .none (@PySem.Data.fields (@List.toArray PySem.Value [(u "future" 1133), (u "future" 1134), (u "/claim/cut.py" 1135), (@PySem.Value.int (i 368) 0), (@PySem.Value.int (i 3) 0), (@PySem.Value.int (i 0) 0), (@PySem.Value.int (i 0) 0), (@PySem.Value.int (i 3) 0), (r 691), (@PySem.Value.bool Bool.true), (@PySem.Value.int (i 181) 0), (r 692), .none, (r 693), (r 694), (r 695), (@PySem.Value.int (i 1149) 0), (@PySem.Value.int (i 368) 0), (u "/claim/cut.py" 1150)])) #[]
def o697_4 (p : Params) : Obj := .mk (.type "function") .none (.func (.mk (s "future") (s "future") (defArgs (tp 37)) (.stmts (defBody (tp 37))) (defScope (tp 37)) 3 [] .none .none .none (u "hourlanes.futures" 1131) .none (r 696) .none 0)) #[]
def o698_4 (p : Params) : Obj := .mk (.type "tuple") .none (@PySem.Data.seq #[] 0) #[]
def o699_4 (p : Params) : Obj := .mk .none .none (@PySem.Data.fields #[]) #[]
def o700_4 (p : Params) : Obj := .mk (.type "tuple") .none (@PySem.Data.seq (@List.toArray PySem.Value [(u "scene" 1157), (u "found" 1158), (u "come" 1159), (u "hour" 1160), (u "many" 1161), (u "flow" 1162), (u "after" 1163), (u "wait" 1164), (u "lacking" 1165)]) 0) #[]
def o701_4 (p : Params) : Obj := .mk (.type "tuple") .none (@PySem.Data.seq #[] 0) #[]
def o702_4 (p : Params) : Obj := .mk .none .none (.func (.mk (s "quiet") (s "quiet") (defArgs (tp 39)) (.stmts (defBody (tp 39))) (defScope (tp 39)) 0 [] .none .none .none .none .none .none .none 0)) #[]
def o703_4 (p : Params) : Obj := .mk (.type "code") .none (@PySem.Data.fields (@List.toArray PySem.Value [(u "quiet" 1154), (u "quiet" 1155), (u "/claim/cut.py" 1156), (@PySem.Value.int (i 376) 0), (@PySem.Value.int (i 1) 0), (@PySem.Value.int (i 0) 0), (@PySem.Value.int (i 0) 0), (@PySem.Value.int (i 3) 0), (r 698), (@PySem.Value.bool Bool.true), (@PySem.Value.int (i 181) 0), (r 699), .none, (r 700), (r 701), (r 702), (@PySem.Value.int (i 1166) 0), (@PySem.Value.int (i 376) 0), (u "/claim/cut.py" 1167)])) #[]
def o704_4 (p : Params) : Obj := .mk (.type "function") .none (.func (.mk (s "quiet") (s "quiet") (defArgs (tp 39)) (.stmts (defBody (tp 39))) (defScope (tp 39)) 3 [] .none .none .none (u "hourlanes.judging" 1152) .none (r 703) .none 0)) #[]
def o705_4 (p : Params) : Obj := .mk (.type "tuple") .none (@PySem.Data.seq #[] 0) #[]
def o706_4 (p : Params) : Obj := .mk .none .none (@PySem.Data.fields #[]) #[]
def o707_4 (p : Params) : Obj := .mk .none .none (.func (.mk (s "starts") (s "starts") (defArgs (tp 40)) (.stmts (defBody (tp 40))) (defScope (tp 40)) 0 [] .none .none .none .none .none .none .none 0)) #[]
def o708_4 (p : Params) : Obj := .mk (.type "code") .none (@PySem.Data.fields (@List.toArray PySem.Value [(u "starts" 1169), (u "starts" 1170), (u "/claim/cut.py" 1171), (@PySem.Value.int (i 384) 0), (@PySem.Value.int (i 1) 0), (@PySem.Value.int (i 0) 0), (@PySem.Value.int (i 0) 0), (@PySem.Value.int (i 3) 0), (r 705), (@PySem.Value.bool Bool.true), (@PySem.Value.int (i 181) 0), (r 706), .none, .none, .none, (r 707), (@PySem.Value.int (i 1172) 0), (@PySem.Value.int (i 384) 0), (u "/claim/cut.py" 1173)])) #[]
def o709_4 (p : Params) : Obj := .mk (.type "function") .none (.func (.mk (s "starts") (s "starts") (defArgs (tp 40)) (.stmts (defBody (tp 40))) (defScope (tp 40)) 3 [] .none .none .none (u "hourlanes.judging" 1152) .none (r 708) .none 0)) #[]
def o710_4 (p : Params) : Obj := .mk (.type "tuple") .none (@PySem.Data.seq #[] 0) #[]
def o711_4 (p : Params) : Obj := .mk .none .none (@PySem.Data.fields #[]) #[]
def o712_4 (p : Params) : Obj := .mk .none .none (.func (.mk (s "ends") (s "ends") (defArgs (tp 41)) (.stmts (defBody (tp 41))) (defScope (tp 41)) 0 [] .none .none .none .none .none .none .none 0)) #[]
def o713_4 (p : Params) : Obj := .mk (.type "code") .none (@PySem.Data.fields (@List.toArray PySem.Value [(u "ends" 1175), (u "ends" 1176), (u "/claim/cut.py" 1177), (@PySem.Value.int (i 386) 0), (@PySem.Value.int (i 2) 0), (@PySem.Value.int (i 0) 0), (@PySem.Value.int (i 0) 0), (@PySem.Value.int (i 3) 0), (r 710), (@PySem.Value.bool Bool.true), (@PySem.Value.int (i 181) 0), (r 711), .none, .none, .none, (r 712), (@PySem.Value.int (i 1178) 0), (@PySem.Value.int (i 386) 0), (u "/claim/cut.py" 1179)])) #[]
def o714_4 (p : Params) : Obj := .mk (.type "function") .none (.func (.mk (s "ends") (s "ends") (defArgs (tp 41)) (.stmts (defBody (tp 41))) (defScope (tp 41)) 3 [] .none .none .none (u "hourlanes.judging" 1152) .none (r 713) .none 0)) #[]
def o715_4 (p : Params) : Obj := .mk (.type "tuple") .none (@PySem.Data.seq #[] 0) #[]
def o716_4 (p : Params) : Obj := .mk .none .none (@PySem.Data.fields #[]) #[]
def o717_4 (p : Params) : Obj := .mk (.type "tuple") .none (@PySem.Data.seq (@List.toArray PySem.Value [(u "scene" 1184), (u "ticks" 1185)]) 0) #[]
def o718_4 (p : Params) : Obj := .mk (.type "tuple") .none (@PySem.Data.seq #[] 0) #[]
def o719_4 (p : Params) : Obj := .mk .none .none (.func (.mk (s "long_enough") (s "long_enough") (defArgs (tp 42)) (.stmts (defBody (tp 42))) (defScope (tp 42)) 0 [] .none .none .none .none .none .none .none 0)) #[]
def o720_4 (p : Params) : Obj := .mk (.type "code") .none (@PySem.Data.fields (@List.toArray PySem.Value [(u "long_enough" 1181), (u "long_enough" 1182), (u "/claim/cut.py" 1183), (@PySem.Value.int (i 398) 0), (@PySem.Value.int (i 1) 0), (@PySem.Value.int (i 0) 0), (@PySem.Value.int (i 0) 0), (@PySem.Value.int (i 3) 0), (r 715), (@PySem.Value.bool Bool.true), (@PySem.Value.int (i 181) 0), (r 716), .none, (r 717), (r 718), (r 719), (@PySem.Value.int (i 1186) 0), (@PySem.Value.int (i 398) 0), (u "/claim/cut.py" 1187)])) #[]
def o721_4 (p : Params) : Obj := .mk (.type "function") .none (.func (.mk (s "long_enough") (s "long_enough") (defArgs (tp 42)) (.stmts (defBody (tp 42))) (defScope (tp 42)) 3 [] .none .none .none (u "hourlanes.judging" 1152) .none (r 720) .none 0)) #[]
def o722_4 (p : Params) : Obj := .mk (.type "tuple") .none (@PySem.Data.seq #[] 0) #[]
def o723_4 (p : Params) : Obj := .mk .none .none (@PySem.Data.fields #[]) #[]
def o724_4 (p : Params) : Obj := .mk .none .none (.func (.mk (s "over_from") (s "over_from") (defArgs (tp 43)) (.stmts (defBody (tp 43))) (defScope (tp 43)) 0 [] .none .none .none .none .none .none .none 0)) #[]
def o725_4 (p : Params) : Obj := .mk (.type "code") .none (@PySem.Data.fields (@List.toArray PySem.Value [(u "over_from" 1189), (u "over_from" 1190), (u "/claim/cut.py" 1191), (@PySem.Value.int (i 403) 0), (@PySem.Value.int (i 2) 0), (@PySem.Value.int (i 0) 0), (@PySem.Value.int (i 0) 0), (@PySem.Value.int (i 3) 0), (r 722), (@PySem.Value.bool Bool.true), (@PySem.Value.int (i 181) 0), (r 723), .none, .none, .none, (r 724), (@PySem.Value.int (i 1192) 0), (@PySem.Value.int (i 403) 0), (u "/claim/cut.py" 1193)])) #[]
def o726_4 (p : Params) : Obj := .mk (.type "function") .none (.func (.mk (s "over_from") (s "over_from") (defArgs (tp 43)) (.stmts (defBody (tp 43))) (defScope (tp 43)) 3 [] .none .none .none (u "hourlanes.judging" 1152) .none (r 725) .none 0)) #[]
def o727_4 (p : Params) : Obj := .mk (.type "tuple") .none (@PySem.Data.seq #[] 0) #[]
def o728_4 (p : Params) : Obj := .mk .none .none (@PySem.Data.fields #[]) #[]
def o729_4 (p : Params) : Obj := .mk .none .none (.func (.mk (s "over") (s "over") (defArgs (tp 44)) (.stmts (defBody (tp 44))) (defScope (tp 44)) 0 [] .none .none .none .none .none .none .none 0)) #[]
def o730_4 (p : Params) : Obj := .mk (.type "code") .none (@PySem.Data.fields (@List.toArray PySem.Value [(u "over" 1195), (u "over" 1196), (u "/claim/cut.py" 1197), (@PySem.Value.int (i 414) 0), (@PySem.Value.int (i 1) 0), (@PySem.Value.int (i 0) 0), (@PySem.Value.int (i 0) 0), (@PySem.Value.int (i 3) 0), (r 727), (@PySem.Value.bool Bool.true), (@PySem.Value.int (i 181) 0), (r 728), .none, .none, .none, (r 729), (@PySem.Value.int (i 1198) 0), (@PySem.Value.int (i 414) 0), (u "/claim/cut.py" 1199)])) #[]
def o731_4 (p : Params) : Obj := .mk (.type "function") .none (.func (.mk (s "over") (s "over") (defArgs (tp 44)) (.stmts (defBody (tp 44))) (defScope (tp 44)) 3 [] .none .none .none (u "hourlanes.judging" 1152) .none (r 730) .none 0)) #[]
def o732_4 (p : Params) : Obj := .mk (.type "tuple") .none (@PySem.Data.seq #[] 0) #[]
def o733_4 (p : Params) : Obj := .mk .none .none (@PySem.Data.fields #[]) #[]
def o734_4 (p : Params) : Obj := .mk .none .none (.func (.mk (s "need_room") (s "need_room") (defArgs (tp 46)) (.stmts (defBody (tp 46))) (defScope (tp 46)) 0 [] .none .none .none .none .none .none .none 0)) #[]
def o735_4 (p : Params) : Obj := .mk (.type "code") .none (@PySem.Data.fields (@List.toArray PySem.Value [(u "need_room" 1203), (u "need_room" 1204), (u "/claim/cut.py" 1205), (@PySem.Value.int (i 423) 0), (@PySem.Value.int (i 3) 0), (@PySem.Value.int (i 0) 0), (@PySem.Value.int (i 0) 0), (@PySem.Value.int (i 3) 0), (r 732), (@PySem.Value.bool Bool.true), (@PySem.Value.int (i 181) 0), (r 733), .none, .none, .none, (r 734), (@PySem.Value.int (i 1206) 0), (@PySem.Value.int (i 423) 0), (u "/claim/cut.py" 1207)])) #[]
def o736_4 (p : Params) : Obj := .mk (.type "function") .none (.func (.mk (s "need_room") (s "need_room") (defArgs (tp 46)) (.stmts (defBody (tp 46))) (defScope (tp 46)) 3 [] .none .none .none (u "hourlanes.house" 1201) .none (r 735) .none 0)) #[]
def o737_4 (p : Params) : Obj := .mk (.type "tuple") .none (@PySem.Data.seq #[] 0) #[]
def o738_4 (p : Params) : Obj := .mk (.type "builtin_function_or_method") .none (@PySem.Data.fields (@List.toArray PySem.Value [(.builtin "type.__prepare__"), (.type "type")])) #[]
def o739_4 (p : Params) : Obj := .mk (.type "dict") .none (dc [(e p "__module__" 1216 (u "hourlanes.house" 1201)), (e p "__qualname__" 1218 (u "House" 1217)), (e p "__firstlineno__" 1220 (@PySem.Value.int (i 432) 1219)), (e p "__init__" 1227 (r 750)), (e p "build" 1236 (r 757)), (e p "take_terms" 1250 (r 764)), (e p "let_in" 1260 (r 771)), (e p "turn" 1270 (r 778)), (e p "let_go" 1278 (r 785)), (e p "widen" 1287 (r 792)), (e p "shut" 1297 (r 799)), (e p "carry" 1303 (r 804)), (e p "tick" 1315 (r 812)), (e p "lane_rows" 1321 (r 817)), (e p "stream_rows" 1332 (r 824)), (e p "lot_rows" 1339 (r 831)), (e p "standing" 1347 (r 838)), (e p "most_of" 1355 (r 845)), (e p "scene" 1363 (r 852)), (e p "book" 1370 (r 859)), (e p "__static_attributes__" 1374 (r 860))] 21) #[]
def o740_4 (p : Params) : Obj := .mk (.type "tuple") .none (@PySem.Data.seq #[] 0) #[]
def o741_4 (p : Params) : Obj := .mk .none .none (@PySem.Data.fields (@List.toArray PySem.Value [(@PySem.Value.int (i 434) 0), (@PySem.Value.int (i 4) 0), (r 749), (@PySem.Value.int (i 439) 0), (@PySem.Value.int (i 4) 0), (r 756), (@PySem.Value.int (i 444) 0), (@PySem.Value.int (i 4) 0), (r 763), (@PySem.Value.int (i 451) 0), (@PySem.Value.int (i 4) 0), (r 770), (@PySem.Value.int (i 454) 0), (@PySem.Value.int (i 4) 0), (r 777), (@PySem.Value.int (i 458) 0), (@PySem.Value.int (i 4) 0), (r 784), (@PySem.Value.int (i 461) 0), (@PySem.Value.int (i 4) 0), (r 791), (@PySem.Value.int (i 464) 0), (@PySem.Value.int (i 4) 0), (r 798), (@PySem.Value.int (i 471) 0), (@PySem.Value.int (i 4) 0), (r 803), (@PySem.Value.int (i 483) 0), (@PySem.Value.int (i 4) 0), (r 811), (@PySem.Value.int (i 498) 0), (@PySem.Value.int (i 4) 0), (r 816), (@PySem.Value.int (i 502) 0), (@PySem.Value.int (i 4) 0), (r 823), (@PySem.Value.int (i 508) 0), (@PySem.Value.int (i 4) 0), (r 830), (@PySem.Value.int (i 511) 0), (@PySem.Value.int (i 4) 0), (r 837), (@PySem.Value.int (i 514) 0), (@PySem.Value.int (i 4) 0), (r 844), (@PySem.Value.int (i 517) 0), (@PySem.Value.int (i 4) 0), (r 851), (@PySem.Value.int (i 521) 0), (@PySem.Value.int (i 4) 0), (r 858)])) #[]
def o742_4 (p : Params) : Obj := .mk (.type "code") .none (@PySem.Data.fields (@List.toArray PySem.Value [(u "House" 1211), (u "House" 1212), (u "/claim/cut.py" 1213), (@PySem.Value.int (i 432) 0), (@PySem.Value.int (i 0) 0), (@PySem.Value.int (i 0) 0), (@PySem.Value.int (i 0) 0), (@PySem.Value.int (i 0) 0), (r 740), (@PySem.Value.bool Bool.false), (@PySem.Value.int (i 181) 0), (r 741), .none, .none, .none, .none, (@PySem.Value.int (i 1214) 0), (@PySem.Value.int (i 432) 0), (u "/claim/cut.py" 1215)])) #[]
def o743_4 (p : Params) : Obj := .mk (.type "frame") .none PySem.Data.plain (@List.toArray (@Option PySem.Value) [(.some (r 742)), (.some (r 3)), (.some (r 739)), .none, (.some (u "hourlanes.house" 1201)), .none, (.some (r 0))])
def o744_4 (p : Params) : Obj := .mk (.type "tuple") .none (@PySem.Data.seq #[] 0) #[]
def o745_4 (p : Params) : Obj := .mk .none .none (@PySem.Data.fields #[]) #[]
def o746_4 (p : Params) : Obj := .mk (.type "tuple") .none (@PySem.Data.seq (@List.toArray PySem.Value [(u "self" 1224)]) 0) #[]
def o747_4 (p : Params) : Obj := .mk (.type "tuple") .none (@PySem.Data.seq #[] 0) #[]
def o748_4 (p : Params) : Obj := .mk .none .none (.func (.mk (s "__init__") (s "House.__init__") (defArgs (inClass (tp 47) 0)) (.stmts (defBody (inClass (tp 47) 0))) (defScope (inClass (tp 47) 0)) 0 [] .none .none .none .none .none .none .none 0)) #[]
def o749_4 (p : Params) : Obj := .mk (.type "code") .none (@PySem.Data.fields (@List.toArray PySem.Value [(u "__init__" 1221), (u "House.__init__" 1222), (u "/claim/cut.py" 1223), (@PySem.Value.int (i 434) 0), (@PySem.Value.int (i 1) 0), (@PySem.Value.int (i 0) 0), (@PySem.Value.int (i 0) 0), (@PySem.Value.int (i 3) 0), (r 744), (@PySem.Value.bool Bool.true), (@PySem.Value.int (i 181) 0), (r 745), .none, (r 746), (r 747), (r 748), (@PySem.Value.int (i 1225) 0), (@PySem.Value.int (i 434) 0), (u "/claim/cut.py" 1226)])) #[]
def o750_4 (p : Params) : Obj := .mk (.type "function") .none (.func (.mk (s "__init__") (s "House.__init__") (defArgs (inClass (tp 47) 0)) (.stmts (defBody (inClass (tp 47) 0))) (defScope (inClass (tp 47) 0)) 3 [] .none .none .none (u "hourlanes.house" 1201) .none (r 749) .none 0)) #[]
def o751_4 (p : Params) : Obj := .mk (.type "tuple") .none (@PySem.Data.seq #[] 0) #[]
def o752_4 (p : Params) : Obj := .mk .none .none (@PySem.Data.fields #[]) #[]
def o753_4 (p : Params) : Obj := .mk (.type "tuple") .none (@PySem.Data.seq (@List.toArray PySem.Value [(u "self" 1231), (u "name" 1232), (u "width" 1233)]) 0) #[]
def o754_4 (p : Params) : Obj := .mk (.type "tuple") .none (@PySem.Data.seq #[] 0) #[]
def o755_4 (p : Params) : Obj := .mk .none .none (.func (.mk (s "build") (s "House.build") (defArgs (inClass (tp 47) 1)) (.stmts (defBody (inClass (tp 47) 1))) (defScope (inClass (tp 47) 1)) 0 [] .none .none .none .none .none .none .none 0)) #[]
def o756_4 (p : Params) : Obj := .mk (.type "code") .none (@PySem.Data.fields (@List.toArray PySem.Value [(u "build" 1228), (u "House.build" 1229), (u "/claim/cut.py" 1230), (@PySem.Value.int (i 439) 0), (@PySem.Value.int (i 3) 0), (@PySem.Value.int (i 0) 0), (@PySem.Value.int (i 0) 0), (@PySem.Value.int (i 3) 0), (r 751), (@PySem.Value.bool Bool.true), (@PySem.Value.int (i 181) 0), (r 752), .none, (r 753), (r 754), (r 755), (@PySem.Value.int (i 1234) 0), (@PySem.Value.int (i 439) 0), (u "/claim/cut.py" 1235)])) #[]
def o757_4 (p : Params) : Obj := .mk (.type "function") .none (.func (.mk (s "build") (s "House.build") (defArgs (inClass (tp 47) 1)) (.stmts (defBody (inClass (tp 47) 1))) (defScope (inClass (tp 47) 1)) 3 [] .none .none .none (u "hourlanes.house" 1201) .none (r 756) .none 0)) #[]
def o758_4 (p : Params) : Obj := .mk (.type "tuple") .none (@PySem.Data.seq #[] 0) #[]
def o759_4 (p : Params) : Obj := .mk .none .none (@PySem.Data.fields #[]) #[]
def o760_4 (p : Params) : Obj := .mk (.type "tuple") .none (@PySem.Data.seq (@List.toArray PySem.Value [(u "self" 1240), (u "word" 1241), (u "name" 1242), (u "flow" 1243), (u "way" 1244), (u "terms" 1245), (u "lane" 1246), (u "wait" 1247)]) 0) #[]
def o761_4 (p : Params) : Obj := .mk (.type "tuple") .none (@PySem.Data.seq #[] 0) #[]
def o762_4 (p : Params) : Obj := .mk .none .none (.func (.mk (s "take_terms") (s "House.take_terms") (defArgs (inClass (tp 47) 2)) (.stmts (defBody (inClass (tp 47) 2))) (defScope (inClass (tp 47) 2)) 0 [] .none .none .none .none .none .none .none 0)) #[]
def o763_4 (p : Params) : Obj := .mk (.type "code") .none (@PySem.Data.fields (@List.toArray PySem.Value [(u "take_terms" 1237), (u "House.take_terms" 1238), (u "/claim/cut.py" 1239), (@PySem.Value.int (i 444) 0), (@PySem.Value.int (i 5) 0), (@PySem.Value.int (i 0) 0), (@PySem.Value.int (i 0) 0), (@PySem.Value.int (i 3) 0), (r 758), (@PySem.Value.bool Bool.true), (@PySem.Value.int (i 181) 0), (r 759), .none, (r 760), (r 761), (r 762), (@PySem.Value.int (i 1248) 0), (@PySem.Value.int (i 444) 0), (u "/claim/cut.py" 1249)])) #[]
def o764_4 (p : Params) : Obj := .mk (.type "function") .none (.func (.mk (s "take_terms") (s "House.take_terms") (defArgs (inClass (tp 47) 2)) (.stmts (defBody (inClass (tp 47) 2))) (defScope (inClass (tp 47) 2)) 3 [] .none .none .none (u "hourlanes.house" 1201) .none (r 763) .none 0)) #[]
def o765_4 (p : Params) : Obj := .mk (.type "tuple") .none (@PySem.Data.seq #[] 0) #[]
def o766_4 (p : Params) : Obj := .mk .none .none (@PySem.Data.fields #[]) #[]
def o767_4 (p : Params) : Obj := .mk (.type "tuple") .none (@PySem.Data.seq (@List.toArray PySem.Value [(u "self" 1254), (u "name" 1255), (u "jar" 1256), (u "way" 1257)]) 0) #[]
def o768_4 (p : Params) : Obj := .mk (.type "tuple") .none (@PySem.Data.seq #[] 0) #[]
def o769_4 (p : Params) : Obj := .mk .none .none (.func (.mk (s "let_in") (s "House.let_in") (defArgs (inClass (tp 47) 3)) (.stmts (defBody (inClass (tp 47) 3))) (defScope (inClass (tp 47) 3)) 0 [] .none .none .none .none .none .none .none 0)) #[]
def o770_4 (p : Params) : Obj := .mk (.type "code") .none (@PySem.Data.fields (@List.toArray PySem.Value [(u "let_in" 1251), (u "House.let_in" 1252), (u "/claim/cut.py" 1253), (@PySem.Value.int (i 451) 0), (@PySem.Value.int (i 4) 0), (@PySem.Value.int (i 0) 0), (@PySem.Value.int (i 0) 0), (@PySem.Value.int (i 3) 0), (r 765), (@PySem.Value.bool Bool.true), (@PySem.Value.int (i 181) 0), (r 766), .none, (r 767), (r 768), (r 769), (@PySem.Value.int (i 1258) 0), (@PySem.Value.int (i 451) 0), (u "/claim/cut.py" 1259)])) #[]
def o771_4 (p : Params) : Obj := .mk (.type "function") .none (.func (.mk (s "let_in") (s "House.let_in") (defArgs (inClass (tp 47) 3)) (.stmts (defBody (inClass (tp 47) 3))) (defScope (inClass (tp 47) 3)) 3 [] .none .none .none (u "hourlanes.house" 1201) .none (r 770) .none 0)) #[]
def o772_4 (p : Params) : Obj := .mk (.type "tuple") .none (@PySem.Data.seq #[] 0) #[]
def o773_4 (p : Params) : Obj := .mk .none .none (@PySem.Data.fields #[]) #[]
def o774_4 (p : Params) : Obj := .mk (.type "tuple") .none (@PySem.Data.seq (@List.toArray PySem.Value [(u "self" 1264), (u "name" 1265), (u "jar" 1266), (u "way" 1267)]) 0) #[]
def o775_4 (p : Params) : Obj := .mk (.type "tuple") .none (@PySem.Data.seq #[] 0) #[]
def o776_4 (p : Params) : Obj := .mk .none .none (.func (.mk (s "turn") (s "House.turn") (defArgs (inClass (tp 47) 4)) (.stmts (defBody (inClass (tp 47) 4))) (defScope (inClass (tp 47) 4)) 0 [] .none .none .none .none .none .none .none 0)) #[]
def o777_4 (p : Params) : Obj := .mk (.type "code") .none (@PySem.Data.fields (@List.toArray PySem.Value [(u "turn" 1261), (u "House.turn" 1262), (u "/claim/cut.py" 1263), (@PySem.Value.int (i 454) 0), (@PySem.Value.int (i 4) 0), (@PySem.Value.int (i 0) 0), (@PySem.Value.int (i 0) 0), (@PySem.Value.int (i 3) 0), (r 772), (@PySem.Value.bool Bool.true), (@PySem.Value.int (i 181) 0), (r 773), .none, (r 774), (r 775), (r 776), (@PySem.Value.int (i 1268) 0), (@PySem.Value.int (i 454) 0), (u "/claim/cut.py" 1269)])) #[]
def o778_4 (p : Params) : Obj := .mk (.type "function") .none (.func (.mk (s "turn") (s "House.turn") (defArgs (inClass (tp 47) 4)) (.stmts (defBody (inClass (tp 47) 4))) (defScope (inClass (tp 47) 4)) 3 [] .none .none .none (u "hourlanes.house" 1201) .none (r 777) .none 0)) #[]
def o779_4 (p : Params) : Obj := .mk (.type "tuple") .none (@PySem.Data.seq #[] 0) #[]
def o780_4 (p : Params) : Obj := .mk .none .none (@PySem.Data.fields #[]) #[]
def o781_4 (p : Params) : Obj := .mk (.type "tuple") .none (@PySem.Data.seq (@List.toArray PySem.Value [(u "self" 1274), (u "name" 1275)]) 0) #[]
def o782_4 (p : Params) : Obj := .mk (.type "tuple") .none (@PySem.Data.seq #[] 0) #[]
def o783_4 (p : Params) : Obj := .mk .none .none (.func (.mk (s "let_go") (s "House.let_go") (defArgs (inClass (tp 47) 5)) (.stmts (defBody (inClass (tp 47) 5))) (defScope (inClass (tp 47) 5)) 0 [] .none .none .none .none .none .none .none 0)) #[]
def o784_4 (p : Params) : Obj := .mk (.type "code") .none (@PySem.Data.fields (@List.toArray PySem.Value [(u "let_go" 1271), (u "House.let_go" 1272), (u "/claim/cut.py" 1273), (@PySem.Value.int (i 458) 0), (@PySem.Value.int (i 2) 0), (@PySem.Value.int (i 0) 0), (@PySem.Value.int (i 0) 0), (@PySem.Value.int (i 3) 0), (r 779), (@PySem.Value.bool Bool.true), (@PySem.Value.int (i 181) 0), (r 780), .none, (r 781), (r 782), (r 783), (@PySem.Value.int (i 1276) 0), (@PySem.Value.int (i 458) 0), (u "/claim/cut.py" 1277)])) #[]
def o785_4 (p : Params) : Obj := .mk (.type "function") .none (.func (.mk (s "let_go") (s "House.let_go") (defArgs (inClass (tp 47) 5)) (.stmts (defBody (inClass (tp 47) 5))) (defScope (inClass (tp 47) 5)) 3 [] .none .none .none (u "hourlanes.house" 1201) .none (r 784) .none 0)) #[]
def o786_4 (p : Params) : Obj := .mk (.type "tuple") .none (@PySem.Data.seq #[] 0) #[]
def o787_4 (p : Params) : Obj := .mk .none .none (@PySem.Data.fields #[]) #[]
def o788_4 (p : Params) : Obj := .mk (.type "tuple") .none (@PySem.Data.seq (@List.toArray PySem.Value [(u "self" 1282), (u "lane" 1283), (u "width" 1284)]) 0) #[]
def o789_4 (p : Params) : Obj := .mk (.type "tuple") .none (@PySem.Data.seq #[] 0) #[]
def o790_4 (p : Params) : Obj := .mk .none .none (.func (.mk (s "widen") (s "House.widen") (defArgs (inClass (tp 47) 6)) (.stmts (defBody (inClass (tp 47) 6))) (defScope (inClass (tp 47) 6)) 0 [] .none .none .none .none .none .none .none 0)) #[]
def o791_4 (p : Params) : Obj := .mk (.type "code") .none (@PySem.Data.fields (@List.toArray PySem.Value [(u "widen" 1279), (u "House.widen" 1280), (u "/claim/cut.py" 1281), (@PySem.Value.int (i 461) 0), (@PySem.Value.int (i 3) 0), (@PySem.Value.int (i 0) 0), (@PySem.Value.int (i 0) 0), (@PySem.Value.int (i 3) 0), (r 786), (@PySem.Value.bool Bool.true), (@PySem.Value.int (i 181) 0), (r 787), .none, (r 788), (r 789), (r 790), (@PySem.Value.int (i 1285) 0), (@PySem.Value.int (i 461) 0), (u "/claim/cut.py" 1286)])) #[]
def o792_4 (p : Params) : Obj := .mk (.type "function") .none (.func (.mk (s "widen") (s "House.widen") (defArgs (inClass (tp 47) 6)) (.stmts (defBody (inClass (tp 47) 6))) (defScope (inClass (tp 47) 6)) 3 [] .none .none .none (u "hourlanes.house" 1201) .none (r 791) .none 0)) #[]
def o793_4 (p : Params) : Obj := .mk (.type "tuple") .none (@PySem.Data.seq #[] 0) #[]
def o794_4 (p : Params) : Obj := .mk .none .none (@PySem.Data.fields #[]) #[]
def o795_4 (p : Params) : Obj := .mk (.type "tuple") .none (@PySem.Data.seq (@List.toArray PySem.Value [(u "self" 1291), (u "lane" 1292), (u "ticks" 1293), (u "opens" 1294)]) 0) #[]
def o796_4 (p : Params) : Obj := .mk (.type "tuple") .none (@PySem.Data.seq #[] 0) #[]
def o797_4 (p : Params) : Obj := .mk .none .none (.func (.mk (s "shut") (s "House.shut") (defArgs (inClass (tp 47) 7)) (.stmts (defBody (inClass (tp 47) 7))) (defScope (inClass (tp 47) 7)) 0 [] .none .none .none .none .none .none .none 0)) #[]
def o798_4 (p : Params) : Obj := .mk (.type "code") .none (@PySem.Data.fields (@List.toArray PySem.Value [(u "shut" 1288), (u "House.shut" 1289), (u "/claim/cut.py" 1290), (@PySem.Value.int (i 464) 0), (@PySem.Value.int (i 3) 0), (@PySem.Value.int (i 0) 0), (@PySem.Value.int (i 0) 0), (@PySem.Value.int (i 3) 0), (r 793), (@PySem.Value.bool Bool.true), (@PySem.Value.int (i 181) 0), (r 794), .none, (r 795), (r 796), (r 797), (@PySem.Value.int (i 1295) 0), (@PySem.Value.int (i 464) 0), (u "/claim/cut.py" 1296)])) #[]
def o799_4 (p : Params) : Obj := .mk (.type "function") .none (.func (.mk (s "shut") (s "House.shut") (defArgs (inClass (tp 47) 7)) (.stmts (defBody (inClass (tp 47) 7))) (defScope (inClass (tp 47) 7)) 3 [] .none .none .none (u "hourlanes.house" 1201) .none (r 798) .none 0)) #[]
def o800_4 (p : Params) : Obj := .mk (.type "tuple") .none (@PySem.Data.seq #[] 0) #[]
def o801_4 (p : Params) : Obj := .mk .none .none (@PySem.Data.fields #[]) #[]
def o802_4 (p : Params) : Obj := .mk .none .none (.func (.mk (s "carry") (s "House.carry") (defArgs (inClass (tp 47) 8)) (.stmts (defBody (inClass (tp 47) 8))) (defScope (inClass (tp 47) 8)) 0 [] .none .none .none .none .none .none .none 0)) #[]
def o803_4 (p : Params) : Obj := .mk (.type "code") .none (@PySem.Data.fields (@List.toArray PySem.Value [(u "carry" 1298), (u "House.carry" 1299), (u "/claim/cut.py" 1300), (@PySem.Value.int (i 471) 0), (@PySem.Value.int (i 2) 0), (@PySem.Value.int (i 0) 0), (@PySem.Value.int (i 0) 0), (@PySem.Value.int (i 3) 0), (r 800), (@PySem.Value.bool Bool.true), (@PySem.Value.int (i 181) 0), (r 801), .none, .none, .none, (r 802), (@PySem.Value.int (i 1301) 0), (@PySem.Value.int (i 471) 0), (u "/claim/cut.py" 1302)])) #[]
def o804_4 (p : Params) : Obj := .mk (.type "function") .none (.func (.mk (s "carry") (s "House.carry") (defArgs (inClass (tp 47) 8)) (.stmts (defBody (inClass (tp 47) 8))) (defScope (inClass (tp 47) 8)) 3 [] .none .none .none (u "hourlanes.house" 1201) .none (r 803) .none 0)) #[]
def o805_4 (p : Params) : Obj := .mk (.type "tuple") .none (@PySem.Data.seq (@List.toArray PySem.Value [.none]) 0) #[]
def o806_4 (p : Params) : Obj := .mk (.type "tuple") .none (@PySem.Data.seq #[] 0) #[]
def o807_4 (p : Params) : Obj := .mk .none .none (@PySem.Data.fields #[]) #[]
def o808_4 (p : Params) : Obj := .mk (.type "tuple") .none (@PySem.Data.seq (@List.toArray PySem.Value [(u "self" 1307), (u "comes" 1308), (u "came" 1309), (u "rows" 1310), (u "lane" 1311), (u "outs" 1312)]) 0) #[]
def o809_4 (p : Params) : Obj := .mk (.type "tuple") .none (@PySem.Data.seq #[] 0) #[]
def o810_4 (p : Params) : Obj := .mk .none .none (.func (.mk (s "tick") (s "House.tick") (defArgs (inClass (tp 47) 9)) (.stmts (defBody (inClass (tp 47) 9))) (defScope (inClass (tp 47) 9)) 0 [] .none .none .none .none .none .none .none 0)) #[]
def o811_4 (p : Params) : Obj := .mk (.type "code") .none (@PySem.Data.fields (@List.toArray PySem.Value [(u "tick" 1304), (u "House.tick" 1305), (u "/claim/cut.py" 1306), (@PySem.Value.int (i 483) 0), (@PySem.Value.int (i 2) 0), (@PySem.Value.int (i 0) 0), (@PySem.Value.int (i 0) 0), (@PySem.Value.int (i 3) 0), (r 806), (@PySem.Value.bool Bool.true), (@PySem.Value.int (i 181) 0), (r 807), .none, (r 808), (r 809), (r 810), (@PySem.Value.int (i 1313) 0), (@PySem.Value.int (i 483) 0), (u "/claim/cut.py" 1314)])) #[]
def o812_4 (p : Params) : Obj := .mk (.type "function") .none (.func (.mk (s "tick") (s "House.tick") (defArgs (inClass (tp 47) 9)) (.stmts (defBody (inClass (tp 47) 9))) (defScope (inClass (tp 47) 9)) 3 [] (r 805) .none .none (u "hourlanes.house" 1201) .none (r 811) .none 0)) #[]
def o813_4 (p : Params) : Obj := .mk (.type "tuple") .none (@PySem.Data.seq #[] 0) #[]
def o814_4 (p : Params) : Obj := .mk .none .none (@PySem.Data.fields #[]) #[]
def o815_4 (p : Params) : Obj := .mk .none .none (.func (.mk (s "lane_rows") (s "House.lane_rows") (defArgs (inClass (tp 47) 10)) (.stmts (defBody (inClass (tp 47) 10))) (defScope (inClass (tp 47) 10)) 0 [] .none .none .none .none .none .none .none 0)) #[]
def o816_4 (p : Params) : Obj := .mk (.type "code") .none (@PySem.Data.fields (@List.toArray PySem.Value [(u "lane_rows" 1316), (u "House.lane_rows" 1317), (u "/claim/cut.py" 1318), (@PySem.Value.int (i 498) 0), (@PySem.Value.int (i 1) 0), (@PySem.Value.int (i 0) 0), (@PySem.Value.int (i 0) 0), (@PySem.Value.int (i 3) 0), (r 813), (@PySem.Value.bool Bool.true), (@PySem.Value.int (i 181) 0), (r 814), .none, .none, .none, (r 815), (@PySem.Value.int (i 1319) 0), (@PySem.Value.int (i 498) 0), (u "/claim/cut.py" 1320)])) #[]
def o817_4 (p : Params) : Obj := .mk (.type "function") .none (.func (.mk (s "lane_rows") (s "House.lane_rows") (defArgs (inClass (tp 47) 10)) (.stmts (defBody (inClass (tp 47) 10))) (defScope (inClass (tp 47) 10)) 3 [] .none .none .none (u "hourlanes.house" 1201) .none (r 816) .none 0)) #[]
def o818_4 (p : Params) : Obj := .mk (.type "tuple") .none (@PySem.Data.seq #[] 0) #[]
def o819_4 (p : Params) : Obj := .mk .none .none (@PySem.Data.fields #[]) #[]
def o820_4 (p : Params) : Obj := .mk (.type "tuple") .none (@PySem.Data.seq (@List.toArray PySem.Value [(u "self" 1325), (u "found" 1326), (u "name" 1327), (u "flow" 1328), (u "way" 1329)]) 0) #[]
def o821_4 (p : Params) : Obj := .mk (.type "tuple") .none (@PySem.Data.seq #[] 0) #[]
def o822_4 (p : Params) : Obj := .mk .none .none (.func (.mk (s "stream_rows") (s "House.stream_rows") (defArgs (inClass (tp 47) 11)) (.stmts (defBody (inClass (tp 47) 11))) (defScope (inClass (tp 47) 11)) 0 [] .none .none .none .none .none .none .none 0)) #[]
def o823_4 (p : Params) : Obj := .mk (.type "code") .none (@PySem.Data.fields (@List.toArray PySem.Value [(u "stream_rows" 1322), (u "House.stream_rows" 1323), (u "/claim/cut.py" 1324), (@PySem.Value.int (i 502) 0), (@PySem.Value.int (i 1) 0), (@PySem.Value.int (i 0) 0), (@PySem.Value.int (i 0) 0), (@PySem.Value.int (i 3) 0), (r 818), (@PySem.Value.bool Bool.true), (@PySem.Value.int (i 181) 0), (r 819), .none, (r 820), (r 821), (r 822), (@PySem.Value.int (i 1330) 0), (@PySem.Value.int (i 502) 0), (u "/claim/cut.py" 1331)])) #[]
def o824_4 (p : Params) : Obj := .mk (.type "function") .none (.func (.mk (s "stream_rows") (s "House.stream_rows") (defArgs (inClass (tp 47) 11)) (.stmts (defBody (inClass (tp 47) 11))) (defScope (inClass (tp 47) 11)) 3 [] .none .none .none (u "hourlanes.house" 1201) .none (r 823) .none 0)) #[]
def o825_4 (p : Params) : Obj := .mk (.type "tuple") .none (@PySem.Data.seq #[] 0) #[]
def o826_4 (p : Params) : Obj := .mk .none .none (@PySem.Data.fields #[]) #[]
def o827_4 (p : Params) : Obj := .mk (.type "tuple") .none (@PySem.Data.seq (@List.toArray PySem.Value [(u "self" 1336)]) 0) #[]
def o828_4 (p : Params) : Obj := .mk (.type "tuple") .none (@PySem.Data.seq #[] 0) #[]
def o829_4 (p : Params) : Obj := .mk .none .none (.func (.mk (s "lot_rows") (s "House.lot_rows") (defArgs (inClass (tp 47) 12)) (.stmts (defBody (inClass (tp 47) 12))) (defScope (inClass (tp 47) 12)) 0 [] .none .none .none .none .none .none .none 0)) #[]
def o830_4 (p : Params) : Obj := .mk (.type "code") .none (@PySem.Data.fields (@List.toArray PySem.Value [(u "lot_rows" 1333), (u "House.lot_rows" 1334), (u "/claim/cut.py" 1335), (@PySem.Value.int (i 508) 0), (@PySem.Value.int (i 1) 0), (@PySem.Value.int (i 0) 0), (@PySem.Value.int (i 0) 0), (@PySem.Value.int (i 3) 0), (r 825), (@PySem.Value.bool Bool.true), (@PySem.Value.int (i 181) 0), (r 826), .none, (r 827), (r 828), (r 829), (@PySem.Value.int (i 1337) 0), (@PySem.Value.int (i 508) 0), (u "/claim/cut.py" 1338)])) #[]
def o831_4 (p : Params) : Obj := .mk (.type "function") .none (.func (.mk (s "lot_rows") (s "House.lot_rows") (defArgs (inClass (tp 47) 12)) (.stmts (defBody (inClass (tp 47) 12))) (defScope (inClass (tp 47) 12)) 3 [] .none .none .none (u "hourlanes.house" 1201) .none (r 830) .none 0)) #[]
def o832_4 (p : Params) : Obj := .mk (.type "tuple") .none (@PySem.Data.seq #[] 0) #[]
def o833_4 (p : Params) : Obj := .mk .none .none (@PySem.Data.fields #[]) #[]
def o834_4 (p : Params) : Obj := .mk (.type "tuple") .none (@PySem.Data.seq (@List.toArray PySem.Value [(u "self" 1343), (u "lane" 1344)]) 0) #[]
def o835_4 (p : Params) : Obj := .mk (.type "tuple") .none (@PySem.Data.seq #[] 0) #[]
def o836_4 (p : Params) : Obj := .mk .none .none (.func (.mk (s "standing") (s "House.standing") (defArgs (inClass (tp 47) 13)) (.stmts (defBody (inClass (tp 47) 13))) (defScope (inClass (tp 47) 13)) 0 [] .none .none .none .none .none .none .none 0)) #[]
def o837_4 (p : Params) : Obj := .mk (.type "code") .none (@PySem.Data.fields (@List.toArray PySem.Value [(u "standing" 1340), (u "House.standing" 1341), (u "/claim/cut.py" 1342), (@PySem.Value.int (i 511) 0), (@PySem.Value.int (i 2) 0), (@PySem.Value.int (i 0) 0), (@PySem.Value.int (i 0) 0), (@PySem.Value.int (i 3) 0), (r 832), (@PySem.Value.bool Bool.true), (@PySem.Value.int (i 181) 0), (r 833), .none, (r 834), (r 835), (r 836), (@PySem.Value.int (i 1345) 0), (@PySem.Value.int (i 511) 0), (u "/claim/cut.py" 1346)])) #[]
def o838_4 (p : Params) : Obj := .mk (.type "function") .none (.func (.mk (s "standing") (s "House.standing") (defArgs (inClass (tp 47) 13)) (.stmts (defBody (inClass (tp 47) 13))) (defScope (inClass (tp 47) 13)) 3 [] .none .none .none (u "hourlanes.house" 1201) .none (r 837) .none 0)) #[]
def o839_4 (p : Params) : Obj := .mk (.type "tuple") .none (@PySem.Data.seq #[] 0) #[]
def o840_4 (p : Params) : Obj := .mk .none .none (@PySem.Data.fields #[]) #[]
def o841_4 (p : Params) : Obj := .mk (.type "tuple") .none (@PySem.Data.seq (@List.toArray PySem.Value [(u "self" 1351), (u "name" 1352)]) 0) #[]
def o842_4 (p : Params) : Obj := .mk (.type "tuple") .none (@PySem.Data.seq #[] 0) #[]
def o843_4 (p : Params) : Obj := .mk .none .none (.func (.mk (s "most_of") (s "House.most_of") (defArgs (inClass (tp 47) 14)) (.stmts (defBody (inClass (tp 47) 14))) (defScope (inClass (tp 47) 14)) 0 [] .none .none .none .none .none .none .none 0)) #[]
def o844_4 (p : Params) : Obj := .mk (.type "code") .none (@PySem.Data.fields (@List.toArray PySem.Value [(u "most_of" 1348), (u "House.most_of" 1349), (u "/claim/cut.py" 1350), (@PySem.Value.int (i 514) 0), (@PySem.Value.int (i 2) 0), (@PySem.Value.int (i 0) 0), (@PySem.Value.int (i 0) 0), (@PySem.Value.int (i 3) 0), (r 839), (@PySem.Value.bool Bool.true), (@PySem.Value.int (i 181) 0), (r 840), .none, (r 841), (r 842), (r 843), (@PySem.Value.int (i 1353) 0), (@PySem.Value.int (i 514) 0), (u "/claim/cut.py" 1354)])) #[]
def o845_4 (p : Params) : Obj := .mk (.type "function") .none (.func (.mk (s "most_of") (s "House.most_of") (defArgs (inClass (tp 47) 14)) (.stmts (defBody (inClass (tp 47) 14))) (defScope (inClass (tp 47) 14)) 3 [] .none .none .none (u "hourlanes.house" 1201) .none (r 844) .none 0)) #[]
def o846_4 (p : Params) : Obj := .mk (.type "tuple") .none (@PySem.Data.seq #[] 0) #[]
def o847_4 (p : Params) : Obj := .mk .none .none (@PySem.Data.fields #[]) #[]
def o848_4 (p : Params) : Obj := .mk (.type "tuple") .none (@PySem.Data.seq (@List.toArray PySem.Value [(u "self" 1359), (u "lane" 1360)]) 0) #[]
def o849_4 (p : Params) : Obj := .mk (.type "tuple") .none (@PySem.Data.seq #[] 0) #[]
def o850_4 (p : Params) : Obj := .mk .none .none (.func (.mk (s "scene") (s "House.scene") (defArgs (inClass (tp 47) 15)) (.stmts (defBody (inClass (tp 47) 15))) (defScope (inClass (tp 47) 15)) 0 [] .none .none .none .none .none .none .none 0)) #[]
def o851_4 (p : Params) : Obj := .mk (.type "code") .none (@PySem.Data.fields (@List.toArray PySem.Value [(u "scene" 1356), (u "House.scene" 1357), (u "/claim/cut.py" 1358), (@PySem.Value.int (i 517) 0), (@PySem.Value.int (i 2) 0), (@PySem.Value.int (i 0) 0), (@PySem.Value.int (i 0) 0), (@PySem.Value.int (i 3) 0), (r 846), (@PySem.Value.bool Bool.true), (@PySem.Value.int (i 181) 0), (r 847), .none, (r 848), (r 849), (r 850), (@PySem.Value.int (i 1361) 0), (@PySem.Value.int (i 517) 0), (u "/claim/cut.py" 1362)])) #[]
def o852_4 (p : Params) : Obj := .mk (.type "function") .none (.func (.mk (s "scene") (s "House.scene") (defArgs (inClass (tp 47) 15)) (.stmts (defBody (inClass (tp 47) 15))) (defScope (inClass (tp 47) 15)) 3 [] .none .none .none (u "hourlanes.house" 1201) .none (r 851) .none 0)) #[]
def o853_4 (p : Params) : Obj := .mk (.type "tuple") .none (@PySem.Data.seq #[] 0) #[]
def o854_4 (p : Params) : Obj := .mk .none .none (@PySem.Data.fields #[]) #[]
def o855_4 (p : Params) : Obj := .mk (.type "tuple") .none (@PySem.Data.seq (@List.toArray PySem.Value [(u "self" 1367)]) 0) #[]
def o856_4 (p : Params) : Obj := .mk (.type "tuple") .none (@PySem.Data.seq #[] 0) #[]
def o857_4 (p : Params) : Obj := .mk .none .none (.func (.mk (s "book") (s "House.book") (defArgs (inClass (tp 47) 16)) (.stmts (defBody (inClass (tp 47) 16))) (defScope (inClass (tp 47) 16)) 0 [] .none .none .none .none .none .none .none 0)) #[]
def o858_4 (p : Params) : Obj := .mk (.type "code") .none (@PySem.Data.fields (@List.toArray PySem.Value [(u "book" 1364), (u "House.book" 1365), (u "/claim/cut.py" 1366), (@PySem.Value.int (i 521) 0), (@PySem.Value.int (i 1) 0), (@PySem.Value.int (i 0) 0), (@PySem.Value.int (i 0) 0), (@PySem.Value.int (i 3) 0), (r 853), (@PySem.Value.bool Bool.true), (@PySem.Value.int (i 181) 0), (r 854), .none, (r 855), (r 856), (r 857), (@PySem.Value.int (i 1368) 0), (@PySem.Value.int (i 521) 0), (u "/claim/cut.py" 1369)])) #[]
def o859_4 (p : Params) : Obj := .mk (.type "function") .none (.func (.mk (s "book") (s "House.book") (defArgs (inClass (tp 47) 16)) (.stmts (defBody (inClass (tp 47) 16))) (defScope (inClass (tp 47) 16)) 3 [] .none .none .none (u "hourlanes.house" 1201) .none (r 858) .none 0)) #[]
def o860_4 (p : Params) : Obj := .mk (.type "tuple") .none (@PySem.Data.seq (@List.toArray PySem.Value [(u "floor" 1371), (u "now" 1372), (u "pages" 1373)]) 0) #[]
def o861_4 (p : Params) : Obj := .mk (.type "dict") .none (dc [(e p "__module__" 1216 (u "hourlanes.house" 1201)), (e p "__firstlineno__" 1220 (@PySem.Value.int (i 432) 1219)), (e p "__init__" 1227 (r 750)), (e p "build" 1236 (r 757)), (e p "take_terms" 1250 (r 764)), (e p "let_in" 1260 (r 771)), (e p "turn" 1270 (r 778)), (e p "let_go" 1278 (r 785)), (e p "widen" 1287 (r 792)), (e p "shut" 1297 (r 799)), (e p "carry" 1303 (r 804)), (e p "tick" 1315 (r 812)), (e p "lane_rows" 1321 (r 817)), (e p "stream_rows" 1332 (r 824)), (e p "lot_rows" 1339 (r 831)), (e p "standing" 1347 (r 838)), (e p "most_of" 1355 (r 845)), (e p "scene" 1363 (r 852)), (e p "book" 1370 (r 859)), (e p "__static_attributes__" 1374 (r 860)), (e p "__dict__" 1376 (r 863)), (e p "__weakref__" 1378 (r 864)), (e p "__doc__" 1379 .none)] 4) #[]
def o862_4 (p : Params) : Obj := .mk (.type "type") .none (@PySem.Data.cls (@PySem.ClassData.mk (s "House") [(.type "object")] [(r 862), (.type "object")] 861 (s "House") Bool.true [] [] Bool.false .none Bool.false)) (@List.toArray (@Option PySem.Value) [.none, .none, (.some (u "House" 1209)), (.some (u "House" 1217)), (.some (.builtin "object.__new__")), (.some (@PySem.Value.bool Bool.true))])
def o863_4 (p : Params) : Obj := .mk (.type "getset_descriptor") .none (@PySem.Data.fields (@List.toArray PySem.Value [(u "__dict__" 1375), (r 862), (.builtin "function.__dict__"), (.builtin "function.__dict__#set")])) #[]
def o864_4 (p : Params) : Obj := .mk (.type "getset_descriptor") .none (@PySem.Data.fields (@List.toArray PySem.Value [(u "__weakref__" 1377), (r 862), (.builtin "ExceptionGroup.__weakref__"), .none])) #[]
def o865_4 (p : Params) : Obj := .mk (.type "super") .none (@PySem.Data.fields (@List.toArray PySem.Value [(r 862), (r 862), (r 862)])) #[]
def o866_4 (p : Params) : Obj := .mk (.type "builtin_function_or_method") .none (@PySem.Data.fields (@List.toArray PySem.Value [(.builtin "object.__init_subclass__"), (r 862)])) #[]
def o867_4 (p : Params) : Obj := .mk (.type "tuple") .none (@PySem.Data.seq #[] 0) #[]
def o868_4 (p : Params) : Obj := .mk .none .none (@PySem.Data.fields #[]) #[]
def o869_4 (p : Params) : Obj := .mk .none .none (.func (.mk (s "_law_begun") (s "_law_begun") (defArgs (tp 49)) (.stmts (defBody (tp 49))) (defScope (tp 49)) 0 [] .none .none .none .none .none .none .none 0)) #[]
def o870_4 (p : Params) : Obj := .mk (.type "code") .none (@PySem.Data.fields (@List.toArray PySem.Value [(u "_law_begun" 1384), (u "_law_begun" 1385), (u "/claim/cut.py" 1386), (@PySem.Value.int (i 524) 0), (@PySem.Value.int (i 1) 0), (@PySem.Value.int (i 0) 0), (@PySem.Value.int (i 0) 0), (@PySem.Value.int (i 3) 0), (r 867), (@PySem.Value.bool Bool.true), (@PySem.Value.int (i 181) 0), (r 868), .none, .none, .none, (r 869), (@PySem.Value.int (i 1387) 0), (@PySem.Value.int (i 524) 0), (u "/claim/cut.py" 1388)])) #[]
def o871_4 (p : Params) : Obj := .mk (.type "function") .none (.func (.mk (s "_law_begun") (s "_law_begun") (defArgs (tp 49)) (.stmts (defBody (tp 49))) (defScope (tp 49)) 3 [] .none .none .none (u "law_hourlanes_k50_lanes_built" 1382) .none (r 870) .none 0)) #[]
def o872_4 (p : Params) : Obj := .mk (.type "tuple") .none (@PySem.Data.seq #[] 0) #[]
def o873_4 (p : Params) : Obj := .mk .none .none (@PySem.Data.fields #[]) #[]
def o874_4 (p : Params) : Obj := .mk (.type "tuple") .none (@PySem.Data.seq (@List.toArray PySem.Value [(u "_law_state" 1393), (u "_law_many" 1394), (u "_law_found" 1395), (u "_law_turn" 1396), (u "_law_cell" 1397), (u "_law_seed" 1398), (u "_law_mixed" 1399)]) 0) #[]
def o875_4 (p : Params) : Obj := .mk (.type "tuple") .none (@PySem.Data.seq #[] 0) #[]
def o876_4 (p : Params) : Obj := .mk .none .none (.func (.mk (s "_law_take") (s "_law_take") (defArgs (tp 50)) (.stmts (defBody (tp 50))) (defScope (tp 50)) 0 [] .none .none .none .none .none .none .none 0)) #[]
def o877_4 (p : Params) : Obj := .mk (.type "code") .none (@PySem.Data.fields (@List.toArray PySem.Value [(u "_law_take" 1390), (u "_law_take" 1391), (u "/claim/cut.py" 1392), (@PySem.Value.int (i 526) 0), (@PySem.Value.int (i 2) 0), (@PySem.Value.int (i 0) 0), (@PySem.Value.int (i 0) 0), (@PySem.Value.int (i 3) 0), (r 872), (@PySem.Value.bool Bool.true), (@PySem.Value.int (i 181) 0), (r 873), .none, (r 874), (r 875), (r 876), (@PySem.Value.int (i 1400) 0), (@PySem.Value.int (i 526) 0), (u "/claim/cut.py" 1401)])) #[]
def o878_4 (p : Params) : Obj := .mk (.type "function") .none (.func (.mk (s "_law_take") (s "_law_take") (defArgs (tp 50)) (.stmts (defBody (tp 50))) (defScope (tp 50)) 3 [] .none .none .none (u "law_hourlanes_k50_lanes_built" 1382) .none (r 877) .none 0)) #[]
def o879_4 (p : Params) : Obj := .mk (.type "tuple") .none (@PySem.Data.seq #[] 0) #[]
def o880_4 (p : Params) : Obj := .mk .none .none (@PySem.Data.fields #[]) #[]
def o881_4 (p : Params) : Obj := .mk (.type "tuple") .none (@PySem.Data.seq (@List.toArray PySem.Value [(u "_law_state" 1406), (u "_law_some" 1407)]) 0) #[]
def o882_4 (p : Params) : Obj := .mk (.type "tuple") .none (@PySem.Data.seq #[] 0) #[]
def o883_4 (p : Params) : Obj := .mk .none .none (.func (.mk (s "_law_pick") (s "_law_pick") (defArgs (tp 51)) (.stmts (defBody (tp 51))) (defScope (tp 51)) 0 [] .none .none .none .none .none .none .none 0)) #[]
def o884_4 (p : Params) : Obj := .mk (.type "code") .none (@PySem.Data.fields (@List.toArray PySem.Value [(u "_law_pick" 1403), (u "_law_pick" 1404), (u "/claim/cut.py" 1405), (@PySem.Value.int (i 540) 0), (@PySem.Value.int (i 2) 0), (@PySem.Value.int (i 0) 0), (@PySem.Value.int (i 0) 0), (@PySem.Value.int (i 3) 0), (r 879), (@PySem.Value.bool Bool.true), (@PySem.Value.int (i 181) 0), (r 880), .none, (r 881), (r 882), (r 883), (@PySem.Value.int (i 1408) 0), (@PySem.Value.int (i 540) 0), (u "/claim/cut.py" 1409)])) #[]
def o885_4 (p : Params) : Obj := .mk (.type "function") .none (.func (.mk (s "_law_pick") (s "_law_pick") (defArgs (tp 51)) (.stmts (defBody (tp 51))) (defScope (tp 51)) 3 [] .none .none .none (u "law_hourlanes_k50_lanes_built" 1382) .none (r 884) .none 0)) #[]
def o886_4 (p : Params) : Obj := .mk (.type "tuple") .none (@PySem.Data.seq #[] 0) #[]
def o887_4 (p : Params) : Obj := .mk .none .none (@PySem.Data.fields #[]) #[]
def o888_4 (p : Params) : Obj := .mk .none .none (.func (.mk (s "_law_names") (s "_law_names") (defArgs (tp 52)) (.stmts (defBody (tp 52))) (defScope (tp 52)) 0 [] .none .none .none .none .none .none .none 0)) #[]
def o889_4 (p : Params) : Obj := .mk (.type "code") .none (@PySem.Data.fields (@List.toArray PySem.Value [(u "_law_names" 1411), (u "_law_names" 1412), (u "/claim/cut.py" 1413), (@PySem.Value.int (i 542) 0), (@PySem.Value.int (i 2) 0), (@PySem.Value.int (i 0) 0), (@PySem.Value.int (i 0) 0), (@PySem.Value.int (i 3) 0), (r 886), (@PySem.Value.bool Bool.true), (@PySem.Value.int (i 181) 0), (r 887), .none, .none, .none, (r 888), (@PySem.Value.int (i 1414) 0), (@PySem.Value.int (i 542) 0), (u "/claim/cut.py" 1415)])) #[]
def o890_4 (p : Params) : Obj := .mk (.type "function") .none (.func (.mk (s "_law_names") (s "_law_names") (defArgs (tp 52)) (.stmts (defBody (tp 52))) (defScope (tp 52)) 3 [] .none .none .none (u "law_hourlanes_k50_lanes_built" 1382) .none (r 889) .none 0)) #[]
def o891_4 (p : Params) : Obj := .mk (.type "tuple") .none (@PySem.Data.seq #[] 0) #[]
def o892_4 (p : Params) : Obj := .mk .none .none (@PySem.Data.fields #[]) #[]
def o893_4 (p : Params) : Obj := .mk (.type "tuple") .none (@PySem.Data.seq (@List.toArray PySem.Value [(u "_law_state" 1420), (u "_law_call" 1421), (u "_law_at" 1422), (u "_law_sign" 1423)]) 0) #[]
def o894_4 (p : Params) : Obj := .mk (.type "tuple") .none (@PySem.Data.seq #[] 0) #[]
def o895_4 (p : Params) : Obj := .mk .none .none (.func (.mk (s "_law_spoilt") (s "_law_spoilt") (defArgs (tp 53)) (.stmts (defBody (tp 53))) (defScope (tp 53)) 0 [] .none .none .none .none .none .none .none 0)) #[]
def o896_4 (p : Params) : Obj := .mk (.type "code") .none (@PySem.Data.fields (@List.toArray PySem.Value [(u "_law_spoilt" 1417), (u "_law_spoilt" 1418), (u "/claim/cut.py" 1419), (@PySem.Value.int (i 554) 0), (@PySem.Value.int (i 2) 0), (@PySem.Value.int (i 0) 0), (@PySem.Value.int (i 0) 0), (@PySem.Value.int (i 3) 0), (r 891), (@PySem.Value.bool Bool.true), (@PySem.Value.int (i 181) 0), (r 892), .none, (r 893), (r 894), (r 895), (@PySem.Value.int (i 1424) 0), (@PySem.Value.int (i 554) 0), (u "/claim/cut.py" 1425)])) #[]
def o897_4 (p : Params) : Obj := .mk (.type "function") .none (.func (.mk (s "_law_spoilt") (s "_law_spoilt") (defArgs (tp 53)) (.stmts (defBody (tp 53))) (defScope (tp 53)) 3 [] .none .none .none (u "law_hourlanes_k50_lanes_built" 1382) .none (r 896) .none 0)) #[]
def o898_4 (p : Params) : Obj := .mk (.type "tuple") .none (@PySem.Data.seq #[] 0) #[]
def o899_4 (p : Params) : Obj := .mk .none .none (@PySem.Data.fields #[]) #[]
def o900_4 (p : Params) : Obj := .mk .none .none (.func (.mk (s "_law_is_name") (s "_law_is_name") (defArgs (tp 54)) (.stmts (defBody (tp 54))) (defScope (tp 54)) 0 [] .none .none .none .none .none .none .none 0)) #[]
def o901_4 (p : Params) : Obj := .mk (.type "code") .none (@PySem.Data.fields (@List.toArray PySem.Value [(u "_law_is_name" 1427), (u "_law_is_name" 1428), (u "/claim/cut.py" 1429), (@PySem.Value.int (i 558) 0), (@PySem.Value.int (i 1) 0), (@PySem.Value.int (i 0) 0), (@PySem.Value.int (i 0) 0), (@PySem.Value.int (i 3) 0), (r 898), (@PySem.Value.bool Bool.true), (@PySem.Value.int (i 181) 0), (r 899), .none, .none, .none, (r 900), (@PySem.Value.int (i 1430) 0), (@PySem.Value.int (i 558) 0), (u "/claim/cut.py" 1431)])) #[]
def o902_4 (p : Params) : Obj := .mk (.type "function") .none (.func (.mk (s "_law_is_name") (s "_law_is_name") (defArgs (tp 54)) (.stmts (defBody (tp 54))) (defScope (tp 54)) 3 [] .none .none .none (u "law_hourlanes_k50_lanes_built" 1382) .none (r 901) .none 0)) #[]
def o903_4 (p : Params) : Obj := .mk (.type "tuple") .none (@PySem.Data.seq #[] 0) #[]
def o904_4 (p : Params) : Obj := .mk .none .none (@PySem.Data.fields #[]) #[]
def o905_4 (p : Params) : Obj := .mk (.type "tuple") .none (@PySem.Data.seq (@List.toArray PySem.Value [(u "_law_error" 1436), (u "_law_kinds" 1437), (u "_law_names_here" 1438), (u "_law_word_here" 1439)]) 0) #[]
def o906_4 (p : Params) : Obj := .mk (.type "tuple") .none (@PySem.Data.seq #[] 0) #[]
def o907_4 (p : Params) : Obj := .mk .none .none (.func (.mk (s "_law_alone") (s "_law_alone") (defArgs (tp 55)) (.stmts (defBody (tp 55))) (defScope (tp 55)) 0 [] .none .none .none .none .none .none .none 0)) #[]
def o908_4 (p : Params) : Obj := .mk (.type "code") .none (@PySem.Data.fields (@List.toArray PySem.Value [(u "_law_alone" 1433), (u "_law_alone" 1434), (u "/claim/cut.py" 1435), (@PySem.Value.int (i 560) 0), (@PySem.Value.int (i 1) 0), (@PySem.Value.int (i 0) 0), (@PySem.Value.int (i 0) 0), (@PySem.Value.int (i 3) 0), (r 903), (@PySem.Value.bool Bool.true), (@PySem.Value.int (i 181) 0), (r 904), .none, (r 905), (r 906), (r 907), (@PySem.Value.int (i 1440) 0), (@PySem.Value.int (i 560) 0), (u "/claim/cut.py" 1441)])) #[]
def o909_4 (p : Params) : Obj := .mk (.type "function") .none (.func (.mk (s "_law_alone") (s "_law_alone") (defArgs (tp 55)) (.stmts (defBody (tp 55))) (defScope (tp 55)) 3 [] .none .none .none (u "law_hourlanes_k50_lanes_built" 1382) .none (r 908) .none 0)) #[]
def o910_4 (p : Params) : Obj := .mk (.type "tuple") .none (@PySem.Data.seq #[] 0) #[]
def o911_4 (p : Params) : Obj := .mk .none .none (@PySem.Data.fields #[]) #[]
def o912_4 (p : Params) : Obj := .mk (.type "tuple") .none (@PySem.Data.seq (@List.toArray PySem.Value [(u "_law_house" 1446), (u "_law_deed" 1447), (u "_law_caught" 1448), (u "e" 1449)]) 0) #[]
def o913_4 (p : Params) : Obj := .mk (.type "tuple") .none (@PySem.Data.seq #[] 0) #[]
def o914_4 (p : Params) : Obj := .mk .none .none (.func (.mk (s "_law_done") (s "_law_done") (defArgs (tp 56)) (.stmts (defBody (tp 56))) (defScope (tp 56)) 0 [] .none .none .none .none .none .none .none 0)) #[]
def o915_4 (p : Params) : Obj := .mk (.type "code") .none (@PySem.Data.fields (@List.toArray PySem.Value [(u "_law_done" 1443), (u "_law_done" 1444), (u "/claim/cut.py" 1445), (@PySem.Value.int (i 576) 0), (@PySem.Value.int (i 2) 0), (@PySem.Value.int (i 0) 0), (@PySem.Value.int (i 0) 0), (@PySem.Value.int (i 3) 0), (r 910), (@PySem.Value.bool Bool.true), (@PySem.Value.int (i 181) 0), (r 911), .none, (r 912), (r 913), (r 914), (@PySem.Value.int (i 1450) 0), (@PySem.Value.int (i 576) 0), (u "/claim/cut.py" 1451)])) #[]
def o916_4 (p : Params) : Obj := .mk (.type "function") .none (.func (.mk (s "_law_done") (s "_law_done") (defArgs (tp 56)) (.stmts (defBody (tp 56))) (defScope (tp 56)) 3 [] .none .none .none (u "law_hourlanes_k50_lanes_built" 1382) .none (r 915) .none 0)) #[]
def o917_4 (p : Params) : Obj := .mk (.type "tuple") .none (@PySem.Data.seq #[] 0) #[]
def o918_4 (p : Params) : Obj := .mk .none .none (@PySem.Data.fields #[]) #[]
def o919_4 (p : Params) : Obj := .mk (.type "tuple") .none (@PySem.Data.seq (@List.toArray PySem.Value [(u "_law_state" 1456), (u "_law_far" 1457)]) 0) #[]
def o920_4 (p : Params) : Obj := .mk (.type "tuple") .none (@PySem.Data.seq #[] 0) #[]
def o921_4 (p : Params) : Obj := .mk .none .none (.func (.mk (s "_law_width") (s "_law_width") (defArgs (tp 57)) (.stmts (defBody (tp 57))) (defScope (tp 57)) 0 [] .none .none .none .none .none .none .none 0)) #[]
def o922_4 (p : Params) : Obj := .mk (.type "code") .none (@PySem.Data.fields (@List.toArray PySem.Value [(u "_law_width" 1453), (u "_law_width" 1454), (u "/claim/cut.py" 1455), (@PySem.Value.int (i 583) 0), (@PySem.Value.int (i 1) 0), (@PySem.Value.int (i 0) 0), (@PySem.Value.int (i 0) 0), (@PySem.Value.int (i 3) 0), (r 917), (@PySem.Value.bool Bool.true), (@PySem.Value.int (i 181) 0), (r 918), .none, (r 919), (r 920), (r 921), (@PySem.Value.int (i 1458) 0), (@PySem.Value.int (i 583) 0), (u "/claim/cut.py" 1459)])) #[]
def o923_4 (p : Params) : Obj := .mk (.type "function") .none (.func (.mk (s "_law_width") (s "_law_width") (defArgs (tp 57)) (.stmts (defBody (tp 57))) (defScope (tp 57)) 3 [] .none .none .none (u "law_hourlanes_k50_lanes_built" 1382) .none (r 922) .none 0)) #[]
def o924_4 (p : Params) : Obj := .mk (.type "tuple") .none (@PySem.Data.seq #[] 0) #[]
def o925_4 (p : Params) : Obj := .mk .none .none (@PySem.Data.fields #[]) #[]
def o926_4 (p : Params) : Obj := .mk .none .none (.func (.mk (s "_law_word") (s "_law_word") (defArgs (tp 58)) (.stmts (defBody (tp 58))) (defScope (tp 58)) 0 [] .none .none .none .none .none .none .none 0)) #[]
def o927_4 (p : Params) : Obj := .mk (.type "code") .none (@PySem.Data.fields (@List.toArray PySem.Value [(u "_law_word" 1461), (u "_law_word" 1462), (u "/claim/cut.py" 1463), (@PySem.Value.int (i 586) 0), (@PySem.Value.int (i 3) 0), (@PySem.Value.int (i 0) 0), (@PySem.Value.int (i 0) 0), (@PySem.Value.int (i 3) 0), (r 924), (@PySem.Value.bool Bool.true), (@PySem.Value.int (i 181) 0), (r 925), .none, .none, .none, (r 926), (@PySem.Value.int (i 1464) 0), (@PySem.Value.int (i 586) 0), (u "/claim/cut.py" 1465)])) #[]
def o928_4 (p : Params) : Obj := .mk (.type "function") .none (.func (.mk (s "_law_word") (s "_law_word") (defArgs (tp 58)) (.stmts (defBody (tp 58))) (defScope (tp 58)) 3 [] .none .none .none (u "law_hourlanes_k50_lanes_built" 1382) .none (r 927) .none 0)) #[]
def o929_4 (p : Params) : Obj := .mk (.type "tuple") .none (@PySem.Data.seq #[] 0) #[]
def o930_4 (p : Params) : Obj := .mk .none .none (@PySem.Data.fields #[]) #[]
def o931_4 (p : Params) : Obj := .mk .none .none (.func (.mk (s "law") (s "law") (defArgs (tp 59)) (.stmts (defBody (tp 59))) (defScope (tp 59)) 0 [] .none .none .none .none .none .none .none 0)) #[]
def o932_4 (p : Params) : Obj := .mk (.type "code") .none (@PySem.Data.fields (@List.toArray PySem.Value [(u "law" 1467), (u "law" 1468), (u "/claim/cut.py" 1469), (@PySem.Value.int (i 594) 0), (@PySem.Value.int (i 1) 0), (@PySem.Value.int (i 0) 0), (@PySem.Value.int (i 0) 0), (@PySem.Value.int (i 3) 0), (r 929), (@PySem.Value.bool Bool.true), (@PySem.Value.int (i 181) 0), (r 930), .none, .none, .none, (r 931), (@PySem.Value.int (i 1470) 0), (@PySem.Value.int (i 594) 0), (u "/claim/cut.py" 1471)])) #[]
def o933_4 (p : Params) : Obj := .mk (.type "function") .none (.func (.mk (s "law") (s "law") (defArgs (tp 59)) (.stmts (defBody (tp 59))) (defScope (tp 59)) 3 [] .none .none .none (u "law_hourlanes_k50_lanes_built" 1382) .none (r 932) .none 0)) #[]
def t4_0 (p : Params) : BT := (.node (o15_1 p) (.node (o31_2 p) (.node (o63_1 p) (.node (o127_1 p) (.node (o255_3 p) (.node (o511_4 p) .nil .nil) (.node (o767_4 p) .nil .nil)) (.node (o383_3 p) (.node (o639_4 p) .nil .nil) (.node (o895_4 p) .nil .nil))) (.node (o191_2 p) (.node (o319_3 p) (.node (o575_4 p) .nil .nil) (.node (o831_4 p) .nil .nil)) (.node (o447_3 p) (.node (o703_4 p) .nil .nil) .nil))) (.node (o95_1 p) (.node (o159_2 p) (.node (o287_3 p) (.node (o543_4 p) .nil .nil) (.node (o799_4 p) .nil .nil)) (.node (o415_3 p) (.node (o671_4 p) .nil .nil) (.node (o927_4 p) .nil .nil))) (.node (o223_2 p) (.node (o351_3 p) (.node (o607_4 p) .nil .nil) (.node (o863_4 p) .nil .nil)) (.node (o479_3 p) (.node (o735_4 p) .nil .nil) .nil)))) (.node (o47_1 p) (.node (o79_1 p) (.node (o143_2 p) (.node (o271_3 p) (.node (o527_4 p) .nil .nil) (.node (o783_4 p) .nil .nil)) (.node (o399_3 p) (.node (o655_4 p) .nil .nil) (.node (o911_4 p) .nil .nil))) (.node (o207_2 p) (.node (o335_3 p) (.node (o591_4 p) .nil .nil) (.node (o847_4 p) .nil .nil)) (.node (o463_3 p) (.node (o719_4 p) .nil .nil) .nil))) (.node (o111_1 p) (.node (o175_2 p) (.node (o303_3 p) (.node (o559_4 p) .nil .nil) (.node (o815_4 p) .nil .nil)) (.node (o431_3 p) (.node (o687_4 p) .nil .nil) .nil)) (.node (o239_2 p) (.node (o367_3 p) (.node (o623_4 p) .nil .nil) (.node (o879_4 p) .nil .nil)) (.node (o495_4 p) (.node (o751_4 p) .nil .nil) .nil)))))
def t4_1 (p : Params) : BT := (.node (o16_1 p) (.node (o32_1 p) (.node (o64_1 p) (.node (o128_2 p) (.node (o256_3 p) (.node (o512_4 p) .nil .nil) (.node (o768_4 p) .nil .nil)) (.node (o384_3 p) (.node (o640_4 p) .nil .nil) (.node (o896_4 p) .nil .nil))) (.node (o192_2 p) (.node (o320_3 p) (.node (o576_4 p) .nil .nil) (.node (o832_4 p) .nil .nil)) (.node (o448_3 p) (.node (o704_4 p) .nil .nil) .nil))) (.node (o96_1 p) (.node (o160_2 p) (.node (o288_3 p) (.node (o544_4 p) .nil .nil) (.node (o800_4 p) .nil .nil)) (.node (o416_3 p) (.node (o672_4 p) .nil .nil) (.node (o928_4 p) .nil .nil))) (.node (o224_2 p) (.node (o352_3 p) (.node (o608_4 p) .nil .nil) (.node (o864_4 p) .nil .nil)) (.node (o480_3 p) (.node (o736_4 p) .nil .nil) .nil)))) (.node (o48_1 p) (.node (o80_1 p) (.node (o144_2 p) (.node (o272_3 p) (.node (o528_4 p) .nil .nil) (.node (o784_4 p) .nil .nil)) (.node (o400_3 p) (.node (o656_4 p) .nil .nil) (.node (o912_4 p) .nil .nil))) (.node (o208_2 p) (.node (o336_3 p) (.node (o592_4 p) .nil .nil) (.node (o848_4 p) .nil .nil)) (.node (o464_3 p) (.node (o720_4 p) .nil .nil) .nil))) (.node (o112_1 p) (.node (o176_2 p) (.node (o304_3 p) (.node (o560_4 p) .nil .nil) (.node (o816_4 p) .nil .nil)) (.node (o432_3 p) (.node (o688_4 p) .nil .nil) .nil)) (.node (o240_2 p) (.node (o368_3 p) (.node (o624_4 p) .nil .nil) (.node (o880_4 p) .nil .nil)) (.node (o496_4 p) (.node (o752_4 p) .nil .nil) .nil)))))
def t4_2 (p : Params) : BT := (.node (o17_1 p) (.node (o33_1 p) (.node (o65_1 p) (.node (o129_2 p) (.node (o257_3 p) (.node (o513_4 p) .nil .nil) (.node (o769_4 p) .nil .nil)) (.node (o385_3 p) (.node (o641_4 p) .nil .nil) (.node (o897_4 p) .nil .nil))) (.node (o193_2 p) (.node (o321_3 p) (.node (o577_4 p) .nil .nil) (.node (o833_4 p) .nil .nil)) (.node (o449_3 p) (.node (o705_4 p) .nil .nil) .nil))) (.node (o97_1 p) (.node (o161_2 p) (.node (o289_3 p) (.node (o545_4 p) .nil .nil) (.node (o801_4 p) .nil .nil)) (.node (o417_3 p) (.node (o673_4 p) .nil .nil) (.node (o929_4 p) .nil .nil))) (.node (o225_2 p) (.node (o353_3 p) (.node (o609_4 p) .nil .nil) (.node (o865_4 p) .nil .nil)) (.node (o481_3 p) (.node (o737_4 p) .nil .nil) .nil)))) (.node (o49_1 p) (.node (o81_1 p) (.node (o145_2 p) (.node (o273_3 p) (.node (o529_4 p) .nil .nil) (.node (o785_4 p) .nil .nil)) (.node (o401_3 p) (.node (o657_4 p) .nil .nil) (.node (o913_4 p) .nil .nil))) (.node (o209_2 p) (.node (o337_3 p) (.node (o593_4 p) .nil .nil) (.node (o849_4 p) .nil .nil)) (.node (o465_3 p) (.node (o721_4 p) .nil .nil) .nil))) (.node (o113_1 p) (.node (o177_2 p) (.node (o305_3 p) (.node (o561_4 p) .nil .nil) (.node (o817_4 p) .nil .nil)) (.node (o433_3 p) (.node (o689_4 p) .nil .nil) .nil)) (.node (o241_2 p) (.node (o369_3 p) (.node (o625_4 p) .nil .nil) (.node (o881_4 p) .nil .nil)) (.node (o497_4 p) (.node (o753_4 p) .nil .nil) .nil)))))
def t4_3 (p : Params) : BT := (.node (o18_1 p) (.node (o34_1 p) (.node (o66_1 p) (.node (o130_2 p) (.node (o258_3 p) (.node (o514_4 p) .nil .nil) (.node (o770_4 p) .nil .nil)) (.node (o386_3 p) (.node (o642_4 p) .nil .nil) (.node (o898_4 p) .nil .nil))) (.node (o194_2 p) (.node (o322_3 p) (.node (o578_4 p) .nil .nil) (.node (o834_4 p) .nil .nil)) (.node (o450_3 p) (.node (o706_4 p) .nil .nil) .nil))) (.node (o98_1 p) (.node (o162_2 p) (.node (o290_3 p) (.node (o546_4 p) .nil .nil) (.node (o802_4 p) .nil .nil)) (.node (o418_3 p) (.node (o674_4 p) .nil .nil) (.node (o930_4 p) .nil .nil))) (.node (o226_2 p) (.node (o354_3 p) (.node (o610_4 p) .nil .nil) (.node (o866_4 p) .nil .nil)) (.node (o482_3 p) (.node (o738_4 p) .nil .nil) .nil)))) (.node (o50_1 p) (.node (o82_1 p) (.node (o146_2 p) (.node (o274_3 p) (.node (o530_4 p) .nil .nil) (.node (o786_4 p) .nil .nil)) (.node (o402_3 p) (.node (o658_4 p) .nil .nil) (.node (o914_4 p) .nil .nil))) (.node (o210_2 p) (.node (o338_3 p) (.node (o594_4 p) .nil .nil) (.node (o850_4 p) .nil .nil)) (.node (o466_3 p) (.node (o722_4 p) .nil .nil) .nil))) (.node (o114_1 p) (.node (o178_2 p) (.node (o306_3 p) (.node (o562_4 p) .nil .nil) (.node (o818_4 p) .nil .nil)) (.node (o434_3 p) (.node (o690_4 p) .nil .nil) .nil)) (.node (o242_2 p) (.node (o370_3 p) (.node (o626_4 p) .nil .nil) (.node (o882_4 p) .nil .nil)) (.node (o498_4 p) (.node (o754_4 p) .nil .nil) .nil)))))
def t4_4 (p : Params) : BT := (.node (o19_1 p) (.node (o35_1 p) (.node (o67_1 p) (.node (o131_2 p) (.node (o259_3 p) (.node (o515_4 p) .nil .nil) (.node (o771_4 p) .nil .nil)) (.node (o387_3 p) (.node (o643_4 p) .nil .nil) (.node (o899_4 p) .nil .nil))) (.node (o195_2 p) (.node (o323_3 p) (.node (o579_4 p) .nil .nil) (.node (o835_4 p) .nil .nil)) (.node (o451_3 p) (.node (o707_4 p) .nil .nil) .nil))) (.node (o99_1 p) (.node (o163_2 p) (.node (o291_3 p) (.node (o547_4 p) .nil .nil) (.node (o803_4 p) .nil .nil)) (.node (o419_3 p) (.node (o675_4 p) .nil .nil) (.node (o931_4 p) .nil .nil))) (.node (o227_2 p) (.node (o355_3 p) (.node (o611_4 p) .nil .nil) (.node (o867_4 p) .nil .nil)) (.node (o483_3 p) (.node (o739_4 p) .nil .nil) .nil)))) (.node (o51_1 p) (.node (o83_1 p) (.node (o147_2 p) (.node (o275_3 p) (.node (o531_4 p) .nil .nil) (.node (o787_4 p) .nil .nil)) (.node (o403_3 p) (.node (o659_4 p) .nil .nil) (.node (o915_4 p) .nil .nil))) (.node (o211_2 p) (.node (o339_3 p) (.node (o595_4 p) .nil .nil) (.node (o851_4 p) .nil .nil)) (.node (o467_3 p) (.node (o723_4 p) .nil .nil) .nil))) (.node (o115_1 p) (.node (o179_2 p) (.node (o307_3 p) (.node (o563_4 p) .nil .nil) (.node (o819_4 p) .nil .nil)) (.node (o435_3 p) (.node (o691_4 p) .nil .nil) .nil)) (.node (o243_2 p) (.node (o371_3 p) (.node (o627_4 p) .nil .nil) (.node (o883_4 p) .nil .nil)) (.node (o499_4 p) (.node (o755_4 p) .nil .nil) .nil)))))
def t4_5 (p : Params) : BT := (.node (o20_1 p) (.node (o36_1 p) (.node (o68_1 p) (.node (o132_2 p) (.node (o260_3 p) (.node (o516_4 p) .nil .nil) (.node (o772_4 p) .nil .nil)) (.node (o388_3 p) (.node (o644_4 p) .nil .nil) (.node (o900_4 p) .nil .nil))) (.node (o196_2 p) (.node (o324_3 p) (.node (o580_4 p) .nil .nil) (.node (o836_4 p) .nil .nil)) (.node (o452_3 p) (.node (o708_4 p) .nil .nil) .nil))) (.node (o100_1 p) (.node (o164_2 p) (.node (o292_3 p) (.node (o548_4 p) .nil .nil) (.node (o804_4 p) .nil .nil)) (.node (o420_3 p) (.node (o676_4 p) .nil .nil) (.node (o932_4 p) .nil .nil))) (.node (o228_2 p) (.node (o356_3 p) (.node (o612_4 p) .nil .nil) (.node (o868_4 p) .nil .nil)) (.node (o484_3 p) (.node (o740_4 p) .nil .nil) .nil)))) (.node (o52_1 p) (.node (o84_1 p) (.node (o148_2 p) (.node (o276_3 p) (.node (o532_4 p) .nil .nil) (.node (o788_4 p) .nil .nil)) (.node (o404_3 p) (.node (o660_4 p) .nil .nil) (.node (o916_4 p) .nil .nil))) (.node (o212_2 p) (.node (o340_3 p) (.node (o596_4 p) .nil .nil) (.node (o852_4 p) .nil .nil)) (.node (o468_3 p) (.node (o724_4 p) .nil .nil) .nil))) (.node (o116_1 p) (.node (o180_2 p) (.node (o308_3 p) (.node (o564_4 p) .nil .nil) (.node (o820_4 p) .nil .nil)) (.node (o436_3 p) (.node (o692_4 p) .nil .nil) .nil)) (.node (o244_2 p) (.node (o372_3 p) (.node (o628_4 p) .nil .nil) (.node (o884_4 p) .nil .nil)) (.node (o500_4 p) (.node (o756_4 p) .nil .nil) .nil)))))
def t4_6 (p : Params) : BT := (.node (o21_1 p) (.node (o37_1 p) (.node (o69_1 p) (.node (o133_2 p) (.node (o261_3 p) (.node (o517_4 p) .nil .nil) (.node (o773_4 p) .nil .nil)) (.node (o389_3 p) (.node (o645_4 p) .nil .nil) (.node (o901_4 p) .nil .nil))) (.node (o197_2 p) (.node (o325_3 p) (.node (o581_4 p) .nil .nil) (.node (o837_4 p) .nil .nil)) (.node (o453_3 p) (.node (o709_4 p) .nil .nil) .nil))) (.node (o101_1 p) (.node (o165_2 p) (.node (o293_3 p) (.node (o549_4 p) .nil .nil) (.node (o805_4 p) .nil .nil)) (.node (o421_3 p) (.node (o677_4 p) .nil .nil) (.node (o933_4 p) .nil .nil))) (.node (o229_2 p) (.node (o357_3 p) (.node (o613_4 p) .nil .nil) (.node (o869_4 p) .nil .nil)) (.node (o485_3 p) (.node (o741_4 p) .nil .nil) .nil)))) (.node (o53_1 p) (.node (o85_1 p) (.node (o149_2 p) (.node (o277_3 p) (.node (o533_4 p) .nil .nil) (.node (o789_4 p) .nil .nil)) (.node (o405_3 p) (.node (o661_4 p) .nil .nil) (.node (o917_4 p) .nil .nil))) (.node (o213_2 p) (.node (o341_3 p) (.node (o597_4 p) .nil .nil) (.node (o853_4 p) .nil .nil)) (.node (o469_3 p) (.node (o725_4 p) .nil .nil) .nil))) (.node (o117_1 p) (.node (o181_2 p) (.node (o309_3 p) (.node (o565_4 p) .nil .nil) (.node (o821_4 p) .nil .nil)) (.node (o437_3 p) (.node (o693_4 p) .nil .nil) .nil)) (.node (o245_2 p) (.node (o373_3 p) (.node (o629_4 p) .nil .nil) (.node (o885_4 p) .nil .nil)) (.node (o501_4 p) (.node (o757_4 p) .nil .nil) .nil)))))
def t4_7 (p : Params) : BT := (.node (o22_1 p) (.node (o38_1 p) (.node (o70_1 p) (.node (o134_2 p) (.node (o262_3 p) (.node (o518_4 p) .nil .nil) (.node (o774_4 p) .nil .nil)) (.node (o390_3 p) (.node (o646_4 p) .nil .nil) (.node (o902_4 p) .nil .nil))) (.node (o198_2 p) (.node (o326_3 p) (.node (o582_4 p) .nil .nil) (.node (o838_4 p) .nil .nil)) (.node (o454_3 p) (.node (o710_4 p) .nil .nil) .nil))) (.node (o102_1 p) (.node (o166_2 p) (.node (o294_3 p) (.node (o550_4 p) .nil .nil) (.node (o806_4 p) .nil .nil)) (.node (o422_3 p) (.node (o678_4 p) .nil .nil) .nil)) (.node (o230_2 p) (.node (o358_3 p) (.node (o614_4 p) .nil .nil) (.node (o870_4 p) .nil .nil)) (.node (o486_3 p) (.node (o742_4 p) .nil .nil) .nil)))) (.node (o54_1 p) (.node (o86_1 p) (.node (o150_2 p) (.node (o278_3 p) (.node (o534_4 p) .nil .nil) (.node (o790_4 p) .nil .nil)) (.node (o406_3 p) (.node (o662_4 p) .nil .nil) (.node (o918_4 p) .nil .nil))) (.node (o214_2 p) (.node (o342_3 p) (.node (o598_4 p) .nil .nil) (.node (o854_4 p) .nil .nil)) (.node (o470_3 p) (.node (o726_4 p) .nil .nil) .nil))) (.node (o118_1 p) (.node (o182_2 p) (.node (o310_3 p) (.node (o566_4 p) .nil .nil) (.node (o822_4 p) .nil .nil)) (.node (o438_3 p) (.node (o694_4 p) .nil .nil) .nil)) (.node (o246_2 p) (.node (o374_3 p) (.node (o630_4 p) .nil .nil) (.node (o886_4 p) .nil .nil)) (.node (o502_4 p) (.node (o758_4 p) .nil .nil) .nil)))))
def t4_8 (p : Params) : BT := (.node (o23_1 p) (.node (o39_1 p) (.node (o71_1 p) (.node (o135_2 p) (.node (o263_3 p) (.node (o519_4 p) .nil .nil) (.node (o775_4 p) .nil .nil)) (.node (o391_3 p) (.node (o647_4 p) .nil .nil) (.node (o903_4 p) .nil .nil))) (.node (o199_2 p) (.node (o327_3 p) (.node (o583_4 p) .nil .nil) (.node (o839_4 p) .nil .nil)) (.node (o455_3 p) (.node (o711_4 p) .nil .nil) .nil))) (.node (o103_1 p) (.node (o167_2 p) (.node (o295_3 p) (.node (o551_4 p) .nil .nil) (.node (o807_4 p) .nil .nil)) (.node (o423_3 p) (.node (o679_4 p) .nil .nil) .nil)) (.node (o231_2 p) (.node (o359_3 p) (.node (o615_4 p) .nil .nil) (.node (o871_4 p) .nil .nil)) (.node (o487_4 p) (.node (o743_4 p) .nil .nil) .nil)))) (.node (o55_1 p) (.node (o87_1 p) (.node (o151_2 p) (.node (o279_3 p) (.node (o535_4 p) .nil .nil) (.node (o791_4 p) .nil .nil)) (.node (o407_3 p) (.node (o663_4 p) .nil .nil) (.node (o919_4 p) .nil .nil))) (.node (o215_2 p) (.node (o343_3 p) (.node (o599_4 p) .nil .nil) (.node (o855_4 p) .nil .nil)) (.node (o471_3 p) (.node (o727_4 p) .nil .nil) .nil))) (.node (o119_1 p) (.node (o183_2 p) (.node (o311_3 p) (.node (o567_4 p) .nil .nil) (.node (o823_4 p) .nil .nil)) (.node (o439_3 p) (.node (o695_4 p) .nil .nil) .nil)) (.node (o247_2 p) (.node (o375_3 p) (.node (o631_4 p) .nil .nil) (.node (o887_4 p) .nil .nil)) (.node (o503_4 p) (.node (o759_4 p) .nil .nil) .nil)))))
def t4_9 (p : Params) : BT := (.node (o24_1 p) (.node (o40_1 p) (.node (o72_1 p) (.node (o136_2 p) (.node (o264_3 p) (.node (o520_4 p) .nil .nil) (.node (o776_4 p) .nil .nil)) (.node (o392_3 p) (.node (o648_4 p) .nil .nil) (.node (o904_4 p) .nil .nil))) (.node (o200_2 p) (.node (o328_3 p) (.node (o584_4 p) .nil .nil) (.node (o840_4 p) .nil .nil)) (.node (o456_3 p) (.node (o712_4 p) .nil .nil) .nil))) (.node (o104_1 p) (.node (o168_2 p) (.node (o296_3 p) (.node (o552_4 p) .nil .nil) (.node (o808_4 p) .nil .nil)) (.node (o424_3 p) (.node (o680_4 p) .nil .nil) .nil)) (.node (o232_2 p) (.node (o360_3 p) (.node (o616_4 p) .nil .nil) (.node (o872_4 p) .nil .nil)) (.node (o488_4 p) (.node (o744_4 p) .nil .nil) .nil)))) (.node (o56_1 p) (.node (o88_1 p) (.node (o152_2 p) (.node (o280_3 p) (.node (o536_4 p) .nil .nil) (.node (o792_4 p) .nil .nil)) (.node (o408_3 p) (.node (o664_4 p) .nil .nil) (.node (o920_4 p) .nil .nil))) (.node (o216_2 p) (.node (o344_3 p) (.node (o600_4 p) .nil .nil) (.node (o856_4 p) .nil .nil)) (.node (o472_3 p) (.node (o728_4 p) .nil .nil) .nil))) (.node (o120_1 p) (.node (o184_2 p) (.node (o312_3 p) (.node (o568_4 p) .nil .nil) (.node (o824_4 p) .nil .nil)) (.node (o440_3 p) (.node (o696_4 p) .nil .nil) .nil)) (.node (o248_2 p) (.node (o376_3 p) (.node (o632_4 p) .nil .nil) (.node (o888_4 p) .nil .nil)) (.node (o504_4 p) (.node (o760_4 p) .nil .nil) .nil)))))
def t4_10 (p : Params) : BT := (.node (o25_1 p) (.node (o41_1 p) (.node (o73_1 p) (.node (o137_2 p) (.node (o265_3 p) (.node (o521_4 p) .nil .nil) (.node (o777_4 p) .nil .nil)) (.node (o393_3 p) (.node (o649_4 p) .nil .nil) (.node (o905_4 p) .nil .nil))) (.node (o201_2 p) (.node (o329_3 p) (.node (o585_4 p) .nil .nil) (.node (o841_4 p) .nil .nil)) (.node (o457_3 p) (.node (o713_4 p) .nil .nil) .nil))) (.node (o105_1 p) (.node (o169_2 p) (.node (o297_3 p) (.node (o553_4 p) .nil .nil) (.node (o809_4 p) .nil .nil)) (.node (o425_3 p) (.node (o681_4 p) .nil .nil) .nil)) (.node (o233_2 p) (.node (o361_3 p) (.node (o617_4 p) .nil .nil) (.node (o873_4 p) .nil .nil)) (.node (o489_4 p) (.node (o745_4 p) .nil .nil) .nil)))) (.node (o57_1 p) (.node (o89_1 p) (.node (o153_2 p) (.node (o281_3 p) (.node (o537_4 p) .nil .nil) (.node (o793_4 p) .nil .nil)) (.node (o409_3 p) (.node (o665_4 p) .nil .nil) (.node (o921_4 p) .nil .nil))) (.node (o217_2 p) (.node (o345_3 p) (.node (o601_4 p) .nil .nil) (.node (o857_4 p) .nil .nil)) (.node (o473_3 p) (.node (o729_4 p) .nil .nil) .nil))) (.node (o121_1 p) (.node (o185_2 p) (.node (o313_3 p) (.node (o569_4 p) .nil .nil) (.node (o825_4 p) .nil .nil)) (.node (o441_3 p) (.node (o697_4 p) .nil .nil) .nil)) (.node (o249_2 p) (.node (o377_3 p) (.node (o633_4 p) .nil .nil) (.node (o889_4 p) .nil .nil)) (.node (o505_4 p) (.node (o761_4 p) .nil .nil) .nil)))))
def t4_11 (p : Params) : BT := (.node (o26_1 p) (.node (o42_1 p) (.node (o74_1 p) (.node (o138_2 p) (.node (o266_3 p) (.node (o522_4 p) .nil .nil) (.node (o778_4 p) .nil .nil)) (.node (o394_3 p) (.node (o650_4 p) .nil .nil) (.node (o906_4 p) .nil .nil))) (.node (o202_2 p) (.node (o330_3 p) (.node (o586_4 p) .nil .nil) (.node (o842_4 p) .nil .nil)) (.node (o458_3 p) (.node (o714_4 p) .nil .nil) .nil))) (.node (o106_1 p) (.node (o170_2 p) (.node (o298_3 p) (.node (o554_4 p) .nil .nil) (.node (o810_4 p) .nil .nil)) (.node (o426_3 p) (.node (o682_4 p) .nil .nil) .nil)) (.node (o234_2 p) (.node (o362_3 p) (.node (o618_4 p) .nil .nil) (.node (o874_4 p) .nil .nil)) (.node (o490_4 p) (.node (o746_4 p) .nil .nil) .nil)))) (.node (o58_1 p) (.node (o90_1 p) (.node (o154_2 p) (.node (o282_3 p) (.node (o538_4 p) .nil .nil) (.node (o794_4 p) .nil .nil)) (.node (o410_3 p) (.node (o666_4 p) .nil .nil) (.node (o922_4 p) .nil .nil))) (.node (o218_2 p) (.node (o346_3 p) (.node (o602_4 p) .nil .nil) (.node (o858_4 p) .nil .nil)) (.node (o474_3 p) (.node (o730_4 p) .nil .nil) .nil))) (.node (o122_1 p) (.node (o186_2 p) (.node (o314_3 p) (.node (o570_4 p) .nil .nil) (.node (o826_4 p) .nil .nil)) (.node (o442_3 p) (.node (o698_4 p) .nil .nil) .nil)) (.node (o250_2 p) (.node (o378_3 p) (.node (o634_4 p) .nil .nil) (.node (o890_4 p) .nil .nil)) (.node (o506_4 p) (.node (o762_4 p) .nil .nil) .nil)))))
def t4_12 (p : Params) : BT := (.node (o27_1 p) (.node (o43_1 p) (.node (o75_1 p) (.node (o139_2 p) (.node (o267_3 p) (.node (o523_4 p) .nil .nil) (.node (o779_4 p) .nil .nil)) (.node (o395_3 p) (.node (o651_4 p) .nil .nil) (.node (o907_4 p) .nil .nil))) (.node (o203_2 p) (.node (o331_3 p) (.node (o587_4 p) .nil .nil) (.node (o843_4 p) .nil .nil)) (.node (o459_3 p) (.node (o715_4 p) .nil .nil) .nil))) (.node (o107_1 p) (.node (o171_2 p) (.node (o299_3 p) (.node (o555_4 p) .nil .nil) (.node (o811_4 p) .nil .nil)) (.node (o427_3 p) (.node (o683_4 p) .nil .nil) .nil)) (.node (o235_2 p) (.node (o363_3 p) (.node (o619_4 p) .nil .nil) (.node (o875_4 p) .nil .nil)) (.node (o491_4 p) (.node (o747_4 p) .nil .nil) .nil)))) (.node (o59_1 p) (.node (o91_1 p) (.node (o155_2 p) (.node (o283_3 p) (.node (o539_4 p) .nil .nil) (.node (o795_4 p) .nil .nil)) (.node (o411_3 p) (.node (o667_4 p) .nil .nil) (.node (o923_4 p) .nil .nil))) (.node (o219_2 p) (.node (o347_3 p) (.node (o603_4 p) .nil .nil) (.node (o859_4 p) .nil .nil)) (.node (o475_3 p) (.node (o731_4 p) .nil .nil) .nil))) (.node (o123_1 p) (.node (o187_2 p) (.node (o315_3 p) (.node (o571_4 p) .nil .nil) (.node (o827_4 p) .nil .nil)) (.node (o443_3 p) (.node (o699_4 p) .nil .nil) .nil)) (.node (o251_2 p) (.node (o379_3 p) (.node (o635_4 p) .nil .nil) (.node (o891_4 p) .nil .nil)) (.node (o507_4 p) (.node (o763_4 p) .nil .nil) .nil)))))
def t4_13 (p : Params) : BT := (.node (o28_1 p) (.node (o44_1 p) (.node (o76_1 p) (.node (o140_2 p) (.node (o268_3 p) (.node (o524_4 p) .nil .nil) (.node (o780_4 p) .nil .nil)) (.node (o396_3 p) (.node (o652_4 p) .nil .nil) (.node (o908_4 p) .nil .nil))) (.node (o204_2 p) (.node (o332_3 p) (.node (o588_4 p) .nil .nil) (.node (o844_4 p) .nil .nil)) (.node (o460_3 p) (.node (o716_4 p) .nil .nil) .nil))) (.node (o108_1 p) (.node (o172_2 p) (.node (o300_3 p) (.node (o556_4 p) .nil .nil) (.node (o812_4 p) .nil .nil)) (.node (o428_3 p) (.node (o684_4 p) .nil .nil) .nil)) (.node (o236_2 p) (.node (o364_3 p) (.node (o620_4 p) .nil .nil) (.node (o876_4 p) .nil .nil)) (.node (o492_4 p) (.node (o748_4 p) .nil .nil) .nil)))) (.node (o60_1 p) (.node (o92_1 p) (.node (o156_2 p) (.node (o284_3 p) (.node (o540_4 p) .nil .nil) (.node (o796_4 p) .nil .nil)) (.node (o412_3 p) (.node (o668_4 p) .nil .nil) (.node (o924_4 p) .nil .nil))) (.node (o220_2 p) (.node (o348_3 p) (.node (o604_4 p) .nil .nil) (.node (o860_4 p) .nil .nil)) (.node (o476_3 p) (.node (o732_4 p) .nil .nil) .nil))) (.node (o124_1 p) (.node (o188_2 p) (.node (o316_3 p) (.node (o572_4 p) .nil .nil) (.node (o828_4 p) .nil .nil)) (.node (o444_3 p) (.node (o700_4 p) .nil .nil) .nil)) (.node (o252_2 p) (.node (o380_3 p) (.node (o636_4 p) .nil .nil) (.node (o892_4 p) .nil .nil)) (.node (o508_4 p) (.node (o764_4 p) .nil .nil) .nil)))))
def t4_14 (p : Params) : BT := (.node (o29_1 p) (.node (o45_1 p) (.node (o77_1 p) (.node (o141_2 p) (.node (o269_3 p) (.node (o525_4 p) .nil .nil) (.node (o781_4 p) .nil .nil)) (.node (o397_3 p) (.node (o653_4 p) .nil .nil) (.node (o909_4 p) .nil .nil))) (.node (o205_2 p) (.node (o333_3 p) (.node (o589_4 p) .nil .nil) (.node (o845_4 p) .nil .nil)) (.node (o461_3 p) (.node (o717_4 p) .nil .nil) .nil))) (.node (o109_1 p) (.node (o173_2 p) (.node (o301_3 p) (.node (o557_4 p) .nil .nil) (.node (o813_4 p) .nil .nil)) (.node (o429_3 p) (.node (o685_4 p) .nil .nil) .nil)) (.node (o237_2 p) (.node (o365_3 p) (.node (o621_4 p) .nil .nil) (.node (o877_4 p) .nil .nil)) (.node (o493_4 p) (.node (o749_4 p) .nil .nil) .nil)))) (.node (o61_1 p) (.node (o93_1 p) (.node (o157_2 p) (.node (o285_3 p) (.node (o541_4 p) .nil .nil) (.node (o797_4 p) .nil .nil)) (.node (o413_3 p) (.node (o669_4 p) .nil .nil) (.node (o925_4 p) .nil .nil))) (.node (o221_2 p) (.node (o349_3 p) (.node (o605_4 p) .nil .nil) (.node (o861_4 p) .nil .nil)) (.node (o477_3 p) (.node (o733_4 p) .nil .nil) .nil))) (.node (o125_1 p) (.node (o189_2 p) (.node (o317_3 p) (.node (o573_4 p) .nil .nil) (.node (o829_4 p) .nil .nil)) (.node (o445_3 p) (.node (o701_4 p) .nil .nil) .nil)) (.node (o253_2 p) (.node (o381_3 p) (.node (o637_4 p) .nil .nil) (.node (o893_4 p) .nil .nil)) (.node (o509_4 p) (.node (o765_4 p) .nil .nil) .nil)))))
def t4_15 (p : Params) : BT := (.node (o30_1 p) (.node (o46_1 p) (.node (o78_1 p) (.node (o142_2 p) (.node (o270_3 p) (.node (o526_4 p) .nil .nil) (.node (o782_4 p) .nil .nil)) (.node (o398_3 p) (.node (o654_4 p) .nil .nil) (.node (o910_4 p) .nil .nil))) (.node (o206_2 p) (.node (o334_3 p) (.node (o590_4 p) .nil .nil) (.node (o846_4 p) .nil .nil)) (.node (o462_3 p) (.node (o718_4 p) .nil .nil) .nil))) (.node (o110_1 p) (.node (o174_2 p) (.node (o302_3 p) (.node (o558_4 p) .nil .nil) (.node (o814_4 p) .nil .nil)) (.node (o430_3 p) (.node (o686_4 p) .nil .nil) .nil)) (.node (o238_2 p) (.node (o366_3 p) (.node (o622_4 p) .nil .nil) (.node (o878_4 p) .nil .nil)) (.node (o494_4 p) (.node (o750_4 p) .nil .nil) .nil)))) (.node (o62_1 p) (.node (o94_1 p) (.node (o158_2 p) (.node (o286_3 p) (.node (o542_4 p) .nil .nil) (.node (o798_4 p) .nil .nil)) (.node (o414_3 p) (.node (o670_4 p) .nil .nil) (.node (o926_4 p) .nil .nil))) (.node (o222_2 p) (.node (o350_3 p) (.node (o606_4 p) .nil .nil) (.node (o862_4 p) .nil .nil)) (.node (o478_3 p) (.node (o734_4 p) .nil .nil) .nil))) (.node (o126_1 p) (.node (o190_2 p) (.node (o318_3 p) (.node (o574_4 p) .nil .nil) (.node (o830_4 p) .nil .nil)) (.node (o446_3 p) (.node (o702_4 p) .nil .nil) .nil)) (.node (o254_3 p) (.node (o382_3 p) (.node (o638_4 p) .nil .nil) (.node (o894_4 p) .nil .nil)) (.node (o510_4 p) (.node (o766_4 p) .nil .nil) .nil)))))
def tree4 (p : Params) : BT := (.node (boot_o_0 p) (.node (boot_o_1 p) (.node (o3_4 p) (.node (boot_o_7 p) (t4_0 p) (t4_8 p)) (.node (o11_1 p) (t4_4 p) (t4_12 p))) (.node (boot_o_5 p) (.node (boot_o_9 p) (t4_2 p) (t4_10 p)) (.node (o13_1 p) (t4_6 p) (t4_14 p)))) (.node (boot_o_2 p) (.node (boot_o_4 p) (.node (boot_o_8 p) (t4_1 p) (t4_9 p)) (.node (o12_4 p) (t4_5 p) (t4_13 p))) (.node (boot_o_6 p) (.node (boot_o_10 p) (t4_3 p) (t4_11 p)) (.node (o14_1 p) (t4_7 p) (t4_15 p)))))
def st4 (w : World) (os : OsState) : SharedT := ⟨tree4 w.params, 934, (@PySem.Life.mk [] [] [] 0 [] [] Bool.false #[] [] 0 Bool.false Bool.false Bool.false (i 0) [(i 2000), (i 10), (i 10)] Bool.false 0 Bool.true [] [] 0 Bool.false), #[], (@PySem.Drawn.mk 0 0 0 0), 1473, os⟩
def ls0 (p : Params) : List Obj := [boot_o_0 p, boot_o_1 p, boot_o_2 p, o3_4 p, boot_o_4 p, boot_o_5 p, boot_o_6 p, boot_o_7 p, boot_o_8 p, boot_o_9 p, boot_o_10 p, o11_1 p, o12_4 p, o13_1 p, o14_1 p, o15_1 p, o16_1 p, o17_1 p, o18_1 p, o19_1 p, o20_1 p, o21_1 p, o22_1 p, o23_1 p, o24_1 p, o25_1 p, o26_1 p, o27_1 p, o28_1 p, o29_1 p, o30_1 p, o31_2 p, o32_1 p, o33_1 p, o34_1 p, o35_1 p, o36_1 p, o37_1 p, o38_1 p, o39_1 p, o40_1 p, o41_1 p, o42_1 p, o43_1 p, o44_1 p, o45_1 p, o46_1 p, o47_1 p, o48_1 p, o49_1 p, o50_1 p, o51_1 p, o52_1 p, o53_1 p, o54_1 p, o55_1 p, o56_1 p, o57_1 p, o58_1 p, o59_1 p]
def ls1 (p : Params) : List Obj := [o60_1 p, o61_1 p, o62_1 p, o63_1 p, o64_1 p, o65_1 p, o66_1 p, o67_1 p, o68_1 p, o69_1 p, o70_1 p, o71_1 p, o72_1 p, o73_1 p, o74_1 p, o75_1 p, o76_1 p, o77_1 p, o78_1 p, o79_1 p, o80_1 p, o81_1 p, o82_1 p, o83_1 p, o84_1 p, o85_1 p, o86_1 p, o87_1 p, o88_1 p, o89_1 p, o90_1 p, o91_1 p, o92_1 p, o93_1 p, o94_1 p, o95_1 p, o96_1 p, o97_1 p, o98_1 p, o99_1 p, o100_1 p, o101_1 p, o102_1 p, o103_1 p, o104_1 p, o105_1 p, o106_1 p, o107_1 p, o108_1 p, o109_1 p, o110_1 p, o111_1 p, o112_1 p, o113_1 p, o114_1 p, o115_1 p, o116_1 p, o117_1 p, o118_1 p, o119_1 p]
def ls2 (p : Params) : List Obj := [o120_1 p, o121_1 p, o122_1 p, o123_1 p, o124_1 p, o125_1 p, o126_1 p, o127_1 p, o128_2 p, o129_2 p, o130_2 p, o131_2 p, o132_2 p, o133_2 p, o134_2 p, o135_2 p, o136_2 p, o137_2 p, o138_2 p, o139_2 p, o140_2 p, o141_2 p, o142_2 p, o143_2 p, o144_2 p, o145_2 p, o146_2 p, o147_2 p, o148_2 p, o149_2 p, o150_2 p, o151_2 p, o152_2 p, o153_2 p, o154_2 p, o155_2 p, o156_2 p, o157_2 p, o158_2 p, o159_2 p, o160_2 p, o161_2 p, o162_2 p, o163_2 p, o164_2 p, o165_2 p, o166_2 p, o167_2 p, o168_2 p, o169_2 p, o170_2 p, o171_2 p, o172_2 p, o173_2 p, o174_2 p, o175_2 p, o176_2 p, o177_2 p, o178_2 p, o179_2 p]
def ls3 (p : Params) : List Obj := [o180_2 p, o181_2 p, o182_2 p, o183_2 p, o184_2 p, o185_2 p, o186_2 p, o187_2 p, o188_2 p, o189_2 p, o190_2 p, o191_2 p, o192_2 p, o193_2 p, o194_2 p, o195_2 p, o196_2 p, o197_2 p, o198_2 p, o199_2 p, o200_2 p, o201_2 p, o202_2 p, o203_2 p, o204_2 p, o205_2 p, o206_2 p, o207_2 p, o208_2 p, o209_2 p, o210_2 p, o211_2 p, o212_2 p, o213_2 p, o214_2 p, o215_2 p, o216_2 p, o217_2 p, o218_2 p, o219_2 p, o220_2 p, o221_2 p, o222_2 p, o223_2 p, o224_2 p, o225_2 p, o226_2 p, o227_2 p, o228_2 p, o229_2 p, o230_2 p, o231_2 p, o232_2 p, o233_2 p, o234_2 p, o235_2 p, o236_2 p, o237_2 p, o238_2 p, o239_2 p]
def ls4 (p : Params) : List Obj := [o240_2 p, o241_2 p, o242_2 p, o243_2 p, o244_2 p, o245_2 p, o246_2 p, o247_2 p, o248_2 p, o249_2 p, o250_2 p, o251_2 p, o252_2 p, o253_2 p, o254_3 p, o255_3 p, o256_3 p, o257_3 p, o258_3 p, o259_3 p, o260_3 p, o261_3 p, o262_3 p, o263_3 p, o264_3 p, o265_3 p, o266_3 p, o267_3 p, o268_3 p, o269_3 p, o270_3 p, o271_3 p, o272_3 p, o273_3 p, o274_3 p, o275_3 p, o276_3 p, o277_3 p, o278_3 p, o279_3 p, o280_3 p, o281_3 p, o282_3 p, o283_3 p, o284_3 p, o285_3 p, o286_3 p, o287_3 p, o288_3 p, o289_3 p, o290_3 p, o291_3 p, o292_3 p, o293_3 p, o294_3 p, o295_3 p, o296_3 p, o297_3 p, o298_3 p, o299_3 p]
def ls5 (p : Params) : List Obj := [o300_3 p, o301_3 p, o302_3 p, o303_3 p, o304_3 p, o305_3 p, o306_3 p, o307_3 p, o308_3 p, o309_3 p, o310_3 p, o311_3 p, o312_3 p, o313_3 p, o314_3 p, o315_3 p, o316_3 p, o317_3 p, o318_3 p, o319_3 p, o320_3 p, o321_3 p, o322_3 p, o323_3 p, o324_3 p, o325_3 p, o326_3 p, o327_3 p, o328_3 p, o329_3 p, o330_3 p, o331_3 p, o332_3 p, o333_3 p, o334_3 p, o335_3 p, o336_3 p, o337_3 p, o338_3 p, o339_3 p, o340_3 p, o341_3 p, o342_3 p, o343_3 p, o344_3 p, o345_3 p, o346_3 p, o347_3 p, o348_3 p, o349_3 p, o350_3 p, o351_3 p, o352_3 p, o353_3 p, o354_3 p, o355_3 p, o356_3 p, o357_3 p, o358_3 p, o359_3 p]
def ls6 (p : Params) : List Obj := [o360_3 p, o361_3 p, o362_3 p, o363_3 p, o364_3 p, o365_3 p, o366_3 p, o367_3 p, o368_3 p, o369_3 p, o370_3 p, o371_3 p, o372_3 p, o373_3 p, o374_3 p, o375_3 p, o376_3 p, o377_3 p, o378_3 p, o379_3 p, o380_3 p, o381_3 p, o382_3 p, o383_3 p, o384_3 p, o385_3 p, o386_3 p, o387_3 p, o388_3 p, o389_3 p, o390_3 p, o391_3 p, o392_3 p, o393_3 p, o394_3 p, o395_3 p, o396_3 p, o397_3 p, o398_3 p, o399_3 p, o400_3 p, o401_3 p, o402_3 p, o403_3 p, o404_3 p, o405_3 p, o406_3 p, o407_3 p, o408_3 p, o409_3 p, o410_3 p, o411_3 p, o412_3 p, o413_3 p, o414_3 p, o415_3 p, o416_3 p, o417_3 p, o418_3 p, o419_3 p]
def ls7 (p : Params) : List Obj := [o420_3 p, o421_3 p, o422_3 p, o423_3 p, o424_3 p, o425_3 p, o426_3 p, o427_3 p, o428_3 p, o429_3 p, o430_3 p, o431_3 p, o432_3 p, o433_3 p, o434_3 p, o435_3 p, o436_3 p, o437_3 p, o438_3 p, o439_3 p, o440_3 p, o441_3 p, o442_3 p, o443_3 p, o444_3 p, o445_3 p, o446_3 p, o447_3 p, o448_3 p, o449_3 p, o450_3 p, o451_3 p, o452_3 p, o453_3 p, o454_3 p, o455_3 p, o456_3 p, o457_3 p, o458_3 p, o459_3 p, o460_3 p, o461_3 p, o462_3 p, o463_3 p, o464_3 p, o465_3 p, o466_3 p, o467_3 p, o468_3 p, o469_3 p, o470_3 p, o471_3 p, o472_3 p, o473_3 p, o474_3 p, o475_3 p, o476_3 p, o477_3 p, o478_3 p, o479_3 p]
def ls8 (p : Params) : List Obj := [o480_3 p, o481_3 p, o482_3 p, o483_3 p, o484_3 p, o485_3 p, o486_3 p, o487_4 p, o488_4 p, o489_4 p, o490_4 p, o491_4 p, o492_4 p, o493_4 p, o494_4 p, o495_4 p, o496_4 p, o497_4 p, o498_4 p, o499_4 p, o500_4 p, o501_4 p, o502_4 p, o503_4 p, o504_4 p, o505_4 p, o506_4 p, o507_4 p, o508_4 p, o509_4 p, o510_4 p, o511_4 p, o512_4 p, o513_4 p, o514_4 p, o515_4 p, o516_4 p, o517_4 p, o518_4 p, o519_4 p, o520_4 p, o521_4 p, o522_4 p, o523_4 p, o524_4 p, o525_4 p, o526_4 p, o527_4 p, o528_4 p, o529_4 p, o530_4 p, o531_4 p, o532_4 p, o533_4 p, o534_4 p, o535_4 p, o536_4 p, o537_4 p, o538_4 p, o539_4 p]
def ls9 (p : Params) : List Obj := [o540_4 p, o541_4 p, o542_4 p, o543_4 p, o544_4 p, o545_4 p, o546_4 p, o547_4 p, o548_4 p, o549_4 p, o550_4 p, o551_4 p, o552_4 p, o553_4 p, o554_4 p, o555_4 p, o556_4 p, o557_4 p, o558_4 p, o559_4 p, o560_4 p, o561_4 p, o562_4 p, o563_4 p, o564_4 p, o565_4 p, o566_4 p, o567_4 p, o568_4 p, o569_4 p, o570_4 p, o571_4 p, o572_4 p, o573_4 p, o574_4 p, o575_4 p, o576_4 p, o577_4 p, o578_4 p, o579_4 p, o580_4 p, o581_4 p, o582_4 p, o583_4 p, o584_4 p, o585_4 p, o586_4 p, o587_4 p, o588_4 p, o589_4 p, o590_4 p, o591_4 p, o592_4 p, o593_4 p, o594_4 p, o595_4 p, o596_4 p, o597_4 p, o598_4 p, o599_4 p]
def ls10 (p : Params) : List Obj := [o600_4 p, o601_4 p, o602_4 p, o603_4 p, o604_4 p, o605_4 p, o606_4 p, o607_4 p, o608_4 p, o609_4 p, o610_4 p, o611_4 p, o612_4 p, o613_4 p, o614_4 p, o615_4 p, o616_4 p, o617_4 p, o618_4 p, o619_4 p, o620_4 p, o621_4 p, o622_4 p, o623_4 p, o624_4 p, o625_4 p, o626_4 p, o627_4 p, o628_4 p, o629_4 p, o630_4 p, o631_4 p, o632_4 p, o633_4 p, o634_4 p, o635_4 p, o636_4 p, o637_4 p, o638_4 p, o639_4 p, o640_4 p, o641_4 p, o642_4 p, o643_4 p, o644_4 p, o645_4 p, o646_4 p, o647_4 p, o648_4 p, o649_4 p, o650_4 p, o651_4 p, o652_4 p, o653_4 p, o654_4 p, o655_4 p, o656_4 p, o657_4 p, o658_4 p, o659_4 p]
def ls11 (p : Params) : List Obj := [o660_4 p, o661_4 p, o662_4 p, o663_4 p, o664_4 p, o665_4 p, o666_4 p, o667_4 p, o668_4 p, o669_4 p, o670_4 p, o671_4 p, o672_4 p, o673_4 p, o674_4 p, o675_4 p, o676_4 p, o677_4 p, o678_4 p, o679_4 p, o680_4 p, o681_4 p, o682_4 p, o683_4 p, o684_4 p, o685_4 p, o686_4 p, o687_4 p, o688_4 p, o689_4 p, o690_4 p, o691_4 p, o692_4 p, o693_4 p, o694_4 p, o695_4 p, o696_4 p, o697_4 p, o698_4 p, o699_4 p, o700_4 p, o701_4 p, o702_4 p, o703_4 p, o704_4 p, o705_4 p, o706_4 p, o707_4 p, o708_4 p, o709_4 p, o710_4 p, o711_4 p, o712_4 p, o713_4 p, o714_4 p, o715_4 p, o716_4 p, o717_4 p, o718_4 p, o719_4 p]
def ls12 (p : Params) : List Obj := [o720_4 p, o721_4 p, o722_4 p, o723_4 p, o724_4 p, o725_4 p, o726_4 p, o727_4 p, o728_4 p, o729_4 p, o730_4 p, o731_4 p, o732_4 p, o733_4 p, o734_4 p, o735_4 p, o736_4 p, o737_4 p, o738_4 p, o739_4 p, o740_4 p, o741_4 p, o742_4 p, o743_4 p, o744_4 p, o745_4 p, o746_4 p, o747_4 p, o748_4 p, o749_4 p, o750_4 p, o751_4 p, o752_4 p, o753_4 p, o754_4 p, o755_4 p, o756_4 p, o757_4 p, o758_4 p, o759_4 p, o760_4 p, o761_4 p, o762_4 p, o763_4 p, o764_4 p, o765_4 p, o766_4 p, o767_4 p, o768_4 p, o769_4 p, o770_4 p, o771_4 p, o772_4 p, o773_4 p, o774_4 p, o775_4 p, o776_4 p, o777_4 p, o778_4 p, o779_4 p]
def ls13 (p : Params) : List Obj := [o780_4 p, o781_4 p, o782_4 p, o783_4 p, o784_4 p, o785_4 p, o786_4 p, o787_4 p, o788_4 p, o789_4 p, o790_4 p, o791_4 p, o792_4 p, o793_4 p, o794_4 p, o795_4 p, o796_4 p, o797_4 p, o798_4 p, o799_4 p, o800_4 p, o801_4 p, o802_4 p, o803_4 p, o804_4 p, o805_4 p, o806_4 p, o807_4 p, o808_4 p, o809_4 p, o810_4 p, o811_4 p, o812_4 p, o813_4 p, o814_4 p, o815_4 p, o816_4 p, o817_4 p, o818_4 p, o819_4 p, o820_4 p, o821_4 p, o822_4 p, o823_4 p, o824_4 p, o825_4 p, o826_4 p, o827_4 p, o828_4 p, o829_4 p, o830_4 p, o831_4 p, o832_4 p, o833_4 p, o834_4 p, o835_4 p, o836_4 p, o837_4 p, o838_4 p, o839_4 p]
def ls14 (p : Params) : List Obj := [o840_4 p, o841_4 p, o842_4 p, o843_4 p, o844_4 p, o845_4 p, o846_4 p, o847_4 p, o848_4 p, o849_4 p, o850_4 p, o851_4 p, o852_4 p, o853_4 p, o854_4 p, o855_4 p, o856_4 p, o857_4 p, o858_4 p, o859_4 p, o860_4 p, o861_4 p, o862_4 p, o863_4 p, o864_4 p, o865_4 p, o866_4 p, o867_4 p, o868_4 p, o869_4 p, o870_4 p, o871_4 p, o872_4 p, o873_4 p, o874_4 p, o875_4 p, o876_4 p, o877_4 p, o878_4 p, o879_4 p, o880_4 p, o881_4 p, o882_4 p, o883_4 p, o884_4 p, o885_4 p, o886_4 p, o887_4 p, o888_4 p, o889_4 p, o890_4 p, o891_4 p, o892_4 p, o893_4 p, o894_4 p, o895_4 p, o896_4 p, o897_4 p, o898_4 p, o899_4 p]
def ls15 (p : Params) : List Obj := [o900_4 p, o901_4 p, o902_4 p, o903_4 p, o904_4 p, o905_4 p, o906_4 p, o907_4 p, o908_4 p, o909_4 p, o910_4 p, o911_4 p, o912_4 p, o913_4 p, o914_4 p, o915_4 p, o916_4 p, o917_4 p, o918_4 p, o919_4 p, o920_4 p, o921_4 p, o922_4 p, o923_4 p, o924_4 p, o925_4 p, o926_4 p, o927_4 p, o928_4 p, o929_4 p, o930_4 p, o931_4 p, o932_4 p, o933_4 p]
def lstE (p : Params) : List Obj := ls0 p ++ (ls1 p ++ (ls2 p ++ (ls3 p ++ (ls4 p ++ (ls5 p ++ (ls6 p ++ (ls7 p ++ (ls8 p ++ (ls9 p ++ (ls10 p ++ (ls11 p ++ (ls12 p ++ (ls13 p ++ (ls14 p ++ (ls15 p)))))))))))))))
def shE (w : World) (os : OsState) : Shared := ⟨⟨(lstE w.params).toArray, (@PySem.Life.mk [] [] [] 0 [] [] Bool.false #[] [] 0 Bool.false Bool.false Bool.false (i 0) [(i 2000), (i 10), (i 10)] Bool.false 0 Bool.true [] [] 0 Bool.false)⟩, #[], (@PySem.Drawn.mk 0 0 0 0), 1473, os⟩
theorem absE (w : World) (os : OsState) : (st4 w os).abs = shE w os := by kernel_rfl
theorem runE (w : World) (os : OsState) : goF (stepQ (denQ tabQ) pg w) 11 (bootAnn w) 2455 (st3 w os) th3 = some (st4 w os) := by kernel_rfl
theorem chain {M m : Nat} (w : World) (os : OsState) (h : M = 4724 + m) : endF (stepQ (denQ tabQ) pg w) M pg w os = goF (stepQ (denQ tabQ) pg w) 11 (bootAnn w) (0 + m) (st3 w os) th3 := (((((bootS_go (k := 1610) (m := 3114 + m) (run1 w os) (by omega))).trans (goS_at (k := 1555) (m := 1559 + m) (run2 w os) (by omega)))).trans (goS_at (k := 1559) (m := 0 + m) (run3 w os) (by omega)))
theorem cut {α β γ : Type} {M : Nat} {G1 : Shared → α} {G2 : Shared → β} {G3 : SharedT → γ} {a : α} {b : β} {c : γ} (w : World) (os : OsState) (h : Nat.ble 7179 M = true) (z1 : G1 (shE w os) = a) (z2 : G2 (shE w os) = b) (z3 : G3 (st4 w os) = c) : (endF (stepQ (denQ tabQ) pg w) M pg w os).map (fun s => (G1 s.abs, G2 s.abs, G3 s)) = some (a, b, c) := by
  rw [chain (m := (M - 7179) + 2455) w os (by have := Nat.le_of_ble_eq_true h; omega), show 0 + ((M - 7179) + 2455) = 2455 + (M - 7179) by omega, goF_mono (M - 7179) (runE w os)]
  show some (G1 (st4 w os).abs, G2 (st4 w os).abs, G3 (st4 w os)) = _
  rw [absE, z1, z2, z3]
end
end Hc
namespace Lw
open PySem L2 Hl
/-! ### the steps of a walk by data -/
local macro_rules | `(tactic| walk_at "lo") => `(tactic| first | assumption | exact LoP.toNmP (by assumption))
local macro_rules | `(tactic| walk_at "e1") => `(tactic| first
  | (refine idName ?_; first | refine de_name (by walk_at "lo") (by rfl) ?_ | refine de_gint (by assumption) ?_ | refine de_gstr (by assumption) ?_ | walk_at "tyn" | refine de_gclsP (by assumption) (by assumption) ?_)
  | (refine idCst ?_; first | refine de_int ?_ | refine de_str ?_ | refine de_bl ?_ | refine de_non ?_)
  | (refine idBin ?_; first | refine de_repD ?_ | refine de_add ?_ | refine de_sub ?_ | refine de_mul ?_ | refine de_div ?_ | refine de_mod ?_ | refine de_pow ?_)
  | (refine idCmp ?_; first | refine de_lt ?_ | refine de_le ?_ | refine de_gt ?_ | refine de_ge ?_ | refine de_eq (by assumption) ?_ | refine de_ne (by assumption) ?_ | refine de_isB ?_ | refine de_is ?_ | refine de_isnotB ?_ | refine de_isnot ?_ | refine de_in (by assumption) ?_ | refine de_notin (by assumption) ?_ | refine de_le2C ?_ | refine de_le2 ?_)
  | refine de_rev ?_ | refine de_slice ?_
  | refine de_ix (by assumption) ?_
  | (refine idCallN ?_; first | walk_at "call" | refine de_len (by assumption) ?_ | refine de_min2 (by assumption) (by assumption) ?_ | refine de_min3 (by assumption) (by assumption) ?_ | refine de_max2 (by assumption) (by assumption) ?_ | refine de_isiV (by assumption) ?_ | refine de_sum (by assumption) (by assumption) ?_ | refine de_list (by assumption) ?_ | refine de_tuple (by assumption) ?_ | refine de_maxDef (by assumption) (by assumption) ?_ (un64 (by assumption)) | refine de_minL (by assumption) (by assumption) ?_ | refine de_maxL (by assumption) (by assumption) ?_ | refine de_all (by assumption) (by assumption) ?_)
  | (refine idAttr ?_; refine de_fld ?_)
  | (refine idCallA ?_; first | refine de_append ?_ | refine de_insert ?_ | refine de_pop ?_ | walk_at "bm" | refine de_mU (by assumption) ?_)
  | refine de_and ?_ | refine de_or ?_ | refine de_not ?_ | refine de_one ?_ | refine de_if ?_ | refine de_neg ?_
  | refine de_tup ?_ | refine de_lst ?_)
open PyProof.Rows in
local macro_rules | `(tactic| walk_at "tyn") => `(tactic| first | refine de_tyN (T := "int") (by assumption) boot_int ?_ | refine de_tyN (T := "ValueError") (by assumption) (by decide +kernel) ?_ | refine de_tyN (T := "str") (by assumption) (by decide +kernel) ?_ | refine de_tyN (T := "bool") (by assumption) boot_bool ?_ | refine de_tyN (T := "list") (by assumption) boot_list ?_ | refine de_tyN (T := "tuple") (by assumption) boot_tuple ?_)
local macro_rules | `(tactic| walk_at "clsv") => `(tactic| first | exact .own _ | exact .ty _)
local macro_rules | `(tactic| walk_at "stf") => `(tactic| fail "no rule")
local macro_rules | `(tactic| walk_at "cl") => `(tactic| fail "no callee")
local macro_rules | `(tactic| walk_at "call") => `(tactic| first | refine de_call (by assumption) (by assumption) (by decide) (by assumption) ?_ | refine de_callK (by assumption) (by assumption) (by decide) (by assumption) ?_ | refine de_fS (by assumption) (by assumption) (by decide) (by assumption) (by walk_at "lets") ?_ (by walk_at "pla") | refine de_kS 0 (by assumption) (by assumption) (by decide) (by assumption) (by walk_at "lets") ?_ (by walk_at "pla"))
local macro_rules | `(tactic| walk_at "lets") => `(tactic| first | exact lets_at (by assumption) | exact lets_no)
local macro_rules | `(tactic| walk_at "pla") => `(tactic| first | exact rfl | exact ⟨rfl, rfl, rfl⟩ | exact ⟨rfl, rfl, rfl, rfl⟩)
local macro_rules | `(tactic| walk_at "bm") => `(tactic| first | refine de_dget2 (by assumption) ?_)
local macro_rules | `(tactic| walk_at "fld") => `(tactic| first | refine fld_v (by assumption) rfl ?_ | refine fld_x (by assumption) rfl ?_ | refine fld_c 0 rfl (by assumption) rfl ?_ | refine fld_c 1 rfl (by assumption) rfl ?_ | refine fld_c 2 rfl (by assumption) rfl ?_ | refine fld_c 3 rfl (by assumption) rfl ?_ | refine fld_c 4 rfl (by assumption) rfl ?_ | refine fld_c 5 rfl (by assumption) rfl ?_ | refine fld_c 6 rfl (by assumption) rfl ?_ | refine fld_c 7 rfl (by assumption) rfl ?_ | refine fld_c 8 rfl (by assumption) rfl ?_ | refine fld_h 0 rfl (by assumption) rfl ?_ | refine fld_h 1 rfl (by assumption) rfl ?_ | refine fld_h 2 rfl (by assumption) rfl ?_ | refine fld_h 3 rfl (by assumption) rfl ?_ | refine fld_h 4 rfl (by assumption) rfl ?_ | refine fld_p 0 rfl (by assumption) (by assumption) rfl ?_ | refine fld_p 1 rfl (by assumption) (by assumption) rfl ?_ | refine fld_p 2 rfl (by assumption) (by assumption) rfl ?_ | refine fld_p 3 rfl (by assumption) (by assumption) rfl ?_)
local macro_rules | `(tactic| walk_at "mt") => `(tactic| first | refine mt_vS (by assumption) (by decide) (by walk_at "lets") (by walk_at "pla") (by rfl) ?_ | refine mt_cS 0 rfl (by assumption) (by decide) (by walk_at "lets") (by walk_at "pla") (by rfl) ?_ | refine mt_cS 1 rfl (by assumption) (by decide) (by walk_at "lets") (by walk_at "pla") (by rfl) ?_ | refine mt_cS 2 rfl (by assumption) (by decide) (by walk_at "lets") (by walk_at "pla") (by rfl) ?_ | refine mt_cS 3 rfl (by assumption) (by decide) (by walk_at "lets") (by walk_at "pla") (by rfl) ?_ | refine mt_cS 4 rfl (by assumption) (by decide) (by walk_at "lets") (by walk_at "pla") (by rfl) ?_ | refine mt_cS 5 rfl (by assumption) (by decide) (by walk_at "lets") (by walk_at "pla") (by rfl) ?_ | refine mt_cS 6 rfl (by assumption) (by decide) (by walk_at "lets") (by walk_at "pla") (by rfl) ?_ | refine mt_cS 7 rfl (by assumption) (by decide) (by walk_at "lets") (by walk_at "pla") (by rfl) ?_ | refine mt_cS 8 rfl (by assumption) (by decide) (by walk_at "lets") (by walk_at "pla") (by rfl) ?_ | refine mt_hS 0 rfl (by assumption) (by decide) (by walk_at "lets") (by walk_at "pla") (by rfl) ?_ | refine mt_hS 1 rfl (by assumption) (by decide) (by walk_at "lets") (by walk_at "pla") (by rfl) ?_ | refine mt_hS 2 rfl (by assumption) (by decide) (by walk_at "lets") (by walk_at "pla") (by rfl) ?_ | refine mt_hS 3 rfl (by assumption) (by decide) (by walk_at "lets") (by walk_at "pla") (by rfl) ?_ | refine mt_hS 4 rfl (by assumption) (by decide) (by walk_at "lets") (by walk_at "pla") (by rfl) ?_ | refine mt_pS 0 rfl (by assumption) (by assumption) (by decide) (by walk_at "lets") (by walk_at "pla") (by rfl) ?_ | refine mt_pS 1 rfl (by assumption) (by assumption) (by decide) (by walk_at "lets") (by walk_at "pla") (by rfl) ?_ | refine mt_pS 2 rfl (by assumption) (by assumption) (by decide) (by walk_at "lets") (by walk_at "pla") (by rfl) ?_ | refine mt_pS 3 rfl (by assumption) (by assumption) (by decide) (by walk_at "lets") (by walk_at "pla") (by rfl) ?_)
local macro_rules | `(tactic| walk_at "ar") => `(tactic| first | refine ar_id rfl ?_ | refine ar_idM rfl ?_ | refine ar_idN rfl (fun _ => ?_) | refine ar_gM rfl rfl ?_ | refine ar_gN rfl rfl (fun _ => ?_) | refine ar_g rfl rfl ?_)
local macro_rules | `(tactic| walk_at "nef") => `(tactic| exact eq_false (by decide))
local macro_rules | `(tactic| walk_at "stf0") => `(tactic| first | refine sf_n0 0 rfl (by assumption) ?_ | refine sf_n1 0 rfl (by assumption) (by walk_at "nef") ?_ | refine sf_n2 0 rfl (by assumption) (by walk_at "nef") (by walk_at "nef") ?_ | refine sf_n3 0 rfl (by assumption) (by walk_at "nef") (by walk_at "nef") (by walk_at "nef") ?_ | refine sf_n4 0 rfl (by assumption) (by walk_at "nef") (by walk_at "nef") (by walk_at "nef") (by walk_at "nef") ?_ | refine sf_n5 0 rfl (by assumption) (by walk_at "nef") (by walk_at "nef") (by walk_at "nef") (by walk_at "nef") (by walk_at "nef") ?_)
local macro_rules | `(tactic| walk_at "pow") => `(tactic| first | refine p10_1 ?_ | refine p10_2 ?_ | refine p10_3 ?_ | refine p10_4 ?_ | refine p10_5 ?_ | refine p10_6 ?_ | refine p10_7 ?_ | refine p10_8 ?_ | refine p10_9 ?_ | refine p10_10 ?_ | refine p10_11 ?_ | refine p10_12 ?_ | refine p10_13 ?_ | refine p10_14 ?_ | refine p10_15 ?_ | refine p10_16 ?_ | refine p10_17 ?_ | refine p10_18 ?_ | refine p10_19 ?_ | refine p10_20 ?_ | refine p10_21 ?_ | refine p10_22 ?_ | refine p10_23 ?_ | refine p10_24 ?_ | refine p10_25 ?_ | refine p10_26 ?_ | refine p10_27 ?_ | refine p10_28 ?_ | refine p10_29 ?_ | refine p10_30 ?_ | refine p10_31 ?_ | refine p10_32 ?_ | refine p10_33 ?_ | refine p10_34 ?_ | refine p10_35 ?_ | refine p10_36 ?_ | refine p10_37 ?_ | refine p10_38 ?_ | refine p10_39 ?_ | refine p10_40 ?_ | refine p10_41 ?_ | refine p10_42 ?_ | refine p10_43 ?_ | refine p10_44 ?_ | refine p10_45 ?_)
local macro_rules | `(tactic| walk_at "lenb") => `(tactic| (refine len_lt ?_; first | omega | (simp only [List.length_map, List.length_append, List.length_cons, List.length_nil, List.length_range, List.length_replicate]; omega)))
local macro_rules | `(tactic| walk_at "pos") => `(tactic| first | assumption | omega | (refine ⟨?_, ?_⟩ <;> first | assumption | omega) | (refine ⟨?_, ?_, ?_⟩ <;> first | assumption | omega))
local macro_rules | `(tactic| walk_at "neg") => `(tactic| first | assumption | omega | (intro hh; simp_all; done))
local macro_rules | `(tactic| walk_at "ixauto") => `(tactic| first | refine od_ixT rfl ?_ | refine od_ixTE (by walk_at "rng") (fun _ _ => ?_) | refine od_ixE (by walk_at "rng") (fun _ _ => ?_) | refine od_ixEC 0 rfl (by walk_at "rng") (fun _ _ => ?_) | refine od_ixEC 1 rfl (by walk_at "rng") (fun _ _ => ?_) | refine od_ixEC 2 rfl (by walk_at "rng") (fun _ _ => ?_) | refine od_ixEC 3 rfl (by walk_at "rng") (fun _ _ => ?_))
local macro_rules | `(tactic| walk_at "islauto") => `(tactic| first
  | refine isl_c 0 rfl ?_ | refine isl_c 1 rfl ?_ | refine isl_c 2 rfl ?_ | refine isl_c 3 rfl ?_ | refine isl_c 4 rfl ?_ | refine isl_c 5 rfl ?_ | (refine idSet ?_; first | refine sd_listE 0 rfl (by walk_at "rng") rfl ?_ | refine sd_listE 1 rfl (by walk_at "rng") rfl ?_ | refine sd_listE 2 rfl (by walk_at "rng") rfl ?_ | refine sd_listE 3 rfl (by walk_at "rng") rfl ?_ | refine sd_dictI 0 rfl (by walk_at "lenb") ?_ | refine sd_dictI 1 rfl (by walk_at "lenb") ?_ | refine sd_dictI 2 rfl (by walk_at "lenb") ?_ | refine sd_dictS 0 rfl (by walk_at "lenb") ?_ | refine sd_dictS 1 rfl (by walk_at "lenb") ?_ | refine sd_dictS 2 rfl (by walk_at "lenb") ?_) | refine isd_c 0 rfl ?_ | refine isd_c 1 rfl ?_ | refine isd_c 2 rfl ?_ | refine isd_c 3 rfl ?_ | refine dg_i 0 rfl ?_ | refine dg_i 1 rfl ?_ | refine dg_i 2 rfl ?_ | refine dg_i 3 rfl ?_ | refine dg_s 0 rfl ?_ | refine dg_s 1 rfl ?_ | refine dg_s 2 rfl ?_ | refine dg_s 3 rfl ?_
  | (refine idApp ?_; first | refine mt_app (j := 0) rfl (by walk_at "lenb") ?_ | refine mt_app (j := 1) rfl (by walk_at "lenb") ?_ | refine mt_app (j := 2) rfl (by walk_at "lenb") ?_ | refine mt_app (j := 3) rfl (by walk_at "lenb") ?_ | refine mt_app (j := 4) rfl (by walk_at "lenb") ?_ | refine mt_app (j := 5) rfl (by walk_at "lenb") ?_))
local macro_rules | `(tactic| walk_at "t") => `(tactic| first | (refine idLk ?_; first | refine lkle ?_ | refine lklt ?_ | refine lk1le ?_ | refine lk1lt ?_ | refine lkgt ?_ | refine lkge ?_ | refine lk1gt ?_ | refine lk1ge ?_) | (refine idTC ?_; refine dt_chn ?_) | (refine idCmp ?_; refine de_chn ?_) | (refine idFld ?_; refine fld_o (by assumption) (by assumption) rfl ?_) | (refine idMt ?_; refine mt_oS (by assumption) (by assumption) (by decide) (by walk_at "lets") (by walk_at "pla") (by rfl) ?_) | (refine idC ?_; first | refine cd_lenLM (.val _) ?_ | refine cd_lenLM (.cell 0 rfl) ?_ | refine cd_lenLM (.cell 1 rfl) ?_ | refine cd_lenLM (.cell 2 rfl) ?_) | walk_at "s" | (refine idOx ?_; walk_at "ixauto") | walk_at "islauto")
local macro_rules | `(tactic| walk_at "rng") => `(tactic| first | exact ⟨by omega, by omega⟩ | exact ⟨by simp; omega, by simp; omega⟩)
local macro_rules | `(tactic| walk_at "ox") => `(tactic| fail "no rule")
local macro_rules | `(tactic| walk_at "o1") => `(tactic| first
  | (refine idOx ?_; first | refine st_great ?_ | refine st_rest ?_ | refine st_turn ?_ | refine st_seed ?_ | refine st_cells ?_ | walk_at "ox")
  | refine od_addI ?_ | refine od_sub ?_ | refine od_lt ?_ | refine od_le ?_ | refine od_gt ?_ | refine od_ge ?_ | refine od_eqI ?_ | refine od_neI ?_ | refine od_isN ?_ | refine od_isB ?_ | refine od_notB ?_ | refine od_notN ?_ | refine oi_addI ?_ | refine od_inS ?_ | refine od_notinS ?_ | refine od_inN (.val _) ?_ | refine od_notinN (.val _) ?_ | refine od_mod (by omega) ?_ | refine od_mulS (by omega) ?_ | refine od_divS (by omega) (by omega) ?_ | walk_at "pow" | walk_at "ox")
local macro_rules | `(tactic| walk_at "set") => `(tactic| first | refine se0 ?_ | refine se1 ?_ | refine se2 ?_ | refine se3 ?_ | refine se4 ?_ | refine se5 ?_ | refine se6 ?_ | refine se7 ?_ | refine se8 ?_ | refine se9 ?_ | refine se10 ?_ | refine se11 ?_ | refine se12 ?_ | refine se13 ?_ | refine se14 ?_ | refine se15 ?_ | refine se16 ?_ | refine se17 ?_ | refine se18 ?_ | refine se19 ?_ | refine se20 ?_ | refine se21 ?_ | refine se22 ?_ | refine se23 ?_ | refine se24 ?_ | refine se25 ?_ | refine se26 ?_ | refine se27 ?_ | refine se28 ?_ | refine se29 ?_ | refine se30 ?_ | refine se31 ?_ | refine se32 ?_ | refine se33 ?_ | refine se34 ?_ | refine se35 ?_)
local macro_rules | `(tactic| walk_at "br") => `(tactic| first | refine Br.yes ?_ | refine Br.no ?_ | refine Br.decT (by omega) ?_ | refine Br.decF (by omega) ?_ | refine Br.ndecT (by omega) ?_ | refine Br.ndecF (by omega) ?_ | refine Br.dec (fun _ => ?_) (fun _ => ?_) | refine Br.ndec (fun _ => ?_) (fun _ => ?_) | refine Br.neg ?_ | refine Br.mk (fun _ => ?_) (fun _ => ?_))
local macro_rules | `(tactic| walk_at "s") => `(tactic| first
  | (refine idE ?_; walk_at "e1")
  | (refine idO ?_; walk_at "o1")
  | (refine idA ?_; first | refine da_cons ?_ | refine da_nil ?_)
  | (refine idSs ?_; first | refine ds_cons ?_ | refine ds_nil ?_)
  | (refine idSl ?_; walk_at "set")
  | (refine idFld ?_; walk_at "fld")
  | refine endA ?_
  | (refine idUns ?_; first | refine ua0 ?_ | refine ua1 ?_ | refine ua2 ?_ | refine ua3 ?_ | refine ua4 ?_ | refine ua5 ?_ | refine ua6 ?_ | refine ua7 ?_ | refine ua8 ?_ | refine ua9 ?_ | refine ua10 ?_ | refine ua11 ?_ | refine ua12 ?_ | refine ua13 ?_ | refine ua14 ?_ | refine ua15 ?_ | refine ua16 ?_ | refine ua17 ?_ | refine ua18 ?_ | refine ua19 ?_ | refine ua20 ?_ | refine ua21 ?_ | refine ua22 ?_ | refine ua23 ?_)
  | refine exh_yesP (by assumption) (fun _ _ _ => ?_) | refine exh_noP (by assumption) ?_
  | (refine idMt ?_; walk_at "mt")
  | (refine idStF ?_; first | walk_at "stf0" | walk_at "stf")
  | (refine idDAK ?_; first | refine dak_en ?_ | refine dak_nn ?_ | refine dak_nk ?_ | refine dak_ek ?_)
  | walk_at "ar"
  | (refine idS ?_; first
    | (refine idAsg ?_; first | refine ds_set (by assumption) (by assumption) ?_ | refine ds_setN (by assumption) (by assumption) ?_ | refine ds_fldU ?_ | refine ds_par2 (by assumption) (by assumption) (by assumption) (by decide) (kind_of (by assumption) (by decide +kernel)) (kind_of (by assumption) (by decide +kernel)) (blk_of (by assumption) (by decide +kernel)) (by decide) ?_ | refine ds_par3 (by assumption) (by assumption) (by assumption) (by assumption) (by decide) (by decide) (by decide) (kind_of (by assumption) (by decide +kernel)) (kind_of (by assumption) (by decide +kernel)) (kind_of (by assumption) (by decide +kernel)) (blk_of (by assumption) (by decide +kernel)) (by decide) (by decide) (by decide) ?_ | refine ds_asgC ?_ | refine ds_asg ?_)
    | (refine idRaise ?_; first | refine ds_raise (by assumption) (by assumption) (by assumption) (by assumption) ?_ | refine ds_raiseI (by assumption) (by decide) (by assumption) (by assumption) (by assumption) ?_ | refine ds_raise0 (by assumption) (by assumption) (by assumption) (by assumption) ?_)
    | refine ds_ret ?_ | refine ds_if ?_ | refine ds_expr ?_
    | refine ds_augAdd (by assumption) (by assumption) (by rfl) ?_ | refine ds_augSub (by assumption) (by assumption) (by rfl) ?_
    | refine ds_pass ?_ | refine ds_retN ?_ | refine ds_break ?_ | refine ds_continue ?_)
  | (refine idBr ?_; walk_at "br")
  | refine toB.mk ?_
  | (refine idTC ?_; first | refine dt_lt ?_ | refine dt_le ?_ | refine dt_gt ?_ | refine dt_ge ?_ | refine dt_eq (by assumption) ?_ | refine dt_ne (by assumption) ?_ | refine dt_isB ?_ | refine dt_is ?_ | refine dt_isnotB ?_ | refine dt_isnot ?_ | refine dt_in (by assumption) ?_ | refine dt_notin (by assumption) ?_ | refine dt_val ?_)
  | (refine idT ?_; first | refine dt_not ?_ | refine dt_and ?_ | refine dt_or ?_ | refine dt_val ?_)
  | (refine idW ?_; first | refine dw_and1 ?_ | refine dw_or1 ?_ | refine dw_and ?_ | refine dw_or ?_)
  | (refine idC ?_; first | refine cd_min2 ?_ | refine cd_min3 ?_ | refine cd_max2 ?_ | (refine CallD.inl (CallD.inl ?_); first | refine isi_ii ?_ | refine isi_ib ?_ | refine isi_bb ?_ | refine isi_bi ?_ | refine isi_ll ?_ | refine isi_tt ?_ | refine isi_ni ?_ | refine isi_nb ?_ | refine isi_nt ?_) | refine CallD.inl (isx_xP (by assumption) (by walk_at "clsv") (by assumption) ?_) | refine CallD.inl (isx_oP (.val _ _ _) (by assumption) (by walk_at "clsv") (by assumption) ?_) | refine CallD.inl (isx_bP rfl (by walk_at "clsv") (by assumption) ?_) | refine isx_t2P (by assumption) (by walk_at "clsv") (by walk_at "clsv") (by assumption) (by assumption) ?_ | refine cd_lenL (.val _) ?_ | refine cd_lenT ?_ | refine cd_lenX ?_ | walk_at "ox")
  | (refine idG ?_; first | refine dg_name (by assumption) (by assumption) ?_ | refine dg_sub (by assumption) ?_ | refine dg_tup (by assumption) (by rfl) ?_)
  | (refine idGs ?_; first | refine dgs_cons ?_ | refine dgs_nil ?_)
  | (refine idK ?_; first | refine dk_cons ?_ | refine dk_nil ?_)
  | refine DPt.no ?_ | refine DPt.so ?_
  | refine len_and (Nat.le_of_ble_eq_true rfl) ?_ | refine len_andI rfl (Nat.le_of_ble_eq_true rfl) ?_
  | walk_at "cl"
  | refine ex_i ?_ | refine ex_2 ?_ | refine ex_3 ?_ | refine ex_l ?_ | refine ex_ii ?_ | refine ex_t ?_ | refine ex_s ?_ | refine ex_x ?_
  | (refine idSet ?_; first | refine set_rest ?_ | refine set_turn ?_ | refine set_seed ?_ | walk_at "ox"))
section
variable {B : Bx} {X : Cx} {e c tg it : Expr} {s1 s2 sts : List Stmt} {δ : Env'} {M : Mem} {Ψ : DEnds} {p p' : Pos}
theorem stIf (h : DSs B X (.If c s1 s2 p :: sts) δ M Ψ) : DSs B X (.If c s1 s2 p :: sts) δ M Ψ := h
theorem stFor (h : DSs B X (.For tg it s1 s2 p :: sts) δ M Ψ) : DSs B X (.For tg it s1 s2 p :: sts) δ M Ψ := h
theorem stTry {hs : List ExceptHandler} {s3 : List Stmt} (h : DSs B X (.Try s1 hs s2 s3 p :: sts) δ M Ψ) : DSs B X (.Try s1 hs s2 s3 p :: sts) δ M Ψ := h
theorem stSet (x : Str) (h : DSs B X (.Assign [.Name x p'] e p :: sts) δ M Ψ) : DSs B X (.Assign [.Name x p'] e p :: sts) δ M Ψ := h
theorem stAttr {o : Expr} (f : Str) (h : DSs B X (.Assign [.Attribute o f p'] e p :: sts) δ M Ψ) : DSs B X (.Assign [.Attribute o f p'] e p :: sts) δ M Ψ := h
theorem stNil (h : DSs B X [] δ M Ψ) : DSs B X [] δ M Ψ := h
theorem stRet {o : Option Expr} (h : DSs B X (.Return o p :: sts) δ M Ψ) : DSs B X (.Return o p :: sts) δ M Ψ := h
end
local macro_rules | `(tactic| walk_at "up") => `(tactic| repeat' first | exact UpO.nil | exact Ups.nil | exact Up.here | apply UpO.some | apply UpO.none | apply UpO.any | apply Up.tup | apply Ups.cons | exact Up.same _)
local macro_rules | `(tactic| walk_at "o1") => `(tactic| refine od_addT (Nat.le_of_ble_eq_true rfl) ?_)
local macro_rules | `(tactic| walk_at "bm") => `(tactic| first | refine de_join ?_ | refine de_count ?_ | refine de_index ?_ | refine de_clear ?_ | refine de_pop0 ?_)
local macro_rules | `(tactic| walk_at "call") => `(tactic| first | refine de_callL (by assumption) (by walk_at "lo") (by rfl) (by assumption) (by decide) (by walk_at "lets") ?_ (by walk_at "pla") | refine de_max3 (by assumption) (by assumption) ?_ | refine de_exnS (by assumption) (by assumption) (by decide) (by decide) (by rfl) (by assumption) ?_ (by walk_at "pla") | refine de_exn0 (by assumption) (by assumption) ?_)
local macro_rules | `(tactic| walk_at "t") => `(tactic| (refine idXn ?_; first | refine xn_10 ?_ | refine xn_01 ?_ | refine xn_02 ?_ | refine xn_04 ?_))
local macro_rules | `(tactic| walk_at "cl") => `(tactic| refine cd_max3 ?_)
local macro_rules | `(tactic| walk_at "e1") => `(tactic| first | refine de_joined ?_ | refine de_joined1 ?_ | refine de_fmt ?_ | refine DE.f (df_step2 ?_))
local macro_rules | `(tactic| walk_at "t") => `(tactic| first | refine dj_cons ?_ | refine dj_nil ?_ | refine jn_mk (Nat.le_trans (show _ ≤ 1000 by simp only [PySem.Str.length_append]; omega) (by decide)) ?_ | refine fm_s (by walk_at "lenb") ?_ | refine fm_i (by assumption) ?_)
def top (i : Nat) : Stmt := PySem.Challenge.pw_hourlanes_k50_lanes_built.main.body.getD i (.Pass ⟨0, 0, 0, 0⟩)
local macro_rules | `(tactic| walk_at "cl") => `(tactic| first | refine c_take (by omega) (by omega) (by omega) (fun _ _ _ => ?_) | refine c_begun (by omega) (fun _ _ => ?_))
abbrev s_law_take : Stmt := top 50
def n_law_take : List Str := ["_law_state", "_law_many", "_law_found", "_law_turn", "_law_cell", "_law_seed", "_law_mixed"]
theorem sc_law_take : FnScope n_law_take ["_law_state", "_law_many"] (defScope s_law_take) := ⟨rfl, rfl, rfl, by decide +kernel, rfl, by decide +kernel, by decide +kernel⟩
theorem d_law_take {P : Program} {w : World} {K : PySem.W.Frag} {mg : Str → Option Value} {base : Heap} {f : Addr} {fd : FuncData} (F : Fun K "_law_take" "_law_take" s_law_take f fd)
    (G_len : mg "len" = none) : FnOk P w K mg base CX0 1 f fd ["_law_state", "_law_many"] (lift pTake) := by
  refine fnok_of (N := n_law_take) (k := 0) F sc_law_take (fun ds M Φ h => by obtain ⟨s, g, b, n, M', rfl, rfl, hn, hn2, k⟩ := h; rfl) fun X B I ds M Φ h => ?_
  obtain ⟨s, g, b, n, M', rfl, rfl, hn, hn2, k⟩ := h
  obtain ⟨rfl, rfl, rfl, rfl, rfl, hN, hs, hf, z, xe⟩ := I
  have hp := passes_of xe
  have n0 : Lo X 0 "_law_state" := lo_of hN hs hf (by decide +kernel)
  have n1 : Lo X 1 "_law_many" := lo_of hN hs hf (by decide +kernel)
  have n2 : Lo X 2 "_law_found" := lo_of hN hs hf (by decide +kernel)
  have n3 : Lo X 3 "_law_turn" := lo_of hN hs hf (by decide +kernel)
  have n4 : Lo X 4 "_law_cell" := lo_of hN hs hf (by decide +kernel)
  have n5 : Lo X 5 "_law_seed" := lo_of hN hs hf (by decide +kernel)
  have n6 : Lo X 6 "_law_mixed" := lo_of hN hs hf (by decide +kernel)
  have g_len : Gn X "len" := gn_of hs (by decide +kernel) G_len
  clear F hf
  change DSs _ X (_ :: _) [_, _, _, _, _, _, _] _ _
  refine ws_stOpen fun gs r t e cs ok => ?_
  have hr := ok.hr
  have hn2 : n < 2 ^ 1000 := hn2
  have ht := ok.ht
  have htb := ok.htb
  have he := ok.he
  have he2 := ok.he2
  repeat' walk_at "s"
  · -- rest is 0
    refine od_neNil (.cell 1 rfl) (okE_ints _) ?_
    repeat' walk_at "s"
    · -- no great cells: a number mixed
      rw [List.length_map]
      have hc1 := ok.hc1
      have hc2 := ok.hc2
      repeat' walk_at "s"
      obtain ⟨c, hc, ec⟩ := at_int (cs := cs) (i := t % (cs.length : Nat)) (Int.emod_nonneg _ (by omega)) (Int.emod_lt_of_pos _ (by omega))
      refine od_ixL ec ?_
      obtain ⟨hc0, hc3⟩ := ok.hcs c hc
      have m1 := Int.emod_nonneg (e * 48271 + c * (2 * t + 3) + t ^ (3 : Int).toNat) (show (2147483647 : Int) ≠ 0 by decide)
      have m2 := Int.emod_lt_of_pos (e * 48271 + c * (2 * t + 3) + t ^ (3 : Int).toNat) (show (0 : Int) < 2147483647 by decide)
      have m3 := Int.emod_nonneg (((e * 48271 + c * (2 * t + 3) + t ^ (3 : Int).toNat) % 2147483647) ^ (2 : Int).toNat) (show (2147483629 : Int) ≠ 0 by decide)
      have m4 := Int.emod_lt_of_pos (((e * 48271 + c * (2 * t + 3) + t ^ (3 : Int).toNat) % 2147483647) ^ (2 : Int).toNat) (show (0 : Int) < 2147483629 by decide)
      generalize hS : (e * 48271 + c * (2 * t + 3) + t ^ (3 : Int).toNat) % 2147483647 = S at m1 m2 m3 m4
      generalize hU : S ^ (2 : Int).toNat % 2147483629 = U at m3 m4
      repeat' walk_at "s"
      refine od_pow ⟨by decide, by decide, by omega⟩ ?_
      repeat' walk_at "s"
      rw [hS]
      repeat' walk_at "s"
      refine od_pow ⟨by decide, by decide, by omega⟩ ?_
      repeat' walk_at "s"
      rw [hU]
      repeat' walk_at "s"
      refine od_pow ⟨by decide, by decide, by omega⟩ ?_
      repeat' walk_at "s"
      refine ⟨_, _, .stc (b := b) ⟨ok.hgs, hr, by omega, by omega, m1, m2, ok.hcs, ok.hc1, ok.hc2⟩, k _ (Int.emod_nonneg _ (by omega)) (Int.emod_lt_of_pos _ (by omega))⟩
    · -- the next great cell
      rename_i hg
      cases gs with
      | nil => exact absurd hg (by decide)
      | cons g0 gs =>
        refine ⟨⟨_, .cell 1 rfl⟩, ?_⟩
        repeat' walk_at "s"
        refine mt_popD (j := 1) (m := 0) (d := .int g0) (ds := .int g0 :: gs.map .int) rfl (by decide) (by decide) (seqIndex_of (by decide) (by simp)) rfl ?_
        have h0 : 0 < g0 := ok.hgs g0 List.mem_cons_self
        have ok1 : ∀ r', 0 ≤ r' → StOk b gs r' t e cs := fun r' hr' => ⟨fun x hx => ok.hgs x (List.mem_cons_of_mem _ hx), hr', ok.ht, by omega, ok.he, ok.he2, ok.hcs, ok.hc1, ok.hc2⟩
        repeat' walk_at "s"
        exact ⟨_, _, .stc (ok1 _ (Int.ediv_nonneg (by omega) (by omega))), k _ (Int.emod_nonneg _ (by omega)) (Int.emod_lt_of_pos _ (by omega))⟩
  · exact ⟨_, _, .stc (b := b) ⟨ok.hgs, Int.ediv_nonneg (by omega) (by omega), ht, by omega, he, he2, ok.hcs, ok.hc1, ok.hc2⟩, k _ (Int.emod_nonneg _ (by omega)) (Int.emod_lt_of_pos _ (by omega))⟩
abbrev s_law_begun : Stmt := top 49
def n_law_begun : List Str := ["_law_script", "_law_cell"]
theorem sc_law_begun : FnScope n_law_begun ["_law_script"] (defScope s_law_begun) := ⟨rfl, rfl, rfl, by decide +kernel, rfl, by decide +kernel, by decide +kernel⟩
theorem d_law_begun {P : Program} {w : World} {K : PySem.W.Frag} {mg : Str → Option Value} {base : Heap} {f : Addr} {fd : FuncData} (F : Fun K "_law_begun" "_law_begun" s_law_begun f fd)
     : FnOk P w K mg base CX0 1 f fd ["_law_script"] (lift (pBegun K)) := by
  refine fnok_of (N := n_law_begun) (k := 0) F sc_law_begun (fun ds M Φ h => by obtain ⟨ns, rfl, hl, k⟩ := h; rfl) fun X B I ds M Φ h => ?_
  obtain ⟨ns, rfl, hl, k⟩ := h
  obtain ⟨rfl, rfl, rfl, rfl, rfl, hN, hs, hf, z, xe⟩ := I
  have hp := passes_of xe
  have n0 : Lo X 0 "_law_script" := lo_of hN hs hf (by decide +kernel)
  clear F hf
  change DSs _ X (_ :: _) [_, _] _ _
  refine ds_one (ds_ret (de_disp 0 rfl rfl rfl (by simp) (by decide) fun p => ?_))
  simp only [DPs]
  repeat' walk_at "s"
  refine DE.own 1 (df_lc 0 z hN hs [("_law_cell", 1)] (.one 1) (by decide +kernel) (by decide) (fun X' bk => pg_one bk z (bk.lo hN hs (by decide +kernel))) ?_)
  refine di_scr ?_
  repeat' walk_at "s"
  refine LcH.pure bigF (by rw [List.length_map]; exact Nat.le_trans hl (by decide)) (fun q acc x hx => ?_) ?_
  · obtain ⟨n, hn, rfl⟩ := List.mem_map.mp hx
    refine ⟨_, rfl, fun X' bk => ?_⟩
    have c0 : Lo X' 1 "_law_cell" := bk.lo hN hs (by decide +kernel)
    have z' := bk.z z
    repeat' walk_at "s"
    · rename_i h
      intro X' bk
      have c0 : Lo X' 1 "_law_cell" := bk.lo hN hs (by decide +kernel)
      have z' := bk.z z
      repeat' walk_at "s"
      exact ⟨(if_pos h).symm, rfl⟩
    · rename_i h
      exact ⟨(if_neg h).symm, rfl⟩
  intro g
  rw [big_map]
  repeat' walk_at "s"
  refine DE.f (df_lc 0 z hN hs [("_law_cell", 1)] (.one 1) (by decide +kernel) (by decide) (fun X' bk => pg_one bk z (bk.lo hN hs (by decide +kernel))) ?_)
  refine di_scr ?_
  repeat' walk_at "s"
  refine LcH.pure modF (by rw [List.length_map]; exact Nat.le_trans hl (by decide)) (fun q acc x hx => ?_) ?_
  · obtain ⟨n, hn, rfl⟩ := List.mem_map.mp hx
    refine ⟨_, rfl, fun X' bk => ?_⟩
    have c0 : Lo X' 1 "_law_cell" := bk.lo hN hs (by decide +kernel)
    have z' := bk.z z
    repeat' walk_at "s"
    exact ⟨rfl, rfl⟩
  rw [rest_map]
  repeat' walk_at "s"
  refine od_addL (by simp; exact Nat.le_trans (Nat.succ_le_succ hl) (by decide)) ?_
  refine ⟨0, [(.inr "great", .raw (.ref g)), (.inr "rest", .int 0), (.inr "turn", .int 0), (.inr "seed", .int 7), (.inr "cells", .lst (((ns.map fun n => n % 2147483629) ++ [77]).map .int))], rfl, by rw [List.map_append]; rfl, by show 5 ≤ 15; decide, ?_⟩
  exact ⟨_, _, .stc (begun_ok ns hl), k _ _⟩
abbrev letters : Str := "abcdefghijklmnopqrstuvwxyz"
def nameB (z : Str) : Bool := decide (1 ≤ z.length) && decide (z.length ≤ 8) && z.cps.toList.all fun c => decide (c ∈ letters.cps.toList)
def pIsName : DSp := fun ds M Φ => ∃ z : Str, ds = [.str z] ∧ z.length ≤ 1000 ∧ Φ (.bl (nameB z)) M
theorem c_isName {z : Str} {M : Mem} {Φ : D → Mem → Prop} (h : z.length ≤ 1000) (k : Φ (.bl (nameB z)) M) : pIsName [.str z] M Φ := ⟨z, rfl, h, k⟩
abbrev s_is_name : Stmt := top 27
def n_is_name : List Str := ["text", "sign"]
theorem sc_is_name : FnScope n_is_name ["text"] (defScope s_is_name) := ⟨rfl, rfl, rfl, by decide +kernel, rfl, by decide +kernel, by decide +kernel⟩
theorem d_is_name {P : Program} {w : World} {K : PySem.W.Frag} {mg : Str → Option Value} {base : Heap} {f : Addr} {fd : FuncData} (F : Fun K "is_name" "is_name" s_is_name f fd)
    (G_len : mg "len" = none) (C_LETTERS : ∃ t, mg "LETTERS" = some (.str "abcdefghijklmnopqrstuvwxyz" t)) : FnOk P w K mg base CX0 1 f fd ["text"] (lift pIsName) := by
  refine fnok_of (N := n_is_name) (k := 0) F sc_is_name (fun ds M Φ h => by obtain ⟨zz, rfl, hl, k⟩ := h; rfl) fun X B I ds M Φ h => ?_
  obtain ⟨zz, rfl, hl, k⟩ := h
  obtain ⟨rfl, rfl, rfl, rfl, rfl, hN, hs, hf, z, xe⟩ := I
  have hp := passes_of xe
  have n0 : Lo X 0 "text" := lo_of hN hs hf (by decide +kernel)
  have n1 : Lo X 1 "sign" := lo_of hN hs hf (by decide +kernel)
  have g_len : Gn X "len" := gn_of hs (by decide +kernel) G_len
  have c_LETTERS : Gc X "LETTERS" (.str "abcdefghijklmnopqrstuvwxyz") := gc_str hs (by decide +kernel) C_LETTERS
  clear F hf
  change DSs _ X (_ :: _) [_, _] _ _
  have hz : zz.length ≤ sizeLine := Nat.le_trans hl (by decide)
  repeat' walk_at "t"
  refine cd_lenS hz ?_
  repeat' walk_at "t"
  · rename_i h
    refine ⟨_, _, .refl, ?_⟩
    rw [show nameB zz = false by unfold nameB; rw [decide_eq_false (by omega)]; rfl] at k
    exact k
  refine cd_lenS hz ?_
  repeat' walk_at "t"
  · rename_i h
    refine ⟨_, _, .refl, ?_⟩
    rw [show nameB zz = false by unfold nameB; rw [decide_eq_false (show ¬ zz.length ≤ 8 by omega), Bool.and_false]; rfl] at k
    exact k
  rename_i h1 h2
  refine ds_for z hp (di_str ?_)
  repeat' walk_at "t"
  refine ⟨fun i δ M' => M' = M ∧ (∃ o, δ = [some (.str zz), o]) ∧ ((zz.cps.toList.take i).all fun c => decide (c ∈ letters.cps.toList)) = true, ⟨rfl, ⟨_, rfl⟩, rfl⟩, ?_, ?_⟩
  · rintro i x δ M1 hx ⟨rfl, ⟨o, rfl⟩, ha⟩
    rw [List.getElem?_map] at hx
    cases e : zz.cps.toList[i]? with
    | none => rw [e] at hx; cases hx
    | some c =>
      rw [e] at hx
      obtain rfl := Option.some.inj hx
      repeat' walk_at "t"
      · rename_i h
        refine ⟨_, _, .refl, ?_⟩
        rw [show nameB zz = false by
          unfold nameB
          rw [show (zz.cps.toList.all fun c => decide (c ∈ letters.cps.toList)) = false from by
            rw [List.all_eq_false]
            exact ⟨c, List.mem_of_getElem? e, by rw [decide_eq_false h]; decide⟩, Bool.and_false]] at k
        exact k
      · rename_i h
        refine ⟨rfl, ⟨_, rfl⟩, ?_⟩
        rw [List.take_add_one, e, List.all_append, ha]
        show (true && (decide _ && true)) = true
        rw [decide_eq_true h]; rfl
  · rintro δ M1 ⟨rfl, ⟨o, rfl⟩, ha⟩
    rw [List.length_map, List.take_length] at ha
    repeat' walk_at "t"
    refine ⟨_, _, .refl, ?_⟩
    rw [show nameB zz = true by unfold nameB; rw [ha, decide_eq_true (show 1 ≤ zz.length by omega), decide_eq_true (show zz.length ≤ 8 by omega)]; rfl] at k
    exact k
structure J where
  size : Int
  rate : Int
  mouth : Int
abbrev jNs : List Str := ["size", "rate", "mouth"]
abbrev fNs : List Str := ["jar", "marks"]
abbrev jD (c : Addr) (j : J) : D := .obj c jNs [.int j.size, .int j.rate, .int j.mouth]
abbrev fFs (c : Addr) (j : J) (m : Int) : List D := [jD c j, .int m]
abbrev fD (cF cJ : Addr) (j : J) (m : Int) : D := .obj cF fNs (fFs cJ j m)
def mayF (j : J) (m : Int) : Int := min j.mouth m
def pTold (cJ : Addr) : DSpE := fun ds M Φ _ => ∃ j, ds = [jD cJ j] ∧ Φ (.tup [.int j.size, .int j.rate, .int j.mouth]) M
def pMay (cF cJ : Addr) : DSpE := fun ds M Φ _ => ∃ x j m, ds = [x] ∧ IsO M x cF fNs (fFs cJ j m) ∧ Φ (.int (mayF j m)) M
theorem c_told {cJ : Addr} {j : J} {M : Mem} {Φ : D → Mem → Prop} {Ξ : XPost} (k : Φ (.tup [.int j.size, .int j.rate, .int j.mouth]) M) : pTold cJ [jD cJ j] M Φ Ξ := ⟨j, rfl, k⟩
theorem c_may {cF cJ : Addr} {x : D} {j : J} {m : Int} {M : Mem} {Φ : D → Mem → Prop} {Ξ : XPost} (io : IsO M x cF fNs (fFs cJ j m)) (k : Φ (.int (mayF j m)) M) : pMay cF cJ [x] M Φ Ξ := ⟨x, j, m, rfl, io, k⟩
theorem c_mayV {cF cJ : Addr} {j : J} {m : Int} {M : Mem} {Φ : D → Mem → Prop} {Ξ : XPost} (k : Φ (.int (mayF j m)) M) : pMay cF cJ [fD cF cJ j m] M Φ Ξ := c_may (.val _ _ _) k
local macro_rules | `(tactic| walk_at "cl") => `(tactic| first | refine c_told ?_ | refine c_mayV ?_ | refine c_may (by assumption) ?_)
/-! ### houses by data -/
abbrev Leg := Str × Int
structure Tm where
  a : Addr
  n : Str
  j : J
  m : Int
  way : List Leg
structure Lt where
  a : Addr
  n : Str
  came : Int
  many : Int
  lanes : List Str
  hours : List Int
  left : Int
structure FA where
  wd : Addr
  sh : Addr
  ln : Addr
structure Ln where
  n : Str
  w : Int
  s : Int
structure Fl where
  now : Int
  lns : List Ln
  ts : List Tm
  ls : List Lt
/-- the classes -/
structure FC where
  fl : Addr
  f : Addr
  j : Addr
  lt : Addr
abbrev legD (l : Leg) : D := .tup [.str l.1, .int l.2]
abbrev wayD (w : List Leg) : D := .tup (w.map legD)
abbrev tmD (t : Tm) : Key × D := (.inr t.n, .tup [.raw (.ref t.a), wayD t.way])
abbrev wdK (l : Ln) : Key × D := (.inr l.n, .int l.w)
abbrev shK (l : Ln) : Key × D := (.inr l.n, .int l.s)
abbrev flNs : List Str := ["now", "widths", "shut_until", "terms", "line"]
abbrev flO (C : FC) (A : FA) (S : Fl) : SC := .obj C.fl flNs [.int S.now, .raw (.ref A.wd), .raw (.ref A.sh), fdD (S.ts.map tmD), .raw (.ref A.ln)]
abbrev flowP (C : FC) (t : Tm) : Addr × SC := (t.a, .obj C.f fNs (fFs C.j t.j t.m))
abbrev ltNs : List Str := ["name", "came", "many", "lanes", "hours", "left"]
abbrev ltFs (l : Lt) : List D := [.str l.n, .int l.came, .int l.many, .tup (l.lanes.map .str), .tup (l.hours.map .int), .int l.left]
abbrev lotP (C : FC) (l : Lt) : Addr × SC := (l.a, .obj C.lt ltNs (ltFs l))
abbrev lnD (l : Lt) : D := .raw (.ref l.a)
abbrev flN (C : FC) (A : FA) (wc : SC) (S : Fl) : List (Addr × SC) := (A.wd, wc) :: (A.sh, .dct (S.lns.map shK)) :: (A.ln, .lst (S.ls.map lnD)) :: (S.ts.map (flowP C) ++ S.ls.map (lotP C))
/-- a floor, one cell -/
abbrev flG (C : FC) (A : FA) (wc : SC) (S : Fl) : Cell := .grp (flO C A S) (flN C A wc S)
abbrev flU (C : FC) (A : FA) (S : Fl) : Cell := flG C A (.dct (S.lns.map wdK)) S
def WcOk (wc : SC) (S : Fl) : Prop := wc = .dct (S.lns.map wdK) ∨ ∃ o ws, wc = .fdc o ws (S.lns.map wdK)
abbrev hsNs : List Str := ["now", "floor", "pages"]
abbrev hsO (cH : Addr) (n : Int) (fl pg : Addr) : Cell := .obj cH hsNs [.int n, .raw (.ref fl), .raw (.ref pg)]
/-! keys -/
def hasL (x : Str) (l : List Ln) : Prop := x ∈ l.map (·.n)
instance (x : Str) (l : List Ln) : Decidable (hasL x l) := inferInstanceAs (Decidable (_ ∈ _))
theorem look_map {α : Type} (g : α → Str) (v : α → D) (x : Str) : ∀ l : List α, (lookD (l.map fun p => (Sum.inr (g p), v p)) (.inr x)).isSome = decide (x ∈ l.map g)
  | [] => rfl
  | p :: l => by
    have ih := look_map g v x l
    unfold lookD at ih ⊢
    rw [List.map_cons]
    by_cases h : g p = x
    · rw [List.find?_cons_of_pos (by simp [h])]
      simp [h]
    · rw [List.find?_cons_of_neg (by simp [h]), ih]
      have : ¬ x = g p := fun e => h e.symm
      simp [this]
theorem look_wdK (x : Str) (l : List Ln) : (lookD (l.map wdK) (.inr x)).isSome = decide (hasL x l) := look_map (·.n) (fun p => .int p.w) x l
theorem look_shK (x : Str) (l : List Ln) : (lookD (l.map shK) (.inr x)).isSome = decide (hasL x l) := look_map (·.n) (fun p => .int p.s) x l
theorem put_new {kvs : List (Key × D)} {k : Key} {d : D} (h : (lookD kvs k).isSome = false) : putD kvs k d = kvs ++ [(k, d)] := by
  unfold putD
  rw [if_neg]
  intro h2
  obtain ⟨kv, hkv, e⟩ := List.any_eq_true.mp h2
  unfold lookD at h
  rw [Option.isSome_map] at h
  have h3 : (kvs.find? fun kv => decide (kv.1 = k)).isSome = true := List.find?_isSome.mpr ⟨kv, hkv, e⟩
  rw [h] at h3; cases h3
def hasT (x : Str) (l : List Tm) : Prop := x ∈ l.map (·.n)
instance (x : Str) (l : List Tm) : Decidable (hasT x l) := inferInstanceAs (Decidable (_ ∈ _))
theorem isdW {C : FC} {A : FA} {wc : SC} {S : Fl} {fl : Addr} {M : Mem} (hw : WcOk wc S) (h : (fl, flG C A wc S) ∈ M) : IsDc M (.raw (.ref A.wd)) (S.lns.map wdK) := by
  rcases hw with rfl | ⟨o, ws, rfl⟩
  · exact .inm (.inr (.inr ⟨_, _, _, h, List.mem_cons_self⟩))
  · exact .inmL (.inr (.inr ⟨_, _, _, h, List.mem_cons_self⟩))
theorem isdS {C : FC} {A : FA} {wc : SC} {S : Fl} {fl : Addr} {M : Mem} (h : (fl, flG C A wc S) ∈ M) : IsDc M (.raw (.ref A.sh)) (S.lns.map shK) := .inm (.inr (.inr ⟨_, _, _, h, List.mem_cons_of_mem _ List.mem_cons_self⟩))
def pFloorI (C : FC) : DSpE := fun ds M Φ _ => ∃ a M', ds = [.raw (.ref a)] ∧ M = (a, .obj C.fl [] []) :: M' ∧ ∀ A, Φ .non ((a, flU C A ⟨0, [], [], []⟩) :: M')
def WdOk (w : Int) : Prop := 1 ≤ w ∧ w ≤ 1000000000
instance (w : Int) : Decidable (WdOk w) := inferInstanceAs (Decidable (_ ∧ _))
def pNeedWidth (cX : Addr) : DSpE := fun ds M Φ Ξ => ∃ x w, ds = [x, .int w] ∧ (WdOk w → Φ .non M) ∧ (¬ WdOk w → Ξ cX [] [] M)
def pNeedNew (cN cT : Addr) : DSpE := fun ds M Φ Ξ => ∃ x0 x y kvs, ds = [x0, .str x, y] ∧ x.length ≤ 1000 ∧ IsDc M y kvs ∧ (nameB x = false → Ξ cN ["name"] [.str x] M) ∧ (nameB x = true → (lookD kvs (.inr x)).isSome = true → Ξ cT ["name"] [.str x] M) ∧ (nameB x = true → (lookD kvs (.inr x)).isSome = false → Φ .non M)
def pNeedBuild (C : FC) (cN cT cW : Addr) : DSpE := fun ds M Φ Ξ => ∃ fl A S x w M', ds = [.raw (.ref fl), .str x, .int w] ∧ M = (fl, flU C A S) :: M' ∧ x.length ≤ 1000 ∧ (nameB x = false → Ξ cN ["name"] [.str x] M) ∧ (nameB x = true → hasL x S.lns → Ξ cT ["name"] [.str x] M) ∧ (nameB x = true → ¬ hasL x S.lns → ¬ WdOk w → Ξ cW [] [] M) ∧ (nameB x = true → ¬ hasL x S.lns → WdOk w → Φ .non M)
def pAddLane (C : FC) : DSpE := fun ds M Φ _ => ∃ fl A S x w M', ds = [.raw (.ref fl), .str x, .int w] ∧ M = (fl, flU C A S) :: M' ∧ ¬ hasL x S.lns ∧ S.lns.length < 1000 ∧ Φ .non ((fl, flU C A { S with lns := S.lns ++ [⟨x, w, 0⟩] }) :: M')
abbrev s_Floor__init : Stmt := inClass (top 35) 0
def n_Floor__init : List Str := ["self"]
theorem sc_Floor__init : FnScope n_Floor__init ["self"] (defScope s_Floor__init) := ⟨rfl, rfl, rfl, by decide +kernel, rfl, by decide +kernel, by decide +kernel⟩
theorem d_Floor__init {P : Program} {w : World} {K : PySem.W.Frag} {mg : Str → Option Value} {base : Heap} {c_Scene c_Floor c_House c_Flow c_Lot : Addr} {f : Addr} {fd : FuncData} (F : FunG K "__init__" "Floor.__init__" s_Floor__init f fd)
    (A_Scene_now : FldP K c_Scene "now") (A_Floor_now : FldP K c_Floor "now") (A_House_now : FldP K c_House "now") (A_Floor_widths : FldP K c_Floor "widths") (A_Floor_shut_until : FldP K c_Floor "shut_until") (A_Floor_terms : FldP K c_Floor "terms") (A_Floor_line : FldP K c_Floor "line") : FnOk P w K mg base (L2.CX P w) 1 f fd ["self"] (liftE (pFloorI ⟨c_Floor, c_Flow, (0 : Addr), c_Lot⟩)) := by
  refine fnokG_of (N := n_Floor__init) (k := 0) F sc_Floor__init (fun ds M Φ Ξ h => by obtain ⟨a, M', rfl, rfl, k⟩ := h; rfl) fun X kp ds M Φ Ξ h I => ?_
  obtain ⟨a, M', rfl, rfl, k⟩ := h
  obtain ⟨rfl, rfl, rfl, rfl, rfl, hN, hs, hf, z, hp, tk, hst, hfr⟩ := I
  have nd := z.nd
  have n0 : Lo X 0 "self" := lo_of hN hs hf (by decide +kernel)
  clear F hf
  change DSs _ X (_ :: _) [_] _ _
  repeat' walk_at "t"
  refine de_dnew 1 fun wd => ?_
  repeat' walk_at "t"
  refine de_dnew 2 fun sh => ?_
  repeat' walk_at "t"
  refine de_frz (de_dnew 0 fun tm => ⟨0, tm, [], rfl, rfl, ?_⟩)
  repeat' ((fail_if_success refine (stAttr "line") ?_); walk_at "t")
  refine ds_cons (ds_fldU (DE.own 3 (df_lst ?_)))
  repeat' walk_at "t"
  intro ln
  repeat' walk_at "t"
  refine ⟨_, _, ?_, k ⟨wd, sh, ln⟩⟩
  exact Vw.close (a := a) (c := flO ⟨c_Floor, c_Flow, (0 : Addr), c_Lot⟩ ⟨wd, sh, ln⟩ ⟨0, [], [], []⟩) (N := flN ⟨c_Floor, c_Flow, (0 : Addr), c_Lot⟩ ⟨wd, sh, ln⟩ (.dct []) ⟨0, [], [], []⟩) (M := M') 0
abbrev s_Floor_need_width : Stmt := inClass (top 35) 3
def n_Floor_need_width : List Str := ["self", "width"]
theorem sc_Floor_need_width : FnScope n_Floor_need_width ["self", "width"] (defScope s_Floor_need_width) := ⟨rfl, rfl, rfl, by decide +kernel, rfl, by decide +kernel, by decide +kernel⟩
theorem d_Floor_need_width {P : Program} {w : World} {K : PySem.W.Frag} {mg : Str → Option Value} {base : Heap} {c_NoLane : Addr} {f : Addr} {fd : FuncData} (F : FunG K "need_width" "Floor.need_width" s_Floor_need_width f fd)
    (C_GREATEST_floor : ∃ t, mg "GREATEST_floor" = some (.int 1000000000 t)) (X_NoLane : Ex0 K mg "NoLane" c_NoLane) : FnOk P w K mg base (L2.CX P w) 1 f fd ["self", "width"] (liftE (pNeedWidth c_NoLane)) := by
  refine fnokG_of (N := n_Floor_need_width) (k := 0) F sc_Floor_need_width (fun ds M Φ Ξ h => by obtain ⟨x, w, rfl, ky, kx⟩ := h; rfl) fun X kp ds M Φ Ξ h I => ?_
  obtain ⟨x, w, rfl, ky, kx⟩ := h
  obtain ⟨rfl, rfl, rfl, rfl, rfl, hN, hs, hf, z, hp, tk, hst, hfr⟩ := I
  have nd := z.nd
  have n0 : Lo X 0 "self" := lo_of hN hs hf (by decide +kernel)
  have n1 : Lo X 1 "width" := lo_of hN hs hf (by decide +kernel)
  have c_GREATEST_floor : Gc X "GREATEST_floor" (.int 1000000000) := gc_int hs (by decide +kernel) C_GREATEST_floor
  have l_NoLane : Gl X "NoLane" := gl_of hs (by decide +kernel)
  clear F hf
  change DSs _ X (_ :: _) [_, _] _ _
  repeat' walk_at "t"
  · exact ⟨_, _, .refl, kx (by unfold WdOk; omega)⟩
  · exact ⟨_, _, .refl, kx (by unfold WdOk; omega)⟩
  · exact ⟨_, _, .refl, ky (by unfold WdOk; omega)⟩
abbrev s_Floor_need_new : Stmt := inClass (top 35) 4
def n_Floor_need_new : List Str := ["self", "name", "taken"]
theorem sc_Floor_need_new : FnScope n_Floor_need_new ["self", "name", "taken"] (defScope s_Floor_need_new) := ⟨rfl, rfl, rfl, by decide +kernel, rfl, by decide +kernel, by decide +kernel⟩
theorem d_Floor_need_new {P : Program} {w : World} {K : PySem.W.Frag} {mg : Str → Option Value} {base : Heap} {c_NoName c_Taken : Addr} {f : Addr} {fd : FuncData} (F : FunG K "need_new" "Floor.need_new" s_Floor_need_new f fd)
    (D_is_name : Def P w K mg base 1 "is_name" ["text"] pIsName) (X_NoName : ExI P w K mg base "NoName" c_NoName ["name"]) (X_Taken : ExI P w K mg base "Taken" c_Taken ["name"]) : FnOk P w K mg base (L2.CX P w) 3 f fd ["self", "name", "taken"] (liftE (pNeedNew c_NoName c_Taken)) := by
  refine fnokG_of (N := n_Floor_need_new) (k := 2) F sc_Floor_need_new (fun ds M Φ Ξ h => by obtain ⟨x0, x, y, kvs, rfl, hl, hd, kn, kt, ky⟩ := h; rfl) fun X kp ds M Φ Ξ h I => ?_
  obtain ⟨x0, x, y, kvs, rfl, hl, hd, kn, kt, ky⟩ := h
  obtain ⟨rfl, rfl, rfl, rfl, rfl, hN, hs, hf, z, hp, tk, hst, hfr⟩ := I
  have nd := z.nd
  have n0 : Lo X 0 "self" := lo_of hN hs hf (by decide +kernel)
  have n1 : Lo X 1 "name" := lo_of hN hs hf (by decide +kernel)
  have n2 : Lo X 2 "taken" := lo_of hN hs hf (by decide +kernel)
  have l_is_name : Gl X "is_name" := gl_of hs (by decide +kernel)
  have l_NoName : Gl X "NoName" := gl_of hs (by decide +kernel)
  have l_Taken : Gl X "Taken" := gl_of hs (by decide +kernel)
  clear F hf
  change DSs _ X (_ :: _) [_, _, _] _ _
  repeat' walk_at "t"
  refine c_isName hl ?_
  repeat' walk_at "t"
  · refine od_inK (k := .inr x) hd rfl ?_
    repeat' walk_at "t"
    · exact ⟨_, _, .refl, kt (by simpa using by assumption) (by assumption)⟩
    · exact ⟨_, _, .refl, ky (by assumption) (by assumption)⟩
  · exact ⟨_, _, .refl, kn (by simpa using by assumption)⟩
abbrev s_Floor_need_build : Stmt := inClass (top 35) 6
def n_Floor_need_build : List Str := ["self", "name", "width"]
theorem sc_Floor_need_build : FnScope n_Floor_need_build ["self", "name", "width"] (defScope s_Floor_need_build) := ⟨rfl, rfl, rfl, by decide +kernel, rfl, by decide +kernel, by decide +kernel⟩
theorem d_Floor_need_build {P : Program} {w : World} {K : PySem.W.Frag} {mg : Str → Option Value} {base : Heap} {c_Floor c_Flow c_Lot c_NoName c_Taken c_NoLane : Addr} {f : Addr} {fd : FuncData} (F : FunG K "need_build" "Floor.need_build" s_Floor_need_build f fd)
    (M_Floor_need_new_2 : MethE P w K mg base 3 c_Floor "need_new" 2 [] (selN 3) (pNeedNew c_NoName c_Taken)) (A_Floor_widths : FldP K c_Floor "widths") (M_Floor_need_width_1 : MethE P w K mg base 1 c_Floor "need_width" 1 [] (selN 2) (pNeedWidth c_NoLane)) : FnOk P w K mg base (L2.CX P w) 4 f fd ["self", "name", "width"] (liftE (anyw (pNeedBuild ⟨c_Floor, c_Flow, (0 : Addr), c_Lot⟩ c_NoName c_Taken c_NoLane))) := by
  refine fnokG_of (N := n_Floor_need_build) (k := 3) F sc_Floor_need_build (fun ds M Φ Ξ h => by obtain ⟨L0, B0, M0, rfl, fl, A, S, x, w, M', rfl, hM, hl, kn, kt, kw, ky⟩ := h; rfl) fun X kp ds M Φ Ξ h I => ?_
  obtain ⟨L0, B0, M0, rfl, fl, A, S, x, w, M', rfl, hM, hl, kn, kt, kw, ky⟩ := h
  obtain ⟨rfl, rfl, rfl, rfl, rfl, hN, hs, hf, z, hp, tk, hst, hfr⟩ := I
  have nd := z.nd
  have n0 : Lo X 0 "self" := lo_of hN hs hf (by decide +kernel)
  have n1 : Lo X 1 "name" := lo_of hN hs hf (by decide +kernel)
  have n2 : Lo X 2 "width" := lo_of hN hs hf (by decide +kernel)
  clear F hf
  change DSs _ X (_ :: _) [_, _, _] _ _
  refine ws_any ?_
  rw [hM] at *
  repeat' walk_at "t"
  refine ⟨_, x, _, _, rfl, hl, isdW (.inl rfl) List.mem_cons_self, fun h => any_ex (kn h), fun h h2 => any_ex (kt h (by rw [look_wdK] at h2; simpa using h2)), fun h h2 => ?_⟩
  rw [look_wdK] at h2
  repeat' walk_at "t"
  refine ⟨_, w, rfl, fun h3 => ?_, fun h3 => any_ex (kw h (by simpa using h2) h3)⟩
  repeat' walk_at "t"
  exact any_ret (ky h (by simpa using h2) h3)
abbrev s_Floor_add_lane : Stmt := inClass (top 35) 11
def n_Floor_add_lane : List Str := ["self", "name", "width"]
theorem sc_Floor_add_lane : FnScope n_Floor_add_lane ["self", "name", "width"] (defScope s_Floor_add_lane) := ⟨rfl, rfl, rfl, by decide +kernel, rfl, by decide +kernel, by decide +kernel⟩
theorem d_Floor_add_lane {P : Program} {w : World} {K : PySem.W.Frag} {mg : Str → Option Value} {base : Heap} {c_Floor c_Flow c_Lot : Addr} {f : Addr} {fd : FuncData} (F : FunG K "add_lane" "Floor.add_lane" s_Floor_add_lane f fd)
    (A_Floor_widths : FldP K c_Floor "widths") (A_Floor_shut_until : FldP K c_Floor "shut_until") : FnOk P w K mg base (L2.CX P w) 1 f fd ["self", "name", "width"] (liftE (anyw (pAddLane ⟨c_Floor, c_Flow, (0 : Addr), c_Lot⟩))) := by
  refine fnokG_of (N := n_Floor_add_lane) (k := 0) F sc_Floor_add_lane (fun ds M Φ Ξ h => by obtain ⟨L0, B0, M0, rfl, fl, A, S, x, w, M', rfl, hM, hx, hl, k⟩ := h; rfl) fun X kp ds M Φ Ξ h I => ?_
  obtain ⟨L0, B0, M0, rfl, fl, A, S, x, w, M', rfl, hM, hx, hl, k⟩ := h
  obtain ⟨rfl, rfl, rfl, rfl, rfl, hN, hs, hf, z, hp, tk, hst, hfr⟩ := I
  have nd := z.nd
  have n0 : Lo X 0 "self" := lo_of hN hs hf (by decide +kernel)
  have n1 : Lo X 1 "name" := lo_of hN hs hf (by decide +kernel)
  have n2 : Lo X 2 "width" := lo_of hN hs hf (by decide +kernel)
  clear F hf
  change DSs _ X (_ :: _) [_, _, _] _ _
  refine ws_any ?_
  rw [hM] at *
  repeat' walk_at "t"
  refine sd_dictA (k := .inr x) (.part 0 0 rfl rfl) rfl (Nat.lt_of_lt_of_le (show List.length _ < 1000 by simpa using hl) (by decide)) ?_
  rw [put_new (by rw [look_wdK]; simpa using hx)]
  repeat' walk_at "t"
  refine sd_dictA (k := .inr x) (.part 0 1 rfl rfl) rfl (Nat.lt_of_lt_of_le (show List.length _ < 1000 by simpa using hl) (by decide)) ?_
  rw [put_new (by rw [look_shK]; simpa using hx)]
  repeat' walk_at "t"
  simp only [flU, flG, flN, flO, List.map_append, List.map_cons, List.map_nil] at k
  exact any_ret k
def maxOp (S : Fl) (l : Ln) : Int := max S.now l.s
def lnAt (S : Fl) (x : Str) : Option Ln := S.lns.find? fun l => decide (l.n = x)
def pOpensOf (C : FC) : DSpE := fun ds M Φ _ => ∃ fl A wc S x l M', ds = [.raw (.ref fl), .str x] ∧ M = (fl, flG C A wc S) :: M' ∧ lnAt S x = some l ∧ Φ (.int (maxOp S l)) M
theorem look_find {α : Type} (g : α → Str) (v : α → D) (x : Str) : ∀ l : List α, lookD (l.map fun p => (Sum.inr (g p), v p)) (.inr x) = (l.find? fun p => decide (g p = x)).map v
  | [] => rfl
  | p :: l => by
    have ih := look_find g v x l
    unfold lookD at ih ⊢
    rw [List.map_cons]
    by_cases h : g p = x
    · rw [List.find?_cons_of_pos (by simp [h]), List.find?_cons_of_pos (by simp [h])]; rfl
    · rw [List.find?_cons_of_neg (by simp [h]), List.find?_cons_of_neg (by simp [h]), ih]
theorem look_sh {S : Fl} {x : Str} {l : Ln} (h : lnAt S x = some l) : lookD (S.lns.map shK) (.inr x) = some (.int l.s) := by
  rw [show S.lns.map shK = S.lns.map (fun p => (Sum.inr (Ln.n p), D.int (Ln.s p))) from rfl, look_find]
  unfold lnAt at h; rw [h]; rfl
theorem look_wd {S : Fl} {x : Str} {l : Ln} (h : lnAt S x = some l) : lookD (S.lns.map wdK) (.inr x) = some (.int l.w) := by
  rw [show S.lns.map wdK = S.lns.map (fun p => (Sum.inr (Ln.n p), D.int (Ln.w p))) from rfl, look_find]
  unfold lnAt at h; rw [h]; rfl
abbrev s_Floor_opens_of : Stmt := inClass (top 35) 17
def n_Floor_opens_of : List Str := ["self", "lane"]
theorem sc_Floor_opens_of : FnScope n_Floor_opens_of ["self", "lane"] (defScope s_Floor_opens_of) := ⟨rfl, rfl, rfl, by decide +kernel, rfl, by decide +kernel, by decide +kernel⟩
theorem d_Floor_opens_of {P : Program} {w : World} {K : PySem.W.Frag} {mg : Str → Option Value} {base : Heap} {c_Scene c_Floor c_House c_Flow c_Lot : Addr} {f : Addr} {fd : FuncData} (F : FunG K "opens_of" "Floor.opens_of" s_Floor_opens_of f fd)
    (G_max : mg "max" = none) (A_Scene_now : FldP K c_Scene "now") (A_Floor_now : FldP K c_Floor "now") (A_House_now : FldP K c_House "now") (A_Floor_shut_until : FldP K c_Floor "shut_until") : FnOk P w K mg base (L2.CX P w) 1 f fd ["self", "lane"] (liftE (anyw (pOpensOf ⟨c_Floor, c_Flow, (0 : Addr), c_Lot⟩))) := by
  refine fnokG_of (N := n_Floor_opens_of) (k := 0) F sc_Floor_opens_of (fun ds M Φ Ξ h => by obtain ⟨L0, B0, M0, rfl, fl, A, wc, S, x, l, M', rfl, hM, hx, k⟩ := h; rfl) fun X kp ds M Φ Ξ h I => ?_
  obtain ⟨L0, B0, M0, rfl, fl, A, wc, S, x, l, M', rfl, hM, hx, k⟩ := h
  obtain ⟨rfl, rfl, rfl, rfl, rfl, hN, hs, hf, z, hp, tk, hst, hfr⟩ := I
  have nd := z.nd
  have n0 : Lo X 0 "self" := lo_of hN hs hf (by decide +kernel)
  have n1 : Lo X 1 "lane" := lo_of hN hs hf (by decide +kernel)
  have g_max : Gn X "max" := gn_of hs (by decide +kernel) G_max
  clear F hf
  change DSs _ X (_ :: _) [_, _] _ _
  refine ws_any ?_
  rw [hM] at *
  repeat' walk_at "t"
  refine od_ixK (k := .inr x) (isdS List.mem_cons_self) rfl (look_sh hx) ?_
  repeat' walk_at "t"
  exact any_ret k
/-- a house: its first three cells -/
abbrev hsM (cH : Addr) (C : FC) (h pg fl : Addr) (A : FA) (S : Fl) (pages : List D) (M : Mem) : Mem := (h, hsO cH S.now fl pg) :: (pg, .lst pages) :: (fl, flU C A S) :: M
def pHouseI (cH : Addr) (C : FC) : DSpE := fun ds M Φ _ => ∃ h M', ds = [.raw (.ref h)] ∧ M = (h, .obj cH [] []) :: M' ∧ ∀ pg fl A, Φ .non (hsM cH C h pg fl A ⟨0, [], [], []⟩ [] M')
abbrev bldD (x : Str) (w : Int) : D := .tup [.str "build", .str x, .int w]
def pBuild (cH : Addr) (C : FC) (cN cT cW : Addr) : DSpE := fun ds M Φ Ξ => ∃ h pg fl A S pages x w M', ds = [.raw (.ref h), .str x, .int w] ∧ M = hsM cH C h pg fl A S pages M' ∧ x.length ≤ 1000 ∧ S.lns.length < 1000 ∧ pages.length < 1000 ∧
  (nameB x = false → Ξ cN ["name"] [.str x] M) ∧ (nameB x = true → hasL x S.lns → Ξ cT ["name"] [.str x] M) ∧ (nameB x = true → ¬ hasL x S.lns → ¬ WdOk w → Ξ cW [] [] M) ∧
  (nameB x = true → ¬ hasL x S.lns → WdOk w → Φ .non (hsM cH C h pg fl A { S with lns := S.lns ++ [⟨x, w, 0⟩] } (pages ++ [bldD x w]) M'))
abbrev lrD (S : Fl) (l : Ln) : D := .tup [.str l.n, .int l.w, .int (maxOp S l)]
def LnNd (S : Fl) : Prop := (S.lns.map (·.n)).Nodup
def pLaneRows (cH : Addr) (C : FC) : DSpE := fun ds M Φ _ => ∃ h pg fl A S pages M', ds = [.raw (.ref h)] ∧ M = hsM cH C h pg fl A S pages M' ∧ LnNd S ∧ S.lns.length ≤ 1000 ∧ ∀ q, Φ (.raw (.ref q)) ((q, .lst (S.lns.map (lrD S))) :: M)
theorem ln_at {S : Fl} (hnd : LnNd S) {l : Ln} (h : l ∈ S.lns) : lnAt S l.n = some l := by
  unfold lnAt
  unfold LnNd at hnd
  generalize S.lns = ls at *
  induction ls with
  | nil => cases h
  | cons y ys ih =>
    rw [List.map_cons, List.nodup_cons] at hnd
    rcases List.mem_cons.mp h with rfl | h
    · rw [List.find?_cons_of_pos (by simp)]
    · have : ¬ y.n = l.n := fun e => hnd.1 (by rw [e]; exact List.mem_map.mpr ⟨l, h, rfl⟩)
      rw [List.find?_cons_of_neg (by simpa using this)]
      exact ih hnd.2 h
abbrev s_House__init : Stmt := inClass (top 47) 0
def n_House__init : List Str := ["self"]
theorem sc_House__init : FnScope n_House__init ["self"] (defScope s_House__init) := ⟨rfl, rfl, rfl, by decide +kernel, rfl, by decide +kernel, by decide +kernel⟩
theorem d_House__init {P : Program} {w : World} {K : PySem.W.Frag} {mg : Str → Option Value} {base : Heap} {c_Scene c_Floor c_House c_Flow c_Lot : Addr} {f : Addr} {fd : FuncData} (F : FunG K "__init__" "House.__init__" s_House__init f fd)
    (A_Scene_now : FldP K c_Scene "now") (A_Floor_now : FldP K c_Floor "now") (A_House_now : FldP K c_House "now") (A_House_floor : FldP K c_House "floor") (N_Floor_0 : MakeE P w K mg base 1 "Floor" c_Floor 0 [] (selN 1) (pFloorI ⟨c_Floor, c_Flow, (0 : Addr), c_Lot⟩)) (A_House_pages : FldP K c_House "pages") : FnOk P w K mg base (L2.CX P w) 3 f fd ["self"] (liftE (pHouseI c_House ⟨c_Floor, c_Flow, (0 : Addr), c_Lot⟩)) := by
  refine fnokG_of (N := n_House__init) (k := 2) F sc_House__init (fun ds M Φ Ξ h => by obtain ⟨h, M', rfl, rfl, k⟩ := h; rfl) fun X kp ds M Φ Ξ h I => ?_
  obtain ⟨h, M', rfl, rfl, k⟩ := h
  obtain ⟨rfl, rfl, rfl, rfl, rfl, hN, hs, hf, z, hp, tk, hst, hfr⟩ := I
  have nd := z.nd
  have n0 : Lo X 0 "self" := lo_of hN hs hf (by decide +kernel)
  have l_Floor : Gl X "Floor" := gl_of hs (by decide +kernel)
  clear F hf
  change DSs _ X (_ :: _) [_] _ _
  repeat' walk_at "t"
  rename_i fl
  refine ⟨_, _, rfl, rfl, fun A => ⟨rfl, _, _, .refl, ?_⟩⟩
  repeat' walk_at "t"
  refine sf_n1 1 rfl (by assumption) (by walk_at "nef") ?_
  repeat' ((fail_if_success refine (stAttr "pages") ?_); walk_at "t")
  refine ds_cons (ds_fldU (DE.own 0 (df_lst ?_)))
  repeat' walk_at "t"
  intro pg
  repeat' walk_at "t"
  refine sf_n2 2 rfl (by assumption) (by walk_at "nef") (by walk_at "nef") ?_
  repeat' walk_at "t"
  refine ⟨_, _, ?_, k pg fl A⟩
  exact Vw.perm (List.perm_append_comm_assoc [_, _] [_] M')
abbrev s_House_build : Stmt := inClass (top 47) 1
def n_House_build : List Str := ["self", "name", "width"]
theorem sc_House_build : FnScope n_House_build ["self", "name", "width"] (defScope s_House_build) := ⟨rfl, rfl, rfl, by decide +kernel, rfl, by decide +kernel, by decide +kernel⟩
theorem d_House_build {P : Program} {w : World} {K : PySem.W.Frag} {mg : Str → Option Value} {base : Heap} {c_Floor c_House c_Flow c_Lot c_NoName c_Taken c_NoLane : Addr} {f : Addr} {fd : FuncData} (F : FunG K "build" "House.build" s_House_build f fd)
    (M_Floor_need_build_2 : MethE P w K mg base 4 c_Floor "need_build" 2 [] (selN 3) (anyw (pNeedBuild ⟨c_Floor, c_Flow, (0 : Addr), c_Lot⟩ c_NoName c_Taken c_NoLane))) (A_House_floor : FldP K c_House "floor") (M_Floor_add_lane_2 : MethE P w K mg base 1 c_Floor "add_lane" 2 [] (selN 3) (anyw (pAddLane ⟨c_Floor, c_Flow, (0 : Addr), c_Lot⟩))) (A_House_pages : FldP K c_House "pages") : FnOk P w K mg base (L2.CX P w) 5 f fd ["self", "name", "width"] (liftE (anyw (pBuild c_House ⟨c_Floor, c_Flow, (0 : Addr), c_Lot⟩ c_NoName c_Taken c_NoLane))) := by
  refine fnokG_of (N := n_House_build) (k := 4) F sc_House_build (fun ds M Φ Ξ h => by obtain ⟨L0, B0, M0, rfl, h, pg, fl, A, S, pages, x, w, M', rfl, hM, hl, hll, hpl, kn, kt, kw, ky⟩ := h; rfl) fun X kp ds M Φ Ξ h I => ?_
  obtain ⟨L0, B0, M0, rfl, h, pg, fl, A, S, pages, x, w, M', rfl, hM, hl, hll, hpl, kn, kt, kw, ky⟩ := h
  obtain ⟨rfl, rfl, rfl, rfl, rfl, hN, hs, hf, z, hp, tk, hst, hfr⟩ := I
  have nd := z.nd
  have n0 : Lo X 0 "self" := lo_of hN hs hf (by decide +kernel)
  have n1 : Lo X 1 "name" := lo_of hN hs hf (by decide +kernel)
  have n2 : Lo X 2 "width" := lo_of hN hs hf (by decide +kernel)
  clear F hf
  change DSs _ X (_ :: _) [_, _, _] _ _
  refine ws_any ?_
  rw [hM] at *
  repeat' walk_at "t"
  refine anyw_1 [_, _] ⟨fl, A, S, x, w, _, rfl, rfl, hl, fun e1 => ⟨[_], rfl, any_ex (kn e1)⟩, fun e1 e2 => ⟨[_], rfl, any_ex (kt e1 e2)⟩, fun e1 e2 e3 => ⟨[_], rfl, any_ex (kw e1 e2 e3)⟩, fun e1 e2 e3 => ⟨[_], rfl, ?_⟩⟩
  repeat' walk_at "t"
  refine anyw_1 [_, _] ⟨fl, A, S, x, w, _, rfl, rfl, e2, hll, ⟨[_], rfl, ?_⟩⟩
  repeat' walk_at "t"
  exact any_ret (ky e1 e2 e3)
abbrev s_House_lane_rows : Stmt := inClass (top 47) 10
def n_House_lane_rows : List Str := ["self", "widths", "lane"]
theorem sc_House_lane_rows : FnScope n_House_lane_rows ["self"] (defScope s_House_lane_rows) := ⟨rfl, rfl, rfl, by decide +kernel, rfl, by decide +kernel, by decide +kernel⟩
theorem d_House_lane_rows {P : Program} {w : World} {K : PySem.W.Frag} {mg : Str → Option Value} {base : Heap} {c_Floor c_House c_Flow c_Lot : Addr} {f : Addr} {fd : FuncData} (F : FunG K "lane_rows" "House.lane_rows" s_House_lane_rows f fd)
    (A_Floor_widths : FldP K c_Floor "widths") (A_House_floor : FldP K c_House "floor") (M_Floor_opens_of_1 : MethE P w K mg base 1 c_Floor "opens_of" 1 [] (selN 2) (anyw (pOpensOf ⟨c_Floor, c_Flow, (0 : Addr), c_Lot⟩))) : FnOk P w K mg base (L2.CX P w) 2 f fd ["self"] (liftE (anyw (pLaneRows c_House ⟨c_Floor, c_Flow, (0 : Addr), c_Lot⟩))) := by
  refine fnokG_of (N := n_House_lane_rows) (k := 1) F sc_House_lane_rows (fun ds M Φ Ξ h => by obtain ⟨L0, B0, M0, rfl, h, pg, fl, A, S, pages, M', rfl, hM, hnd, hll, k⟩ := h; rfl) fun X kp ds M Φ Ξ h I => ?_
  obtain ⟨L0, B0, M0, rfl, h, pg, fl, A, S, pages, M', rfl, hM, hnd, hll, k⟩ := h
  obtain ⟨rfl, rfl, rfl, rfl, rfl, hN, hs, hf, z, hp, tk, hst, hfr⟩ := I
  have nd := z.nd
  have n0 : Lo X 0 "self" := lo_of hN hs hf (by decide +kernel)
  have n1 : Lo X 1 "widths" := lo_of hN hs hf (by decide +kernel)
  clear F hf
  change DSs _ X (_ :: _) [_, _, _] _ _
  refine ws_any ?_
  rw [hM] at *
  repeat' ((fail_if_success refine stRet ?_); walk_at "t")
  refine ds_cons (ds_ret (de_lock (S.lns.map wdK) (.inr (.inr ⟨_, _, _, List.mem_cons_of_mem _ (List.mem_cons_of_mem _ List.mem_cons_self), List.mem_cons_self⟩)) fun od ws => ⟨_, .part 2 0 rfl rfl, ?_⟩))
  refine DE.own 0 (df_lcA 0 z hN hs [("lane", 2)] (.one 2) (by decide +kernel) (by decide) (fun X' bk => pg_one bk z (bk.lo hN hs (by decide +kernel))) (di_keysA ?_))
  repeat' walk_at "t"
  refine ⟨A.wd, od, ws, S.lns.map wdK, rfl, .inr (.inr ⟨fl, _, _, List.mem_of_getElem? (i := 2) rfl, List.mem_cons_self⟩), ?_⟩
  rw [show (S.lns.map wdK).map (fun kv => kD kv.1) = S.lns.map (fun l => D.str l.n) by rw [List.map_map]; rfl]
  refine LcHA.mapT (S.lns) (fun l => D.str l.n) (fun l => l) (lrD S) (Nat.le_trans (show List.length _ ≤ 1000 by first | omega | (simp; done) | (simp; omega)) (by decide)) (fun q acc a ha => ?_) (.inr (.inr ⟨fl, _, _, List.mem_of_getElem? (i := 2) rfl, List.mem_cons_self⟩)) ?_
  · refine ⟨_, rfl, fun X' bk => ?_⟩
    have c2 : Lo X' 2 "lane" := bk.lo hN hs (by decide +kernel)
    have c1 : Nm X' 1 "widths" := bk.nm hN hs (by decide +kernel)
    have c0 : Nm X' 0 "self" := bk.nm hN hs (by decide +kernel)
    have z' := bk.z z
    have M_Floor_opens_of_1' := bk.mE M_Floor_opens_of_1
    have A_House_floor' := bk.fld A_House_floor
    repeat' walk_at "t"
    have hla := ln_at hnd ha
    refine od_ixK (k := .inr a.n) (isdW (C := ⟨c_Floor, c_Flow, (0 : Addr), c_Lot⟩) (S := S) (fl := fl) (.inr ⟨od, ws, rfl⟩) (List.mem_of_getElem? (i := 3) rfl)) rfl (look_wd hla) ?_
    repeat' walk_at "t"
    refine anyw_1 [_, _, _] ⟨fl, A, .fdc od ws _, S, _, a, _, rfl, rfl, hla, ⟨[_], rfl, ?_⟩⟩
    repeat' walk_at "t"
    exact ⟨rfl, rfl⟩
  intro q
  refine ⟨_, .part 3 0 rfl rfl, ?_⟩
  rw [List.map_id']
  exact any_ret (k q)
/-! ### drawn names -/
def lets : List Nat := letters.cps.toList
theorem lets_len : lets.length = 26 := by decide +kernel
theorem lets_nd : lets.Nodup := by decide +kernel
def signs (z : Str) : List Nat := z.cps.toList
theorem signs_len (z : Str) : (signs z).length = z.length := rfl
theorem signs_add (x y : Str) : signs (x ++ y) = signs x ++ signs y := by
  show (x.cps ++ y.cps).toList = _
  rw [Array.toList_append]; rfl
theorem signs_one (c : Nat) : signs (⟨#[c]⟩ : Str) = [c] := rfl
theorem name_of {z : Str} (h1 : 1 ≤ z.length) (h2 : z.length ≤ 8) (h3 : ∀ c ∈ signs z, c ∈ lets) : nameB z = true := by
  unfold nameB
  rw [decide_eq_true h1, decide_eq_true h2]
  show (z.cps.toList.all fun c => decide (c ∈ letters.cps.toList)) = true
  rw [List.all_eq_true]
  exact fun c hc => decide_eq_true (h3 c hc)
theorem name_len {z : Str} (h : nameB z = true) : 1 ≤ z.length ∧ z.length ≤ 8 := by
  unfold nameB at h
  simp only [Bool.and_eq_true, decide_eq_true_eq] at h
  exact h.1
/-- a text of a script: not long, of plain signs -/
def Txd (z : Str) : Prop := z.length ≤ 100 ∧ ∀ c ∈ signs z, c < 1000
theorem lets_lt : ∀ c ∈ lets, c < 1000 := by decide +kernel
theorem name_txd {z : Str} (h : nameB z = true) : Txd z := by
  have hl := name_len h
  refine ⟨by omega, fun c hc => lets_lt c ?_⟩
  unfold nameB at h
  simp only [Bool.and_eq_true] at h
  exact of_decide_eq_true (List.all_eq_true.mp h.2 c hc)
theorem ok_txd {z : Str} (h : Txd z) : okD (.str z) = true := by
  show PyData.strOk z = true
  unfold PyData.strOk
  rw [Array.all_eq_true]
  intro i hi
  have := h.2 z.cps[i] (by unfold signs; simp)
  simp; omega
theorem mul_ok {z : Str} {n : Int} (hz : z.length ≤ 100) (h : n = 0 ∨ n = 1) : MulOk z n := by
  rcases h with rfl | rfl
  · exact ⟨by decide, fun h => absurd (by decide) h, fun h => absurd (by decide) h⟩
  · exact ⟨by decide, fun _ h => by simp at h, fun _ h => by simp at h⟩
/-- the names -/
def nmOf (lead tail : Str) (f st od : Int) (k : Nat) : Str := lead ++ (⟨#[lets.getD ((f + st * k) % 26).toNat 0]⟩ : Str) ++ Txt.mul tail (((k : Int) + od) % 2)
theorem lets_get {i : Int} (h0 : 0 ≤ i) (h1 : i < 26) : lets.getD i.toNat 0 ∈ lets ∧ atI letters.cps.toList i = some (lets.getD i.toNat 0) := by
  have hn : i.toNat < lets.length := by rw [lets_len]; omega
  have e : lets[i.toNat]? = some (lets.getD i.toNat 0) := by
    rw [List.getD_eq_getElem?_getD, List.getElem?_eq_getElem hn]; rfl
  refine ⟨List.mem_of_getElem? e, ?_⟩
  obtain ⟨n, rfl⟩ : ∃ n : Nat, i = (n : Int) := ⟨i.toNat, by omega⟩
  exact atI_nat e
theorem nm_signs (lead tail : Str) (f st od : Int) (k : Nat) : signs (nmOf lead tail f st od k) = signs lead ++ [lets.getD ((f + st * k) % 26).toNat 0] ++ signs (Txt.mul tail (((k : Int) + od) % 2)) := by
  unfold nmOf; rw [signs_add, signs_add, signs_one]
theorem mul_signs (tail : Str) (n : Int) (h : n = 0 ∨ n = 1) : signs (Txt.mul tail n) = if n = 0 then [] else signs tail := by
  rcases h with rfl | rfl
  · rfl
  · rfl
theorem nm_name {lead tail : Str} {f st od : Int} (hl : lead.length ≤ 3) (hl2 : ∀ c ∈ signs lead, c ∈ lets) (ht : tail.length ≤ 3) (ht2 : ∀ c ∈ signs tail, c ∈ lets) (k : Nat) : nameB (nmOf lead tail f st od k) = true := by
  have hm : ((k : Int) + od) % 2 = 0 ∨ ((k : Int) + od) % 2 = 1 := by omega
  have e := nm_signs lead tail f st od k
  rw [mul_signs _ _ hm] at e
  have el : (nmOf lead tail f st od k).length = (signs (nmOf lead tail f st od k)).length := rfl
  have hg := (lets_get (i := (f + st * k) % 26) (by omega) (by omega)).1
  rw [e] at el
  refine name_of ?_ ?_ fun c hc => ?_
  · rw [el]; simp; omega
  · rw [el]
    have h1 : (signs lead).length ≤ 3 := hl
    have h2 : (signs tail).length ≤ 3 := ht
    split <;> simp <;> omega
  · rw [e] at hc
    rcases List.mem_append.mp hc with hc | hc
    · rcases List.mem_append.mp hc with hc | hc
      · exact hl2 c hc
      · rw [List.mem_singleton.mp hc]; exact hg
    · split at hc
      · cases hc
      · exact ht2 c hc
theorem step_inj {f st : Int} {i j : Nat} (hs : st = 1 ∨ st = 3 ∨ st = 5 ∨ st = 7 ∨ st = 9 ∨ st = 11) (hi : i < 26) (hj : j < 26) (h : (f + st * i) % 26 = (f + st * j) % 26) : i = j := by
  rcases hs with rfl | rfl | rfl | rfl | rfl | rfl <;> omega
theorem getD_inj {i j : Nat} (hi : i < 26) (hj : j < 26) (h : lets.getD i 0 = lets.getD j 0) : i = j := by
  have h1 : i < lets.length := by rw [lets_len]; exact hi
  have h2 : j < lets.length := by rw [lets_len]; exact hj
  rw [List.getD_eq_getElem?_getD, List.getD_eq_getElem?_getD, List.getElem?_eq_getElem h1, List.getElem?_eq_getElem h2] at h
  exact (List.getElem_inj lets_nd).mp h
theorem nm_inj {lead tail : Str} {f st od : Int} {i j : Nat} (hs : st = 1 ∨ st = 3 ∨ st = 5 ∨ st = 7 ∨ st = 9 ∨ st = 11) (hi : i < 26) (hj : j < 26) (h : nmOf lead tail f st od i = nmOf lead tail f st od j) : i = j := by
  have e := congrArg signs h
  rw [nm_signs, nm_signs, List.append_assoc, List.append_assoc] at e
  have e2 := List.append_cancel_left e
  have e3 : lets.getD ((f + st * i) % 26).toNat 0 = lets.getD ((f + st * j) % 26).toNat 0 := by
    have := congrArg List.head? e2
    simpa using this
  have e4 := getD_inj (by omega) (by omega) e3
  exact step_inj (f := f) hs hi hj (by omega)
def nmsOf (lead tail : Str) (f st od : Int) (m : Nat) : List Str := (List.range m).map (nmOf lead tail f st od)
structure Names (ns : List Str) (m : Nat) : Prop where
  len : ns.length = m
  nm : ∀ z ∈ ns, nameB z = true
  nd : ns.Nodup
theorem nms_ok {lead tail : Str} {f st od : Int} {m : Nat} (hl : lead.length ≤ 3) (hl2 : ∀ c ∈ signs lead, c ∈ lets) (ht : tail.length ≤ 3) (ht2 : ∀ c ∈ signs tail, c ∈ lets) (hs : st = 1 ∨ st = 3 ∨ st = 5 ∨ st = 7 ∨ st = 9 ∨ st = 11) (hm : m ≤ 26) : Names (nmsOf lead tail f st od m) m := by
  refine ⟨by simp [nmsOf], fun z hz => ?_, ?_⟩
  · obtain ⟨k, _, rfl⟩ := List.mem_map.mp hz
    exact nm_name hl hl2 ht ht2 k
  · unfold nmsOf
    rw [List.Nodup, List.pairwise_map]
    refine List.Pairwise.imp_of_mem ?_ List.nodup_range
    intro a b ha hb hab e
    exact hab (nm_inj hs (by have := List.mem_range.mp ha; omega) (by have := List.mem_range.mp hb; omega) e)
theorem join_lets {ys : List Str} (h : ∀ z ∈ ys, ∃ c ∈ lets, z = ⟨#[c]⟩) : (ys.length ≤ 100 → (ys.map (·.length)).sum + ys.length * (Str.ofString "").length ≤ 16777216) ∧ (Txt.join (Str.ofString "") ys).length = ys.length ∧ ∀ c ∈ signs (Txt.join (Str.ofString "") ys), c ∈ lets := by
  have e : signs (Txt.join (Str.ofString "") ys) = (ys.map signs).flatten := by
    have := join_signs (Str.ofString "") ys
    rw [show (Str.ofString "").cps.toList = [] from rfl, joinL_nil] at this
    exact this
  have hl : ∀ z ∈ ys, z.length = 1 := fun z hz => by obtain ⟨c, _, rfl⟩ := h z hz; rfl
  have hs : (ys.map (·.length)).sum = ys.length := by
    clear e h
    induction ys with
    | nil => rfl
    | cons z ys ih => rw [List.map_cons, List.sum_cons, ih fun q hq => hl q (List.mem_cons_of_mem _ hq), hl z List.mem_cons_self, List.length_cons]; omega
  refine ⟨fun h1 => by rw [hs, show (Str.ofString "").length = 0 from rfl]; omega, ?_, fun c hc => ?_⟩
  · rw [← signs_len, e, List.length_flatten, List.map_map]
    exact hs
  · rw [e] at hc
    obtain ⟨l, hl2, hc⟩ := List.mem_flatten.mp hc
    obtain ⟨z, hz, rfl⟩ := List.mem_map.mp hl2
    obtain ⟨c', hc', rfl⟩ := h z hz
    rw [signs_one] at hc
    rw [List.mem_singleton.mp hc]; exact hc'
def pNames : DSp := fun ds M Φ => ∃ s g b M' m, ds = [.raw (.ref s), .int m] ∧ M = (s, .st g b) :: M' ∧ 0 ≤ m ∧ m ≤ 26 ∧ 20 ≤ b ∧ ∀ ns b', Names ns m.toNat → b ≤ b' + 20 → Φ (.lst (ns.map .str)) ((s, .st g b') :: M')
abbrev s_law_names : Stmt := top 52
def n_law_names : List Str := ["_law_state", "_law_many", "_law_letters", "_law_lead", "_law_tail", "_law_first", "_law_step", "_law_odd", "_law_found", "_law_k", "_law_sign"]
theorem sc_law_names : FnScope n_law_names ["_law_state", "_law_many"] (defScope s_law_names) := ⟨rfl, rfl, rfl, by decide +kernel, rfl, by decide +kernel, by decide +kernel⟩
theorem d_law_names {P : Program} {w : World} {K : PySem.W.Frag} {mg : Str → Option Value} {base : Heap} {f : Addr} {fd : FuncData} (F : Fun K "_law_names" "_law_names" s_law_names f fd)
    (D_law_take : Def P w K mg base 1 "_law_take" ["_law_state", "_law_many"] pTake) (G_range : mg "range" = none) : FnOk P w K mg base CX0 2 f fd ["_law_state", "_law_many"] (lift pNames) := by
  refine fnok_of (N := n_law_names) (k := 1) F sc_law_names (fun ds M Φ h => by obtain ⟨s, g, b, M', m, rfl, rfl, hm0, hm1, hb, k⟩ := h; rfl) fun X B I ds M Φ h => ?_
  obtain ⟨s, g, b, M', m, rfl, rfl, hm0, hm1, hb, k⟩ := h
  obtain ⟨rfl, rfl, rfl, rfl, rfl, hN, hs, hf, z, xe⟩ := I
  have hp := passes_of xe
  have n0 : Lo X 0 "_law_state" := lo_of hN hs hf (by decide +kernel)
  have n1 : Lo X 1 "_law_many" := lo_of hN hs hf (by decide +kernel)
  have n2 : Lo X 2 "_law_letters" := lo_of hN hs hf (by decide +kernel)
  have n3 : Lo X 3 "_law_lead" := lo_of hN hs hf (by decide +kernel)
  have n4 : Lo X 4 "_law_tail" := lo_of hN hs hf (by decide +kernel)
  have n5 : Lo X 5 "_law_first" := lo_of hN hs hf (by decide +kernel)
  have n6 : Lo X 6 "_law_step" := lo_of hN hs hf (by decide +kernel)
  have n7 : Lo X 7 "_law_odd" := lo_of hN hs hf (by decide +kernel)
  have n8 : Lo X 8 "_law_found" := lo_of hN hs hf (by decide +kernel)
  have n9 : Lo X 9 "_law_k" := lo_of hN hs hf (by decide +kernel)
  have n10 : Lo X 10 "_law_sign" := lo_of hN hs hf (by decide +kernel)
  have l_law_take : Gl X "_law_take" := gl_of hs (by decide +kernel)
  have g_range : Gn X "range" := gn_of hs (by decide +kernel) G_range
  clear F hf
  change DSs _ X (_ :: _) [_, _, _, _, _, _, _, _, _, _, _] _ _
  repeat' ((fail_if_success refine (stSet "_law_lead") ?_); walk_at "t")
  repeat' walk_at "t"
  refine DE.f (df_lc 1 z hN hs [("_law_k", 9)] (.one 9) (by decide +kernel) (by decide) (fun X' bk => pg_one bk z (bk.lo hN hs (by decide +kernel))) (di_range1 (by assumption) ?_))
  repeat' walk_at "t"
  rename_i m1 hn10 hn11
  refine ⟨by omega, by omega, ?_⟩
  refine LcH.drawT (β := Str) (fun z => ∃ c ∈ lets, z = ⟨#[c]⟩) (.str) 1 (by omega) (by omega) (fun q acc i b1 hi hb1 => ?_) ?_
  · refine ⟨_, rfl, fun X' bk => ?_⟩
    have c9 : Lo X' 9 "_law_k" := bk.lo hN hs (by decide +kernel)
    have c2 : Nm X' 2 "_law_letters" := bk.nm hN hs (by decide +kernel)
    have c0 : Nm X' 0 "_law_state" := bk.nm hN hs (by decide +kernel)
    have z' := bk.z z
    have D_law_take' := bk.df D_law_take
    have l_law_take' : Gl X' "_law_take" := bk.gl hs (by decide +kernel)
    repeat' walk_at "t"
    rename_i r hr0 hr1
    refine od_ixS (by decide +kernel) (lets_get hr0 hr1).2 ?_
    exact ⟨_, _, ⟨_, (lets_get hr0 hr1).1, rfl⟩, by omega, rfl, rfl⟩
  intro ys1 b1 hyl1 hys1 hb1
  obtain ⟨hjl1, hjs1⟩ := join_lets hys1
  refine ⟨ys1, .val _, hjl1 (by omega), ?_⟩
  generalize hld : Txt.join (Str.ofString "") ys1 = lead at *
  repeat' ((fail_if_success refine (stSet "_law_tail") ?_); walk_at "t")
  repeat' walk_at "t"
  refine DE.f (df_lc 1 z hN hs [("_law_k", 9)] (.one 9) (by decide +kernel) (by decide) (fun X' bk => pg_one bk z (bk.lo hN hs (by decide +kernel))) (di_range1 (by assumption) ?_))
  repeat' walk_at "t"
  rename_i m2 hn20 hn21
  refine ⟨by omega, by omega, ?_⟩
  refine LcH.drawT (β := Str) (fun z => ∃ c ∈ lets, z = ⟨#[c]⟩) (.str) 1 (by omega) (by omega) (fun q acc i b1 hi hb1 => ?_) ?_
  · refine ⟨_, rfl, fun X' bk => ?_⟩
    have c9 : Lo X' 9 "_law_k" := bk.lo hN hs (by decide +kernel)
    have c2 : Nm X' 2 "_law_letters" := bk.nm hN hs (by decide +kernel)
    have c0 : Nm X' 0 "_law_state" := bk.nm hN hs (by decide +kernel)
    have z' := bk.z z
    have D_law_take' := bk.df D_law_take
    have l_law_take' : Gl X' "_law_take" := bk.gl hs (by decide +kernel)
    repeat' walk_at "t"
    rename_i r hr0 hr1
    refine od_ixS (by decide +kernel) (lets_get hr0 hr1).2 ?_
    exact ⟨_, _, ⟨_, (lets_get hr0 hr1).1, rfl⟩, by omega, rfl, rfl⟩
  intro ys2 b2 hyl2 hys2 hb2
  obtain ⟨hjl2, hjs2⟩ := join_lets hys2
  refine ⟨ys2, .val _, hjl2 (by omega), ?_⟩
  generalize htl : Txt.join (Str.ofString "") ys2 = tail at *
  repeat' ((fail_if_success refine (stSet "_law_found") ?_); walk_at "t")
  first | refine ds_cons (ds_own 1 z n8 (df_lst (da_nil ⟨by decide, fun q => ?_⟩))) | refine ds_own 1 z n8 (df_lst (da_nil ⟨by decide, fun q => ?_⟩))
  walk_at "t"
  rename_i fi hf0 hf1 st hs0 hs1 od ho0 ho1
  repeat' ((fail_if_success refine stFor ?_); walk_at "t")
  first | refine ds_cons (ds_forC [9, 10] z (by assumption) (di_range1 (by assumption) ?_)) | refine ds_forC [9, 10] z (by assumption) (di_range1 (by assumption) ?_)
  repeat' walk_at "t"
  refine ⟨by omega, by omega, fun i vs M1 => (∃ (nsx : List Str) (o9 o10 : Option D), [o9, o10] = vs ∧ (s, .st g (b2 - 1 - 1 - 1)) :: (q, .lst (nsx.map .str)) :: M' = M1 ∧ (nsx = nmsOf lead tail fi (1 + 2 * st) od i)), ⟨[], _, _, rfl, rfl, (rfl)⟩, ?_, ?_⟩
  · rintro i x vs δ M1 hx ⟨nsx, o9, o10, rfl, rfl, hnx⟩ hδ
    obtain rfl : δ = [_, _, _, _, _, _, _, _, _, o9, o10] := hδ
    obtain ⟨hi, rfl⟩ := range_get hx
    have hil : i < 26 := by omega
    repeat' walk_at "t"
    have hg := lets_get (i := (fi + (1 + 2 * st) * (0 + (i : Int))) % 26) (by omega) (by omega)
    refine od_ixS (by decide +kernel) hg.2 ?_
    repeat' walk_at "t"
    refine od_addS (by show lead.length + 1 ≤ _; exact Nat.le_trans (show lead.length + 1 ≤ 100 by omega) (by decide)) ?_
    repeat' walk_at "t"
    refine od_mulStr (mul_ok (by omega) (by omega)) ?_
    refine od_addS ?_ ?_
    · have h1 : (lead ++ (⟨#[lets.getD ((fi + (1 + 2 * st) * (0 + (i : Int))) % 26).toNat 0]⟩ : Str)).length = lead.length + 1 := by rw [← signs_len, signs_add, List.length_append, signs_one]; rfl
      have h2 : (Txt.mul tail ((0 + (i : Int) + od) % 2)).length ≤ tail.length := by
        rw [← signs_len, mul_signs _ _ (by omega)]
        split
        · simp
        · exact Nat.le_refl _
      rw [h1]
      exact Nat.le_trans (show _ ≤ 100 by omega) (by decide)
    rw [show (0 : Int) + (i : Int) = (i : Int) by omega]
    have hnl : nsx.length = i := by rw [hnx]; simp [nmsOf]
    repeat' walk_at "t"
    have hn2 : nsx ++ [nmOf lead tail fi (1 + 2 * st) od i] = nmsOf lead tail fi (1 + 2 * st) od (i + 1) := by
      rw [hnx]; unfold nmsOf; rw [List.range_succ, List.map_append]; rfl
    exact ⟨[_, _], rfl, nsx ++ [nmOf lead tail fi (1 + 2 * st) od i], _, _, rfl, (by rw [List.map_append]; rfl), (hn2)⟩
  · rintro vs δ M1 ⟨nsx, o9, o10, rfl, rfl, hnx⟩ hδ
    obtain rfl : δ = [_, _, _, _, _, _, _, _, _, o9, o10] := hδ
    try simp only [range_len, List.length_map, enum_len] at hnx
    repeat' walk_at "t"
    refine ⟨_, _, .frz 1 rfl, k nsx _ ?_ (by omega)⟩
    rw [hnx]
    have hh := nms_ok (lead := lead) (tail := tail) (f := fi) (st := 1 + 2 * st) (od := od) (m := (m - 0).toNat) (by omega) hjs1.2 (by omega) hjs2.2 (by omega) (by omega)
    simpa using hh
def pPick : DSp := fun ds M Φ => ∃ s g b M' x, ds = [.raw (.ref s), x] ∧ M = (s, .st g b) :: M' ∧ 1 ≤ b ∧ ((∃ l : List D, x = .lst l ∧ 0 < l.length ∧ l.length ≤ 1000 ∧ ∀ d ∈ l, Φ d ((s, .st g (b - 1)) :: M')) ∨ (∃ t : Str, x = .str t ∧ 0 < t.length ∧ t.length ≤ 1000 ∧ ∀ c ∈ t.cps.toList, Φ (.str ⟨#[c]⟩) ((s, .st g (b - 1)) :: M')))
abbrev s_law_pick : Stmt := top 51
def n_law_pick : List Str := ["_law_state", "_law_some"]
theorem sc_law_pick : FnScope n_law_pick ["_law_state", "_law_some"] (defScope s_law_pick) := ⟨rfl, rfl, rfl, by decide +kernel, rfl, by decide +kernel, by decide +kernel⟩
theorem d_law_pick {P : Program} {w : World} {K : PySem.W.Frag} {mg : Str → Option Value} {base : Heap} {f : Addr} {fd : FuncData} (F : Fun K "_law_pick" "_law_pick" s_law_pick f fd)
    (D_law_take : Def P w K mg base 1 "_law_take" ["_law_state", "_law_many"] pTake) (G_len : mg "len" = none) : FnOk P w K mg base CX0 2 f fd ["_law_state", "_law_some"] (lift pPick) := by
  refine fnok_of (N := n_law_pick) (k := 1) F sc_law_pick (fun ds M Φ h => by obtain ⟨s, g, b, M', x, rfl, rfl, hb, hx⟩ := h; rfl) fun X B I ds M Φ h => ?_
  obtain ⟨s, g, b, M', x, rfl, rfl, hb, hx⟩ := h
  obtain ⟨rfl, rfl, rfl, rfl, rfl, hN, hs, hf, z, xe⟩ := I
  have hp := passes_of xe
  have n0 : Lo X 0 "_law_state" := lo_of hN hs hf (by decide +kernel)
  have n1 : Lo X 1 "_law_some" := lo_of hN hs hf (by decide +kernel)
  have l_law_take : Gl X "_law_take" := gl_of hs (by decide +kernel)
  have g_len : Gn X "len" := gn_of hs (by decide +kernel) G_len
  clear F hf
  change DSs _ X (_ :: _) [_, _] _ _
  rcases hx with ⟨l, rfl, h0, h1, k⟩ | ⟨t, rfl, h0, h1, k⟩
  · repeat' walk_at "t"
    rename_i r hr0 hr1
    have hl : r.toNat < l.length := by omega
    refine od_ixL (d := l[r.toNat]) ?_ ?_
    · obtain ⟨n, rfl⟩ : ∃ n : Nat, r = (n : Int) := ⟨r.toNat, by omega⟩
      exact atI_nat (by simp)
    · exact ⟨_, _, .refl, k _ (List.getElem_mem hl)⟩
  · repeat' walk_at "t"
    refine cd_lenS (Nat.le_trans h1 (by decide)) ?_
    repeat' walk_at "t"
    rename_i r hr0 hr1
    obtain ⟨c, ec⟩ := at_sign (z := t) (i := r) hr0 hr1
    refine od_ixS (Nat.le_trans h1 (by decide)) ec ?_
    refine ⟨_, _, .refl, k c ?_⟩
    obtain ⟨n, rfl⟩ : ∃ n : Nat, r = (n : Int) := ⟨r.toNat, by omega⟩
    unfold atI at ec
    cases e : ixN t.cps.toList.length (n : Int) with
    | none => rw [e] at ec; cases ec
    | some m => rw [e] at ec; exact List.mem_of_getElem? ec
theorem cut_txd {z : Str} (l u : Option Int) (h : ∀ c ∈ signs z, c < 1000) : (cutS z l u).length ≤ z.length ∧ ∀ c ∈ signs (cutS z l u), c < 1000 := by
  refine ⟨cutS_length z l u, fun c hc => h c ?_⟩
  unfold signs cutS at hc
  rw [List.toList_toArray] at hc
  exact List.mem_of_mem_drop (List.mem_of_mem_take hc)
theorem fold_cps : ∀ (n : Nat) (a acc : Array Nat), ((List.replicate n a).foldl (· ++ ·) acc).toList = acc.toList ++ (List.replicate n a.toList).flatten
  | 0, a, acc => by simp
  | n + 1, a, acc => by
    rw [List.replicate_succ, List.foldl_cons, fold_cps n a (acc ++ a), List.replicate_succ, List.flatten_cons, Array.toList_append, List.append_assoc]
theorem mul9_txd {z : Str} (hl : z.length ≤ 100) (h : ∀ c ∈ signs z, c < 1000) : MulOk z 9 ∧ (Txt.mul z 9).length ≤ 900 ∧ ∀ c ∈ signs (Txt.mul z 9), c < 1000 := by
  refine ⟨⟨by decide, fun _ _ => by omega, fun _ _ => ?_⟩, ?_⟩
  · unfold PySem.Builtin.Str.tooLong
    exact decide_eq_false (Nat.not_lt.mpr (Nat.le_trans (show z.length * (9 : Int).toNat ≤ 1000 by show z.length * 9 ≤ 1000; omega) (by decide)))
  · by_cases hz : z.length = 0
    · have e : Txt.mul z 9 = z := by unfold Txt.mul; rw [if_neg (by decide), if_pos (by simp [hz])]
      rw [e]; exact ⟨by omega, h⟩
    · have e : signs (Txt.mul z 9) = (List.replicate 9 (signs z)).flatten := by
        unfold Txt.mul
        rw [if_neg (by decide), if_neg (by simp [hz])]
        unfold signs
        show ((List.replicate 9 z.cps).foldl (· ++ ·) #[]).toList = _
        rw [fold_cps]; simp
      refine ⟨?_, fun c hc => ?_⟩
      · rw [← signs_len, e, List.length_flatten, List.map_replicate, List.sum_replicate_nat, signs_len]; omega
      · rw [e] at hc
        obtain ⟨l, hl2, hc⟩ := List.mem_flatten.mp hc
        rw [List.eq_of_mem_replicate hl2] at hc
        exact h c hc
theorem add_txd {x y : Str} (hx : ∀ c ∈ signs x, c < 1000) (hy : ∀ c ∈ signs y, c < 1000) : (x ++ y).length = x.length + y.length ∧ ∀ c ∈ signs (x ++ y), c < 1000 := by
  refine ⟨by rw [← signs_len, signs_add, List.length_append, signs_len, signs_len], fun c hc => ?_⟩
  rw [signs_add] at hc
  rcases List.mem_append.mp hc with h | h
  · exact hx c h
  · exact hy c h
theorem mem_atI {l : List Nat} {i : Int} {c : Nat} (h : atI l i = some c) : c ∈ l := by
  unfold atI at h
  cases e : ixN l.length i with
  | none => rw [e] at h; cases h
  | some n => rw [e] at h; exact List.mem_of_getElem? h
def pSpoilt : DSp := fun ds M Φ => ∃ s g b M' x, ds = [.raw (.ref s), .str x] ∧ M = (s, .st g b) :: M' ∧ nameB x = true ∧ 3 ≤ b ∧ ∀ y b', Txd y → b ≤ b' + 3 → Φ (.str y) ((s, .st g b') :: M')
abbrev s_law_spoilt : Stmt := top 53
def n_law_spoilt : List Str := ["_law_state", "_law_call", "_law_at", "_law_sign"]
theorem sc_law_spoilt : FnScope n_law_spoilt ["_law_state", "_law_call"] (defScope s_law_spoilt) := ⟨rfl, rfl, rfl, by decide +kernel, rfl, by decide +kernel, by decide +kernel⟩
theorem d_law_spoilt {P : Program} {w : World} {K : PySem.W.Frag} {mg : Str → Option Value} {base : Heap} {f : Addr} {fd : FuncData} (F : Fun K "_law_spoilt" "_law_spoilt" s_law_spoilt f fd)
    (D_law_take : Def P w K mg base 1 "_law_take" ["_law_state", "_law_many"] pTake) (G_len : mg "len" = none) : FnOk P w K mg base CX0 2 f fd ["_law_state", "_law_call"] (lift pSpoilt) := by
  refine fnok_of (N := n_law_spoilt) (k := 1) F sc_law_spoilt (fun ds M Φ h => by obtain ⟨s, g, b, M', x, rfl, rfl, hx, hb, k⟩ := h; rfl) fun X B I ds M Φ h => ?_
  obtain ⟨s, g, b, M', x, rfl, rfl, hx, hb, k⟩ := h
  obtain ⟨rfl, rfl, rfl, rfl, rfl, hN, hs, hf, z, xe⟩ := I
  have hp := passes_of xe
  have n0 : Lo X 0 "_law_state" := lo_of hN hs hf (by decide +kernel)
  have n1 : Lo X 1 "_law_call" := lo_of hN hs hf (by decide +kernel)
  have n2 : Lo X 2 "_law_at" := lo_of hN hs hf (by decide +kernel)
  have n3 : Lo X 3 "_law_sign" := lo_of hN hs hf (by decide +kernel)
  have l_law_take : Gl X "_law_take" := gl_of hs (by decide +kernel)
  have g_len : Gn X "len" := gn_of hs (by decide +kernel) G_len
  clear F hf
  change DSs _ X (_ :: _) [_, _, _, _] _ _
  have hxt := name_txd hx
  have hxl := name_len hx
  have hsz : ∀ y : Str, y.length ≤ 1000 → y.length ≤ sizeLine := fun y h => Nat.le_trans h (by decide)
  repeat' walk_at "t"
  refine cd_lenS (hsz _ (by omega)) ?_
  repeat' walk_at "t"
  rename_i at_ ha0 ha1 sg hs0 hs1
  obtain ⟨c, ec⟩ := at_sign (z := Str.ofString "A1 _-Zz9") (i := sg) hs0 (by rw [show (Str.ofString "A1 _-Zz9").length = 8 by decide +kernel]; omega)
  have hc : c < 1000 := (show ∀ c ∈ (Str.ofString "A1 _-Zz9").cps.toList, c < 1000 by decide +kernel) c (mem_atI ec)
  refine od_ixS (by decide +kernel) ec ?_
  have hsg : ∀ c' ∈ signs (⟨#[c]⟩ : Str), c' < 1000 := fun c' h => by rw [signs_one] at h; rw [List.mem_singleton.mp h]; exact hc
  have hg1 : (⟨#[c]⟩ : Str).length = 1 := rfl
  repeat' walk_at "t"
  refine SlD.str (hsz _ (by omega)) ?_
  have c1 := cut_txd none (some at_) hxt.2
  generalize cutS x none (some at_) = x1 at *
  repeat' walk_at "t"
  refine od_addS (Nat.le_trans (show _ ≤ 1000 by rw [hg1]; omega) (by decide)) ?_
  have c2 := add_txd c1.2 hsg
  generalize x1 ++ (⟨#[c]⟩ : Str) = x2 at *
  repeat' walk_at "t"
  refine SlD.str (hsz _ (by omega)) ?_
  have c3 := cut_txd (some at_) none hxt.2
  generalize cutS x (some at_) none = x3 at *
  repeat' walk_at "t"
  refine od_addS (Nat.le_trans (show _ ≤ 1000 by omega) (by decide)) ?_
  have c4 := add_txd c2.2 c3.2
  generalize x2 ++ x3 = x4 at *
  repeat' walk_at "t"
  obtain ⟨m1, m2, m3⟩ := mul9_txd (z := x) (by omega) hxt.2
  refine od_mulStr m1 ?_
  repeat' walk_at "t"
  refine SlD.str (hsz _ (by omega)) ?_
  have c5 := cut_txd none (some 9) m3
  have c5l : (cutS (Txt.mul x 9) none (some 9)).length ≤ 9 := by
    show (((_ : List Nat).take _).toArray).size ≤ 9
    rw [List.size_toArray, List.length_take]
    have : HT.sIx (Txt.mul x 9).length (Txt.mul x 9).length (some 9) ≤ 9 := by unfold HT.sIx; simp; omega
    omega
  generalize cutS (Txt.mul x 9) none (some 9) = x5 at *
  repeat' walk_at "t"
  refine SlD.str (hsz _ (by omega)) ?_
  have c6 := cut_txd none (some at_) hxt.2
  generalize cutS x none (some at_) = x6 at *
  repeat' walk_at "t"
  refine od_addS (Nat.le_trans (show _ ≤ 1000 by rw [hg1]; omega) (by decide)) ?_
  have c7 := add_txd c6.2 hsg
  generalize x6 ++ (⟨#[c]⟩ : Str) = x7 at *
  repeat' walk_at "t"
  refine SlD.str (hsz _ (by omega)) ?_
  have c8 := cut_txd (some (at_ + 1)) none hxt.2
  generalize cutS x (some (at_ + 1)) none = x8 at *
  repeat' walk_at "t"
  refine od_addS (Nat.le_trans (show _ ≤ 1000 by omega) (by decide)) ?_
  have c9 := add_txd c7.2 c8.2
  generalize x7 ++ x8 = x9 at *
  repeat' walk_at "t"
  refine od_ixE (l := [x4, x5, Str.ofString "", x9]) (f := .str) ⟨by omega, by show _ < (4 : Int); omega⟩ fun y hy => ?_
  have hym := List.mem_of_getElem? hy
  refine ⟨_, _, .refl, k y _ ?_ (by omega)⟩
  simp only [List.mem_cons, List.not_mem_nil, or_false] at hym
  rcases hym with rfl | rfl | rfl | rfl
  · exact ⟨by omega, c4.2⟩
  · exact ⟨by omega, c5.2⟩
  · exact ⟨by decide, fun c hc => by cases hc⟩
  · exact ⟨by omega, c9.2⟩
def pIsNameL : DSp := fun ds M Φ => ∃ x : Str, ds = [.str x] ∧ Txd x ∧ Φ (.bl (nameB x)) M
theorem okE_signs (l : List Nat) (h : ∀ c ∈ l, c < 1000) : okE (.lst (l.map fun c => D.str ⟨#[c]⟩)) = true := okE_all fun d hd => by
  obtain ⟨c, hc, rfl⟩ := List.mem_map.mp hd
  refine ⟨ok_txd ⟨by show 1 ≤ 100; decide, fun c' h' => ?_⟩, by show 0 ≤ 63; decide⟩
  rw [signs_one] at h'
  rw [List.mem_singleton.mp h']; exact h c hc
abbrev s_law_is_name : Stmt := top 54
def n_law_is_name : List Str := ["_law_call", "_law_sign"]
theorem sc_law_is_name : FnScope n_law_is_name ["_law_call"] (defScope s_law_is_name) := ⟨rfl, rfl, rfl, by decide +kernel, rfl, by decide +kernel, by decide +kernel⟩
theorem d_law_is_name {P : Program} {w : World} {K : PySem.W.Frag} {mg : Str → Option Value} {base : Heap} {f : Addr} {fd : FuncData} (F : Fun K "_law_is_name" "_law_is_name" s_law_is_name f fd)
    (G_len : mg "len" = none) : FnOk P w K mg base CX0 1 f fd ["_law_call"] (lift pIsNameL) := by
  refine fnok_of (N := n_law_is_name) (k := 0) F sc_law_is_name (fun ds M Φ h => by obtain ⟨zz, rfl, htx, k⟩ := h; rfl) fun X B I ds M Φ h => ?_
  obtain ⟨zz, rfl, htx, k⟩ := h
  obtain ⟨rfl, rfl, rfl, rfl, rfl, hN, hs, hf, z, xe⟩ := I
  have hp := passes_of xe
  have n0 : Lo X 0 "_law_call" := lo_of hN hs hf (by decide +kernel)
  have g_len : Gn X "len" := gn_of hs (by decide +kernel) G_len
  clear F hf
  change DSs _ X (_ :: _) [_, _] _ _
  have hsz : zz.length ≤ sizeLine := Nat.le_trans (Nat.le_trans htx.1 (by decide)) (show 1000 ≤ sizeLine by decide)
  repeat' walk_at "t"
  refine cd_lenS hsz ?_
  repeat' walk_at "t"
  any_goals
    refine ⟨_, _, .refl, ?_⟩
    rw [show nameB zz = false by unfold nameB; first | rw [decide_eq_false (by omega)]; rfl | rw [decide_eq_false (show ¬ zz.length ≤ 8 by omega), Bool.and_false]; rfl] at k
    exact k
  rename_i h1 h2
  have hzl : zz.cps.toList.length ≤ 100 := htx.1
  refine DE.f (df_lc 0 z hN hs [("_law_sign", 1)] (.one 1) (by decide +kernel) (by decide) (fun X' bk => pg_one bk z (bk.lo hN hs (by decide +kernel))) (di_str ?_))
  repeat' walk_at "t"
  refine LcH.pureT (zz.cps.toList) (fun c => .str ⟨#[c]⟩) (fun a => if ¬ a ∈ letters.cps.toList then some (a) else none) (fun c => .str ⟨#[c]⟩) (Nat.le_trans (show List.length _ ≤ 1000 by first | omega | (simp; done) | (simp; omega)) (by decide)) (fun q acc a ha => ?_) ?_
  · refine ⟨_, rfl, fun X' bk => ?_⟩
    have c1 : Lo X' 1 "_law_sign" := bk.lo hN hs (by decide +kernel)
    have z' := bk.z z
    repeat' walk_at "t"
    all_goals first
      | (intro X' bk; (have c1 : Lo X' 1 "_law_sign" := bk.lo hN hs (by decide +kernel)); (have z' := bk.z z); (repeat' walk_at "t"); exact ⟨by rw [if_pos (by walk_at "pos")]; rfl, rfl⟩)
      | exact ⟨by rw [if_neg (by walk_at "neg")]; rfl, rfl⟩
  repeat' walk_at "t"
  refine od_eqNil (.val _) (okE_signs _ fun c hc => ?_) ?_
  · obtain ⟨a, ha, e⟩ := List.mem_filterMap.mp hc
    split at e
    · cases e; exact htx.2 _ ha
    · cases e
  refine ⟨_, _, .refl, ?_⟩
  have hn : nameB zz = (List.map (fun c => D.str ⟨#[c]⟩) (List.filterMap (fun a => if ¬ a ∈ letters.cps.toList then some a else none) zz.cps.toList)).isEmpty := by
    unfold nameB
    rw [decide_eq_true (show 1 ≤ zz.length by omega), decide_eq_true (show zz.length ≤ 8 by omega), List.isEmpty_map]
    show (zz.cps.toList.all _) = _
    rw [Bool.eq_iff_iff, List.all_eq_true, List.isEmpty_iff, List.filterMap_eq_nil_iff]
    constructor
    · intro h a ha
      rw [if_neg (fun h' => h' (of_decide_eq_true (h a ha)))]
    · intro h a ha
      refine decide_eq_true (Classical.byContradiction fun hh => ?_)
      have := h a ha
      rw [if_pos hh] at this
      cases this
  rw [hn] at k
  exact k
inductive Er where
  | noName (x : Str) | taken (x : Str) | noLane
def erD (cN cT cW : Addr) : Er → D
  | .noName x => .exn cN ["name"] [.str x]
  | .taken x => .exn cT ["name"] [.str x]
  | .noLane => .exn cW [] []
def erT : Er → D
  | .noName x => .tup [.str "NoName", .str x]
  | .taken x => .tup [.str "Taken", .str x]
  | .noLane => .tup [.str "NoLane", .non]
def pAlone (cN cT cW : Addr) : DSpE := fun ds M Φ _ => ∃ w, ds = [erD cN cT cW w] ∧ Φ (erT w) M
abbrev s_law_alone : Stmt := top 55
def n_law_alone : List Str := ["_law_error", "_law_kinds", "_law_names_here", "_law_word_here"]
theorem sc_law_alone : FnScope n_law_alone ["_law_error"] (defScope s_law_alone) := ⟨rfl, rfl, rfl, by decide +kernel, rfl, by decide +kernel, by decide +kernel⟩
theorem d_law_alone {P : Program} {w : World} {K : PySem.W.Frag} {mg : Str → Option Value} {base : Heap} {c_NoJar c_NoName c_NoTick c_NoLane c_Taken c_Unknown c_NoWay c_TooMany c_TooMuch c_NoLot c_NoText c_NoBook c_Lot : Addr} {f : Addr} {fd : FuncData} (F : FunG K "_law_alone" "_law_alone" s_law_alone f fd)
    (KT_NoJar_NoName : KitP K (.ref c_NoJar) (.ref c_NoName) false) (EP_NoJar : ExcP K c_NoJar) (KT_NoTick_NoName : KitP K (.ref c_NoTick) (.ref c_NoName) false) (EP_NoTick : ExcP K c_NoTick) (KT_NoLane_NoName : KitP K (.ref c_NoLane) (.ref c_NoName) false) (EP_NoLane : ExcP K c_NoLane) (KT_NoName_NoName : KitP K (.ref c_NoName) (.ref c_NoName) true) (EP_NoName : ExcP K c_NoName) (KT_Taken_NoName : KitP K (.ref c_Taken) (.ref c_NoName) false) (EP_Taken : ExcP K c_Taken) (KT_Unknown_NoName : KitP K (.ref c_Unknown) (.ref c_NoName) false) (EP_Unknown : ExcP K c_Unknown) (KT_NoWay_NoName : KitP K (.ref c_NoWay) (.ref c_NoName) false) (EP_NoWay : ExcP K c_NoWay) (KT_TooMany_NoName : KitP K (.ref c_TooMany) (.ref c_NoName) false) (EP_TooMany : ExcP K c_TooMany) (KT_TooMuch_NoName : KitP K (.ref c_TooMuch) (.ref c_NoName) false) (EP_TooMuch : ExcP K c_TooMuch) (KT_NoneType_NoName : KitP K (.type "NoneType") (.ref c_NoName) false) (G_isinstance : mg "isinstance" = none) (Q_NoName : MgP mg "NoName" c_NoName) (KT_NoJar_Taken : KitP K (.ref c_NoJar) (.ref c_Taken) false) (KT_NoTick_Taken : KitP K (.ref c_NoTick) (.ref c_Taken) false) (KT_NoLane_Taken : KitP K (.ref c_NoLane) (.ref c_Taken) false) (KT_NoName_Taken : KitP K (.ref c_NoName) (.ref c_Taken) false) (KT_Taken_Taken : KitP K (.ref c_Taken) (.ref c_Taken) true) (KT_Unknown_Taken : KitP K (.ref c_Unknown) (.ref c_Taken) false) (KT_NoWay_Taken : KitP K (.ref c_NoWay) (.ref c_Taken) false) (KT_TooMany_Taken : KitP K (.ref c_TooMany) (.ref c_Taken) false) (KT_TooMuch_Taken : KitP K (.ref c_TooMuch) (.ref c_Taken) false) (KT_NoneType_Taken : KitP K (.type "NoneType") (.ref c_Taken) false) (Q_Taken : MgP mg "Taken" c_Taken) (KT_NoJar_Unknown : KitP K (.ref c_NoJar) (.ref c_Unknown) false) (KT_NoTick_Unknown : KitP K (.ref c_NoTick) (.ref c_Unknown) false) (KT_NoLane_Unknown : KitP K (.ref c_NoLane) (.ref c_Unknown) false) (KT_NoName_Unknown : KitP K (.ref c_NoName) (.ref c_Unknown) false) (KT_Taken_Unknown : KitP K (.ref c_Taken) (.ref c_Unknown) false) (KT_Unknown_Unknown : KitP K (.ref c_Unknown) (.ref c_Unknown) true) (KT_NoWay_Unknown : KitP K (.ref c_NoWay) (.ref c_Unknown) false) (KT_TooMany_Unknown : KitP K (.ref c_TooMany) (.ref c_Unknown) false) (KT_TooMuch_Unknown : KitP K (.ref c_TooMuch) (.ref c_Unknown) false) (KT_NoneType_Unknown : KitP K (.type "NoneType") (.ref c_Unknown) false) (Q_Unknown : MgP mg "Unknown" c_Unknown) (KT_NoJar_NoWay : KitP K (.ref c_NoJar) (.ref c_NoWay) false) (KT_NoTick_NoWay : KitP K (.ref c_NoTick) (.ref c_NoWay) false) (KT_NoLane_NoWay : KitP K (.ref c_NoLane) (.ref c_NoWay) false) (KT_NoName_NoWay : KitP K (.ref c_NoName) (.ref c_NoWay) false) (KT_Taken_NoWay : KitP K (.ref c_Taken) (.ref c_NoWay) false) (KT_Unknown_NoWay : KitP K (.ref c_Unknown) (.ref c_NoWay) false) (KT_NoWay_NoWay : KitP K (.ref c_NoWay) (.ref c_NoWay) true) (KT_TooMany_NoWay : KitP K (.ref c_TooMany) (.ref c_NoWay) false) (KT_TooMuch_NoWay : KitP K (.ref c_TooMuch) (.ref c_NoWay) false) (KT_NoneType_NoWay : KitP K (.type "NoneType") (.ref c_NoWay) false) (Q_NoWay : MgP mg "NoWay" c_NoWay) (KT_NoJar_NoLane : KitP K (.ref c_NoJar) (.ref c_NoLane) false) (KT_NoTick_NoLane : KitP K (.ref c_NoTick) (.ref c_NoLane) false) (KT_NoLane_NoLane : KitP K (.ref c_NoLane) (.ref c_NoLane) true) (KT_NoName_NoLane : KitP K (.ref c_NoName) (.ref c_NoLane) false) (KT_Taken_NoLane : KitP K (.ref c_Taken) (.ref c_NoLane) false) (KT_Unknown_NoLane : KitP K (.ref c_Unknown) (.ref c_NoLane) false) (KT_NoWay_NoLane : KitP K (.ref c_NoWay) (.ref c_NoLane) false) (KT_TooMany_NoLane : KitP K (.ref c_TooMany) (.ref c_NoLane) false) (KT_TooMuch_NoLane : KitP K (.ref c_TooMuch) (.ref c_NoLane) false) (KT_NoneType_NoLane : KitP K (.type "NoneType") (.ref c_NoLane) false) (Q_NoLane : MgP mg "NoLane" c_NoLane) (KT_NoJar_NoTick : KitP K (.ref c_NoJar) (.ref c_NoTick) false) (KT_NoTick_NoTick : KitP K (.ref c_NoTick) (.ref c_NoTick) true) (KT_NoLane_NoTick : KitP K (.ref c_NoLane) (.ref c_NoTick) false) (KT_NoName_NoTick : KitP K (.ref c_NoName) (.ref c_NoTick) false) (KT_Taken_NoTick : KitP K (.ref c_Taken) (.ref c_NoTick) false) (KT_Unknown_NoTick : KitP K (.ref c_Unknown) (.ref c_NoTick) false) (KT_NoWay_NoTick : KitP K (.ref c_NoWay) (.ref c_NoTick) false) (KT_TooMany_NoTick : KitP K (.ref c_TooMany) (.ref c_NoTick) false) (KT_TooMuch_NoTick : KitP K (.ref c_TooMuch) (.ref c_NoTick) false) (KT_NoneType_NoTick : KitP K (.type "NoneType") (.ref c_NoTick) false) (Q_NoTick : MgP mg "NoTick" c_NoTick) (KT_NoJar_TooMany : KitP K (.ref c_NoJar) (.ref c_TooMany) false) (KT_NoTick_TooMany : KitP K (.ref c_NoTick) (.ref c_TooMany) false) (KT_NoLane_TooMany : KitP K (.ref c_NoLane) (.ref c_TooMany) false) (KT_NoName_TooMany : KitP K (.ref c_NoName) (.ref c_TooMany) false) (KT_Taken_TooMany : KitP K (.ref c_Taken) (.ref c_TooMany) false) (KT_Unknown_TooMany : KitP K (.ref c_Unknown) (.ref c_TooMany) false) (KT_NoWay_TooMany : KitP K (.ref c_NoWay) (.ref c_TooMany) false) (KT_TooMany_TooMany : KitP K (.ref c_TooMany) (.ref c_TooMany) true) (KT_TooMuch_TooMany : KitP K (.ref c_TooMuch) (.ref c_TooMany) false) (KT_NoneType_TooMany : KitP K (.type "NoneType") (.ref c_TooMany) false) (Q_TooMany : MgP mg "TooMany" c_TooMany) (KT_NoJar_TooMuch : KitP K (.ref c_NoJar) (.ref c_TooMuch) false) (KT_NoTick_TooMuch : KitP K (.ref c_NoTick) (.ref c_TooMuch) false) (KT_NoLane_TooMuch : KitP K (.ref c_NoLane) (.ref c_TooMuch) false) (KT_NoName_TooMuch : KitP K (.ref c_NoName) (.ref c_TooMuch) false) (KT_Taken_TooMuch : KitP K (.ref c_Taken) (.ref c_TooMuch) false) (KT_Unknown_TooMuch : KitP K (.ref c_Unknown) (.ref c_TooMuch) false) (KT_NoWay_TooMuch : KitP K (.ref c_NoWay) (.ref c_TooMuch) false) (KT_TooMany_TooMuch : KitP K (.ref c_TooMany) (.ref c_TooMuch) false) (KT_TooMuch_TooMuch : KitP K (.ref c_TooMuch) (.ref c_TooMuch) true) (KT_NoneType_TooMuch : KitP K (.type "NoneType") (.ref c_TooMuch) false) (Q_TooMuch : MgP mg "TooMuch" c_TooMuch) (KT_NoJar_NoJar : KitP K (.ref c_NoJar) (.ref c_NoJar) true) (KT_NoTick_NoJar : KitP K (.ref c_NoTick) (.ref c_NoJar) false) (KT_NoLane_NoJar : KitP K (.ref c_NoLane) (.ref c_NoJar) false) (KT_NoName_NoJar : KitP K (.ref c_NoName) (.ref c_NoJar) false) (KT_Taken_NoJar : KitP K (.ref c_Taken) (.ref c_NoJar) false) (KT_Unknown_NoJar : KitP K (.ref c_Unknown) (.ref c_NoJar) false) (KT_NoWay_NoJar : KitP K (.ref c_NoWay) (.ref c_NoJar) false) (KT_TooMany_NoJar : KitP K (.ref c_TooMany) (.ref c_NoJar) false) (KT_TooMuch_NoJar : KitP K (.ref c_TooMuch) (.ref c_NoJar) false) (KT_NoneType_NoJar : KitP K (.type "NoneType") (.ref c_NoJar) false) (Q_NoJar : MgP mg "NoJar" c_NoJar) (KT_NoJar_NoLot : KitP K (.ref c_NoJar) (.ref c_NoLot) false) (KT_NoTick_NoLot : KitP K (.ref c_NoTick) (.ref c_NoLot) false) (KT_NoLane_NoLot : KitP K (.ref c_NoLane) (.ref c_NoLot) false) (KT_NoName_NoLot : KitP K (.ref c_NoName) (.ref c_NoLot) false) (KT_Taken_NoLot : KitP K (.ref c_Taken) (.ref c_NoLot) false) (KT_Unknown_NoLot : KitP K (.ref c_Unknown) (.ref c_NoLot) false) (KT_NoWay_NoLot : KitP K (.ref c_NoWay) (.ref c_NoLot) false) (KT_TooMany_NoLot : KitP K (.ref c_TooMany) (.ref c_NoLot) false) (KT_TooMuch_NoLot : KitP K (.ref c_TooMuch) (.ref c_NoLot) false) (KT_NoneType_NoLot : KitP K (.type "NoneType") (.ref c_NoLot) false) (Q_NoLot : MgP mg "NoLot" c_NoLot) (KT_NoJar_NoText : KitP K (.ref c_NoJar) (.ref c_NoText) false) (KT_NoTick_NoText : KitP K (.ref c_NoTick) (.ref c_NoText) false) (KT_NoLane_NoText : KitP K (.ref c_NoLane) (.ref c_NoText) false) (KT_NoName_NoText : KitP K (.ref c_NoName) (.ref c_NoText) false) (KT_Taken_NoText : KitP K (.ref c_Taken) (.ref c_NoText) false) (KT_Unknown_NoText : KitP K (.ref c_Unknown) (.ref c_NoText) false) (KT_NoWay_NoText : KitP K (.ref c_NoWay) (.ref c_NoText) false) (KT_TooMany_NoText : KitP K (.ref c_TooMany) (.ref c_NoText) false) (KT_TooMuch_NoText : KitP K (.ref c_TooMuch) (.ref c_NoText) false) (KT_NoneType_NoText : KitP K (.type "NoneType") (.ref c_NoText) false) (Q_NoText : MgP mg "NoText" c_NoText) (KT_NoJar_NoBook : KitP K (.ref c_NoJar) (.ref c_NoBook) false) (KT_NoTick_NoBook : KitP K (.ref c_NoTick) (.ref c_NoBook) false) (KT_NoLane_NoBook : KitP K (.ref c_NoLane) (.ref c_NoBook) false) (KT_NoName_NoBook : KitP K (.ref c_NoName) (.ref c_NoBook) false) (KT_Taken_NoBook : KitP K (.ref c_Taken) (.ref c_NoBook) false) (KT_Unknown_NoBook : KitP K (.ref c_Unknown) (.ref c_NoBook) false) (KT_NoWay_NoBook : KitP K (.ref c_NoWay) (.ref c_NoBook) false) (KT_TooMany_NoBook : KitP K (.ref c_TooMany) (.ref c_NoBook) false) (KT_TooMuch_NoBook : KitP K (.ref c_TooMuch) (.ref c_NoBook) false) (KT_NoneType_NoBook : KitP K (.type "NoneType") (.ref c_NoBook) false) (Q_NoBook : MgP mg "NoBook" c_NoBook) (KT_NoJar_ValueError : KitP K (.ref c_NoJar) (.type "ValueError") true) (KT_NoTick_ValueError : KitP K (.ref c_NoTick) (.type "ValueError") true) (KT_NoLane_ValueError : KitP K (.ref c_NoLane) (.type "ValueError") true) (KT_NoName_ValueError : KitP K (.ref c_NoName) (.type "ValueError") true) (KT_Taken_ValueError : KitP K (.ref c_Taken) (.type "ValueError") true) (KT_Unknown_ValueError : KitP K (.ref c_Unknown) (.type "ValueError") true) (KT_NoWay_ValueError : KitP K (.ref c_NoWay) (.type "ValueError") true) (KT_TooMany_ValueError : KitP K (.ref c_TooMany) (.type "ValueError") true) (KT_TooMuch_ValueError : KitP K (.ref c_TooMuch) (.type "ValueError") true) (G_ValueError : mg "ValueError" = none) (A_NoName_name : XfP K c_NoName "name") (A_Taken_name : XfP K c_Taken "name") (A_Unknown_name : XfP K c_Unknown "name") (A_TooMany_name : XfP K c_TooMany "name") (A_Lot_name : FldP K c_Lot "name") (A_NoWay_place : XfP K c_NoWay "place") (A_TooMany_bound : XfP K c_TooMany "bound") : FnOk P w K mg base (L2.CX P w) 1 f fd ["_law_error"] (liftE (pAlone c_NoName c_Taken c_NoLane)) := by
  refine fnokG_of (N := n_law_alone) (k := 0) F sc_law_alone (fun ds M Φ Ξ h => by obtain ⟨w, rfl, k⟩ := h; rfl) fun X kp ds M Φ Ξ h I => ?_
  obtain ⟨w, rfl, k⟩ := h
  obtain ⟨rfl, rfl, rfl, rfl, rfl, hN, hs, hf, z, hp, tk, hst, hfr⟩ := I
  have nd := z.nd
  have n0 : Lo X 0 "_law_error" := lo_of hN hs hf (by decide +kernel)
  have n1 : Lo X 1 "_law_kinds" := lo_of hN hs hf (by decide +kernel)
  have n2 : Lo X 2 "_law_names_here" := lo_of hN hs hf (by decide +kernel)
  have n3 : Lo X 3 "_law_word_here" := lo_of hN hs hf (by decide +kernel)
  have g_isinstance : Gn X "isinstance" := gn_of hs (by decide +kernel) G_isinstance
  have l_NoName : Gl X "NoName" := gl_of hs (by decide +kernel)
  have l_Taken : Gl X "Taken" := gl_of hs (by decide +kernel)
  have l_Unknown : Gl X "Unknown" := gl_of hs (by decide +kernel)
  have l_NoWay : Gl X "NoWay" := gl_of hs (by decide +kernel)
  have l_NoLane : Gl X "NoLane" := gl_of hs (by decide +kernel)
  have l_NoTick : Gl X "NoTick" := gl_of hs (by decide +kernel)
  have l_TooMany : Gl X "TooMany" := gl_of hs (by decide +kernel)
  have l_TooMuch : Gl X "TooMuch" := gl_of hs (by decide +kernel)
  have l_NoJar : Gl X "NoJar" := gl_of hs (by decide +kernel)
  have l_NoLot : Gl X "NoLot" := gl_of hs (by decide +kernel)
  have l_NoText : Gl X "NoText" := gl_of hs (by decide +kernel)
  have l_NoBook : Gl X "NoBook" := gl_of hs (by decide +kernel)
  have g_ValueError : Gn X "ValueError" := gn_of hs (by decide +kernel) G_ValueError
  clear F hf
  change DSs _ X (_ :: _) [_, _, _, _] _ _
  cases w with
  | noName x =>
    show DSs _ X _ (some (.exn c_NoName ["name"] [.str x]) :: _) _ _
    repeat' walk_at "t"
    refine od_addL (Nat.le_trans (show _ ≤ 1000 by decide) (by decide)) ?_
    repeat' walk_at "t"
    refine od_addL (Nat.le_trans (show _ ≤ 1000 by decide) (by decide)) ?_
    repeat' walk_at "t"
    refine od_addL (Nat.le_trans (show _ ≤ 1000 by decide) (by decide)) ?_
    repeat' walk_at "t"
    refine ⟨⟨_, .val _⟩, ?_⟩
    repeat' walk_at "t"
    refine mt_cntB (bs := [true, false, false, false, false, false, false, false, false, false, false, false]) (.val _) ?_
    rw [show List.count true [true, false, false, false, false, false, false, false, false, false, false, false] = 1 from rfl]
    repeat' walk_at "t"
    refine od_rep (by decide) ?_
    refine od_addL (Nat.le_trans (show _ ≤ 1000 by decide) (by decide)) ?_
    repeat' walk_at "t"
    refine ⟨⟨_, .val _⟩, ?_⟩
    repeat' walk_at "t"
    refine mt_idxB (bs := [true, false, false, false, false, false, false, false, false, false, false, false]) 0 (.val _) rfl (by decide) ?_
    refine od_ixL rfl ?_
    repeat' walk_at "t"
    refine od_inZT ["NoName", "Taken", "Unknown"] ?_
    repeat' walk_at "t"
    exact ⟨_, _, .refl, k⟩
  | taken x =>
    show DSs _ X _ (some (.exn c_Taken ["name"] [.str x]) :: _) _ _
    repeat' walk_at "t"
    refine od_addL (Nat.le_trans (show _ ≤ 1000 by decide) (by decide)) ?_
    repeat' walk_at "t"
    refine od_addL (Nat.le_trans (show _ ≤ 1000 by decide) (by decide)) ?_
    repeat' walk_at "t"
    refine od_addL (Nat.le_trans (show _ ≤ 1000 by decide) (by decide)) ?_
    repeat' walk_at "t"
    refine ⟨⟨_, .val _⟩, ?_⟩
    repeat' walk_at "t"
    refine mt_cntB (bs := [false, true, false, false, false, false, false, false, false, false, false, false]) (.val _) ?_
    rw [show List.count true [false, true, false, false, false, false, false, false, false, false, false, false] = 1 from rfl]
    repeat' walk_at "t"
    refine od_rep (by decide) ?_
    refine od_addL (Nat.le_trans (show _ ≤ 1000 by decide) (by decide)) ?_
    repeat' walk_at "t"
    refine ⟨⟨_, .val _⟩, ?_⟩
    repeat' walk_at "t"
    refine mt_idxB (bs := [false, true, false, false, false, false, false, false, false, false, false, false]) 1 (.val _) rfl (by decide) ?_
    refine od_ixL rfl ?_
    repeat' walk_at "t"
    refine od_inZT ["NoName", "Taken", "Unknown"] ?_
    repeat' walk_at "t"
    exact ⟨_, _, .refl, k⟩
  | noLane =>
    show DSs _ X _ (some (.exn c_NoLane [] []) :: _) _ _
    repeat' walk_at "t"
    refine od_addL (Nat.le_trans (show _ ≤ 1000 by decide) (by decide)) ?_
    repeat' walk_at "t"
    refine od_addL (Nat.le_trans (show _ ≤ 1000 by decide) (by decide)) ?_
    repeat' walk_at "t"
    refine od_addL (Nat.le_trans (show _ ≤ 1000 by decide) (by decide)) ?_
    repeat' walk_at "t"
    refine ⟨⟨_, .val _⟩, ?_⟩
    repeat' walk_at "t"
    refine mt_cntB (bs := [false, false, false, false, true, false, false, false, false, false, false, false]) (.val _) ?_
    rw [show List.count true [false, false, false, false, true, false, false, false, false, false, false, false] = 1 from rfl]
    repeat' walk_at "t"
    refine od_rep (by decide) ?_
    refine od_addL (Nat.le_trans (show _ ≤ 1000 by decide) (by decide)) ?_
    repeat' walk_at "t"
    refine ⟨⟨_, .val _⟩, ?_⟩
    repeat' walk_at "t"
    refine mt_idxB (bs := [false, false, false, false, true, false, false, false, false, false, false, false]) 4 (.val _) rfl (by decide) ?_
    refine od_ixL rfl ?_
    repeat' walk_at "t"
    refine od_inZT ["NoName", "Taken", "Unknown"] ?_
    repeat' walk_at "t"
    refine od_eqS ?_
    rw [decide_eq_false (by decide)]
    repeat' walk_at "t"
    refine od_eqS ?_
    rw [decide_eq_false (by decide)]
    repeat' walk_at "t"
    exact ⟨_, _, .refl, k⟩
def pDone (cH : Addr) (C : FC) : DSpE := fun ds M Φ Ξ => ∃ h pg fl A S pages x w M', ds = [.raw (.ref h), .tup [.str "build", .str x, .int w]] ∧ M = hsM cH C h pg fl A S pages M' ∧ x.length ≤ 1000 ∧ S.lns.length < 1000 ∧ pages.length < 1000 ∧
  (nameB x = false → Φ (erT (.noName x)) M) ∧ (nameB x = true → hasL x S.lns → Φ (erT (.taken x)) M) ∧ (nameB x = true → ¬ hasL x S.lns → ¬ WdOk w → Φ (erT .noLane) M) ∧
  (nameB x = true → ¬ hasL x S.lns → WdOk w → Φ (.tup [.str "done", .non]) (hsM cH C h pg fl A { S with lns := S.lns ++ [⟨x, w, 0⟩] } (pages ++ [bldD x w]) M'))
abbrev s_law_done : Stmt := top 56
def n_law_done : List Str := ["_law_house", "_law_deed", "_law_caught", "e"]
theorem sc_law_done : FnScope n_law_done ["_law_house", "_law_deed"] (defScope s_law_done) := ⟨rfl, rfl, rfl, by decide +kernel, rfl, by decide +kernel, by decide +kernel⟩
theorem d_law_done {P : Program} {w : World} {K : PySem.W.Frag} {mg : Str → Option Value} {base : Heap} {c_House c_LaneError c_TooMany c_NoLane c_NoJar c_NoWay c_NoName c_Unknown c_NoTick c_Taken c_TooMuch c_Floor c_Flow c_Lot : Addr} {f : Addr} {fd : FuncData} (F : FunG K "_law_done" "_law_done" s_law_done f fd)
    (M_House_build_0_name_width : MethE P w K mg base 5 c_House "build" 0 ["name", "width"] (selN 3) (anyw (pBuild c_House ⟨c_Floor, c_Flow, (0 : Addr), c_Lot⟩ c_NoName c_Taken c_NoLane))) (Q_LaneError : MgP mg "LaneError" c_LaneError) (XM_TooMany_LaneError : ExmP K (.ref c_TooMany) (.ref c_LaneError) true) (XM_NoLane_LaneError : ExmP K (.ref c_NoLane) (.ref c_LaneError) true) (XM_NoJar_LaneError : ExmP K (.ref c_NoJar) (.ref c_LaneError) true) (XM_NoWay_LaneError : ExmP K (.ref c_NoWay) (.ref c_LaneError) true) (XM_NoName_LaneError : ExmP K (.ref c_NoName) (.ref c_LaneError) true) (XM_Unknown_LaneError : ExmP K (.ref c_Unknown) (.ref c_LaneError) true) (XM_NoTick_LaneError : ExmP K (.ref c_NoTick) (.ref c_LaneError) true) (XM_Taken_LaneError : ExmP K (.ref c_Taken) (.ref c_LaneError) true) (XM_TooMuch_LaneError : ExmP K (.ref c_TooMuch) (.ref c_LaneError) true) (E_law_alone_1 : DefE P w K mg base 1 "_law_alone" 1 [] (selN 1) (pAlone c_NoName c_Taken c_NoLane)) : FnOk P w K mg base (L2.CX P w) 6 f fd ["_law_house", "_law_deed"] (liftE (anyw (pDone c_House ⟨c_Floor, c_Flow, (0 : Addr), c_Lot⟩))) := by
  refine fnokG_of (N := n_law_done) (k := 5) F sc_law_done (fun ds M Φ Ξ h => by obtain ⟨L0, B0, M0, rfl, h, pg, fl, A, S, pages, x, w, M', rfl, hM, hl, hll, hpl, kn, kt, kw, ky⟩ := h; rfl) fun X kp ds M Φ Ξ h I => ?_
  obtain ⟨L0, B0, M0, rfl, h, pg, fl, A, S, pages, x, w, M', rfl, hM, hl, hll, hpl, kn, kt, kw, ky⟩ := h
  obtain ⟨rfl, rfl, rfl, rfl, rfl, hN, hs, hf, z, hp, tk, hst, hfr⟩ := I
  have nd := z.nd
  have n0 : Lo X 0 "_law_house" := lo_of hN hs hf (by decide +kernel)
  have n1 : Lo X 1 "_law_deed" := lo_of hN hs hf (by decide +kernel)
  have n2 : Lo X 2 "_law_caught" := lo_of hN hs hf (by decide +kernel)
  have n3 : Lo X 3 "e" := lo_of hN hs hf (by decide +kernel)
  have l_LaneError : Gl X "LaneError" := gl_of hs (by decide +kernel)
  have l_law_alone : Gl X "_law_alone" := gl_of hs (by decide +kernel)
  clear F hf
  change DSs _ X (_ :: _) [_, _, _, _] _ _
  refine ws_any ?_
  rw [hM] at *
  repeat' ((fail_if_success refine stTry ?_); walk_at "t")
  refine ds_cutC [2, 3] (fun vs M1 => (∃ (oe : Option Er) (M2 : Mem) (o3 : Option D), [some (match oe with | none => D.non | some w => erD c_NoName c_Taken c_NoLane w), o3] = vs ∧ M2 = M1 ∧ (∀ w, oe = some w → (∃ B2, M2 = B2 ++ (L0 ++ M0) ∧ Φ (erT w) (L0 ++ (B2 ++ M0)))) ∧ (oe = none → (∃ B2, M2 = B2 ++ (L0 ++ M0) ∧ Φ (.tup [.str "done", .non]) (L0 ++ (B2 ++ M0)))))) ?_ ?_
  · repeat' ((fail_if_success refine stTry ?_); walk_at "t")
    first | refine ds_cons (ds_try [(c_LaneError, some 3, _)] hst hfr z.nd tk ⟨⟨l_LaneError, by decide, Q_LaneError.is⟩, rfl, ⟨n3.at_, kind_of hs (by decide +kernel)⟩, trivial⟩ (fun pn xe kp' hp' tk' => ?_)) | refine ds_try [(c_LaneError, some 3, _)] hst hfr z.nd tk ⟨⟨l_LaneError, by decide, Q_LaneError.is⟩, rfl, ⟨n3.at_, kind_of hs (by decide +kernel)⟩, trivial⟩ (fun pn xe kp' hp' tk' => ?_)
    repeat' walk_at "t"
    refine anyw_3 [] ⟨h, pg, fl, A, S, pages, x, w, _, rfl, rfl, hl, hll, hpl, fun e1 => ⟨[_, _, _], rfl, ?_⟩, fun e1 e2 => ⟨[_, _, _], rfl, ?_⟩, fun e1 e2 e3 => ⟨[_, _, _], rfl, ?_⟩, fun e1 e2 e3 => ⟨[_, _, _], rfl, ?_⟩⟩
    · repeat' walk_at "t"
      exact ⟨[_, _], rfl, some (.noName x), _, _, rfl, rfl, (fun w e => by cases e; exact kn e1), (fun e => nomatch e)⟩
    · repeat' walk_at "t"
      exact ⟨[_, _], rfl, some (.taken x), _, _, rfl, rfl, (fun w e => by cases e; exact kt e1 e2), (fun e => nomatch e)⟩
    · repeat' walk_at "t"
      exact ⟨[_, _], rfl, some .noLane, _, _, rfl, rfl, (fun w e => by cases e; exact kw e1 e2 e3), (fun e => nomatch e)⟩
    · repeat' walk_at "t"
      exact ⟨[_, _], rfl, none, _, _, rfl, rfl, (fun w e => nomatch e), (fun _ => ky e1 e2 e3)⟩
  · rintro vs δ M1 ⟨oe, M2, o3, rfl, rfl, h1, h2⟩ hδ
    obtain rfl : δ = [_, _, _, o3] := hδ
    cases oe with
    | none =>
      repeat' walk_at "t"
      exact any_ret (h2 rfl)
    | some w =>
      have hr := h1 w rfl
      cases w with
      | noName x' =>
        dsimp only [erD]
        repeat' walk_at "t"
        refine ⟨.noName x', rfl, ?_⟩
        exact any_ret hr
      | taken x' =>
        dsimp only [erD]
        repeat' walk_at "t"
        refine ⟨.taken x', rfl, ?_⟩
        exact any_ret hr
      | noLane =>
        dsimp only [erD]
        repeat' walk_at "t"
        refine ⟨.noLane, rfl, ?_⟩
        exact any_ret hr
def pWidthL : DSp := fun ds M Φ => ∃ s g b M', ds = [.raw (.ref s)] ∧ M = (s, .st g b) :: M' ∧ 2 ≤ b ∧ ∀ (r : Int) b', b ≤ b' + 2 → Φ (.int r) ((s, .st g b') :: M')
abbrev rwD (r : Str × Int) : D := .tup [.str r.1, .int r.2, .int 0]
def wordT (x : Str) (w : Int) (rows : List (Str × Int)) : D := if nameB x = false then erT (.noName x) else if x ∈ rows.map (·.1) then erT (.taken x) else if ¬ WdOk w then erT .noLane else .tup [.str "done", .non]
def pWordL : DSp := fun ds M Φ => ∃ x w p, ∃ rows : List (Str × Int), ds = [.str x, .int w, .raw (.ref p)] ∧ Txd x ∧ InM M p (.lst (rows.map rwD)) ∧ rows.length ≤ 100 ∧ Φ (wordT x w rows) M
abbrev s_law_width : Stmt := top 57
def n_law_width : List Str := ["_law_state", "_law_far"]
theorem sc_law_width : FnScope n_law_width ["_law_state"] (defScope s_law_width) := ⟨rfl, rfl, rfl, by decide +kernel, rfl, by decide +kernel, by decide +kernel⟩
theorem d_law_width {P : Program} {w : World} {K : PySem.W.Frag} {mg : Str → Option Value} {base : Heap} {f : Addr} {fd : FuncData} (F : Fun K "_law_width" "_law_width" s_law_width f fd)
    (D_law_take : Def P w K mg base 1 "_law_take" ["_law_state", "_law_many"] pTake) : FnOk P w K mg base CX0 2 f fd ["_law_state"] (lift pWidthL) := by
  refine fnok_of (N := n_law_width) (k := 1) F sc_law_width (fun ds M Φ h => by obtain ⟨s, g, b, M', rfl, rfl, hb, k⟩ := h; rfl) fun X B I ds M Φ h => ?_
  obtain ⟨s, g, b, M', rfl, rfl, hb, k⟩ := h
  obtain ⟨rfl, rfl, rfl, rfl, rfl, hN, hs, hf, z, xe⟩ := I
  have hp := passes_of xe
  have n0 : Lo X 0 "_law_state" := lo_of hN hs hf (by decide +kernel)
  have n1 : Lo X 1 "_law_far" := lo_of hN hs hf (by decide +kernel)
  have l_law_take : Gl X "_law_take" := gl_of hs (by decide +kernel)
  clear F hf
  change DSs _ X (_ :: _) [_, _] _ _
  repeat' walk_at "t"
  rename_i t1 h10 h11 t2 h20 h21
  refine od_ixE (l := [1, 1 + t1, 1000000000, 1000000000 + (1 + t1), 0, 0 - (1 + t1), 1000000000 + 1, 1 + t1, 2]) (f := .int) ⟨by omega, by show _ < (9 : Int); omega⟩ fun y hy => ?_
  exact ⟨_, _, .refl, k y _ (by omega)⟩
abbrev s_law_word : Stmt := top 58
def n_law_word : List Str := ["_law_call", "_law_wide", "_law_rows", "_law_row"]
theorem sc_law_word : FnScope n_law_word ["_law_call", "_law_wide", "_law_rows"] (defScope s_law_word) := ⟨rfl, rfl, rfl, by decide +kernel, rfl, by decide +kernel, by decide +kernel⟩
theorem d_law_word {P : Program} {w : World} {K : PySem.W.Frag} {mg : Str → Option Value} {base : Heap} {f : Addr} {fd : FuncData} (F : Fun K "_law_word" "_law_word" s_law_word f fd)
    (D_law_is_name : Def P w K mg base 1 "_law_is_name" ["_law_call"] pIsNameL) : FnOk P w K mg base CX0 2 f fd ["_law_call", "_law_wide", "_law_rows"] (lift pWordL) := by
  refine fnok_of (N := n_law_word) (k := 1) F sc_law_word (fun ds M Φ h => by obtain ⟨x, w, p, rows, rfl, htx, hin, hrl, k⟩ := h; rfl) fun X B I ds M Φ h => ?_
  obtain ⟨x, w, p, rows, rfl, htx, hin, hrl, k⟩ := h
  obtain ⟨rfl, rfl, rfl, rfl, rfl, hN, hs, hf, z, xe⟩ := I
  have hp := passes_of xe
  have n0 : Lo X 0 "_law_call" := lo_of hN hs hf (by decide +kernel)
  have n1 : Lo X 1 "_law_wide" := lo_of hN hs hf (by decide +kernel)
  have n2 : Lo X 2 "_law_rows" := lo_of hN hs hf (by decide +kernel)
  have l_law_is_name : Gl X "_law_is_name" := gl_of hs (by decide +kernel)
  clear F hf
  change DSs _ X (_ :: _) [_, _, _, _] _ _
  repeat' walk_at "t"
  refine ⟨x, rfl, htx, ?_⟩
  repeat' walk_at "t"
  · rename_i hn
    refine DE.f (df_lcA 0 z hN hs [("_law_row", 3)] (.one 3) (by decide +kernel) (by decide) (fun X' bk => pg_one bk z (bk.lo hN hs (by decide +kernel))) (di_cellA ?_))
    repeat' walk_at "t"
    refine ⟨p, _, rfl, hin, ?_⟩
    refine LcHA.mapT (rows) (rwD) (fun r => r.1) (.str) (Nat.le_trans (show List.length _ ≤ 1000 by first | omega | (simp; done) | (simp; omega)) (by decide)) (fun q acc a ha => ?_) (hin) ?_
    · refine ⟨_, rfl, fun X' bk => ?_⟩
      have c3 : Lo X' 3 "_law_row" := bk.lo hN hs (by decide +kernel)
      have z' := bk.z z
      repeat' walk_at "t"
      exact ⟨rfl, rfl⟩
    refine od_inZ (.val _) ?_
    repeat' walk_at "t"
    · rename_i hi
      rw [show wordT x w rows = erT (.taken x) by unfold wordT; rw [if_neg (by simp [hn]), if_pos hi]] at k
      exact ⟨_, _, .refl, k⟩
    all_goals
      rename_i hi hw
      first
      | (rw [show wordT x w rows = erT .noLane by unfold wordT WdOk; rw [if_neg (by simp [hn]), if_neg (by assumption), if_pos (by omega)]] at k; exact ⟨_, _, .refl, k⟩)
      | (rw [show wordT x w rows = .tup [.str "done", .non] by unfold wordT WdOk; rw [if_neg (by simp [hn]), if_neg (by assumption), if_neg (by omega)]] at k; exact ⟨_, _, .refl, k⟩)
  · rename_i hn
    rw [show wordT x w rows = erT (.noName x) by unfold wordT; rw [if_pos hn]] at k
    exact ⟨_, _, .refl, k⟩
def pStreamRows0 (cH : Addr) (C : FC) : DSpE := fun ds M Φ _ => ∃ h pg fl A S pages M', ds = [.raw (.ref h)] ∧ M = hsM cH C h pg fl A S pages M' ∧ S.ts = [] ∧ Φ (.lst []) M
abbrev s_House_stream_rows : Stmt := inClass (top 47) 11
def n_House_stream_rows : List Str := ["self", "found", "name", "flow", "way"]
theorem sc_House_stream_rows : FnScope n_House_stream_rows ["self"] (defScope s_House_stream_rows) := ⟨rfl, rfl, rfl, by decide +kernel, rfl, by decide +kernel, by decide +kernel⟩
theorem d_House_stream_rows {P : Program} {w : World} {K : PySem.W.Frag} {mg : Str → Option Value} {base : Heap} {c_Floor c_House c_Flow c_Lot : Addr} {f : Addr} {fd : FuncData} (F : FunG K "stream_rows" "House.stream_rows" s_House_stream_rows f fd)
    (A_Floor_terms : FldP K c_Floor "terms") (A_House_floor : FldP K c_House "floor") (A_Flow_jar : FldP K c_Flow "jar") (A_Flow_marks : FldP K c_Flow "marks") : FnOk P w K mg base (L2.CX P w) 1 f fd ["self"] (liftE (anyw (pStreamRows0 c_House ⟨c_Floor, c_Flow, (0 : Addr), c_Lot⟩))) := by
  refine fnokG_of (N := n_House_stream_rows) (k := 0) F sc_House_stream_rows (fun ds M Φ Ξ h => by obtain ⟨L0, B0, M0, rfl, h, pg, fl, A, S, pages, M', rfl, hM, hts, k⟩ := h; rfl) fun X kp ds M Φ Ξ h I => ?_
  obtain ⟨L0, B0, M0, rfl, h, pg, fl, A, S, pages, M', rfl, hM, hts, k⟩ := h
  obtain ⟨rfl, rfl, rfl, rfl, rfl, hN, hs, hf, z, hp, tk, hst, hfr⟩ := I
  have nd := z.nd
  have n0 : Lo X 0 "self" := lo_of hN hs hf (by decide +kernel)
  have n1 : Lo X 1 "found" := lo_of hN hs hf (by decide +kernel)
  have n2 : Lo X 2 "name" := lo_of hN hs hf (by decide +kernel)
  have n3 : Lo X 3 "flow" := lo_of hN hs hf (by decide +kernel)
  have n4 : Lo X 4 "way" := lo_of hN hs hf (by decide +kernel)
  clear F hf
  change DSs _ X (_ :: _) [_, _, _, _, _] _ _
  refine ws_any ?_
  rw [hM] at *
  repeat' ((fail_if_success refine (stSet "found") ?_); walk_at "t")
  first | refine ds_cons (ds_own 0 z n1 (df_lst (da_nil ⟨by decide, fun q => ?_⟩))) | refine ds_own 0 z n1 (df_lst (da_nil ⟨by decide, fun q => ?_⟩))
  walk_at "t"
  repeat' ((fail_if_success refine stFor ?_); walk_at "t")
  first | refine ds_cons (ds_forC [2, 3, 4] z (by assumption) (di_itemsV ?_)) | refine ds_forC [2, 3, 4] z (by assumption) (di_itemsV ?_)
  repeat' walk_at "t"
  refine ⟨S.ts.map tmD, rfl, ?_⟩
  refine ⟨fun i vs M1 => (∃  (o2 o3 o4 : Option D), [o2, o3, o4] = vs ∧ (q, .lst []) :: hsM c_House ⟨c_Floor, c_Flow, (0 : Addr), c_Lot⟩ h pg fl A S pages M' = M1), ⟨_, _, _, rfl, rfl⟩, ?_, ?_⟩
  · rintro i x vs δ M1 hx ⟨o2, o3, o4, rfl, rfl⟩ hδ
    obtain rfl : δ = [_, _, o2, o3, o4] := hδ
    rw [hts] at hx
    cases hx
  · rintro vs δ M1 ⟨o2, o3, o4, rfl, rfl⟩ hδ
    obtain rfl : δ = [_, _, o2, o3, o4] := hδ
    repeat' walk_at "t"
    exact any_retV (.frz 0 rfl) k
/-- rows of a house without shuttings -/
def rowsOf (S : Fl) : List (Str × Int) := S.lns.map fun l => (l.n, l.w)
structure K50 (S : Fl) (pages : List D) (n : Nat) : Prop where
  now : S.now = 0
  ts : S.ts = []
  sh : ∀ l ∈ S.lns, l.s = 0
  nd : LnNd S
  len : S.lns.length ≤ n
  pl : pages.length ≤ n
  tx : ∀ l ∈ S.lns, Txd l.n
theorem K50.up {S : Fl} {P : List D} {n : Nat} (h : K50 S P n) : K50 S P (n + 1) := ⟨h.now, h.ts, h.sh, h.nd, Nat.le_succ_of_le h.len, Nat.le_succ_of_le h.pl, h.tx⟩
theorem k50_start : K50 ⟨0, [], [], []⟩ [] 0 := ⟨rfl, rfl, (fun _ h => nomatch h), List.nodup_nil, Nat.le_refl _, Nat.le_refl _, (fun _ h => nomatch h)⟩
theorem k50_add {S : Fl} {P Q : List D} {n : Nat} {x : Str} {w : Int} (h : K50 S P n) (hx : Txd x) (hno : ¬ hasL x S.lns) (hq : Q.length = P.length + 1) : K50 { S with lns := S.lns ++ [⟨x, w, 0⟩] } Q (n + 1) := by
  have hp := h.pl
  have hl := h.len
  refine ⟨h.now, h.ts, fun l hl => ?_, ?_, by simp; omega, by omega, fun l hl => ?_⟩
  · rcases List.mem_append.mp hl with h1 | h1
    · exact h.sh l h1
    · rw [List.mem_singleton.mp h1]
  · unfold LnNd
    rw [List.map_append]
    refine List.nodup_append.mpr ⟨h.nd, by simp, ?_⟩
    intro a ha b hb e
    simp at hb
    exact hno (by unfold hasL; rw [← hb, ← e]; exact ha)
  · rcases List.mem_append.mp hl with h1 | h1
    · exact h.tx l h1
    · rw [List.mem_singleton.mp h1]; exact hx
theorem rows_has {S : Fl} {x : Str} : x ∈ (rowsOf S).map (·.1) ↔ hasL x S.lns := by unfold rowsOf hasL; rw [List.map_map]; rfl
theorem okE_tup2 {w : Str} {x : Str} (hw : okD (.str w) = true) (hx : okD (.str x) = true) : okE (.tup [.str w, .str x]) = true := by
  unfold okE
  rw [show okD (.tup [.str w, .str x]) = (okD (.str w) && (okD (.str x) && true)) from rfl, hw, hx]; rfl
theorem okE_er {x : Str} (h : Txd x) : okE (erT (.noName x)) = true := okE_tup2 (by decide +kernel) (ok_txd h)
theorem okE_er2 {x : Str} (h : Txd x) : okE (erT (.taken x)) = true := okE_tup2 (by decide +kernel) (ok_txd h)
theorem k50_rows {S : Fl} {P : List D} {n : Nat} (h : K50 S P n) : (rowsOf S).map rwD = S.lns.map (lrD S) := by
  unfold rowsOf
  rw [List.map_map]
  refine List.map_congr_left fun l hl => ?_
  show D.tup [.str l.n, .int l.w, .int 0] = .tup [.str l.n, .int l.w, .int (maxOp S l)]
  unfold maxOp; rw [h.sh l hl, h.now]; rfl
theorem okE_rows {S : Fl} {P : List D} {n : Nat} (h : K50 S P n) : okE (.lst ((rowsOf S).map rwD)) = true := okE_all fun d hd => by
  obtain ⟨r, hr, rfl⟩ := List.mem_map.mp hd
  unfold rowsOf at hr
  obtain ⟨l, hl, rfl⟩ := List.mem_map.mp hr
  refine ⟨?_, by show 1 ≤ 63; decide⟩
  show (okD (.str l.n) && _) = true
  rw [ok_txd (h.tx l hl)]; rfl
theorem isds_refl {M : Mem} : ∀ ds : List D, IsDs M ds ds
  | [] => .nil
  | d :: ds => .cons (.val d) (isds_refl ds)
theorem od_eqSameDD {K : PySem.W.Frag} {M : Mem} {Φ : D → Mem → Prop} {x y x' : D} (hx : IsD M x x') (hy : IsD M y x') (hk : okE x' = true) (k : Φ (.bl true) M) : OpD (rEqU K) x y M Φ := od_eqDD hx hy hk hk (by rw [eqv_refl _ (ok_lay (okE_ok hk))]; exact k)
theorem rows_depth (l : List (Str × Int)) : (toPy (.lst (l.map rwD))).depth ≤ 63 := by
  show PyData.depthAll (toPys (l.map rwD)) + 1 ≤ 63
  have := depth_map (f := rwD) (n := 1) (fun _ => by show 1 ≤ 1; decide) l
  omega
theorem okE_two {a b : List (Str × Int)} (ha : okE (.lst (a.map rwD)) = true) (hb : okE (.lst (b.map rwD)) = true) : okE (.lst [.lst (a.map rwD), .lst (b.map rwD)]) = true := okE_all fun d hd => by
  simp only [List.mem_cons, List.not_mem_nil, or_false] at hd
  rcases hd with rfl | rfl
  · exact ⟨okE_ok ha, rows_depth a⟩
  · exact ⟨okE_ok hb, rows_depth b⟩
abbrev s_law : Stmt := top 59
def n_law : List Str := ["_law_script", "_law_state", "_law_names_here", "_law_houses", "_law_rows", "_law_turn", "_law_which", "_law_spoil", "_law_call", "_law_wide", "_law_due", "_law_house", "_law_row", "_law_told"]
theorem sc_law : FnScope n_law ["_law_script"] (defScope s_law) := ⟨rfl, rfl, rfl, by decide +kernel, rfl, by decide +kernel, by decide +kernel⟩
theorem d_law {P : Program} {w : World} {K : PySem.W.Frag} {mg : Str → Option Value} {base : Heap} {c_House c_Scene c_Floor : Addr} {f : Addr} {fd : FuncData} (F : FunG K "law" "law" s_law f fd)
    (D_law_begun : Def P w K mg base 1 "_law_begun" ["_law_script"] (pBegun K)) (D_law_names : Def P w K mg base 2 "_law_names" ["_law_state", "_law_many"] pNames) (N_House_0 : MakeE P w K mg base 3 "House" c_House 0 [] (selN 1) (pHouseI c_House ⟨c_Floor, c_Flow, (0 : Addr), c_Lot⟩)) (G_range : mg "range" = none) (D_law_take : Def P w K mg base 1 "_law_take" ["_law_state", "_law_many"] pTake) (D_law_pick : Def P w K mg base 2 "_law_pick" ["_law_state", "_law_some"] pPick) (D_law_width : Def P w K mg base 2 "_law_width" ["_law_state"] pWidthL) (D_law_spoilt : Def P w K mg base 2 "_law_spoilt" ["_law_state", "_law_call"] pSpoilt) (G_len : mg "len" = none) (D_law_word : Def P w K mg base 2 "_law_word" ["_law_call", "_law_wide", "_law_rows"] pWordL) (E_law_done_2 : DefE P w K mg base 6 "_law_done" 2 [] (selN 2) (anyw (pDone c_House ⟨c_Floor, c_Flow, (0 : Addr), c_Lot⟩))) (G_zip : mg "zip" = none) (M_House_lane_rows_0 : MethE P w K mg base 2 c_House "lane_rows" 0 [] (selN 1) (anyw (pLaneRows c_House ⟨c_Floor, c_Flow, (0 : Addr), c_Lot⟩))) (G_isinstance : mg "isinstance" = none) (G_list : mg "list" = none) (A_Scene_now : FldP K c_Scene "now") (A_Floor_now : FldP K c_Floor "now") (A_House_now : FldP K c_House "now") (M_House_stream_rows_0 : MethE P w K mg base 1 c_House "stream_rows" 0 [] (selN 1) (anyw (pStreamRows0 c_House ⟨c_Floor, c_Flow, (0 : Addr), c_Lot⟩))) : FnOk P w K mg base (L2.CX P w) 7 f fd ["_law_script"] (liftE (pLawE K)) := by
  refine fnokG_of (N := n_law) (k := 6) F sc_law (fun ds M Φ Ξ h => by obtain ⟨ns, rfl, hl, k⟩ := h; rfl) fun X kp ds M Φ Ξ h I => ?_
  obtain ⟨ns, rfl, hl, k⟩ := h
  obtain ⟨rfl, rfl, rfl, rfl, rfl, hN, hs, hf, z, hp, tk, hst, hfr⟩ := I
  have nd := z.nd
  have n0 : Lo X 0 "_law_script" := lo_of hN hs hf (by decide +kernel)
  have n1 : Lo X 1 "_law_state" := lo_of hN hs hf (by decide +kernel)
  have n2 : Lo X 2 "_law_names_here" := lo_of hN hs hf (by decide +kernel)
  have n3 : Lo X 3 "_law_houses" := lo_of hN hs hf (by decide +kernel)
  have n4 : Lo X 4 "_law_rows" := lo_of hN hs hf (by decide +kernel)
  have n5 : Lo X 5 "_law_turn" := lo_of hN hs hf (by decide +kernel)
  have n6 : Lo X 6 "_law_which" := lo_of hN hs hf (by decide +kernel)
  have n7 : Lo X 7 "_law_spoil" := lo_of hN hs hf (by decide +kernel)
  have n8 : Lo X 8 "_law_call" := lo_of hN hs hf (by decide +kernel)
  have n9 : Lo X 9 "_law_wide" := lo_of hN hs hf (by decide +kernel)
  have n10 : Lo X 10 "_law_due" := lo_of hN hs hf (by decide +kernel)
  have n11 : Lo X 11 "_law_house" := lo_of hN hs hf (by decide +kernel)
  have n12 : Lo X 12 "_law_row" := lo_of hN hs hf (by decide +kernel)
  have n13 : Lo X 13 "_law_told" := lo_of hN hs hf (by decide +kernel)
  have l_law_begun : Gl X "_law_begun" := gl_of hs (by decide +kernel)
  have l_law_names : Gl X "_law_names" := gl_of hs (by decide +kernel)
  have l_House : Gl X "House" := gl_of hs (by decide +kernel)
  have g_range : Gn X "range" := gn_of hs (by decide +kernel) G_range
  have l_law_take : Gl X "_law_take" := gl_of hs (by decide +kernel)
  have l_law_pick : Gl X "_law_pick" := gl_of hs (by decide +kernel)
  have l_law_width : Gl X "_law_width" := gl_of hs (by decide +kernel)
  have l_law_spoilt : Gl X "_law_spoilt" := gl_of hs (by decide +kernel)
  have g_len : Gn X "len" := gn_of hs (by decide +kernel) G_len
  have l_law_word : Gl X "_law_word" := gl_of hs (by decide +kernel)
  have l_law_done : Gl X "_law_done" := gl_of hs (by decide +kernel)
  have g_zip : Gn X "zip" := gn_of hs (by decide +kernel) G_zip
  have g_isinstance : Gn X "isinstance" := gn_of hs (by decide +kernel) G_isinstance
  have g_list : Gn X "list" := gn_of hs (by decide +kernel) G_list
  clear F hf
  change DSs _ X (_ :: _) [_, _, _, _, _, _, _, _, _, _, _, _, _, _] _ _
  repeat' ((fail_if_success refine (stSet "_law_houses") ?_); walk_at "t")
  rename_i s g
  refine ⟨s, g, _, M, 9, rfl, rfl, by omega, by omega, by omega, fun nsx b0 hnx hb0 => ?_⟩
  repeat' walk_at "t"
  rename_i h1
  refine ⟨_, _, rfl, rfl, fun pg1 fl1 A1 => ⟨rfl, _, _, .refl, ?_⟩⟩
  repeat' walk_at "t"
  rename_i h2
  refine ⟨_, _, rfl, rfl, fun pg2 fl2 A2 => ⟨rfl, _, _, .refl, ?_⟩⟩
  repeat' ((fail_if_success refine (stSet "_law_rows") ?_); walk_at "t")
  refine ws_vw (fun d => .perm ((List.perm_append_comm_assoc [_, _, _, _, _, _] [_] M).trans ((List.perm_append_comm_assoc [_, _, _] [_, _, _] M).cons _))) ?_
  refine ds_cons ?_
  walk_at "t"
  refine de_lst (da_cons (DE.own 7 (df_lst ?_)))
  repeat' walk_at "t"
  intro r1
  refine da_cons (DE.own 8 (df_lst ?_))
  repeat' walk_at "t"
  intro r2
  repeat' walk_at "t"
  repeat' ((fail_if_success refine stFor ?_); walk_at "t")
  first | refine ds_cons (ds_forC [5, 6, 7, 8, 9, 10, 11, 12, 13] z (by assumption) (di_range1 (by assumption) ?_)) | refine ds_forC [5, 6, 7, 8, 9, 10, 11, 12, 13] z (by assumption) (di_range1 (by assumption) ?_)
  repeat' walk_at "t"
  refine ⟨by omega, by omega, fun i vs M1 => (∃ (S1 S2 : Fl) (P1 P2 : List D) (b : Nat) (o5 o6 o7 o8 o9 o10 o11 o12 o13 : Option D), [o5, o6, o7, o8, o9, o10, o11, o12, o13] = vs ∧ (s, .st g b) :: hsM c_House ⟨c_Floor, c_Flow, (0 : Addr), c_Lot⟩ h1 pg1 fl1 A1 S1 P1 (hsM c_House ⟨c_Floor, c_Flow, (0 : Addr), c_Lot⟩ h2 pg2 fl2 A2 S2 P2 ((r1, .lst ((rowsOf S1).map rwD)) :: (r2, .lst ((rowsOf S2).map rwD)) :: M)) = M1 ∧ (999999999000 ≤ b + 10 * i) ∧ (K50 S1 P1 i) ∧ (K50 S2 P2 i)), ⟨⟨0, [], [], []⟩, ⟨0, [], [], []⟩, [], [], b0, _, _, _, _, _, _, _, _, _, rfl, rfl, (by omega), (k50_start), (k50_start)⟩, ?_, ?_⟩
  · rintro i x vs δ M1 hx ⟨S1, S2, P1, P2, b, o5, o6, o7, o8, o9, o10, o11, o12, o13, rfl, rfl, hb, hk1, hk2⟩ hδ
    obtain rfl : δ = [_, _, _, _, _, o5, o6, o7, o8, o9, o10, o11, o12, o13] := hδ
    obtain ⟨hi, rfl⟩ := range_get hx
    repeat' ((fail_if_success refine (stSet "_law_wide") ?_); walk_at "t")
    rename_i wh hw0 hw1 sp hsp0 hsp1
    refine ⟨s, g, _, _, _, rfl, rfl, by omega, .inl ⟨_, rfl, by simp [hnx.len], by simp [hnx.len], fun d hd => ?_⟩⟩
    obtain ⟨cl, hcl, rfl⟩ := List.mem_map.mp hd
    have hcn := hnx.nm cl hcl
    repeat' walk_at "t"
    refine ⟨s, g, _, _, rfl, rfl, by omega, fun wd b1 hb1 => ?_⟩
    repeat' ((fail_if_success refine stIf ?_); walk_at "t")
    refine ds_cutC [8] (fun vs M1 => (∃ (cx : Str) (b2 : Nat), [some (.str cx)] = vs ∧ (s, .st g b2) :: hsM c_House ⟨c_Floor, c_Flow, (0 : Addr), c_Lot⟩ h1 pg1 fl1 A1 S1 P1 (hsM c_House ⟨c_Floor, c_Flow, (0 : Addr), c_Lot⟩ h2 pg2 fl2 A2 S2 P2 ((r1, .lst ((rowsOf S1).map rwD)) :: (r2, .lst ((rowsOf S2).map rwD)) :: M)) = M1 ∧ (Txd cx) ∧ (b1 ≤ b2 + 3))) ?_ ?_
    · repeat' walk_at "t"
      · refine ⟨s, g, _, _, cl, rfl, rfl, hcn, by omega, fun y b' hy hb' => ?_⟩
        repeat' walk_at "t"
        exact ⟨[_], rfl, y, b', rfl, rfl, (hy), (by omega)⟩
      · exact ⟨[_], rfl, cl, _, rfl, rfl, (name_txd hcn), (by omega)⟩
    rintro vs δ M1 ⟨cx, b2, rfl, rfl, htx, hb2⟩ hδ
    obtain rfl : δ = [_, _, _, _, _, _, _, _, _, _, _, _, _, _] := hδ
    have hk1' := hk1.up
    have hk2' := hk2.up
    have hwh : wh = 0 ∨ wh = 1 := by omega
    rcases hwh with rfl | rfl
    · repeat' walk_at "t"
      refine od_ixL rfl ?_
      repeat' walk_at "t"
      refine cd_lenLM (l := rowsOf S1) (f := rwD) (.cell 7 rfl) ?_
      repeat' walk_at "t"
      · exact ⟨[_, _, _, _, _, _, _, _, _], rfl, S1, S2, P1, P2, b2, _, _, _, _, _, _, _, _, _, rfl, rfl, (by omega), (hk1'), (hk2')⟩
      rename_i hsix
      have hln : (rowsOf S1).length = S1.lns.length := by unfold rowsOf; simp
      have hkl := hk1.len
      have hkp := hk1.pl
      refine od_ixL rfl ?_
      repeat' walk_at "t"
      refine ⟨cx, wd, r1, rowsOf S1, rfl, htx, .inl (List.mem_of_getElem? (i := 7) rfl), by omega, ?_⟩
      repeat' ((fail_if_success refine stIf ?_); walk_at "t")
      refine ds_cutC [] (fun vs M1 => (∃ (T1 : Fl) (Q1 : List D), [] = vs ∧ (s, .st g b2) :: hsM c_House ⟨c_Floor, c_Flow, (0 : Addr), c_Lot⟩ h1 pg1 fl1 A1 T1 Q1 (hsM c_House ⟨c_Floor, c_Flow, (0 : Addr), c_Lot⟩ h2 pg2 fl2 A2 S2 P2 ((r1, .lst ((rowsOf S1).map rwD)) :: (r2, .lst ((rowsOf S2).map rwD)) :: M)) = M1 ∧ ((wordT cx wd (rowsOf S1) = .tup [.str "done", .non] ∧ T1 = { S1 with lns := S1.lns ++ [⟨cx, wd, 0⟩] } ∧ Q1.length = P1.length + 1 ∧ ¬ hasL cx S1.lns) ∨ (∃ e, wordT cx wd (rowsOf S1) = erT e ∧ T1 = S1 ∧ Q1 = P1)))) ?_ ?_
      · repeat' walk_at "t"
        refine od_ixL rfl ?_
        repeat' walk_at "t"
        refine anyw_3 [_] ⟨h1, pg1, fl1, A1, S1, P1, cx, wd, _, rfl, rfl, by have := htx.1; omega, by omega, by omega, fun e1 => ⟨[_, _, _], rfl, ?_⟩, fun e1 e2 => ⟨[_, _, _], rfl, ?_⟩, fun e1 e2 e3 => ⟨[_, _, _], rfl, ?_⟩, fun e1 e2 e3 => ⟨[_, _, _], rfl, ?_⟩⟩
        · have he : wordT cx wd (rowsOf S1) = erT (.noName cx) := by unfold wordT; rw [if_pos e1]
          repeat' walk_at "t"
          rw [he]
          refine od_neSame (.val _) (.val _) (okE_er htx) ?_
          repeat' walk_at "t"
          exact ⟨[], rfl, S1, P1, rfl, rfl, (.inr ⟨_, rfl, rfl, rfl⟩)⟩
        · have he : wordT cx wd (rowsOf S1) = erT (.taken cx) := by unfold wordT; rw [if_neg (by simp [e1]), if_pos (rows_has.mpr e2)]
          repeat' walk_at "t"
          rw [he]
          refine od_neSame (.val _) (.val _) (okE_er2 htx) ?_
          repeat' walk_at "t"
          exact ⟨[], rfl, S1, P1, rfl, rfl, (.inr ⟨_, rfl, rfl, rfl⟩)⟩
        · have he : wordT cx wd (rowsOf S1) = erT .noLane := by unfold wordT; rw [if_neg (by simp [e1]), if_neg (fun h => e2 (rows_has.mp h)), if_pos e3]
          repeat' walk_at "t"
          rw [he]
          refine od_neSame (.val _) (.val _) (by decide +kernel) ?_
          repeat' walk_at "t"
          exact ⟨[], rfl, S1, P1, rfl, rfl, (.inr ⟨_, rfl, rfl, rfl⟩)⟩
        · have he : wordT cx wd (rowsOf S1) = .tup [.str "done", .non] := by unfold wordT; rw [if_neg (by simp [e1]), if_neg (fun h => e2 (rows_has.mp h)), if_neg (by simpa using e3)]
          repeat' walk_at "t"
          rw [he]
          refine od_neSame (.val _) (.val _) (by decide +kernel) ?_
          repeat' walk_at "t"
          exact ⟨[], rfl, { S1 with lns := S1.lns ++ [⟨cx, wd, 0⟩] }, P1 ++ [bldD cx wd], rfl, rfl, (.inl ⟨rfl, rfl, by simp, e2⟩)⟩
      rintro vs δ M1 ⟨T1, Q1, rfl, rfl, hc⟩ hδ
      obtain rfl : δ = [_, _, _, _, _, _, _, _, _, _, _, _, _, _] := hδ
      refine ds_cutC [] (fun vs M1 => (∃ (U1 : Fl) (V1 : List D), [] = vs ∧ (s, .st g b2) :: hsM c_House ⟨c_Floor, c_Flow, (0 : Addr), c_Lot⟩ h1 pg1 fl1 A1 U1 V1 (hsM c_House ⟨c_Floor, c_Flow, (0 : Addr), c_Lot⟩ h2 pg2 fl2 A2 S2 P2 ((r1, .lst ((rowsOf U1).map rwD)) :: (r2, .lst ((rowsOf S2).map rwD)) :: M)) = M1 ∧ (K50 U1 V1 (i + 1)))) ?_ ?_
      · rcases hc with ⟨he, rfl, hql, hno⟩ | ⟨e, he, rfl, rfl⟩
        · rw [he]
          repeat' walk_at "t"
          refine od_eqS ?_
          rw [decide_eq_true rfl]
          repeat' walk_at "t"
          refine od_ixL rfl ?_
          repeat' walk_at "t"
          refine ⟨⟨_, .cell 7 rfl⟩, ?_⟩
          repeat' walk_at "t"
          refine mt_app (j := 7) (ds := (rowsOf S1).map rwD) rfl (Nat.lt_of_lt_of_le (show List.length _ < 1000 by rw [List.length_map, hln]; omega) (by decide)) ?_
          repeat' walk_at "t"
          exact ⟨[], rfl, { S1 with lns := S1.lns ++ [⟨cx, wd, 0⟩] }, Q1, rfl, (by simp [rowsOf]), (k50_add hk1 htx hno hql)⟩
        · rw [he]
          cases e with
          | noName x' =>
            dsimp only [erT]
            repeat' walk_at "t"
            refine od_eqS ?_
            rw [decide_eq_false (by decide)]
            repeat' walk_at "t"
            exact ⟨[], rfl, _, _, rfl, rfl, (hk1.up)⟩
          | taken x' =>
            dsimp only [erT]
            repeat' walk_at "t"
            refine od_eqS ?_
            rw [decide_eq_false (by decide)]
            repeat' walk_at "t"
            exact ⟨[], rfl, _, _, rfl, rfl, (hk1.up)⟩
          | noLane =>
            dsimp only [erT]
            repeat' walk_at "t"
            refine od_eqS ?_
            rw [decide_eq_false (by decide)]
            repeat' walk_at "t"
            exact ⟨[], rfl, _, _, rfl, rfl, (hk1.up)⟩
      rintro vs δ M1 ⟨U1, V1, rfl, rfl, hkT⟩ hδ
      obtain rfl : δ = [_, _, _, _, _, _, _, _, _, _, _, _, _, _] := hδ
      have hl1 := hkT.len
      have hl2 := hk2'.len
      repeat' ((fail_if_success refine stFor ?_); walk_at "t")
      first | refine ds_cons (ds_forC [11, 12, 13] z (by assumption) (di_zip (by assumption) ?_)) | refine ds_forC [11, 12, 13] z (by assumption) (di_zip (by assumption) ?_)
      repeat' walk_at "t"
      refine ⟨_, _, rfl, rfl, ?_⟩
      refine ⟨fun j vs M1 => (∃  (o11 o12 o13 : Option D), [o11, o12, o13] = vs ∧ (s, .st g b2) :: hsM c_House ⟨c_Floor, c_Flow, (0 : Addr), c_Lot⟩ h1 pg1 fl1 A1 U1 V1 (hsM c_House ⟨c_Floor, c_Flow, (0 : Addr), c_Lot⟩ h2 pg2 fl2 A2 S2 P2 ((r1, .lst ((rowsOf U1).map rwD)) :: (r2, .lst ((rowsOf S2).map rwD)) :: M)) = M1), ⟨_, _, _, rfl, rfl⟩, ?_, ?_⟩
      · rintro j x vs δ M1 hx ⟨o11, o12, o13, rfl, rfl⟩ hδ
        obtain rfl : δ = [_, _, _, _, _, _, _, _, _, _, _, o11, o12, o13] := hδ
        have hj : j = 0 ∨ j = 1 := by have := (List.getElem?_eq_some_iff.mp hx).1; simp [zipD] at this; omega
        rcases hj with rfl | rfl
        · cases hx
          repeat' walk_at "t"
          refine anyw_3 [_] ⟨h1, pg1, fl1, A1, U1, V1, _, rfl, rfl, hkT.nd, by omega, fun q => ⟨[_, _, _, _], rfl, ?_⟩⟩
          repeat' walk_at "t"
          refine od_neSame (x' := .lst ((rowsOf U1).map rwD)) (by rw [k50_rows hkT]; exact .cell 1 rfl) (.cell 8 rfl) (okE_rows hkT) ?_
          repeat' walk_at "t"
          refine CallD.inl (CallD.inl (isi_cl (r := true) (.cell 1 rfl) (by decide +kernel) ?_))
          repeat' ((fail_if_success refine stNil ?_); walk_at "t")
          · rename_i hz
            exact absurd hkT.now hz
          · walk_at "t"
            repeat' ((fail_if_success refine stNil ?_); walk_at "t")
            refine ws_drop (M2 := (s, .st g b2) :: hsM c_House ⟨c_Floor, c_Flow, (0 : Addr), c_Lot⟩ h1 pg1 fl1 A1 U1 V1 (hsM c_House ⟨c_Floor, c_Flow, (0 : Addr), c_Lot⟩ h2 pg2 fl2 A2 S2 P2 ((r1, .lst ((rowsOf U1).map rwD)) :: (r2, .lst ((rowsOf S2).map rwD)) :: M))) (List.Sublist.cons_cons _ (List.sublist_cons_self _ _)) ?_
            repeat' walk_at "t"
            exact ⟨[_, _, _], rfl, _, _, _, rfl, rfl⟩
        · cases hx
          repeat' walk_at "t"
          refine anyw_3 [_, _, _, _] ?_
          refine ⟨h2, pg2, fl2, A2, S2, P2, _, rfl, rfl, hk2'.nd, by omega, fun q => ⟨[_, _, _, _], rfl, ?_⟩⟩
          repeat' walk_at "t"
          refine od_neSame (x' := .lst ((rowsOf S2).map rwD)) (by rw [k50_rows hk2']; exact .cell 4 rfl) (.cell 9 rfl) (okE_rows hk2') ?_
          repeat' walk_at "t"
          refine CallD.inl (CallD.inl (isi_cl (r := true) (.cell 4 rfl) (by decide +kernel) ?_))
          repeat' ((fail_if_success refine stNil ?_); walk_at "t")
          · rename_i hz
            exact absurd hk2'.now hz
          · walk_at "t"
            repeat' ((fail_if_success refine stNil ?_); walk_at "t")
            refine ws_drop (M2 := (s, .st g b2) :: hsM c_House ⟨c_Floor, c_Flow, (0 : Addr), c_Lot⟩ h1 pg1 fl1 A1 U1 V1 (hsM c_House ⟨c_Floor, c_Flow, (0 : Addr), c_Lot⟩ h2 pg2 fl2 A2 S2 P2 ((r1, .lst ((rowsOf U1).map rwD)) :: (r2, .lst ((rowsOf S2).map rwD)) :: M))) (List.Sublist.cons_cons _ (List.Sublist.cons_cons _ (List.Sublist.cons_cons _ (List.Sublist.cons_cons _ (List.sublist_cons_self _ _))))) ?_
            repeat' walk_at "t"
            exact ⟨[_, _, _], rfl, _, _, _, rfl, rfl⟩
      · rintro vs δ M1 ⟨o11, o12, o13, rfl, rfl⟩ hδ
        obtain rfl : δ = [_, _, _, _, _, _, _, _, _, _, _, o11, o12, o13] := hδ
        repeat' walk_at "t"
        exact ⟨[_, _, _, _, _, _, _, _, _], rfl, U1, S2, V1, P2, b2, _, _, _, _, _, _, _, _, _, rfl, rfl, (by omega), (hkT), (hk2')⟩
    · repeat' walk_at "t"
      refine od_ixL rfl ?_
      repeat' walk_at "t"
      refine cd_lenLM (l := rowsOf S2) (f := rwD) (.cell 8 rfl) ?_
      repeat' walk_at "t"
      · exact ⟨[_, _, _, _, _, _, _, _, _], rfl, S1, S2, P1, P2, b2, _, _, _, _, _, _, _, _, _, rfl, rfl, (by omega), (hk1'), (hk2')⟩
      rename_i hsix
      have hln : (rowsOf S2).length = S2.lns.length := by unfold rowsOf; simp
      have hkl := hk2.len
      have hkp := hk2.pl
      refine od_ixL rfl ?_
      repeat' walk_at "t"
      refine ⟨cx, wd, r2, rowsOf S2, rfl, htx, .inl (List.mem_of_getElem? (i := 8) rfl), by omega, ?_⟩
      repeat' ((fail_if_success refine stIf ?_); walk_at "t")
      refine ds_cutC [] (fun vs M1 => (∃ (T1 : Fl) (Q1 : List D), [] = vs ∧ (s, .st g b2) :: hsM c_House ⟨c_Floor, c_Flow, (0 : Addr), c_Lot⟩ h1 pg1 fl1 A1 S1 P1 (hsM c_House ⟨c_Floor, c_Flow, (0 : Addr), c_Lot⟩ h2 pg2 fl2 A2 T1 Q1 ((r1, .lst ((rowsOf S1).map rwD)) :: (r2, .lst ((rowsOf S2).map rwD)) :: M)) = M1 ∧ ((wordT cx wd (rowsOf S2) = .tup [.str "done", .non] ∧ T1 = { S2 with lns := S2.lns ++ [⟨cx, wd, 0⟩] } ∧ Q1.length = P2.length + 1 ∧ ¬ hasL cx S2.lns) ∨ (∃ e, wordT cx wd (rowsOf S2) = erT e ∧ T1 = S2 ∧ Q1 = P2)))) ?_ ?_
      · repeat' walk_at "t"
        refine od_ixL rfl ?_
        repeat' walk_at "t"
        refine anyw_3 [_, _, _, _] ⟨h2, pg2, fl2, A2, S2, P2, cx, wd, _, rfl, rfl, by have := htx.1; omega, by omega, by omega, fun e1 => ⟨[_, _, _], rfl, ?_⟩, fun e1 e2 => ⟨[_, _, _], rfl, ?_⟩, fun e1 e2 e3 => ⟨[_, _, _], rfl, ?_⟩, fun e1 e2 e3 => ⟨[_, _, _], rfl, ?_⟩⟩
        · have he : wordT cx wd (rowsOf S2) = erT (.noName cx) := by unfold wordT; rw [if_pos e1]
          repeat' walk_at "t"
          rw [he]
          refine od_neSame (.val _) (.val _) (okE_er htx) ?_
          repeat' walk_at "t"
          exact ⟨[], rfl, S2, P2, rfl, rfl, (.inr ⟨_, rfl, rfl, rfl⟩)⟩
        · have he : wordT cx wd (rowsOf S2) = erT (.taken cx) := by unfold wordT; rw [if_neg (by simp [e1]), if_pos (rows_has.mpr e2)]
          repeat' walk_at "t"
          rw [he]
          refine od_neSame (.val _) (.val _) (okE_er2 htx) ?_
          repeat' walk_at "t"
          exact ⟨[], rfl, S2, P2, rfl, rfl, (.inr ⟨_, rfl, rfl, rfl⟩)⟩
        · have he : wordT cx wd (rowsOf S2) = erT .noLane := by unfold wordT; rw [if_neg (by simp [e1]), if_neg (fun h => e2 (rows_has.mp h)), if_pos e3]
          repeat' walk_at "t"
          rw [he]
          refine od_neSame (.val _) (.val _) (by decide +kernel) ?_
          repeat' walk_at "t"
          exact ⟨[], rfl, S2, P2, rfl, rfl, (.inr ⟨_, rfl, rfl, rfl⟩)⟩
        · have he : wordT cx wd (rowsOf S2) = .tup [.str "done", .non] := by unfold wordT; rw [if_neg (by simp [e1]), if_neg (fun h => e2 (rows_has.mp h)), if_neg (by simpa using e3)]
          repeat' walk_at "t"
          rw [he]
          refine od_neSame (.val _) (.val _) (by decide +kernel) ?_
          repeat' walk_at "t"
          exact ⟨[], rfl, { S2 with lns := S2.lns ++ [⟨cx, wd, 0⟩] }, P2 ++ [bldD cx wd], rfl, rfl, (.inl ⟨rfl, rfl, by simp, e2⟩)⟩
      rintro vs δ M1 ⟨T1, Q1, rfl, rfl, hc⟩ hδ
      obtain rfl : δ = [_, _, _, _, _, _, _, _, _, _, _, _, _, _] := hδ
      refine ds_cutC [] (fun vs M1 => (∃ (U1 : Fl) (V1 : List D), [] = vs ∧ (s, .st g b2) :: hsM c_House ⟨c_Floor, c_Flow, (0 : Addr), c_Lot⟩ h1 pg1 fl1 A1 S1 P1 (hsM c_House ⟨c_Floor, c_Flow, (0 : Addr), c_Lot⟩ h2 pg2 fl2 A2 U1 V1 ((r1, .lst ((rowsOf S1).map rwD)) :: (r2, .lst ((rowsOf U1).map rwD)) :: M)) = M1 ∧ (K50 U1 V1 (i + 1)))) ?_ ?_
      · rcases hc with ⟨he, rfl, hql, hno⟩ | ⟨e, he, rfl, rfl⟩
        · rw [he]
          repeat' walk_at "t"
          refine od_eqS ?_
          rw [decide_eq_true rfl]
          repeat' walk_at "t"
          refine od_ixL rfl ?_
          repeat' walk_at "t"
          refine ⟨⟨_, .cell 8 rfl⟩, ?_⟩
          repeat' walk_at "t"
          refine mt_app (j := 8) (ds := (rowsOf S2).map rwD) rfl (Nat.lt_of_lt_of_le (show List.length _ < 1000 by rw [List.length_map, hln]; omega) (by decide)) ?_
          repeat' walk_at "t"
          exact ⟨[], rfl, { S2 with lns := S2.lns ++ [⟨cx, wd, 0⟩] }, Q1, rfl, (by simp [rowsOf]), (k50_add hk2 htx hno hql)⟩
        · rw [he]
          cases e with
          | noName x' =>
            dsimp only [erT]
            repeat' walk_at "t"
            refine od_eqS ?_
            rw [decide_eq_false (by decide)]
            repeat' walk_at "t"
            exact ⟨[], rfl, _, _, rfl, rfl, (hk2.up)⟩
          | taken x' =>
            dsimp only [erT]
            repeat' walk_at "t"
            refine od_eqS ?_
            rw [decide_eq_false (by decide)]
            repeat' walk_at "t"
            exact ⟨[], rfl, _, _, rfl, rfl, (hk2.up)⟩
          | noLane =>
            dsimp only [erT]
            repeat' walk_at "t"
            refine od_eqS ?_
            rw [decide_eq_false (by decide)]
            repeat' walk_at "t"
            exact ⟨[], rfl, _, _, rfl, rfl, (hk2.up)⟩
      rintro vs δ M1 ⟨U1, V1, rfl, rfl, hkT⟩ hδ
      obtain rfl : δ = [_, _, _, _, _, _, _, _, _, _, _, _, _, _] := hδ
      have hl1 := hk1'.len
      have hl2 := hkT.len
      repeat' ((fail_if_success refine stFor ?_); walk_at "t")
      first | refine ds_cons (ds_forC [11, 12, 13] z (by assumption) (di_zip (by assumption) ?_)) | refine ds_forC [11, 12, 13] z (by assumption) (di_zip (by assumption) ?_)
      repeat' walk_at "t"
      refine ⟨_, _, rfl, rfl, ?_⟩
      refine ⟨fun j vs M1 => (∃  (o11 o12 o13 : Option D), [o11, o12, o13] = vs ∧ (s, .st g b2) :: hsM c_House ⟨c_Floor, c_Flow, (0 : Addr), c_Lot⟩ h1 pg1 fl1 A1 S1 P1 (hsM c_House ⟨c_Floor, c_Flow, (0 : Addr), c_Lot⟩ h2 pg2 fl2 A2 U1 V1 ((r1, .lst ((rowsOf S1).map rwD)) :: (r2, .lst ((rowsOf U1).map rwD)) :: M)) = M1), ⟨_, _, _, rfl, rfl⟩, ?_, ?_⟩
      · rintro j x vs δ M1 hx ⟨o11, o12, o13, rfl, rfl⟩ hδ
        obtain rfl : δ = [_, _, _, _, _, _, _, _, _, _, _, o11, o12, o13] := hδ
        have hj : j = 0 ∨ j = 1 := by have := (List.getElem?_eq_some_iff.mp hx).1; simp [zipD] at this; omega
        rcases hj with rfl | rfl
        · cases hx
          repeat' walk_at "t"
          refine anyw_3 [_] ⟨h1, pg1, fl1, A1, S1, P1, _, rfl, rfl, hk1'.nd, by omega, fun q => ⟨[_, _, _, _], rfl, ?_⟩⟩
          repeat' walk_at "t"
          refine od_neSame (x' := .lst ((rowsOf S1).map rwD)) (by rw [k50_rows hk1']; exact .cell 1 rfl) (.cell 8 rfl) (okE_rows hk1') ?_
          repeat' walk_at "t"
          refine CallD.inl (CallD.inl (isi_cl (r := true) (.cell 1 rfl) (by decide +kernel) ?_))
          repeat' ((fail_if_success refine stNil ?_); walk_at "t")
          · rename_i hz
            exact absurd hk1'.now hz
          · walk_at "t"
            repeat' ((fail_if_success refine stNil ?_); walk_at "t")
            refine ws_drop (M2 := (s, .st g b2) :: hsM c_House ⟨c_Floor, c_Flow, (0 : Addr), c_Lot⟩ h1 pg1 fl1 A1 S1 P1 (hsM c_House ⟨c_Floor, c_Flow, (0 : Addr), c_Lot⟩ h2 pg2 fl2 A2 U1 V1 ((r1, .lst ((rowsOf S1).map rwD)) :: (r2, .lst ((rowsOf U1).map rwD)) :: M))) (List.Sublist.cons_cons _ (List.sublist_cons_self _ _)) ?_
            repeat' walk_at "t"
            exact ⟨[_, _, _], rfl, _, _, _, rfl, rfl⟩
        · cases hx
          repeat' walk_at "t"
          refine anyw_3 [_, _, _, _] ?_
          refine ⟨h2, pg2, fl2, A2, U1, V1, _, rfl, rfl, hkT.nd, by omega, fun q => ⟨[_, _, _, _], rfl, ?_⟩⟩
          repeat' walk_at "t"
          refine od_neSame (x' := .lst ((rowsOf U1).map rwD)) (by rw [k50_rows hkT]; exact .cell 4 rfl) (.cell 9 rfl) (okE_rows hkT) ?_
          repeat' walk_at "t"
          refine CallD.inl (CallD.inl (isi_cl (r := true) (.cell 4 rfl) (by decide +kernel) ?_))
          repeat' ((fail_if_success refine stNil ?_); walk_at "t")
          · rename_i hz
            exact absurd hkT.now hz
          · walk_at "t"
            repeat' ((fail_if_success refine stNil ?_); walk_at "t")
            refine ws_drop (M2 := (s, .st g b2) :: hsM c_House ⟨c_Floor, c_Flow, (0 : Addr), c_Lot⟩ h1 pg1 fl1 A1 S1 P1 (hsM c_House ⟨c_Floor, c_Flow, (0 : Addr), c_Lot⟩ h2 pg2 fl2 A2 U1 V1 ((r1, .lst ((rowsOf S1).map rwD)) :: (r2, .lst ((rowsOf U1).map rwD)) :: M))) (List.Sublist.cons_cons _ (List.Sublist.cons_cons _ (List.Sublist.cons_cons _ (List.Sublist.cons_cons _ (List.sublist_cons_self _ _))))) ?_
            repeat' walk_at "t"
            exact ⟨[_, _, _], rfl, _, _, _, rfl, rfl⟩
      · rintro vs δ M1 ⟨o11, o12, o13, rfl, rfl⟩ hδ
        obtain rfl : δ = [_, _, _, _, _, _, _, _, _, _, _, o11, o12, o13] := hδ
        repeat' walk_at "t"
        exact ⟨[_, _, _, _, _, _, _, _, _], rfl, S1, U1, P1, V1, b2, _, _, _, _, _, _, _, _, _, rfl, rfl, (by omega), (hk1'), (hkT)⟩
  · rintro vs δ M1 ⟨S1, S2, P1, P2, b, o5, o6, o7, o8, o9, o10, o11, o12, o13, rfl, rfl, hb, hk1, hk2⟩ hδ
    obtain rfl : δ = [_, _, _, _, _, o5, o6, o7, o8, o9, o10, o11, o12, o13] := hδ
    try simp only [range_len, List.length_map, enum_len] at hb hk1 hk2
    have hl1 := hk1.len
    have hl2 := hk2.len
    repeat' walk_at "t"
    refine DE.f (df_lc 0 z hN hs [("_law_house", 11)] (.one 11) (by decide +kernel) (by decide) (fun X' bk => pg_one bk z (bk.lo hN hs (by decide +kernel))) (di_list ?_))
    repeat' walk_at "t"
    refine LcH.mapT [false, true] (fun b => .raw (.ref (if b then h2 else h1))) (fun b => D.lst ((rowsOf (if b then S2 else S1)).map rwD)) (fun d => d) (by decide) (fun q acc a ha => ?_) ?_
    · refine ⟨_, rfl, fun X' bk => ?_⟩
      have c11 : Lo X' 11 "_law_house" := bk.lo hN hs (by decide +kernel)
      have z' := bk.z z
      have M_House_lane_rows_0' := bk.mE M_House_lane_rows_0
      refine DE.vw ?_
      cases a
      · repeat' walk_at "t"
        refine anyw_3 [_, _] ⟨h1, pg1, fl1, A1, S1, P1, _, rfl, rfl, hk1.nd, by omega, fun q2 => ⟨[_, _, _, _], rfl, ?_⟩⟩
        exact ⟨_, _, .frz 2 rfl, by rw [← k50_rows hk1]; rfl, rfl⟩
      · repeat' walk_at "t"
        refine anyw_3 [_, _, _, _, _] ⟨h2, pg2, fl2, A2, S2, P2, _, rfl, rfl, hk2.nd, by omega, fun q2 => ⟨[_, _, _, _], rfl, ?_⟩⟩
        exact ⟨_, _, .frz 5 rfl, by rw [← k50_rows hk2]; rfl, rfl⟩
    repeat' walk_at "t"
    refine od_eqSameDD (x' := .lst [.lst ((rowsOf S1).map rwD), .lst ((rowsOf S2).map rwD)]) (.val _) (.lst (.cons (.cell 7 rfl (isds_refl _)) (.cons (.cell 8 rfl (isds_refl _)) .nil))) (okE_two (okE_rows hk1) (okE_rows hk2)) ?_
    repeat' walk_at "t"
    refine od_ixL rfl ?_
    repeat' walk_at "t"
    refine anyw_3 [_] ⟨h1, pg1, fl1, A1, S1, P1, _, rfl, rfl, hk1.ts, ⟨[_, _, _], rfl, ?_⟩⟩
    repeat' walk_at "t"
    refine od_eqSame (.val _) (.val _) rfl ?_
    exact ⟨_, _, .sub (List.sublist_append_right [_, _, _, _, _, _, _, _, _] M), k⟩
abbrev s_NoName__init : Stmt := inClass (top 6) 0
def n_NoName__init : List Str := ["self", "name"]
theorem sc_NoName__init : FnScope n_NoName__init ["self", "name"] (defScope s_NoName__init) := ⟨rfl, rfl, rfl, by decide +kernel, rfl, by decide +kernel, by decide +kernel⟩
theorem x_NoName__init {P : Program} {w : World} {K : PySem.W.Frag} {mg : Str → Option Value} {base : Heap} {C f : Addr} {fd : FuncData} (F : Fun K "__init__" "NoName.__init__" s_NoName__init f fd) (T : OexC K C) (N_name : PySem.W.findIn K (.ref C) "name" = some none) : FnOk P w K mg base CX0 1 f fd ["self", "name"] (spXI C ["name"]) := by
  refine F.ok sc_NoName__init (fun vs H Q E hl => ?_) fun cdv A outer s H vs Q E hr hl => ?_
  · obtain ⟨a, args, rfl, hl, _⟩ := hl
    simpa using hl
  · obtain ⟨a, args, rfl, hl, ha, kk⟩ := hl
    match args, hl with
    | [v0], _ =>
      refine ⟨_, pss_one (ps_ost (pv 0) (pv 1)), ?_⟩
      refine ⟨_, rfl, _, rfl, a, C, rfl, T, N_name, .inl ⟨ha, fun dx n1 n2 => ?_⟩⟩
      exact kk dx _ n1 n2 (by repeat (first | exact upd_same | rw [upd_ne n2] | rw [upd_ne (Ne.symm n2)])) (by repeat (first | exact upd_same | rw [upd_ne n2] | rw [upd_ne (Ne.symm n2)])) (fun b h1 h2 => by simp only [upd_ne h1, upd_ne h2])
abbrev s_Taken__init : Stmt := inClass (top 7) 0
def n_Taken__init : List Str := ["self", "name"]
theorem sc_Taken__init : FnScope n_Taken__init ["self", "name"] (defScope s_Taken__init) := ⟨rfl, rfl, rfl, by decide +kernel, rfl, by decide +kernel, by decide +kernel⟩
theorem x_Taken__init {P : Program} {w : World} {K : PySem.W.Frag} {mg : Str → Option Value} {base : Heap} {C f : Addr} {fd : FuncData} (F : Fun K "__init__" "Taken.__init__" s_Taken__init f fd) (T : OexC K C) (N_name : PySem.W.findIn K (.ref C) "name" = some none) : FnOk P w K mg base CX0 1 f fd ["self", "name"] (spXI C ["name"]) := by
  refine F.ok sc_Taken__init (fun vs H Q E hl => ?_) fun cdv A outer s H vs Q E hr hl => ?_
  · obtain ⟨a, args, rfl, hl, _⟩ := hl
    simpa using hl
  · obtain ⟨a, args, rfl, hl, ha, kk⟩ := hl
    match args, hl with
    | [v0], _ =>
      refine ⟨_, pss_one (ps_ost (pv 0) (pv 1)), ?_⟩
      refine ⟨_, rfl, _, rfl, a, C, rfl, T, N_name, .inl ⟨ha, fun dx n1 n2 => ?_⟩⟩
      exact kk dx _ n1 n2 (by repeat (first | exact upd_same | rw [upd_ne n2] | rw [upd_ne (Ne.symm n2)])) (by repeat (first | exact upd_same | rw [upd_ne n2] | rw [upd_ne (Ne.symm n2)])) (fun b h1 h2 => by simp only [upd_ne h1, upd_ne h2])
theorem all_mk {l : PySem.W.OpenLaw} {w : World} {K : PySem.W.Frag} {h : Heap} {mg : Str → Option Value} {fa f1 f2 f3 f4 f5 f6 f7 f8 f9 f10 f11 f12 f13 f14 f15 f16 f17 f18 f19 f20 f21 f22 c_Scene c_Floor c_House c_NoName c_Taken c_NoLane c_NoJar c_NoTick c_Unknown c_NoWay c_TooMany c_TooMuch c_NoLot c_NoText c_NoBook c_Lot c_LaneError c_Flow : Addr} (X : K.In h) (G : h.Ns mainGlobals mg) (hfa : mg "law" = some (.ref fa))
    (ac_Scene : PySem.W.nsIn K mainGlobals "Scene" = some (some (.ref c_Scene)))
    (ac_Floor : PySem.W.nsIn K mainGlobals "Floor" = some (some (.ref c_Floor)))
    (ac_House : PySem.W.nsIn K mainGlobals "House" = some (some (.ref c_House)))
    (ac_NoName : PySem.W.nsIn K mainGlobals "NoName" = some (some (.ref c_NoName)))
    (ac_Taken : PySem.W.nsIn K mainGlobals "Taken" = some (some (.ref c_Taken)))
    (ac_NoLane : PySem.W.nsIn K mainGlobals "NoLane" = some (some (.ref c_NoLane)))
    (ac_NoJar : PySem.W.nsIn K mainGlobals "NoJar" = some (some (.ref c_NoJar)))
    (ac_NoTick : PySem.W.nsIn K mainGlobals "NoTick" = some (some (.ref c_NoTick)))
    (ac_Unknown : PySem.W.nsIn K mainGlobals "Unknown" = some (some (.ref c_Unknown)))
    (ac_NoWay : PySem.W.nsIn K mainGlobals "NoWay" = some (some (.ref c_NoWay)))
    (ac_TooMany : PySem.W.nsIn K mainGlobals "TooMany" = some (some (.ref c_TooMany)))
    (ac_TooMuch : PySem.W.nsIn K mainGlobals "TooMuch" = some (some (.ref c_TooMuch)))
    (ac_NoLot : PySem.W.nsIn K mainGlobals "NoLot" = some (some (.ref c_NoLot)))
    (ac_NoText : PySem.W.nsIn K mainGlobals "NoText" = some (some (.ref c_NoText)))
    (ac_NoBook : PySem.W.nsIn K mainGlobals "NoBook" = some (some (.ref c_NoBook)))
    (ac_Lot : PySem.W.nsIn K mainGlobals "Lot" = some (some (.ref c_Lot)))
    (ac_LaneError : PySem.W.nsIn K mainGlobals "LaneError" = some (some (.ref c_LaneError)))
    (ac_Flow : PySem.W.nsIn K mainGlobals "Flow" = some (some (.ref c_Flow)))
    {od1 an1 : Option Addr} {sl1 : Array (Option Value)} {oc1 kV1 dc1 pm1 cd1 ct1 : Value}
    (a1 : PySem.W.nsIn K mainGlobals "_law_begun" = some (some (.ref f1)))
    (l1 : K.lookup f1 = some ⟨oc1, od1, .func (PySem.W.fnOf "_law_begun" "_law_begun" (defArgs s_law_begun) (defBody s_law_begun) (defScope s_law_begun) .none kV1 dc1 pm1 an1 cd1 ct1), sl1⟩)
    (c1 : PySem.W.codeIn K cd1 "_law_begun" = true)
    (k1 : PySem.W.keepIn K (.ref f1) = true)
    {od2 an2 : Option Addr} {sl2 : Array (Option Value)} {oc2 kV2 dc2 pm2 cd2 ct2 : Value}
    (a2 : PySem.W.nsIn K mainGlobals "_law_take" = some (some (.ref f2)))
    (l2 : K.lookup f2 = some ⟨oc2, od2, .func (PySem.W.fnOf "_law_take" "_law_take" (defArgs s_law_take) (defBody s_law_take) (defScope s_law_take) .none kV2 dc2 pm2 an2 cd2 ct2), sl2⟩)
    (c2 : PySem.W.codeIn K cd2 "_law_take" = true)
    (k2 : PySem.W.keepIn K (.ref f2) = true)
    {od3 an3 : Option Addr} {sl3 : Array (Option Value)} {oc3 kV3 dc3 pm3 cd3 ct3 : Value}
    (a3 : PySem.W.nsIn K mainGlobals "_law_names" = some (some (.ref f3)))
    (l3 : K.lookup f3 = some ⟨oc3, od3, .func (PySem.W.fnOf "_law_names" "_law_names" (defArgs s_law_names) (defBody s_law_names) (defScope s_law_names) .none kV3 dc3 pm3 an3 cd3 ct3), sl3⟩)
    (c3 : PySem.W.codeIn K cd3 "_law_names" = true)
    (k3 : PySem.W.keepIn K (.ref f3) = true)
    {od4 an4 : Option Addr} {sl4 : Array (Option Value)} {oc4 kV4 dc4 pm4 cd4 ct4 : Value}
    (a4 : PySem.W.findIn K (.ref c_Floor) "__init__" = some (some (.ref f4)))
    (n4 : PySem.W.isFn K (.ref f4) = true)
    (l4 : K.lookup f4 = some ⟨oc4, od4, .func (PySem.W.fnOf "__init__" "Floor.__init__" (defArgs s_Floor__init) (defBody s_Floor__init) (defScope s_Floor__init) .none kV4 dc4 pm4 an4 cd4 ct4), sl4⟩)
    (c4 : PySem.W.codeIn K cd4 "Floor.__init__" = true)
    (k4 : PySem.W.keepIn K (.ref f4) = true)
    {od5 an5 : Option Addr} {sl5 : Array (Option Value)} {oc5 kV5 dc5 pm5 cd5 ct5 : Value}
    (a5 : PySem.W.findIn K (.ref c_House) "__init__" = some (some (.ref f5)))
    (n5 : PySem.W.isFn K (.ref f5) = true)
    (l5 : K.lookup f5 = some ⟨oc5, od5, .func (PySem.W.fnOf "__init__" "House.__init__" (defArgs s_House__init) (defBody s_House__init) (defScope s_House__init) .none kV5 dc5 pm5 an5 cd5 ct5), sl5⟩)
    (c5 : PySem.W.codeIn K cd5 "House.__init__" = true)
    (k5 : PySem.W.keepIn K (.ref f5) = true)
    {od6 an6 : Option Addr} {sl6 : Array (Option Value)} {oc6 kV6 dc6 pm6 cd6 ct6 : Value}
    (a6 : PySem.W.nsIn K mainGlobals "_law_pick" = some (some (.ref f6)))
    (l6 : K.lookup f6 = some ⟨oc6, od6, .func (PySem.W.fnOf "_law_pick" "_law_pick" (defArgs s_law_pick) (defBody s_law_pick) (defScope s_law_pick) .none kV6 dc6 pm6 an6 cd6 ct6), sl6⟩)
    (c6 : PySem.W.codeIn K cd6 "_law_pick" = true)
    (k6 : PySem.W.keepIn K (.ref f6) = true)
    {od7 an7 : Option Addr} {sl7 : Array (Option Value)} {oc7 kV7 dc7 pm7 cd7 ct7 : Value}
    (a7 : PySem.W.nsIn K mainGlobals "_law_width" = some (some (.ref f7)))
    (l7 : K.lookup f7 = some ⟨oc7, od7, .func (PySem.W.fnOf "_law_width" "_law_width" (defArgs s_law_width) (defBody s_law_width) (defScope s_law_width) .none kV7 dc7 pm7 an7 cd7 ct7), sl7⟩)
    (c7 : PySem.W.codeIn K cd7 "_law_width" = true)
    (k7 : PySem.W.keepIn K (.ref f7) = true)
    {od8 an8 : Option Addr} {sl8 : Array (Option Value)} {oc8 kV8 dc8 pm8 cd8 ct8 : Value}
    (a8 : PySem.W.nsIn K mainGlobals "_law_spoilt" = some (some (.ref f8)))
    (l8 : K.lookup f8 = some ⟨oc8, od8, .func (PySem.W.fnOf "_law_spoilt" "_law_spoilt" (defArgs s_law_spoilt) (defBody s_law_spoilt) (defScope s_law_spoilt) .none kV8 dc8 pm8 an8 cd8 ct8), sl8⟩)
    (c8 : PySem.W.codeIn K cd8 "_law_spoilt" = true)
    (k8 : PySem.W.keepIn K (.ref f8) = true)
    {od9 an9 : Option Addr} {sl9 : Array (Option Value)} {oc9 kV9 dc9 pm9 cd9 ct9 : Value}
    (a9 : PySem.W.nsIn K mainGlobals "_law_is_name" = some (some (.ref f9)))
    (l9 : K.lookup f9 = some ⟨oc9, od9, .func (PySem.W.fnOf "_law_is_name" "_law_is_name" (defArgs s_law_is_name) (defBody s_law_is_name) (defScope s_law_is_name) .none kV9 dc9 pm9 an9 cd9 ct9), sl9⟩)
    (c9 : PySem.W.codeIn K cd9 "_law_is_name" = true)
    (k9 : PySem.W.keepIn K (.ref f9) = true)
    {od10 an10 : Option Addr} {sl10 : Array (Option Value)} {oc10 kV10 dc10 pm10 cd10 ct10 : Value}
    (a10 : PySem.W.nsIn K mainGlobals "_law_word" = some (some (.ref f10)))
    (l10 : K.lookup f10 = some ⟨oc10, od10, .func (PySem.W.fnOf "_law_word" "_law_word" (defArgs s_law_word) (defBody s_law_word) (defScope s_law_word) .none kV10 dc10 pm10 an10 cd10 ct10), sl10⟩)
    (c10 : PySem.W.codeIn K cd10 "_law_word" = true)
    (k10 : PySem.W.keepIn K (.ref f10) = true)
    {od11 an11 : Option Addr} {sl11 : Array (Option Value)} {oc11 kV11 dc11 pm11 cd11 ct11 : Value}
    (a11 : PySem.W.nsIn K mainGlobals "is_name" = some (some (.ref f11)))
    (l11 : K.lookup f11 = some ⟨oc11, od11, .func (PySem.W.fnOf "is_name" "is_name" (defArgs s_is_name) (defBody s_is_name) (defScope s_is_name) .none kV11 dc11 pm11 an11 cd11 ct11), sl11⟩)
    (c11 : PySem.W.codeIn K cd11 "is_name" = true)
    (k11 : PySem.W.keepIn K (.ref f11) = true)
    {od12 an12 : Option Addr} {sl12 : Array (Option Value)} {oc12 kV12 dc12 pm12 cd12 ct12 : Value}
    (a12 : PySem.W.findIn K (.ref c_Floor) "need_new" = some (some (.ref f12)))
    (n12 : PySem.W.isFn K (.ref f12) = true)
    (l12 : K.lookup f12 = some ⟨oc12, od12, .func (PySem.W.fnOf "need_new" "Floor.need_new" (defArgs s_Floor_need_new) (defBody s_Floor_need_new) (defScope s_Floor_need_new) .none kV12 dc12 pm12 an12 cd12 ct12), sl12⟩)
    (c12 : PySem.W.codeIn K cd12 "Floor.need_new" = true)
    (k12 : PySem.W.keepIn K (.ref f12) = true)
    {od13 an13 : Option Addr} {sl13 : Array (Option Value)} {oc13 kV13 dc13 pm13 cd13 ct13 : Value}
    (a13 : PySem.W.findIn K (.ref c_Floor) "need_width" = some (some (.ref f13)))
    (n13 : PySem.W.isFn K (.ref f13) = true)
    (l13 : K.lookup f13 = some ⟨oc13, od13, .func (PySem.W.fnOf "need_width" "Floor.need_width" (defArgs s_Floor_need_width) (defBody s_Floor_need_width) (defScope s_Floor_need_width) .none kV13 dc13 pm13 an13 cd13 ct13), sl13⟩)
    (c13 : PySem.W.codeIn K cd13 "Floor.need_width" = true)
    (k13 : PySem.W.keepIn K (.ref f13) = true)
    {od14 an14 : Option Addr} {sl14 : Array (Option Value)} {oc14 kV14 dc14 pm14 cd14 ct14 : Value}
    (a14 : PySem.W.findIn K (.ref c_Floor) "need_build" = some (some (.ref f14)))
    (n14 : PySem.W.isFn K (.ref f14) = true)
    (l14 : K.lookup f14 = some ⟨oc14, od14, .func (PySem.W.fnOf "need_build" "Floor.need_build" (defArgs s_Floor_need_build) (defBody s_Floor_need_build) (defScope s_Floor_need_build) .none kV14 dc14 pm14 an14 cd14 ct14), sl14⟩)
    (c14 : PySem.W.codeIn K cd14 "Floor.need_build" = true)
    (k14 : PySem.W.keepIn K (.ref f14) = true)
    {od15 an15 : Option Addr} {sl15 : Array (Option Value)} {oc15 kV15 dc15 pm15 cd15 ct15 : Value}
    (a15 : PySem.W.findIn K (.ref c_Floor) "add_lane" = some (some (.ref f15)))
    (n15 : PySem.W.isFn K (.ref f15) = true)
    (l15 : K.lookup f15 = some ⟨oc15, od15, .func (PySem.W.fnOf "add_lane" "Floor.add_lane" (defArgs s_Floor_add_lane) (defBody s_Floor_add_lane) (defScope s_Floor_add_lane) .none kV15 dc15 pm15 an15 cd15 ct15), sl15⟩)
    (c15 : PySem.W.codeIn K cd15 "Floor.add_lane" = true)
    (k15 : PySem.W.keepIn K (.ref f15) = true)
    {od16 an16 : Option Addr} {sl16 : Array (Option Value)} {oc16 kV16 dc16 pm16 cd16 ct16 : Value}
    (a16 : PySem.W.findIn K (.ref c_House) "build" = some (some (.ref f16)))
    (n16 : PySem.W.isFn K (.ref f16) = true)
    (l16 : K.lookup f16 = some ⟨oc16, od16, .func (PySem.W.fnOf "build" "House.build" (defArgs s_House_build) (defBody s_House_build) (defScope s_House_build) .none kV16 dc16 pm16 an16 cd16 ct16), sl16⟩)
    (c16 : PySem.W.codeIn K cd16 "House.build" = true)
    (k16 : PySem.W.keepIn K (.ref f16) = true)
    {od17 an17 : Option Addr} {sl17 : Array (Option Value)} {oc17 kV17 dc17 pm17 cd17 ct17 : Value}
    (a17 : PySem.W.nsIn K mainGlobals "_law_alone" = some (some (.ref f17)))
    (l17 : K.lookup f17 = some ⟨oc17, od17, .func (PySem.W.fnOf "_law_alone" "_law_alone" (defArgs s_law_alone) (defBody s_law_alone) (defScope s_law_alone) .none kV17 dc17 pm17 an17 cd17 ct17), sl17⟩)
    (c17 : PySem.W.codeIn K cd17 "_law_alone" = true)
    (k17 : PySem.W.keepIn K (.ref f17) = true)
    {od18 an18 : Option Addr} {sl18 : Array (Option Value)} {oc18 kV18 dc18 pm18 cd18 ct18 : Value}
    (a18 : PySem.W.nsIn K mainGlobals "_law_done" = some (some (.ref f18)))
    (l18 : K.lookup f18 = some ⟨oc18, od18, .func (PySem.W.fnOf "_law_done" "_law_done" (defArgs s_law_done) (defBody s_law_done) (defScope s_law_done) .none kV18 dc18 pm18 an18 cd18 ct18), sl18⟩)
    (c18 : PySem.W.codeIn K cd18 "_law_done" = true)
    (k18 : PySem.W.keepIn K (.ref f18) = true)
    {od19 an19 : Option Addr} {sl19 : Array (Option Value)} {oc19 kV19 dc19 pm19 cd19 ct19 : Value}
    (a19 : PySem.W.findIn K (.ref c_Floor) "opens_of" = some (some (.ref f19)))
    (n19 : PySem.W.isFn K (.ref f19) = true)
    (l19 : K.lookup f19 = some ⟨oc19, od19, .func (PySem.W.fnOf "opens_of" "Floor.opens_of" (defArgs s_Floor_opens_of) (defBody s_Floor_opens_of) (defScope s_Floor_opens_of) .none kV19 dc19 pm19 an19 cd19 ct19), sl19⟩)
    (c19 : PySem.W.codeIn K cd19 "Floor.opens_of" = true)
    (k19 : PySem.W.keepIn K (.ref f19) = true)
    {od20 an20 : Option Addr} {sl20 : Array (Option Value)} {oc20 kV20 dc20 pm20 cd20 ct20 : Value}
    (a20 : PySem.W.findIn K (.ref c_House) "lane_rows" = some (some (.ref f20)))
    (n20 : PySem.W.isFn K (.ref f20) = true)
    (l20 : K.lookup f20 = some ⟨oc20, od20, .func (PySem.W.fnOf "lane_rows" "House.lane_rows" (defArgs s_House_lane_rows) (defBody s_House_lane_rows) (defScope s_House_lane_rows) .none kV20 dc20 pm20 an20 cd20 ct20), sl20⟩)
    (c20 : PySem.W.codeIn K cd20 "House.lane_rows" = true)
    (k20 : PySem.W.keepIn K (.ref f20) = true)
    {od21 an21 : Option Addr} {sl21 : Array (Option Value)} {oc21 kV21 dc21 pm21 cd21 ct21 : Value}
    (a21 : PySem.W.findIn K (.ref c_House) "stream_rows" = some (some (.ref f21)))
    (n21 : PySem.W.isFn K (.ref f21) = true)
    (l21 : K.lookup f21 = some ⟨oc21, od21, .func (PySem.W.fnOf "stream_rows" "House.stream_rows" (defArgs s_House_stream_rows) (defBody s_House_stream_rows) (defScope s_House_stream_rows) .none kV21 dc21 pm21 an21 cd21 ct21), sl21⟩)
    (c21 : PySem.W.codeIn K cd21 "House.stream_rows" = true)
    (k21 : PySem.W.keepIn K (.ref f21) = true)
    {od22 an22 : Option Addr} {sl22 : Array (Option Value)} {oc22 kV22 dc22 pm22 cd22 ct22 : Value}
    (a22 : PySem.W.nsIn K mainGlobals "law" = some (some (.ref f22)))
    (l22 : K.lookup f22 = some ⟨oc22, od22, .func (PySem.W.fnOf "law" "law" (defArgs s_law) (defBody s_law) (defScope s_law) .none kV22 dc22 pm22 an22 cd22 ct22), sl22⟩)
    (c22 : PySem.W.codeIn K cd22 "law" = true)
    (k22 : PySem.W.keepIn K (.ref f22) = true)
    (z_len : PySem.W.nsIn K mainGlobals "len" = some none)
    (z_range : PySem.W.nsIn K mainGlobals "range" = some none)
    (pg_Scene : PySem.W.plainGet K c_Scene Str.empty = true)
    (hd_Scene : PySem.W.hasDictIn K c_Scene = true)
    (po_Scene : PySem.W.plainOver K c_Scene = true)
    (sa_Scene : PySem.W.findIn K (.ref c_Scene) "__setattr__" = some (some (.builtin "object.__setattr__")))
    (yA_Scene_now : PySem.W.findIn K (.ref c_Scene) "now" = some none)
    (pg_Floor : PySem.W.plainGet K c_Floor Str.empty = true)
    (hd_Floor : PySem.W.hasDictIn K c_Floor = true)
    (po_Floor : PySem.W.plainOver K c_Floor = true)
    (sa_Floor : PySem.W.findIn K (.ref c_Floor) "__setattr__" = some (some (.builtin "object.__setattr__")))
    (yA_Floor_now : PySem.W.findIn K (.ref c_Floor) "now" = some none)
    (pg_House : PySem.W.plainGet K c_House Str.empty = true)
    (hd_House : PySem.W.hasDictIn K c_House = true)
    (po_House : PySem.W.plainOver K c_House = true)
    (sa_House : PySem.W.findIn K (.ref c_House) "__setattr__" = some (some (.builtin "object.__setattr__")))
    (yA_House_now : PySem.W.findIn K (.ref c_House) "now" = some none)
    (yA_Floor_widths : PySem.W.findIn K (.ref c_Floor) "widths" = some none)
    (yA_Floor_shut_until : PySem.W.findIn K (.ref c_Floor) "shut_until" = some none)
    (yA_Floor_terms : PySem.W.findIn K (.ref c_Floor) "terms" = some none)
    (yA_Floor_line : PySem.W.findIn K (.ref c_Floor) "line" = some none)
    (yA_House_floor : PySem.W.findIn K (.ref c_House) "floor" = some none)
    (mk_Floor : PySem.W.makesIn K c_Floor = true)
    (mkk_Floor : PySem.W.keepIn K (.ref c_Floor) = true)
    (yA_House_pages : PySem.W.findIn K (.ref c_House) "pages" = some none)
    {t_LETTERS : Tok}
    (v_LETTERS : PySem.W.nsIn K mainGlobals "LETTERS" = some (some (.str "abcdefghijklmnopqrstuvwxyz" t_LETTERS)))
    (xk_NoName : PySem.W.keepIn K (.ref c_NoName) = true)
    (xs_NoName : PySem.W.subIn K (.ref c_NoName) (.type "BaseException") = some true)
    (xt_NoName : PySem.W.typeIn K (.ref c_NoName) = some (.type "type"))
    {nm_NoName q_NoName : Str} {N_NoName : Addr} {bs_NoName bm_NoName sub_NoName : List Value} {sn_NoName : List Str} {ab_NoName : Bool} {col_NoName : Option Bool} {dd_NoName : Option Addr} {m0_NoName m1_NoName m2_NoName m3_NoName m5_NoName : Option Value} {fI_NoName : Addr}
    (xL_NoName : K.lookup c_NoName = some (excClassObj nm_NoName q_NoName c_NoName N_NoName bs_NoName bm_NoName true sn_NoName sub_NoName ab_NoName col_NoName dd_NoName m0_NoName m1_NoName m2_NoName m3_NoName m5_NoName "ValueError.__new__"))
    (xr_NoName : PySem.HandSPX.refsVE bm_NoName = true)
    (xsa_NoName : PySem.W.findIn K (.ref c_NoName) "__setattr__" = some (some (.builtin "object.__setattr__")))
    (xi_NoName : PySem.W.findIn K (.ref c_NoName) "__init__" = some (some (.ref fI_NoName)))
    (xti_NoName : PySem.W.typeIn K (.ref fI_NoName) = some (.type "function"))
    (xki_NoName : PySem.W.keepIn K (.ref fI_NoName) = true)
    {odI_NoName anI_NoName : Option Addr} {slI_NoName : Array (Option Value)} {ocI_NoName kVI_NoName dcI_NoName pmI_NoName cdI_NoName ctI_NoName : Value}
    (xl_NoName : K.lookup fI_NoName = some ⟨ocI_NoName, odI_NoName, .func (PySem.W.fnOf "__init__" "NoName.__init__" (defArgs s_NoName__init) (defBody s_NoName__init) (defScope s_NoName__init) .none kVI_NoName dcI_NoName pmI_NoName anI_NoName cdI_NoName ctI_NoName), slI_NoName⟩)
    (xc_NoName : PySem.W.codeIn K cdI_NoName "NoName.__init__" = true)
    (xn_NoName_name : PySem.W.findIn K (.ref c_NoName) "name" = some none)
    (xk_Taken : PySem.W.keepIn K (.ref c_Taken) = true)
    (xs_Taken : PySem.W.subIn K (.ref c_Taken) (.type "BaseException") = some true)
    (xt_Taken : PySem.W.typeIn K (.ref c_Taken) = some (.type "type"))
    {nm_Taken q_Taken : Str} {N_Taken : Addr} {bs_Taken bm_Taken sub_Taken : List Value} {sn_Taken : List Str} {ab_Taken : Bool} {col_Taken : Option Bool} {dd_Taken : Option Addr} {m0_Taken m1_Taken m2_Taken m3_Taken m5_Taken : Option Value} {fI_Taken : Addr}
    (xL_Taken : K.lookup c_Taken = some (excClassObj nm_Taken q_Taken c_Taken N_Taken bs_Taken bm_Taken true sn_Taken sub_Taken ab_Taken col_Taken dd_Taken m0_Taken m1_Taken m2_Taken m3_Taken m5_Taken "ValueError.__new__"))
    (xr_Taken : PySem.HandSPX.refsVE bm_Taken = true)
    (xsa_Taken : PySem.W.findIn K (.ref c_Taken) "__setattr__" = some (some (.builtin "object.__setattr__")))
    (xi_Taken : PySem.W.findIn K (.ref c_Taken) "__init__" = some (some (.ref fI_Taken)))
    (xti_Taken : PySem.W.typeIn K (.ref fI_Taken) = some (.type "function"))
    (xki_Taken : PySem.W.keepIn K (.ref fI_Taken) = true)
    {odI_Taken anI_Taken : Option Addr} {slI_Taken : Array (Option Value)} {ocI_Taken kVI_Taken dcI_Taken pmI_Taken cdI_Taken ctI_Taken : Value}
    (xl_Taken : K.lookup fI_Taken = some ⟨ocI_Taken, odI_Taken, .func (PySem.W.fnOf "__init__" "Taken.__init__" (defArgs s_Taken__init) (defBody s_Taken__init) (defScope s_Taken__init) .none kVI_Taken dcI_Taken pmI_Taken anI_Taken cdI_Taken ctI_Taken), slI_Taken⟩)
    (xc_Taken : PySem.W.codeIn K cdI_Taken "Taken.__init__" = true)
    (xn_Taken_name : PySem.W.findIn K (.ref c_Taken) "name" = some none)
    {t_GREATEST_floor : Tok}
    (v_GREATEST_floor : PySem.W.nsIn K mainGlobals "GREATEST_floor" = some (some (.int 1000000000 t_GREATEST_floor)))
    (xk_NoLane : PySem.W.keepIn K (.ref c_NoLane) = true)
    (xs_NoLane : PySem.W.subIn K (.ref c_NoLane) (.type "BaseException") = some true)
    (xt_NoLane : PySem.W.typeIn K (.ref c_NoLane) = some (.type "type"))
    (xq_NoLane : PySem.W.excIn K c_NoLane [.type "ValueError", .type "Exception", .type "BaseException", .type "object"] "ValueError.__new__" = true)
    (sb_NoJar_NoName : PySem.W.subIn K (.ref c_NoJar) (.ref c_NoName) = some false)
    (sb_NoName_NoName : PySem.W.subIn K (.ref c_NoName) (.ref c_NoName) = some true)
    (xhd_NoName : PySem.W.hasDictIn K c_NoName = true)
    (xk_NoJar : PySem.W.keepIn K (.ref c_NoJar) = true)
    (xs_NoJar : PySem.W.subIn K (.ref c_NoJar) (.type "BaseException") = some true)
    (xt_NoJar : PySem.W.typeIn K (.ref c_NoJar) = some (.type "type"))
    (xga_NoJar : PySem.W.findIn K (.ref c_NoJar) "__getattribute__" = some (some (.builtin "BaseException.__getattribute__")))
    (xgg_NoJar : PySem.W.findIn K (.ref c_NoJar) "__getattr__" = some none)
    (ob1 : PySem.W.specialIn K (.builtin "object.__class__") "__get__" = some (some (.builtin "getset_descriptor.__get__")))
    (ob2 : PySem.W.takesIn K (.builtin "object.__class__") = some true)
    (xhd_NoJar : PySem.W.hasDictIn K c_NoJar = true)
    (eha_NoJar : PySem.W.findIn K (.ref c_NoJar) "__class__" = some (some (.builtin "object.__class__")))
    (ehm_NoJar : PySem.W.mroIn K c_NoJar (.type "object") = some true)
    (sb_NoTick_NoName : PySem.W.subIn K (.ref c_NoTick) (.ref c_NoName) = some false)
    (xk_NoTick : PySem.W.keepIn K (.ref c_NoTick) = true)
    (xs_NoTick : PySem.W.subIn K (.ref c_NoTick) (.type "BaseException") = some true)
    (xt_NoTick : PySem.W.typeIn K (.ref c_NoTick) = some (.type "type"))
    (xga_NoTick : PySem.W.findIn K (.ref c_NoTick) "__getattribute__" = some (some (.builtin "BaseException.__getattribute__")))
    (xgg_NoTick : PySem.W.findIn K (.ref c_NoTick) "__getattr__" = some none)
    (xhd_NoTick : PySem.W.hasDictIn K c_NoTick = true)
    (eha_NoTick : PySem.W.findIn K (.ref c_NoTick) "__class__" = some (some (.builtin "object.__class__")))
    (ehm_NoTick : PySem.W.mroIn K c_NoTick (.type "object") = some true)
    (sb_NoLane_NoName : PySem.W.subIn K (.ref c_NoLane) (.ref c_NoName) = some false)
    (xga_NoLane : PySem.W.findIn K (.ref c_NoLane) "__getattribute__" = some (some (.builtin "BaseException.__getattribute__")))
    (xgg_NoLane : PySem.W.findIn K (.ref c_NoLane) "__getattr__" = some none)
    (xhd_NoLane : PySem.W.hasDictIn K c_NoLane = true)
    (eha_NoLane : PySem.W.findIn K (.ref c_NoLane) "__class__" = some (some (.builtin "object.__class__")))
    (ehm_NoLane : PySem.W.mroIn K c_NoLane (.type "object") = some true)
    (xga_NoName : PySem.W.findIn K (.ref c_NoName) "__getattribute__" = some (some (.builtin "BaseException.__getattribute__")))
    (xgg_NoName : PySem.W.findIn K (.ref c_NoName) "__getattr__" = some none)
    (eha_NoName : PySem.W.findIn K (.ref c_NoName) "__class__" = some (some (.builtin "object.__class__")))
    (ehm_NoName : PySem.W.mroIn K c_NoName (.type "object") = some true)
    (sb_Taken_NoName : PySem.W.subIn K (.ref c_Taken) (.ref c_NoName) = some false)
    (xga_Taken : PySem.W.findIn K (.ref c_Taken) "__getattribute__" = some (some (.builtin "BaseException.__getattribute__")))
    (xgg_Taken : PySem.W.findIn K (.ref c_Taken) "__getattr__" = some none)
    (xhd_Taken : PySem.W.hasDictIn K c_Taken = true)
    (eha_Taken : PySem.W.findIn K (.ref c_Taken) "__class__" = some (some (.builtin "object.__class__")))
    (ehm_Taken : PySem.W.mroIn K c_Taken (.type "object") = some true)
    (sb_Unknown_NoName : PySem.W.subIn K (.ref c_Unknown) (.ref c_NoName) = some false)
    (xk_Unknown : PySem.W.keepIn K (.ref c_Unknown) = true)
    (xs_Unknown : PySem.W.subIn K (.ref c_Unknown) (.type "BaseException") = some true)
    (xt_Unknown : PySem.W.typeIn K (.ref c_Unknown) = some (.type "type"))
    (xga_Unknown : PySem.W.findIn K (.ref c_Unknown) "__getattribute__" = some (some (.builtin "BaseException.__getattribute__")))
    (xgg_Unknown : PySem.W.findIn K (.ref c_Unknown) "__getattr__" = some none)
    (xhd_Unknown : PySem.W.hasDictIn K c_Unknown = true)
    (eha_Unknown : PySem.W.findIn K (.ref c_Unknown) "__class__" = some (some (.builtin "object.__class__")))
    (ehm_Unknown : PySem.W.mroIn K c_Unknown (.type "object") = some true)
    (sb_NoWay_NoName : PySem.W.subIn K (.ref c_NoWay) (.ref c_NoName) = some false)
    (xk_NoWay : PySem.W.keepIn K (.ref c_NoWay) = true)
    (xs_NoWay : PySem.W.subIn K (.ref c_NoWay) (.type "BaseException") = some true)
    (xt_NoWay : PySem.W.typeIn K (.ref c_NoWay) = some (.type "type"))
    (xga_NoWay : PySem.W.findIn K (.ref c_NoWay) "__getattribute__" = some (some (.builtin "BaseException.__getattribute__")))
    (xgg_NoWay : PySem.W.findIn K (.ref c_NoWay) "__getattr__" = some none)
    (xhd_NoWay : PySem.W.hasDictIn K c_NoWay = true)
    (eha_NoWay : PySem.W.findIn K (.ref c_NoWay) "__class__" = some (some (.builtin "object.__class__")))
    (ehm_NoWay : PySem.W.mroIn K c_NoWay (.type "object") = some true)
    (sb_TooMany_NoName : PySem.W.subIn K (.ref c_TooMany) (.ref c_NoName) = some false)
    (xk_TooMany : PySem.W.keepIn K (.ref c_TooMany) = true)
    (xs_TooMany : PySem.W.subIn K (.ref c_TooMany) (.type "BaseException") = some true)
    (xt_TooMany : PySem.W.typeIn K (.ref c_TooMany) = some (.type "type"))
    (xga_TooMany : PySem.W.findIn K (.ref c_TooMany) "__getattribute__" = some (some (.builtin "BaseException.__getattribute__")))
    (xgg_TooMany : PySem.W.findIn K (.ref c_TooMany) "__getattr__" = some none)
    (xhd_TooMany : PySem.W.hasDictIn K c_TooMany = true)
    (eha_TooMany : PySem.W.findIn K (.ref c_TooMany) "__class__" = some (some (.builtin "object.__class__")))
    (ehm_TooMany : PySem.W.mroIn K c_TooMany (.type "object") = some true)
    (sb_TooMuch_NoName : PySem.W.subIn K (.ref c_TooMuch) (.ref c_NoName) = some false)
    (xk_TooMuch : PySem.W.keepIn K (.ref c_TooMuch) = true)
    (xs_TooMuch : PySem.W.subIn K (.ref c_TooMuch) (.type "BaseException") = some true)
    (xt_TooMuch : PySem.W.typeIn K (.ref c_TooMuch) = some (.type "type"))
    (xga_TooMuch : PySem.W.findIn K (.ref c_TooMuch) "__getattribute__" = some (some (.builtin "BaseException.__getattribute__")))
    (xgg_TooMuch : PySem.W.findIn K (.ref c_TooMuch) "__getattr__" = some none)
    (xhd_TooMuch : PySem.W.hasDictIn K c_TooMuch = true)
    (eha_TooMuch : PySem.W.findIn K (.ref c_TooMuch) "__class__" = some (some (.builtin "object.__class__")))
    (ehm_TooMuch : PySem.W.mroIn K c_TooMuch (.type "object") = some true)
    (sb_NoneType_NoName : PySem.W.subIn K (.type "NoneType") (.ref c_NoName) = some false)
    (z_isinstance : PySem.W.nsIn K mainGlobals "isinstance" = some none)
    (sb_NoJar_Taken : PySem.W.subIn K (.ref c_NoJar) (.ref c_Taken) = some false)
    (sb_Taken_Taken : PySem.W.subIn K (.ref c_Taken) (.ref c_Taken) = some true)
    (sb_NoTick_Taken : PySem.W.subIn K (.ref c_NoTick) (.ref c_Taken) = some false)
    (sb_NoLane_Taken : PySem.W.subIn K (.ref c_NoLane) (.ref c_Taken) = some false)
    (sb_NoName_Taken : PySem.W.subIn K (.ref c_NoName) (.ref c_Taken) = some false)
    (sb_Unknown_Taken : PySem.W.subIn K (.ref c_Unknown) (.ref c_Taken) = some false)
    (sb_NoWay_Taken : PySem.W.subIn K (.ref c_NoWay) (.ref c_Taken) = some false)
    (sb_TooMany_Taken : PySem.W.subIn K (.ref c_TooMany) (.ref c_Taken) = some false)
    (sb_TooMuch_Taken : PySem.W.subIn K (.ref c_TooMuch) (.ref c_Taken) = some false)
    (sb_NoneType_Taken : PySem.W.subIn K (.type "NoneType") (.ref c_Taken) = some false)
    (sb_NoJar_Unknown : PySem.W.subIn K (.ref c_NoJar) (.ref c_Unknown) = some false)
    (sb_Unknown_Unknown : PySem.W.subIn K (.ref c_Unknown) (.ref c_Unknown) = some true)
    (sb_NoTick_Unknown : PySem.W.subIn K (.ref c_NoTick) (.ref c_Unknown) = some false)
    (sb_NoLane_Unknown : PySem.W.subIn K (.ref c_NoLane) (.ref c_Unknown) = some false)
    (sb_NoName_Unknown : PySem.W.subIn K (.ref c_NoName) (.ref c_Unknown) = some false)
    (sb_Taken_Unknown : PySem.W.subIn K (.ref c_Taken) (.ref c_Unknown) = some false)
    (sb_NoWay_Unknown : PySem.W.subIn K (.ref c_NoWay) (.ref c_Unknown) = some false)
    (sb_TooMany_Unknown : PySem.W.subIn K (.ref c_TooMany) (.ref c_Unknown) = some false)
    (sb_TooMuch_Unknown : PySem.W.subIn K (.ref c_TooMuch) (.ref c_Unknown) = some false)
    (sb_NoneType_Unknown : PySem.W.subIn K (.type "NoneType") (.ref c_Unknown) = some false)
    (sb_NoJar_NoWay : PySem.W.subIn K (.ref c_NoJar) (.ref c_NoWay) = some false)
    (sb_NoWay_NoWay : PySem.W.subIn K (.ref c_NoWay) (.ref c_NoWay) = some true)
    (sb_NoTick_NoWay : PySem.W.subIn K (.ref c_NoTick) (.ref c_NoWay) = some false)
    (sb_NoLane_NoWay : PySem.W.subIn K (.ref c_NoLane) (.ref c_NoWay) = some false)
    (sb_NoName_NoWay : PySem.W.subIn K (.ref c_NoName) (.ref c_NoWay) = some false)
    (sb_Taken_NoWay : PySem.W.subIn K (.ref c_Taken) (.ref c_NoWay) = some false)
    (sb_Unknown_NoWay : PySem.W.subIn K (.ref c_Unknown) (.ref c_NoWay) = some false)
    (sb_TooMany_NoWay : PySem.W.subIn K (.ref c_TooMany) (.ref c_NoWay) = some false)
    (sb_TooMuch_NoWay : PySem.W.subIn K (.ref c_TooMuch) (.ref c_NoWay) = some false)
    (sb_NoneType_NoWay : PySem.W.subIn K (.type "NoneType") (.ref c_NoWay) = some false)
    (sb_NoJar_NoLane : PySem.W.subIn K (.ref c_NoJar) (.ref c_NoLane) = some false)
    (sb_NoLane_NoLane : PySem.W.subIn K (.ref c_NoLane) (.ref c_NoLane) = some true)
    (sb_NoTick_NoLane : PySem.W.subIn K (.ref c_NoTick) (.ref c_NoLane) = some false)
    (sb_NoName_NoLane : PySem.W.subIn K (.ref c_NoName) (.ref c_NoLane) = some false)
    (sb_Taken_NoLane : PySem.W.subIn K (.ref c_Taken) (.ref c_NoLane) = some false)
    (sb_Unknown_NoLane : PySem.W.subIn K (.ref c_Unknown) (.ref c_NoLane) = some false)
    (sb_NoWay_NoLane : PySem.W.subIn K (.ref c_NoWay) (.ref c_NoLane) = some false)
    (sb_TooMany_NoLane : PySem.W.subIn K (.ref c_TooMany) (.ref c_NoLane) = some false)
    (sb_TooMuch_NoLane : PySem.W.subIn K (.ref c_TooMuch) (.ref c_NoLane) = some false)
    (sb_NoneType_NoLane : PySem.W.subIn K (.type "NoneType") (.ref c_NoLane) = some false)
    (sb_NoJar_NoTick : PySem.W.subIn K (.ref c_NoJar) (.ref c_NoTick) = some false)
    (sb_NoTick_NoTick : PySem.W.subIn K (.ref c_NoTick) (.ref c_NoTick) = some true)
    (sb_NoLane_NoTick : PySem.W.subIn K (.ref c_NoLane) (.ref c_NoTick) = some false)
    (sb_NoName_NoTick : PySem.W.subIn K (.ref c_NoName) (.ref c_NoTick) = some false)
    (sb_Taken_NoTick : PySem.W.subIn K (.ref c_Taken) (.ref c_NoTick) = some false)
    (sb_Unknown_NoTick : PySem.W.subIn K (.ref c_Unknown) (.ref c_NoTick) = some false)
    (sb_NoWay_NoTick : PySem.W.subIn K (.ref c_NoWay) (.ref c_NoTick) = some false)
    (sb_TooMany_NoTick : PySem.W.subIn K (.ref c_TooMany) (.ref c_NoTick) = some false)
    (sb_TooMuch_NoTick : PySem.W.subIn K (.ref c_TooMuch) (.ref c_NoTick) = some false)
    (sb_NoneType_NoTick : PySem.W.subIn K (.type "NoneType") (.ref c_NoTick) = some false)
    (sb_NoJar_TooMany : PySem.W.subIn K (.ref c_NoJar) (.ref c_TooMany) = some false)
    (sb_TooMany_TooMany : PySem.W.subIn K (.ref c_TooMany) (.ref c_TooMany) = some true)
    (sb_NoTick_TooMany : PySem.W.subIn K (.ref c_NoTick) (.ref c_TooMany) = some false)
    (sb_NoLane_TooMany : PySem.W.subIn K (.ref c_NoLane) (.ref c_TooMany) = some false)
    (sb_NoName_TooMany : PySem.W.subIn K (.ref c_NoName) (.ref c_TooMany) = some false)
    (sb_Taken_TooMany : PySem.W.subIn K (.ref c_Taken) (.ref c_TooMany) = some false)
    (sb_Unknown_TooMany : PySem.W.subIn K (.ref c_Unknown) (.ref c_TooMany) = some false)
    (sb_NoWay_TooMany : PySem.W.subIn K (.ref c_NoWay) (.ref c_TooMany) = some false)
    (sb_TooMuch_TooMany : PySem.W.subIn K (.ref c_TooMuch) (.ref c_TooMany) = some false)
    (sb_NoneType_TooMany : PySem.W.subIn K (.type "NoneType") (.ref c_TooMany) = some false)
    (sb_NoJar_TooMuch : PySem.W.subIn K (.ref c_NoJar) (.ref c_TooMuch) = some false)
    (sb_TooMuch_TooMuch : PySem.W.subIn K (.ref c_TooMuch) (.ref c_TooMuch) = some true)
    (sb_NoTick_TooMuch : PySem.W.subIn K (.ref c_NoTick) (.ref c_TooMuch) = some false)
    (sb_NoLane_TooMuch : PySem.W.subIn K (.ref c_NoLane) (.ref c_TooMuch) = some false)
    (sb_NoName_TooMuch : PySem.W.subIn K (.ref c_NoName) (.ref c_TooMuch) = some false)
    (sb_Taken_TooMuch : PySem.W.subIn K (.ref c_Taken) (.ref c_TooMuch) = some false)
    (sb_Unknown_TooMuch : PySem.W.subIn K (.ref c_Unknown) (.ref c_TooMuch) = some false)
    (sb_NoWay_TooMuch : PySem.W.subIn K (.ref c_NoWay) (.ref c_TooMuch) = some false)
    (sb_TooMany_TooMuch : PySem.W.subIn K (.ref c_TooMany) (.ref c_TooMuch) = some false)
    (sb_NoneType_TooMuch : PySem.W.subIn K (.type "NoneType") (.ref c_TooMuch) = some false)
    (sb_NoJar_NoJar : PySem.W.subIn K (.ref c_NoJar) (.ref c_NoJar) = some true)
    (sb_NoTick_NoJar : PySem.W.subIn K (.ref c_NoTick) (.ref c_NoJar) = some false)
    (sb_NoLane_NoJar : PySem.W.subIn K (.ref c_NoLane) (.ref c_NoJar) = some false)
    (sb_NoName_NoJar : PySem.W.subIn K (.ref c_NoName) (.ref c_NoJar) = some false)
    (sb_Taken_NoJar : PySem.W.subIn K (.ref c_Taken) (.ref c_NoJar) = some false)
    (sb_Unknown_NoJar : PySem.W.subIn K (.ref c_Unknown) (.ref c_NoJar) = some false)
    (sb_NoWay_NoJar : PySem.W.subIn K (.ref c_NoWay) (.ref c_NoJar) = some false)
    (sb_TooMany_NoJar : PySem.W.subIn K (.ref c_TooMany) (.ref c_NoJar) = some false)
    (sb_TooMuch_NoJar : PySem.W.subIn K (.ref c_TooMuch) (.ref c_NoJar) = some false)
    (sb_NoneType_NoJar : PySem.W.subIn K (.type "NoneType") (.ref c_NoJar) = some false)
    (sb_NoJar_NoLot : PySem.W.subIn K (.ref c_NoJar) (.ref c_NoLot) = some false)
    (sb_NoLot_NoLot : PySem.W.subIn K (.ref c_NoLot) (.ref c_NoLot) = some true)
    (xhd_NoLot : PySem.W.hasDictIn K c_NoLot = true)
    (xt0_NoLot : PySem.W.typeIn K (.ref c_NoLot) = some (.type "type"))
    (sb_NoTick_NoLot : PySem.W.subIn K (.ref c_NoTick) (.ref c_NoLot) = some false)
    (sb_NoLane_NoLot : PySem.W.subIn K (.ref c_NoLane) (.ref c_NoLot) = some false)
    (sb_NoName_NoLot : PySem.W.subIn K (.ref c_NoName) (.ref c_NoLot) = some false)
    (sb_Taken_NoLot : PySem.W.subIn K (.ref c_Taken) (.ref c_NoLot) = some false)
    (sb_Unknown_NoLot : PySem.W.subIn K (.ref c_Unknown) (.ref c_NoLot) = some false)
    (sb_NoWay_NoLot : PySem.W.subIn K (.ref c_NoWay) (.ref c_NoLot) = some false)
    (sb_TooMany_NoLot : PySem.W.subIn K (.ref c_TooMany) (.ref c_NoLot) = some false)
    (sb_TooMuch_NoLot : PySem.W.subIn K (.ref c_TooMuch) (.ref c_NoLot) = some false)
    (sb_NoneType_NoLot : PySem.W.subIn K (.type "NoneType") (.ref c_NoLot) = some false)
    (sb_NoJar_NoText : PySem.W.subIn K (.ref c_NoJar) (.ref c_NoText) = some false)
    (sb_NoText_NoText : PySem.W.subIn K (.ref c_NoText) (.ref c_NoText) = some true)
    (xhd_NoText : PySem.W.hasDictIn K c_NoText = true)
    (xt0_NoText : PySem.W.typeIn K (.ref c_NoText) = some (.type "type"))
    (sb_NoTick_NoText : PySem.W.subIn K (.ref c_NoTick) (.ref c_NoText) = some false)
    (sb_NoLane_NoText : PySem.W.subIn K (.ref c_NoLane) (.ref c_NoText) = some false)
    (sb_NoName_NoText : PySem.W.subIn K (.ref c_NoName) (.ref c_NoText) = some false)
    (sb_Taken_NoText : PySem.W.subIn K (.ref c_Taken) (.ref c_NoText) = some false)
    (sb_Unknown_NoText : PySem.W.subIn K (.ref c_Unknown) (.ref c_NoText) = some false)
    (sb_NoWay_NoText : PySem.W.subIn K (.ref c_NoWay) (.ref c_NoText) = some false)
    (sb_TooMany_NoText : PySem.W.subIn K (.ref c_TooMany) (.ref c_NoText) = some false)
    (sb_TooMuch_NoText : PySem.W.subIn K (.ref c_TooMuch) (.ref c_NoText) = some false)
    (sb_NoneType_NoText : PySem.W.subIn K (.type "NoneType") (.ref c_NoText) = some false)
    (sb_NoJar_NoBook : PySem.W.subIn K (.ref c_NoJar) (.ref c_NoBook) = some false)
    (sb_NoBook_NoBook : PySem.W.subIn K (.ref c_NoBook) (.ref c_NoBook) = some true)
    (xhd_NoBook : PySem.W.hasDictIn K c_NoBook = true)
    (xt0_NoBook : PySem.W.typeIn K (.ref c_NoBook) = some (.type "type"))
    (sb_NoTick_NoBook : PySem.W.subIn K (.ref c_NoTick) (.ref c_NoBook) = some false)
    (sb_NoLane_NoBook : PySem.W.subIn K (.ref c_NoLane) (.ref c_NoBook) = some false)
    (sb_NoName_NoBook : PySem.W.subIn K (.ref c_NoName) (.ref c_NoBook) = some false)
    (sb_Taken_NoBook : PySem.W.subIn K (.ref c_Taken) (.ref c_NoBook) = some false)
    (sb_Unknown_NoBook : PySem.W.subIn K (.ref c_Unknown) (.ref c_NoBook) = some false)
    (sb_NoWay_NoBook : PySem.W.subIn K (.ref c_NoWay) (.ref c_NoBook) = some false)
    (sb_TooMany_NoBook : PySem.W.subIn K (.ref c_TooMany) (.ref c_NoBook) = some false)
    (sb_TooMuch_NoBook : PySem.W.subIn K (.ref c_TooMuch) (.ref c_NoBook) = some false)
    (sb_NoneType_NoBook : PySem.W.subIn K (.type "NoneType") (.ref c_NoBook) = some false)
    (sb_NoJar_ValueError : PySem.W.subIn K (.ref c_NoJar) (.type "ValueError") = some true)
    (km_NoJar_ValueError : PySem.W.kitMeta "ValueError" = true)
    (sb_NoTick_ValueError : PySem.W.subIn K (.ref c_NoTick) (.type "ValueError") = some true)
    (km_NoTick_ValueError : PySem.W.kitMeta "ValueError" = true)
    (sb_NoLane_ValueError : PySem.W.subIn K (.ref c_NoLane) (.type "ValueError") = some true)
    (km_NoLane_ValueError : PySem.W.kitMeta "ValueError" = true)
    (sb_NoName_ValueError : PySem.W.subIn K (.ref c_NoName) (.type "ValueError") = some true)
    (km_NoName_ValueError : PySem.W.kitMeta "ValueError" = true)
    (sb_Taken_ValueError : PySem.W.subIn K (.ref c_Taken) (.type "ValueError") = some true)
    (km_Taken_ValueError : PySem.W.kitMeta "ValueError" = true)
    (sb_Unknown_ValueError : PySem.W.subIn K (.ref c_Unknown) (.type "ValueError") = some true)
    (km_Unknown_ValueError : PySem.W.kitMeta "ValueError" = true)
    (sb_NoWay_ValueError : PySem.W.subIn K (.ref c_NoWay) (.type "ValueError") = some true)
    (km_NoWay_ValueError : PySem.W.kitMeta "ValueError" = true)
    (sb_TooMany_ValueError : PySem.W.subIn K (.ref c_TooMany) (.type "ValueError") = some true)
    (km_TooMany_ValueError : PySem.W.kitMeta "ValueError" = true)
    (sb_TooMuch_ValueError : PySem.W.subIn K (.ref c_TooMuch) (.type "ValueError") = some true)
    (km_TooMuch_ValueError : PySem.W.kitMeta "ValueError" = true)
    (z_ValueError : PySem.W.nsIn K mainGlobals "ValueError" = some none)
    (yA_NoName_name : PySem.W.findIn K (.ref c_NoName) "name" = some none)
    (yA_Taken_name : PySem.W.findIn K (.ref c_Taken) "name" = some none)
    (yA_Unknown_name : PySem.W.findIn K (.ref c_Unknown) "name" = some none)
    (yA_TooMany_name : PySem.W.findIn K (.ref c_TooMany) "name" = some none)
    (pg_Lot : PySem.W.plainGet K c_Lot Str.empty = true)
    (hd_Lot : PySem.W.hasDictIn K c_Lot = true)
    (po_Lot : PySem.W.plainOver K c_Lot = true)
    (sa_Lot : PySem.W.findIn K (.ref c_Lot) "__setattr__" = some (some (.builtin "object.__setattr__")))
    (yA_Lot_name : PySem.W.findIn K (.ref c_Lot) "name" = some none)
    (yA_NoWay_place : PySem.W.findIn K (.ref c_NoWay) "place" = some none)
    (yA_TooMany_bound : PySem.W.findIn K (.ref c_TooMany) "bound" = some none)
    (sb_TooMany_LaneError : PySem.W.subIn K (.ref c_TooMany) (.ref c_LaneError) = some true)
    (sb_LaneError_LaneError : PySem.W.subIn K (.ref c_LaneError) (.ref c_LaneError) = some true)
    (xhd_LaneError : PySem.W.hasDictIn K c_LaneError = true)
    (xt0_LaneError : PySem.W.typeIn K (.ref c_LaneError) = some (.type "type"))
    (xk_LaneError : PySem.W.keepIn K (.ref c_LaneError) = true)
    (xs_LaneError : PySem.W.subIn K (.ref c_LaneError) (.type "BaseException") = some true)
    (xt_LaneError : PySem.W.typeIn K (.ref c_LaneError) = some (.type "type"))
    (sb_NoLane_LaneError : PySem.W.subIn K (.ref c_NoLane) (.ref c_LaneError) = some true)
    (sb_NoJar_LaneError : PySem.W.subIn K (.ref c_NoJar) (.ref c_LaneError) = some true)
    (sb_NoWay_LaneError : PySem.W.subIn K (.ref c_NoWay) (.ref c_LaneError) = some true)
    (sb_NoName_LaneError : PySem.W.subIn K (.ref c_NoName) (.ref c_LaneError) = some true)
    (sb_Unknown_LaneError : PySem.W.subIn K (.ref c_Unknown) (.ref c_LaneError) = some true)
    (sb_NoTick_LaneError : PySem.W.subIn K (.ref c_NoTick) (.ref c_LaneError) = some true)
    (sb_Taken_LaneError : PySem.W.subIn K (.ref c_Taken) (.ref c_LaneError) = some true)
    (sb_TooMuch_LaneError : PySem.W.subIn K (.ref c_TooMuch) (.ref c_LaneError) = some true)
    (z_max : PySem.W.nsIn K mainGlobals "max" = some none)
    (pg_Flow : PySem.W.plainGet K c_Flow Str.empty = true)
    (hd_Flow : PySem.W.hasDictIn K c_Flow = true)
    (po_Flow : PySem.W.plainOver K c_Flow = true)
    (sa_Flow : PySem.W.findIn K (.ref c_Flow) "__setattr__" = some (some (.builtin "object.__setattr__")))
    (yA_Flow_jar : PySem.W.findIn K (.ref c_Flow) "jar" = some none)
    (yA_Flow_marks : PySem.W.findIn K (.ref c_Flow) "marks" = some none)
    (mk_House : PySem.W.makesIn K c_House = true)
    (mkk_House : PySem.W.keepIn K (.ref c_House) = true)
    (z_zip : PySem.W.nsIn K mainGlobals "zip" = some none)
    (z_list : PySem.W.nsIn K mainGlobals "list" = some none)
    : ∃ fd : FuncData, (∀ (s : Shared) (v : Value), BindsTo s fd ⟨[v], []⟩ [("_law_script", v)]) ∧ ∀ base : Heap, K.In base → base.Ns mainGlobals mg → FnOk l.prog w K mg base (L2.CX l.prog w) 7 fa fd ["_law_script"] (liftE (pLawE K)) := by
  have e := hfa.symm.trans (PySem.W.mg_of X G a22)
  cases e
  have G_len : mg "len" = none := PySem.W.mg_none_of X G z_len
  have G_range : mg "range" = none := PySem.W.mg_none_of X G z_range
  have CL_Scene : Cls K c_Scene := ⟨pg_Scene, hd_Scene, po_Scene, sa_Scene⟩
  have A_Scene_now : FldP K c_Scene "now" := ⟨CL_Scene, yA_Scene_now⟩
  have CL_Floor : Cls K c_Floor := ⟨pg_Floor, hd_Floor, po_Floor, sa_Floor⟩
  have A_Floor_now : FldP K c_Floor "now" := ⟨CL_Floor, yA_Floor_now⟩
  have CL_House : Cls K c_House := ⟨pg_House, hd_House, po_House, sa_House⟩
  have A_House_now : FldP K c_House "now" := ⟨CL_House, yA_House_now⟩
  have A_Floor_widths : FldP K c_Floor "widths" := ⟨CL_Floor, yA_Floor_widths⟩
  have A_Floor_shut_until : FldP K c_Floor "shut_until" := ⟨CL_Floor, yA_Floor_shut_until⟩
  have A_Floor_terms : FldP K c_Floor "terms" := ⟨CL_Floor, yA_Floor_terms⟩
  have A_Floor_line : FldP K c_Floor "line" := ⟨CL_Floor, yA_Floor_line⟩
  have A_House_floor : FldP K c_House "floor" := ⟨CL_House, yA_House_floor⟩
  have A_House_pages : FldP K c_House "pages" := ⟨CL_House, yA_House_pages⟩
  have C_LETTERS : ∃ t, mg "LETTERS" = some (.str "abcdefghijklmnopqrstuvwxyz" t) := ⟨_, PySem.W.mg_of X G v_LETTERS⟩
  have T_NoName : OexC K c_NoName := ⟨⟨_, _, _, _, _, _, _, _, _, _, _, _, _, _, _, xL_NoName, xr_NoName⟩, xsa_NoName, xs_NoName, xt_NoName, xk_NoName⟩
  have FI_NoName := fun_mk (st := s_NoName__init) xl_NoName xc_NoName xki_NoName
  have T_Taken : OexC K c_Taken := ⟨⟨_, _, _, _, _, _, _, _, _, _, _, _, _, _, _, xL_Taken, xr_Taken⟩, xsa_Taken, xs_Taken, xt_Taken, xk_Taken⟩
  have FI_Taken := fun_mk (st := s_Taken__init) xl_Taken xc_Taken xki_Taken
  have C_GREATEST_floor : ∃ t, mg "GREATEST_floor" = some (.int 1000000000 t) := ⟨_, PySem.W.mg_of X G v_GREATEST_floor⟩
  have X_NoLane : Ex0 K mg "NoLane" c_NoLane := ⟨PySem.W.mg_of X G ac_NoLane, xq_NoLane, xk_NoLane, xs_NoLane, xt_NoLane⟩
  have KT_NoJar_NoName : KitP K (.ref c_NoJar) (.ref c_NoName) false := ⟨kit_ref xhd_NoName xt_NoName sb_NoJar_NoName sb_NoName_NoName⟩
  have EP_NoJar : ExcP K c_NoJar := ⟨cls_some xhd_NoJar, xga_NoJar, xgg_NoJar, xs_NoJar, eha_NoJar, ob1, ob2, ehm_NoJar⟩
  have KT_NoTick_NoName : KitP K (.ref c_NoTick) (.ref c_NoName) false := ⟨kit_ref xhd_NoName xt_NoName sb_NoTick_NoName sb_NoName_NoName⟩
  have EP_NoTick : ExcP K c_NoTick := ⟨cls_some xhd_NoTick, xga_NoTick, xgg_NoTick, xs_NoTick, eha_NoTick, ob1, ob2, ehm_NoTick⟩
  have KT_NoLane_NoName : KitP K (.ref c_NoLane) (.ref c_NoName) false := ⟨kit_ref xhd_NoName xt_NoName sb_NoLane_NoName sb_NoName_NoName⟩
  have EP_NoLane : ExcP K c_NoLane := ⟨cls_some xhd_NoLane, xga_NoLane, xgg_NoLane, xs_NoLane, eha_NoLane, ob1, ob2, ehm_NoLane⟩
  have KT_NoName_NoName : KitP K (.ref c_NoName) (.ref c_NoName) true := ⟨kit_same⟩
  have EP_NoName : ExcP K c_NoName := ⟨cls_some xhd_NoName, xga_NoName, xgg_NoName, xs_NoName, eha_NoName, ob1, ob2, ehm_NoName⟩
  have KT_Taken_NoName : KitP K (.ref c_Taken) (.ref c_NoName) false := ⟨kit_ref xhd_NoName xt_NoName sb_Taken_NoName sb_NoName_NoName⟩
  have EP_Taken : ExcP K c_Taken := ⟨cls_some xhd_Taken, xga_Taken, xgg_Taken, xs_Taken, eha_Taken, ob1, ob2, ehm_Taken⟩
  have KT_Unknown_NoName : KitP K (.ref c_Unknown) (.ref c_NoName) false := ⟨kit_ref xhd_NoName xt_NoName sb_Unknown_NoName sb_NoName_NoName⟩
  have EP_Unknown : ExcP K c_Unknown := ⟨cls_some xhd_Unknown, xga_Unknown, xgg_Unknown, xs_Unknown, eha_Unknown, ob1, ob2, ehm_Unknown⟩
  have KT_NoWay_NoName : KitP K (.ref c_NoWay) (.ref c_NoName) false := ⟨kit_ref xhd_NoName xt_NoName sb_NoWay_NoName sb_NoName_NoName⟩
  have EP_NoWay : ExcP K c_NoWay := ⟨cls_some xhd_NoWay, xga_NoWay, xgg_NoWay, xs_NoWay, eha_NoWay, ob1, ob2, ehm_NoWay⟩
  have KT_TooMany_NoName : KitP K (.ref c_TooMany) (.ref c_NoName) false := ⟨kit_ref xhd_NoName xt_NoName sb_TooMany_NoName sb_NoName_NoName⟩
  have EP_TooMany : ExcP K c_TooMany := ⟨cls_some xhd_TooMany, xga_TooMany, xgg_TooMany, xs_TooMany, eha_TooMany, ob1, ob2, ehm_TooMany⟩
  have KT_TooMuch_NoName : KitP K (.ref c_TooMuch) (.ref c_NoName) false := ⟨kit_ref xhd_NoName xt_NoName sb_TooMuch_NoName sb_NoName_NoName⟩
  have EP_TooMuch : ExcP K c_TooMuch := ⟨cls_some xhd_TooMuch, xga_TooMuch, xgg_TooMuch, xs_TooMuch, eha_TooMuch, ob1, ob2, ehm_TooMuch⟩
  have KT_NoneType_NoName : KitP K (.type "NoneType") (.ref c_NoName) false := ⟨kit_ref xhd_NoName xt_NoName sb_NoneType_NoName sb_NoName_NoName⟩
  have G_isinstance : mg "isinstance" = none := PySem.W.mg_none_of X G z_isinstance
  have Q_NoName : MgP mg "NoName" c_NoName := ⟨PySem.W.mg_of X G ac_NoName⟩
  have KT_NoJar_Taken : KitP K (.ref c_NoJar) (.ref c_Taken) false := ⟨kit_ref xhd_Taken xt_Taken sb_NoJar_Taken sb_Taken_Taken⟩
  have KT_NoTick_Taken : KitP K (.ref c_NoTick) (.ref c_Taken) false := ⟨kit_ref xhd_Taken xt_Taken sb_NoTick_Taken sb_Taken_Taken⟩
  have KT_NoLane_Taken : KitP K (.ref c_NoLane) (.ref c_Taken) false := ⟨kit_ref xhd_Taken xt_Taken sb_NoLane_Taken sb_Taken_Taken⟩
  have KT_NoName_Taken : KitP K (.ref c_NoName) (.ref c_Taken) false := ⟨kit_ref xhd_Taken xt_Taken sb_NoName_Taken sb_Taken_Taken⟩
  have KT_Taken_Taken : KitP K (.ref c_Taken) (.ref c_Taken) true := ⟨kit_same⟩
  have KT_Unknown_Taken : KitP K (.ref c_Unknown) (.ref c_Taken) false := ⟨kit_ref xhd_Taken xt_Taken sb_Unknown_Taken sb_Taken_Taken⟩
  have KT_NoWay_Taken : KitP K (.ref c_NoWay) (.ref c_Taken) false := ⟨kit_ref xhd_Taken xt_Taken sb_NoWay_Taken sb_Taken_Taken⟩
  have KT_TooMany_Taken : KitP K (.ref c_TooMany) (.ref c_Taken) false := ⟨kit_ref xhd_Taken xt_Taken sb_TooMany_Taken sb_Taken_Taken⟩
  have KT_TooMuch_Taken : KitP K (.ref c_TooMuch) (.ref c_Taken) false := ⟨kit_ref xhd_Taken xt_Taken sb_TooMuch_Taken sb_Taken_Taken⟩
  have KT_NoneType_Taken : KitP K (.type "NoneType") (.ref c_Taken) false := ⟨kit_ref xhd_Taken xt_Taken sb_NoneType_Taken sb_Taken_Taken⟩
  have Q_Taken : MgP mg "Taken" c_Taken := ⟨PySem.W.mg_of X G ac_Taken⟩
  have KT_NoJar_Unknown : KitP K (.ref c_NoJar) (.ref c_Unknown) false := ⟨kit_ref xhd_Unknown xt_Unknown sb_NoJar_Unknown sb_Unknown_Unknown⟩
  have KT_NoTick_Unknown : KitP K (.ref c_NoTick) (.ref c_Unknown) false := ⟨kit_ref xhd_Unknown xt_Unknown sb_NoTick_Unknown sb_Unknown_Unknown⟩
  have KT_NoLane_Unknown : KitP K (.ref c_NoLane) (.ref c_Unknown) false := ⟨kit_ref xhd_Unknown xt_Unknown sb_NoLane_Unknown sb_Unknown_Unknown⟩
  have KT_NoName_Unknown : KitP K (.ref c_NoName) (.ref c_Unknown) false := ⟨kit_ref xhd_Unknown xt_Unknown sb_NoName_Unknown sb_Unknown_Unknown⟩
  have KT_Taken_Unknown : KitP K (.ref c_Taken) (.ref c_Unknown) false := ⟨kit_ref xhd_Unknown xt_Unknown sb_Taken_Unknown sb_Unknown_Unknown⟩
  have KT_Unknown_Unknown : KitP K (.ref c_Unknown) (.ref c_Unknown) true := ⟨kit_same⟩
  have KT_NoWay_Unknown : KitP K (.ref c_NoWay) (.ref c_Unknown) false := ⟨kit_ref xhd_Unknown xt_Unknown sb_NoWay_Unknown sb_Unknown_Unknown⟩
  have KT_TooMany_Unknown : KitP K (.ref c_TooMany) (.ref c_Unknown) false := ⟨kit_ref xhd_Unknown xt_Unknown sb_TooMany_Unknown sb_Unknown_Unknown⟩
  have KT_TooMuch_Unknown : KitP K (.ref c_TooMuch) (.ref c_Unknown) false := ⟨kit_ref xhd_Unknown xt_Unknown sb_TooMuch_Unknown sb_Unknown_Unknown⟩
  have KT_NoneType_Unknown : KitP K (.type "NoneType") (.ref c_Unknown) false := ⟨kit_ref xhd_Unknown xt_Unknown sb_NoneType_Unknown sb_Unknown_Unknown⟩
  have Q_Unknown : MgP mg "Unknown" c_Unknown := ⟨PySem.W.mg_of X G ac_Unknown⟩
  have KT_NoJar_NoWay : KitP K (.ref c_NoJar) (.ref c_NoWay) false := ⟨kit_ref xhd_NoWay xt_NoWay sb_NoJar_NoWay sb_NoWay_NoWay⟩
  have KT_NoTick_NoWay : KitP K (.ref c_NoTick) (.ref c_NoWay) false := ⟨kit_ref xhd_NoWay xt_NoWay sb_NoTick_NoWay sb_NoWay_NoWay⟩
  have KT_NoLane_NoWay : KitP K (.ref c_NoLane) (.ref c_NoWay) false := ⟨kit_ref xhd_NoWay xt_NoWay sb_NoLane_NoWay sb_NoWay_NoWay⟩
  have KT_NoName_NoWay : KitP K (.ref c_NoName) (.ref c_NoWay) false := ⟨kit_ref xhd_NoWay xt_NoWay sb_NoName_NoWay sb_NoWay_NoWay⟩
  have KT_Taken_NoWay : KitP K (.ref c_Taken) (.ref c_NoWay) false := ⟨kit_ref xhd_NoWay xt_NoWay sb_Taken_NoWay sb_NoWay_NoWay⟩
  have KT_Unknown_NoWay : KitP K (.ref c_Unknown) (.ref c_NoWay) false := ⟨kit_ref xhd_NoWay xt_NoWay sb_Unknown_NoWay sb_NoWay_NoWay⟩
  have KT_NoWay_NoWay : KitP K (.ref c_NoWay) (.ref c_NoWay) true := ⟨kit_same⟩
  have KT_TooMany_NoWay : KitP K (.ref c_TooMany) (.ref c_NoWay) false := ⟨kit_ref xhd_NoWay xt_NoWay sb_TooMany_NoWay sb_NoWay_NoWay⟩
  have KT_TooMuch_NoWay : KitP K (.ref c_TooMuch) (.ref c_NoWay) false := ⟨kit_ref xhd_NoWay xt_NoWay sb_TooMuch_NoWay sb_NoWay_NoWay⟩
  have KT_NoneType_NoWay : KitP K (.type "NoneType") (.ref c_NoWay) false := ⟨kit_ref xhd_NoWay xt_NoWay sb_NoneType_NoWay sb_NoWay_NoWay⟩
  have Q_NoWay : MgP mg "NoWay" c_NoWay := ⟨PySem.W.mg_of X G ac_NoWay⟩
  have KT_NoJar_NoLane : KitP K (.ref c_NoJar) (.ref c_NoLane) false := ⟨kit_ref xhd_NoLane xt_NoLane sb_NoJar_NoLane sb_NoLane_NoLane⟩
  have KT_NoTick_NoLane : KitP K (.ref c_NoTick) (.ref c_NoLane) false := ⟨kit_ref xhd_NoLane xt_NoLane sb_NoTick_NoLane sb_NoLane_NoLane⟩
  have KT_NoLane_NoLane : KitP K (.ref c_NoLane) (.ref c_NoLane) true := ⟨kit_same⟩
  have KT_NoName_NoLane : KitP K (.ref c_NoName) (.ref c_NoLane) false := ⟨kit_ref xhd_NoLane xt_NoLane sb_NoName_NoLane sb_NoLane_NoLane⟩
  have KT_Taken_NoLane : KitP K (.ref c_Taken) (.ref c_NoLane) false := ⟨kit_ref xhd_NoLane xt_NoLane sb_Taken_NoLane sb_NoLane_NoLane⟩
  have KT_Unknown_NoLane : KitP K (.ref c_Unknown) (.ref c_NoLane) false := ⟨kit_ref xhd_NoLane xt_NoLane sb_Unknown_NoLane sb_NoLane_NoLane⟩
  have KT_NoWay_NoLane : KitP K (.ref c_NoWay) (.ref c_NoLane) false := ⟨kit_ref xhd_NoLane xt_NoLane sb_NoWay_NoLane sb_NoLane_NoLane⟩
  have KT_TooMany_NoLane : KitP K (.ref c_TooMany) (.ref c_NoLane) false := ⟨kit_ref xhd_NoLane xt_NoLane sb_TooMany_NoLane sb_NoLane_NoLane⟩
  have KT_TooMuch_NoLane : KitP K (.ref c_TooMuch) (.ref c_NoLane) false := ⟨kit_ref xhd_NoLane xt_NoLane sb_TooMuch_NoLane sb_NoLane_NoLane⟩
  have KT_NoneType_NoLane : KitP K (.type "NoneType") (.ref c_NoLane) false := ⟨kit_ref xhd_NoLane xt_NoLane sb_NoneType_NoLane sb_NoLane_NoLane⟩
  have Q_NoLane : MgP mg "NoLane" c_NoLane := ⟨PySem.W.mg_of X G ac_NoLane⟩
  have KT_NoJar_NoTick : KitP K (.ref c_NoJar) (.ref c_NoTick) false := ⟨kit_ref xhd_NoTick xt_NoTick sb_NoJar_NoTick sb_NoTick_NoTick⟩
  have KT_NoTick_NoTick : KitP K (.ref c_NoTick) (.ref c_NoTick) true := ⟨kit_same⟩
  have KT_NoLane_NoTick : KitP K (.ref c_NoLane) (.ref c_NoTick) false := ⟨kit_ref xhd_NoTick xt_NoTick sb_NoLane_NoTick sb_NoTick_NoTick⟩
  have KT_NoName_NoTick : KitP K (.ref c_NoName) (.ref c_NoTick) false := ⟨kit_ref xhd_NoTick xt_NoTick sb_NoName_NoTick sb_NoTick_NoTick⟩
  have KT_Taken_NoTick : KitP K (.ref c_Taken) (.ref c_NoTick) false := ⟨kit_ref xhd_NoTick xt_NoTick sb_Taken_NoTick sb_NoTick_NoTick⟩
  have KT_Unknown_NoTick : KitP K (.ref c_Unknown) (.ref c_NoTick) false := ⟨kit_ref xhd_NoTick xt_NoTick sb_Unknown_NoTick sb_NoTick_NoTick⟩
  have KT_NoWay_NoTick : KitP K (.ref c_NoWay) (.ref c_NoTick) false := ⟨kit_ref xhd_NoTick xt_NoTick sb_NoWay_NoTick sb_NoTick_NoTick⟩
  have KT_TooMany_NoTick : KitP K (.ref c_TooMany) (.ref c_NoTick) false := ⟨kit_ref xhd_NoTick xt_NoTick sb_TooMany_NoTick sb_NoTick_NoTick⟩
  have KT_TooMuch_NoTick : KitP K (.ref c_TooMuch) (.ref c_NoTick) false := ⟨kit_ref xhd_NoTick xt_NoTick sb_TooMuch_NoTick sb_NoTick_NoTick⟩
  have KT_NoneType_NoTick : KitP K (.type "NoneType") (.ref c_NoTick) false := ⟨kit_ref xhd_NoTick xt_NoTick sb_NoneType_NoTick sb_NoTick_NoTick⟩
  have Q_NoTick : MgP mg "NoTick" c_NoTick := ⟨PySem.W.mg_of X G ac_NoTick⟩
  have KT_NoJar_TooMany : KitP K (.ref c_NoJar) (.ref c_TooMany) false := ⟨kit_ref xhd_TooMany xt_TooMany sb_NoJar_TooMany sb_TooMany_TooMany⟩
  have KT_NoTick_TooMany : KitP K (.ref c_NoTick) (.ref c_TooMany) false := ⟨kit_ref xhd_TooMany xt_TooMany sb_NoTick_TooMany sb_TooMany_TooMany⟩
  have KT_NoLane_TooMany : KitP K (.ref c_NoLane) (.ref c_TooMany) false := ⟨kit_ref xhd_TooMany xt_TooMany sb_NoLane_TooMany sb_TooMany_TooMany⟩
  have KT_NoName_TooMany : KitP K (.ref c_NoName) (.ref c_TooMany) false := ⟨kit_ref xhd_TooMany xt_TooMany sb_NoName_TooMany sb_TooMany_TooMany⟩
  have KT_Taken_TooMany : KitP K (.ref c_Taken) (.ref c_TooMany) false := ⟨kit_ref xhd_TooMany xt_TooMany sb_Taken_TooMany sb_TooMany_TooMany⟩
  have KT_Unknown_TooMany : KitP K (.ref c_Unknown) (.ref c_TooMany) false := ⟨kit_ref xhd_TooMany xt_TooMany sb_Unknown_TooMany sb_TooMany_TooMany⟩
  have KT_NoWay_TooMany : KitP K (.ref c_NoWay) (.ref c_TooMany) false := ⟨kit_ref xhd_TooMany xt_TooMany sb_NoWay_TooMany sb_TooMany_TooMany⟩
  have KT_TooMany_TooMany : KitP K (.ref c_TooMany) (.ref c_TooMany) true := ⟨kit_same⟩
  have KT_TooMuch_TooMany : KitP K (.ref c_TooMuch) (.ref c_TooMany) false := ⟨kit_ref xhd_TooMany xt_TooMany sb_TooMuch_TooMany sb_TooMany_TooMany⟩
  have KT_NoneType_TooMany : KitP K (.type "NoneType") (.ref c_TooMany) false := ⟨kit_ref xhd_TooMany xt_TooMany sb_NoneType_TooMany sb_TooMany_TooMany⟩
  have Q_TooMany : MgP mg "TooMany" c_TooMany := ⟨PySem.W.mg_of X G ac_TooMany⟩
  have KT_NoJar_TooMuch : KitP K (.ref c_NoJar) (.ref c_TooMuch) false := ⟨kit_ref xhd_TooMuch xt_TooMuch sb_NoJar_TooMuch sb_TooMuch_TooMuch⟩
  have KT_NoTick_TooMuch : KitP K (.ref c_NoTick) (.ref c_TooMuch) false := ⟨kit_ref xhd_TooMuch xt_TooMuch sb_NoTick_TooMuch sb_TooMuch_TooMuch⟩
  have KT_NoLane_TooMuch : KitP K (.ref c_NoLane) (.ref c_TooMuch) false := ⟨kit_ref xhd_TooMuch xt_TooMuch sb_NoLane_TooMuch sb_TooMuch_TooMuch⟩
  have KT_NoName_TooMuch : KitP K (.ref c_NoName) (.ref c_TooMuch) false := ⟨kit_ref xhd_TooMuch xt_TooMuch sb_NoName_TooMuch sb_TooMuch_TooMuch⟩
  have KT_Taken_TooMuch : KitP K (.ref c_Taken) (.ref c_TooMuch) false := ⟨kit_ref xhd_TooMuch xt_TooMuch sb_Taken_TooMuch sb_TooMuch_TooMuch⟩
  have KT_Unknown_TooMuch : KitP K (.ref c_Unknown) (.ref c_TooMuch) false := ⟨kit_ref xhd_TooMuch xt_TooMuch sb_Unknown_TooMuch sb_TooMuch_TooMuch⟩
  have KT_NoWay_TooMuch : KitP K (.ref c_NoWay) (.ref c_TooMuch) false := ⟨kit_ref xhd_TooMuch xt_TooMuch sb_NoWay_TooMuch sb_TooMuch_TooMuch⟩
  have KT_TooMany_TooMuch : KitP K (.ref c_TooMany) (.ref c_TooMuch) false := ⟨kit_ref xhd_TooMuch xt_TooMuch sb_TooMany_TooMuch sb_TooMuch_TooMuch⟩
  have KT_TooMuch_TooMuch : KitP K (.ref c_TooMuch) (.ref c_TooMuch) true := ⟨kit_same⟩
  have KT_NoneType_TooMuch : KitP K (.type "NoneType") (.ref c_TooMuch) false := ⟨kit_ref xhd_TooMuch xt_TooMuch sb_NoneType_TooMuch sb_TooMuch_TooMuch⟩
  have Q_TooMuch : MgP mg "TooMuch" c_TooMuch := ⟨PySem.W.mg_of X G ac_TooMuch⟩
  have KT_NoJar_NoJar : KitP K (.ref c_NoJar) (.ref c_NoJar) true := ⟨kit_same⟩
  have KT_NoTick_NoJar : KitP K (.ref c_NoTick) (.ref c_NoJar) false := ⟨kit_ref xhd_NoJar xt_NoJar sb_NoTick_NoJar sb_NoJar_NoJar⟩
  have KT_NoLane_NoJar : KitP K (.ref c_NoLane) (.ref c_NoJar) false := ⟨kit_ref xhd_NoJar xt_NoJar sb_NoLane_NoJar sb_NoJar_NoJar⟩
  have KT_NoName_NoJar : KitP K (.ref c_NoName) (.ref c_NoJar) false := ⟨kit_ref xhd_NoJar xt_NoJar sb_NoName_NoJar sb_NoJar_NoJar⟩
  have KT_Taken_NoJar : KitP K (.ref c_Taken) (.ref c_NoJar) false := ⟨kit_ref xhd_NoJar xt_NoJar sb_Taken_NoJar sb_NoJar_NoJar⟩
  have KT_Unknown_NoJar : KitP K (.ref c_Unknown) (.ref c_NoJar) false := ⟨kit_ref xhd_NoJar xt_NoJar sb_Unknown_NoJar sb_NoJar_NoJar⟩
  have KT_NoWay_NoJar : KitP K (.ref c_NoWay) (.ref c_NoJar) false := ⟨kit_ref xhd_NoJar xt_NoJar sb_NoWay_NoJar sb_NoJar_NoJar⟩
  have KT_TooMany_NoJar : KitP K (.ref c_TooMany) (.ref c_NoJar) false := ⟨kit_ref xhd_NoJar xt_NoJar sb_TooMany_NoJar sb_NoJar_NoJar⟩
  have KT_TooMuch_NoJar : KitP K (.ref c_TooMuch) (.ref c_NoJar) false := ⟨kit_ref xhd_NoJar xt_NoJar sb_TooMuch_NoJar sb_NoJar_NoJar⟩
  have KT_NoneType_NoJar : KitP K (.type "NoneType") (.ref c_NoJar) false := ⟨kit_ref xhd_NoJar xt_NoJar sb_NoneType_NoJar sb_NoJar_NoJar⟩
  have Q_NoJar : MgP mg "NoJar" c_NoJar := ⟨PySem.W.mg_of X G ac_NoJar⟩
  have KT_NoJar_NoLot : KitP K (.ref c_NoJar) (.ref c_NoLot) false := ⟨kit_ref xhd_NoLot xt0_NoLot sb_NoJar_NoLot sb_NoLot_NoLot⟩
  have KT_NoTick_NoLot : KitP K (.ref c_NoTick) (.ref c_NoLot) false := ⟨kit_ref xhd_NoLot xt0_NoLot sb_NoTick_NoLot sb_NoLot_NoLot⟩
  have KT_NoLane_NoLot : KitP K (.ref c_NoLane) (.ref c_NoLot) false := ⟨kit_ref xhd_NoLot xt0_NoLot sb_NoLane_NoLot sb_NoLot_NoLot⟩
  have KT_NoName_NoLot : KitP K (.ref c_NoName) (.ref c_NoLot) false := ⟨kit_ref xhd_NoLot xt0_NoLot sb_NoName_NoLot sb_NoLot_NoLot⟩
  have KT_Taken_NoLot : KitP K (.ref c_Taken) (.ref c_NoLot) false := ⟨kit_ref xhd_NoLot xt0_NoLot sb_Taken_NoLot sb_NoLot_NoLot⟩
  have KT_Unknown_NoLot : KitP K (.ref c_Unknown) (.ref c_NoLot) false := ⟨kit_ref xhd_NoLot xt0_NoLot sb_Unknown_NoLot sb_NoLot_NoLot⟩
  have KT_NoWay_NoLot : KitP K (.ref c_NoWay) (.ref c_NoLot) false := ⟨kit_ref xhd_NoLot xt0_NoLot sb_NoWay_NoLot sb_NoLot_NoLot⟩
  have KT_TooMany_NoLot : KitP K (.ref c_TooMany) (.ref c_NoLot) false := ⟨kit_ref xhd_NoLot xt0_NoLot sb_TooMany_NoLot sb_NoLot_NoLot⟩
  have KT_TooMuch_NoLot : KitP K (.ref c_TooMuch) (.ref c_NoLot) false := ⟨kit_ref xhd_NoLot xt0_NoLot sb_TooMuch_NoLot sb_NoLot_NoLot⟩
  have KT_NoneType_NoLot : KitP K (.type "NoneType") (.ref c_NoLot) false := ⟨kit_ref xhd_NoLot xt0_NoLot sb_NoneType_NoLot sb_NoLot_NoLot⟩
  have Q_NoLot : MgP mg "NoLot" c_NoLot := ⟨PySem.W.mg_of X G ac_NoLot⟩
  have KT_NoJar_NoText : KitP K (.ref c_NoJar) (.ref c_NoText) false := ⟨kit_ref xhd_NoText xt0_NoText sb_NoJar_NoText sb_NoText_NoText⟩
  have KT_NoTick_NoText : KitP K (.ref c_NoTick) (.ref c_NoText) false := ⟨kit_ref xhd_NoText xt0_NoText sb_NoTick_NoText sb_NoText_NoText⟩
  have KT_NoLane_NoText : KitP K (.ref c_NoLane) (.ref c_NoText) false := ⟨kit_ref xhd_NoText xt0_NoText sb_NoLane_NoText sb_NoText_NoText⟩
  have KT_NoName_NoText : KitP K (.ref c_NoName) (.ref c_NoText) false := ⟨kit_ref xhd_NoText xt0_NoText sb_NoName_NoText sb_NoText_NoText⟩
  have KT_Taken_NoText : KitP K (.ref c_Taken) (.ref c_NoText) false := ⟨kit_ref xhd_NoText xt0_NoText sb_Taken_NoText sb_NoText_NoText⟩
  have KT_Unknown_NoText : KitP K (.ref c_Unknown) (.ref c_NoText) false := ⟨kit_ref xhd_NoText xt0_NoText sb_Unknown_NoText sb_NoText_NoText⟩
  have KT_NoWay_NoText : KitP K (.ref c_NoWay) (.ref c_NoText) false := ⟨kit_ref xhd_NoText xt0_NoText sb_NoWay_NoText sb_NoText_NoText⟩
  have KT_TooMany_NoText : KitP K (.ref c_TooMany) (.ref c_NoText) false := ⟨kit_ref xhd_NoText xt0_NoText sb_TooMany_NoText sb_NoText_NoText⟩
  have KT_TooMuch_NoText : KitP K (.ref c_TooMuch) (.ref c_NoText) false := ⟨kit_ref xhd_NoText xt0_NoText sb_TooMuch_NoText sb_NoText_NoText⟩
  have KT_NoneType_NoText : KitP K (.type "NoneType") (.ref c_NoText) false := ⟨kit_ref xhd_NoText xt0_NoText sb_NoneType_NoText sb_NoText_NoText⟩
  have Q_NoText : MgP mg "NoText" c_NoText := ⟨PySem.W.mg_of X G ac_NoText⟩
  have KT_NoJar_NoBook : KitP K (.ref c_NoJar) (.ref c_NoBook) false := ⟨kit_ref xhd_NoBook xt0_NoBook sb_NoJar_NoBook sb_NoBook_NoBook⟩
  have KT_NoTick_NoBook : KitP K (.ref c_NoTick) (.ref c_NoBook) false := ⟨kit_ref xhd_NoBook xt0_NoBook sb_NoTick_NoBook sb_NoBook_NoBook⟩
  have KT_NoLane_NoBook : KitP K (.ref c_NoLane) (.ref c_NoBook) false := ⟨kit_ref xhd_NoBook xt0_NoBook sb_NoLane_NoBook sb_NoBook_NoBook⟩
  have KT_NoName_NoBook : KitP K (.ref c_NoName) (.ref c_NoBook) false := ⟨kit_ref xhd_NoBook xt0_NoBook sb_NoName_NoBook sb_NoBook_NoBook⟩
  have KT_Taken_NoBook : KitP K (.ref c_Taken) (.ref c_NoBook) false := ⟨kit_ref xhd_NoBook xt0_NoBook sb_Taken_NoBook sb_NoBook_NoBook⟩
  have KT_Unknown_NoBook : KitP K (.ref c_Unknown) (.ref c_NoBook) false := ⟨kit_ref xhd_NoBook xt0_NoBook sb_Unknown_NoBook sb_NoBook_NoBook⟩
  have KT_NoWay_NoBook : KitP K (.ref c_NoWay) (.ref c_NoBook) false := ⟨kit_ref xhd_NoBook xt0_NoBook sb_NoWay_NoBook sb_NoBook_NoBook⟩
  have KT_TooMany_NoBook : KitP K (.ref c_TooMany) (.ref c_NoBook) false := ⟨kit_ref xhd_NoBook xt0_NoBook sb_TooMany_NoBook sb_NoBook_NoBook⟩
  have KT_TooMuch_NoBook : KitP K (.ref c_TooMuch) (.ref c_NoBook) false := ⟨kit_ref xhd_NoBook xt0_NoBook sb_TooMuch_NoBook sb_NoBook_NoBook⟩
  have KT_NoneType_NoBook : KitP K (.type "NoneType") (.ref c_NoBook) false := ⟨kit_ref xhd_NoBook xt0_NoBook sb_NoneType_NoBook sb_NoBook_NoBook⟩
  have Q_NoBook : MgP mg "NoBook" c_NoBook := ⟨PySem.W.mg_of X G ac_NoBook⟩
  have KT_NoJar_ValueError : KitP K (.ref c_NoJar) (.type "ValueError") true := ⟨kit_bt km_NoJar_ValueError sb_NoJar_ValueError⟩
  have KT_NoTick_ValueError : KitP K (.ref c_NoTick) (.type "ValueError") true := ⟨kit_bt km_NoTick_ValueError sb_NoTick_ValueError⟩
  have KT_NoLane_ValueError : KitP K (.ref c_NoLane) (.type "ValueError") true := ⟨kit_bt km_NoLane_ValueError sb_NoLane_ValueError⟩
  have KT_NoName_ValueError : KitP K (.ref c_NoName) (.type "ValueError") true := ⟨kit_bt km_NoName_ValueError sb_NoName_ValueError⟩
  have KT_Taken_ValueError : KitP K (.ref c_Taken) (.type "ValueError") true := ⟨kit_bt km_Taken_ValueError sb_Taken_ValueError⟩
  have KT_Unknown_ValueError : KitP K (.ref c_Unknown) (.type "ValueError") true := ⟨kit_bt km_Unknown_ValueError sb_Unknown_ValueError⟩
  have KT_NoWay_ValueError : KitP K (.ref c_NoWay) (.type "ValueError") true := ⟨kit_bt km_NoWay_ValueError sb_NoWay_ValueError⟩
  have KT_TooMany_ValueError : KitP K (.ref c_TooMany) (.type "ValueError") true := ⟨kit_bt km_TooMany_ValueError sb_TooMany_ValueError⟩
  have KT_TooMuch_ValueError : KitP K (.ref c_TooMuch) (.type "ValueError") true := ⟨kit_bt km_TooMuch_ValueError sb_TooMuch_ValueError⟩
  have G_ValueError : mg "ValueError" = none := PySem.W.mg_none_of X G z_ValueError
  have A_NoName_name : XfP K c_NoName "name" := ⟨xga_NoName, xgg_NoName, xs_NoName, xhd_NoName, yA_NoName_name⟩
  have A_Taken_name : XfP K c_Taken "name" := ⟨xga_Taken, xgg_Taken, xs_Taken, xhd_Taken, yA_Taken_name⟩
  have A_Unknown_name : XfP K c_Unknown "name" := ⟨xga_Unknown, xgg_Unknown, xs_Unknown, xhd_Unknown, yA_Unknown_name⟩
  have A_TooMany_name : XfP K c_TooMany "name" := ⟨xga_TooMany, xgg_TooMany, xs_TooMany, xhd_TooMany, yA_TooMany_name⟩
  have CL_Lot : Cls K c_Lot := ⟨pg_Lot, hd_Lot, po_Lot, sa_Lot⟩
  have A_Lot_name : FldP K c_Lot "name" := ⟨CL_Lot, yA_Lot_name⟩
  have A_NoWay_place : XfP K c_NoWay "place" := ⟨xga_NoWay, xgg_NoWay, xs_NoWay, xhd_NoWay, yA_NoWay_place⟩
  have A_TooMany_bound : XfP K c_TooMany "bound" := ⟨xga_TooMany, xgg_TooMany, xs_TooMany, xhd_TooMany, yA_TooMany_bound⟩
  have Q_LaneError : MgP mg "LaneError" c_LaneError := ⟨PySem.W.mg_of X G ac_LaneError⟩
  have XM_TooMany_LaneError : ExmP K (.ref c_TooMany) (.ref c_LaneError) true := ⟨exm_mk xs_LaneError xhd_LaneError xt_LaneError sb_TooMany_LaneError⟩
  have XM_NoLane_LaneError : ExmP K (.ref c_NoLane) (.ref c_LaneError) true := ⟨exm_mk xs_LaneError xhd_LaneError xt_LaneError sb_NoLane_LaneError⟩
  have XM_NoJar_LaneError : ExmP K (.ref c_NoJar) (.ref c_LaneError) true := ⟨exm_mk xs_LaneError xhd_LaneError xt_LaneError sb_NoJar_LaneError⟩
  have XM_NoWay_LaneError : ExmP K (.ref c_NoWay) (.ref c_LaneError) true := ⟨exm_mk xs_LaneError xhd_LaneError xt_LaneError sb_NoWay_LaneError⟩
  have XM_NoName_LaneError : ExmP K (.ref c_NoName) (.ref c_LaneError) true := ⟨exm_mk xs_LaneError xhd_LaneError xt_LaneError sb_NoName_LaneError⟩
  have XM_Unknown_LaneError : ExmP K (.ref c_Unknown) (.ref c_LaneError) true := ⟨exm_mk xs_LaneError xhd_LaneError xt_LaneError sb_Unknown_LaneError⟩
  have XM_NoTick_LaneError : ExmP K (.ref c_NoTick) (.ref c_LaneError) true := ⟨exm_mk xs_LaneError xhd_LaneError xt_LaneError sb_NoTick_LaneError⟩
  have XM_Taken_LaneError : ExmP K (.ref c_Taken) (.ref c_LaneError) true := ⟨exm_mk xs_LaneError xhd_LaneError xt_LaneError sb_Taken_LaneError⟩
  have XM_TooMuch_LaneError : ExmP K (.ref c_TooMuch) (.ref c_LaneError) true := ⟨exm_mk xs_LaneError xhd_LaneError xt_LaneError sb_TooMuch_LaneError⟩
  have G_max : mg "max" = none := PySem.W.mg_none_of X G z_max
  have CL_Flow : Cls K c_Flow := ⟨pg_Flow, hd_Flow, po_Flow, sa_Flow⟩
  have A_Flow_jar : FldP K c_Flow "jar" := ⟨CL_Flow, yA_Flow_jar⟩
  have A_Flow_marks : FldP K c_Flow "marks" := ⟨CL_Flow, yA_Flow_marks⟩
  have G_zip : mg "zip" = none := PySem.W.mg_none_of X G z_zip
  have G_list : mg "list" = none := PySem.W.mg_none_of X G z_list
  have F1 := fun_mk (st := s_law_begun) l1 c1 k1
  have b1 := F1.binds (ps := ["_law_script"]) fun _ _ _ _ _ _ us hl => match us, hl with | [_], _ => rfl
  have F2 := fun_mk (st := s_law_take) l2 c2 k2
  have b2 := F2.binds (ps := ["_law_state", "_law_many"]) fun _ _ _ _ _ _ us hl => match us, hl with | [_, _], _ => rfl
  have F3 := fun_mk (st := s_law_names) l3 c3 k3
  have b3 := F3.binds (ps := ["_law_state", "_law_many"]) fun _ _ _ _ _ _ us hl => match us, hl with | [_, _], _ => rfl
  have F4 := fung_mk (st := s_Floor__init) l4 c4
  have F5 := fung_mk (st := s_House__init) l5 c5
  have F6 := fun_mk (st := s_law_pick) l6 c6 k6
  have b6 := F6.binds (ps := ["_law_state", "_law_some"]) fun _ _ _ _ _ _ us hl => match us, hl with | [_, _], _ => rfl
  have F7 := fun_mk (st := s_law_width) l7 c7 k7
  have b7 := F7.binds (ps := ["_law_state"]) fun _ _ _ _ _ _ us hl => match us, hl with | [_], _ => rfl
  have F8 := fun_mk (st := s_law_spoilt) l8 c8 k8
  have b8 := F8.binds (ps := ["_law_state", "_law_call"]) fun _ _ _ _ _ _ us hl => match us, hl with | [_, _], _ => rfl
  have F9 := fun_mk (st := s_law_is_name) l9 c9 k9
  have b9 := F9.binds (ps := ["_law_call"]) fun _ _ _ _ _ _ us hl => match us, hl with | [_], _ => rfl
  have F10 := fun_mk (st := s_law_word) l10 c10 k10
  have b10 := F10.binds (ps := ["_law_call", "_law_wide", "_law_rows"]) fun _ _ _ _ _ _ us hl => match us, hl with | [_, _, _], _ => rfl
  have F11 := fun_mk (st := s_is_name) l11 c11 k11
  have b11 := F11.binds (ps := ["text"]) fun _ _ _ _ _ _ us hl => match us, hl with | [_], _ => rfl
  have F12 := fung_mk (st := s_Floor_need_new) l12 c12
  have F13 := fung_mk (st := s_Floor_need_width) l13 c13
  have F14 := fung_mk (st := s_Floor_need_build) l14 c14
  have F15 := fung_mk (st := s_Floor_add_lane) l15 c15
  have F16 := fung_mk (st := s_House_build) l16 c16
  have F17 := fung_mk (st := s_law_alone) l17 c17
  have F18 := fung_mk (st := s_law_done) l18 c18
  have F19 := fung_mk (st := s_Floor_opens_of) l19 c19
  have F20 := fung_mk (st := s_House_lane_rows) l20 c20
  have F21 := fung_mk (st := s_House_stream_rows) l21 c21
  have F22 := fung_mk (st := s_law) l22 c22
  refine ⟨PySem.W.fnOf "law" "law" (defArgs s_law) (defBody s_law) (defScope s_law) .none kV22 dc22 pm22 an22 cd22 ct22, fun s v => .of_eq rfl, fun base _ _ => ?_⟩
  have X_NoName : ExI l.prog w K mg base "NoName" c_NoName ["name"] := ⟨PySem.W.mg_of X G ac_NoName, T_NoName, ⟨fI_NoName, _, ["self", "name"], xi_NoName, xti_NoName, FI_NoName.binds (ps := ["self", "name"]) fun _ _ _ _ _ _ us hl => (match us, hl with | [_, _], _ => rfl), x_NoName__init FI_NoName T_NoName xn_NoName_name⟩⟩
  have X_Taken : ExI l.prog w K mg base "Taken" c_Taken ["name"] := ⟨PySem.W.mg_of X G ac_Taken, T_Taken, ⟨fI_Taken, _, ["self", "name"], xi_Taken, xti_Taken, FI_Taken.binds (ps := ["self", "name"]) fun _ _ _ _ _ _ us hl => (match us, hl with | [_, _], _ => rfl), x_Taken__init FI_Taken T_Taken xn_Taken_name⟩⟩
  have O_law_begun : FnOk l.prog w K mg base CX0 1 f1 _ ["_law_script"] (lift (pBegun K)) := d_law_begun F1 
  have O_law_take : FnOk l.prog w K mg base CX0 1 f2 _ ["_law_state", "_law_many"] (lift pTake) := d_law_take F2 G_len
  have D_law_take : Def l.prog w K mg base 1 "_law_take" ["_law_state", "_law_many"] pTake := ⟨_, _, PySem.W.mg_of X G a2, k2, b2, O_law_take⟩
  have O_law_names : FnOk l.prog w K mg base CX0 2 f3 _ ["_law_state", "_law_many"] (lift pNames) := d_law_names F3 D_law_take G_range
  have O_Floor__init : FnOk l.prog w K mg base (L2.CX l.prog w) 1 f4 _ ["self"] (liftE (pFloorI ⟨c_Floor, c_Flow, (0 : Addr), c_Lot⟩)) := d_Floor__init F4 A_Scene_now A_Floor_now A_House_now A_Floor_widths A_Floor_shut_until A_Floor_terms A_Floor_line
  have N_Floor_0 : MakeE l.prog w K mg base 1 "Floor" c_Floor 0 [] (selN 1) (pFloorI ⟨c_Floor, c_Flow, (0 : Addr), c_Lot⟩) := ⟨⟨f4, PySem.W.mg_of X G ac_Floor, ⟨mk_Floor, a4, n4, mkk_Floor⟩, ⟨⟨_, ["self"], ⟨fun s us ws hK h1 h2 => match us, ws, h1, h2 with | [u0], [], _, _ => ⟨[u0], (.at rfl .nil), .of_eq rfl⟩⟩, O_Floor__init⟩⟩⟩⟩
  have O_House__init : FnOk l.prog w K mg base (L2.CX l.prog w) 3 f5 _ ["self"] (liftE (pHouseI c_House ⟨c_Floor, c_Flow, (0 : Addr), c_Lot⟩)) := d_House__init F5 A_Scene_now A_Floor_now A_House_now A_House_floor N_Floor_0 A_House_pages
  have O_law_pick : FnOk l.prog w K mg base CX0 2 f6 _ ["_law_state", "_law_some"] (lift pPick) := d_law_pick F6 D_law_take G_len
  have O_law_width : FnOk l.prog w K mg base CX0 2 f7 _ ["_law_state"] (lift pWidthL) := d_law_width F7 D_law_take
  have O_law_spoilt : FnOk l.prog w K mg base CX0 2 f8 _ ["_law_state", "_law_call"] (lift pSpoilt) := d_law_spoilt F8 D_law_take G_len
  have O_law_is_name : FnOk l.prog w K mg base CX0 1 f9 _ ["_law_call"] (lift pIsNameL) := d_law_is_name F9 G_len
  have D_law_is_name : Def l.prog w K mg base 1 "_law_is_name" ["_law_call"] pIsNameL := ⟨_, _, PySem.W.mg_of X G a9, k9, b9, O_law_is_name⟩
  have O_law_word : FnOk l.prog w K mg base CX0 2 f10 _ ["_law_call", "_law_wide", "_law_rows"] (lift pWordL) := d_law_word F10 D_law_is_name
  have O_is_name : FnOk l.prog w K mg base CX0 1 f11 _ ["text"] (lift pIsName) := d_is_name F11 G_len C_LETTERS
  have D_is_name : Def l.prog w K mg base 1 "is_name" ["text"] pIsName := ⟨_, _, PySem.W.mg_of X G a11, k11, b11, O_is_name⟩
  have O_Floor_need_new : FnOk l.prog w K mg base (L2.CX l.prog w) 3 f12 _ ["self", "name", "taken"] (liftE (pNeedNew c_NoName c_Taken)) := d_Floor_need_new F12 D_is_name X_NoName X_Taken
  have O_Floor_need_width : FnOk l.prog w K mg base (L2.CX l.prog w) 1 f13 _ ["self", "width"] (liftE (pNeedWidth c_NoLane)) := d_Floor_need_width F13 C_GREATEST_floor X_NoLane
  have M_Floor_need_new_2 : MethE l.prog w K mg base 3 c_Floor "need_new" 2 [] (selN 3) (pNeedNew c_NoName c_Taken) := ⟨⟨f12, CL_Floor, ⟨a12, n12, k12⟩, ⟨⟨_, ["self", "name", "taken"], ⟨fun s us ws hK h1 h2 => match us, ws, h1, h2 with | [u0, u1, u2], [], _, _ => ⟨[u0, u1, u2], (.at rfl (.at rfl (.at rfl .nil))), .of_eq rfl⟩⟩, O_Floor_need_new⟩⟩⟩⟩
  have M_Floor_need_width_1 : MethE l.prog w K mg base 1 c_Floor "need_width" 1 [] (selN 2) (pNeedWidth c_NoLane) := ⟨⟨f13, CL_Floor, ⟨a13, n13, k13⟩, ⟨⟨_, ["self", "width"], ⟨fun s us ws hK h1 h2 => match us, ws, h1, h2 with | [u0, u1], [], _, _ => ⟨[u0, u1], (.at rfl (.at rfl .nil)), .of_eq rfl⟩⟩, O_Floor_need_width⟩⟩⟩⟩
  have O_Floor_need_build : FnOk l.prog w K mg base (L2.CX l.prog w) 4 f14 _ ["self", "name", "width"] (liftE (anyw (pNeedBuild ⟨c_Floor, c_Flow, (0 : Addr), c_Lot⟩ c_NoName c_Taken c_NoLane))) := d_Floor_need_build F14 M_Floor_need_new_2 A_Floor_widths M_Floor_need_width_1
  have O_Floor_add_lane : FnOk l.prog w K mg base (L2.CX l.prog w) 1 f15 _ ["self", "name", "width"] (liftE (anyw (pAddLane ⟨c_Floor, c_Flow, (0 : Addr), c_Lot⟩))) := d_Floor_add_lane F15 A_Floor_widths A_Floor_shut_until
  have M_Floor_need_build_2 : MethE l.prog w K mg base 4 c_Floor "need_build" 2 [] (selN 3) (anyw (pNeedBuild ⟨c_Floor, c_Flow, (0 : Addr), c_Lot⟩ c_NoName c_Taken c_NoLane)) := ⟨⟨f14, CL_Floor, ⟨a14, n14, k14⟩, ⟨⟨_, ["self", "name", "width"], ⟨fun s us ws hK h1 h2 => match us, ws, h1, h2 with | [u0, u1, u2], [], _, _ => ⟨[u0, u1, u2], (.at rfl (.at rfl (.at rfl .nil))), .of_eq rfl⟩⟩, O_Floor_need_build⟩⟩⟩⟩
  have M_Floor_add_lane_2 : MethE l.prog w K mg base 1 c_Floor "add_lane" 2 [] (selN 3) (anyw (pAddLane ⟨c_Floor, c_Flow, (0 : Addr), c_Lot⟩)) := ⟨⟨f15, CL_Floor, ⟨a15, n15, k15⟩, ⟨⟨_, ["self", "name", "width"], ⟨fun s us ws hK h1 h2 => match us, ws, h1, h2 with | [u0, u1, u2], [], _, _ => ⟨[u0, u1, u2], (.at rfl (.at rfl (.at rfl .nil))), .of_eq rfl⟩⟩, O_Floor_add_lane⟩⟩⟩⟩
  have O_House_build : FnOk l.prog w K mg base (L2.CX l.prog w) 5 f16 _ ["self", "name", "width"] (liftE (anyw (pBuild c_House ⟨c_Floor, c_Flow, (0 : Addr), c_Lot⟩ c_NoName c_Taken c_NoLane))) := d_House_build F16 M_Floor_need_build_2 A_House_floor M_Floor_add_lane_2 A_House_pages
  have O_law_alone : FnOk l.prog w K mg base (L2.CX l.prog w) 1 f17 _ ["_law_error"] (liftE (pAlone c_NoName c_Taken c_NoLane)) := d_law_alone F17 KT_NoJar_NoName EP_NoJar KT_NoTick_NoName EP_NoTick KT_NoLane_NoName EP_NoLane KT_NoName_NoName EP_NoName KT_Taken_NoName EP_Taken KT_Unknown_NoName EP_Unknown KT_NoWay_NoName EP_NoWay KT_TooMany_NoName EP_TooMany KT_TooMuch_NoName EP_TooMuch KT_NoneType_NoName G_isinstance Q_NoName KT_NoJar_Taken KT_NoTick_Taken KT_NoLane_Taken KT_NoName_Taken KT_Taken_Taken KT_Unknown_Taken KT_NoWay_Taken KT_TooMany_Taken KT_TooMuch_Taken KT_NoneType_Taken Q_Taken KT_NoJar_Unknown KT_NoTick_Unknown KT_NoLane_Unknown KT_NoName_Unknown KT_Taken_Unknown KT_Unknown_Unknown KT_NoWay_Unknown KT_TooMany_Unknown KT_TooMuch_Unknown KT_NoneType_Unknown Q_Unknown KT_NoJar_NoWay KT_NoTick_NoWay KT_NoLane_NoWay KT_NoName_NoWay KT_Taken_NoWay KT_Unknown_NoWay KT_NoWay_NoWay KT_TooMany_NoWay KT_TooMuch_NoWay KT_NoneType_NoWay Q_NoWay KT_NoJar_NoLane KT_NoTick_NoLane KT_NoLane_NoLane KT_NoName_NoLane KT_Taken_NoLane KT_Unknown_NoLane KT_NoWay_NoLane KT_TooMany_NoLane KT_TooMuch_NoLane KT_NoneType_NoLane Q_NoLane KT_NoJar_NoTick KT_NoTick_NoTick KT_NoLane_NoTick KT_NoName_NoTick KT_Taken_NoTick KT_Unknown_NoTick KT_NoWay_NoTick KT_TooMany_NoTick KT_TooMuch_NoTick KT_NoneType_NoTick Q_NoTick KT_NoJar_TooMany KT_NoTick_TooMany KT_NoLane_TooMany KT_NoName_TooMany KT_Taken_TooMany KT_Unknown_TooMany KT_NoWay_TooMany KT_TooMany_TooMany KT_TooMuch_TooMany KT_NoneType_TooMany Q_TooMany KT_NoJar_TooMuch KT_NoTick_TooMuch KT_NoLane_TooMuch KT_NoName_TooMuch KT_Taken_TooMuch KT_Unknown_TooMuch KT_NoWay_TooMuch KT_TooMany_TooMuch KT_TooMuch_TooMuch KT_NoneType_TooMuch Q_TooMuch KT_NoJar_NoJar KT_NoTick_NoJar KT_NoLane_NoJar KT_NoName_NoJar KT_Taken_NoJar KT_Unknown_NoJar KT_NoWay_NoJar KT_TooMany_NoJar KT_TooMuch_NoJar KT_NoneType_NoJar Q_NoJar KT_NoJar_NoLot KT_NoTick_NoLot KT_NoLane_NoLot KT_NoName_NoLot KT_Taken_NoLot KT_Unknown_NoLot KT_NoWay_NoLot KT_TooMany_NoLot KT_TooMuch_NoLot KT_NoneType_NoLot Q_NoLot KT_NoJar_NoText KT_NoTick_NoText KT_NoLane_NoText KT_NoName_NoText KT_Taken_NoText KT_Unknown_NoText KT_NoWay_NoText KT_TooMany_NoText KT_TooMuch_NoText KT_NoneType_NoText Q_NoText KT_NoJar_NoBook KT_NoTick_NoBook KT_NoLane_NoBook KT_NoName_NoBook KT_Taken_NoBook KT_Unknown_NoBook KT_NoWay_NoBook KT_TooMany_NoBook KT_TooMuch_NoBook KT_NoneType_NoBook Q_NoBook KT_NoJar_ValueError KT_NoTick_ValueError KT_NoLane_ValueError KT_NoName_ValueError KT_Taken_ValueError KT_Unknown_ValueError KT_NoWay_ValueError KT_TooMany_ValueError KT_TooMuch_ValueError G_ValueError A_NoName_name A_Taken_name A_Unknown_name A_TooMany_name A_Lot_name A_NoWay_place A_TooMany_bound
  have M_House_build_0_name_width : MethE l.prog w K mg base 5 c_House "build" 0 ["name", "width"] (selN 3) (anyw (pBuild c_House ⟨c_Floor, c_Flow, (0 : Addr), c_Lot⟩ c_NoName c_Taken c_NoLane)) := ⟨⟨f16, CL_House, ⟨a16, n16, k16⟩, ⟨⟨_, ["self", "name", "width"], ⟨fun s us ws hK h1 h2 => match us, ws, h1, h2 with | [u0], [w0, w1], _, _ => ⟨[u0, w0, w1], (.at rfl (.at rfl (.at rfl .nil))), .of_eq rfl⟩⟩, O_House_build⟩⟩⟩⟩
  have E_law_alone_1 : DefE l.prog w K mg base 1 "_law_alone" 1 [] (selN 1) (pAlone c_NoName c_Taken c_NoLane) := ⟨⟨f17, PySem.W.mg_of X G a17, k17, ⟨⟨_, ["_law_error"], ⟨fun s us ws hK h1 h2 => match us, ws, h1, h2 with | [u0], [], _, _ => ⟨[u0], (.at rfl .nil), .of_eq rfl⟩⟩, O_law_alone⟩⟩⟩⟩
  have O_law_done : FnOk l.prog w K mg base (L2.CX l.prog w) 6 f18 _ ["_law_house", "_law_deed"] (liftE (anyw (pDone c_House ⟨c_Floor, c_Flow, (0 : Addr), c_Lot⟩))) := d_law_done F18 M_House_build_0_name_width Q_LaneError XM_TooMany_LaneError XM_NoLane_LaneError XM_NoJar_LaneError XM_NoWay_LaneError XM_NoName_LaneError XM_Unknown_LaneError XM_NoTick_LaneError XM_Taken_LaneError XM_TooMuch_LaneError E_law_alone_1
  have O_Floor_opens_of : FnOk l.prog w K mg base (L2.CX l.prog w) 1 f19 _ ["self", "lane"] (liftE (anyw (pOpensOf ⟨c_Floor, c_Flow, (0 : Addr), c_Lot⟩))) := d_Floor_opens_of F19 G_max A_Scene_now A_Floor_now A_House_now A_Floor_shut_until
  have M_Floor_opens_of_1 : MethE l.prog w K mg base 1 c_Floor "opens_of" 1 [] (selN 2) (anyw (pOpensOf ⟨c_Floor, c_Flow, (0 : Addr), c_Lot⟩)) := ⟨⟨f19, CL_Floor, ⟨a19, n19, k19⟩, ⟨⟨_, ["self", "lane"], ⟨fun s us ws hK h1 h2 => match us, ws, h1, h2 with | [u0, u1], [], _, _ => ⟨[u0, u1], (.at rfl (.at rfl .nil)), .of_eq rfl⟩⟩, O_Floor_opens_of⟩⟩⟩⟩
  have O_House_lane_rows : FnOk l.prog w K mg base (L2.CX l.prog w) 2 f20 _ ["self"] (liftE (anyw (pLaneRows c_House ⟨c_Floor, c_Flow, (0 : Addr), c_Lot⟩))) := d_House_lane_rows F20 A_Floor_widths A_House_floor M_Floor_opens_of_1
  have O_House_stream_rows : FnOk l.prog w K mg base (L2.CX l.prog w) 1 f21 _ ["self"] (liftE (anyw (pStreamRows0 c_House ⟨c_Floor, c_Flow, (0 : Addr), c_Lot⟩))) := d_House_stream_rows F21 A_Floor_terms A_House_floor A_Flow_jar A_Flow_marks
  have D_law_begun : Def l.prog w K mg base 1 "_law_begun" ["_law_script"] (pBegun K) := ⟨_, _, PySem.W.mg_of X G a1, k1, b1, O_law_begun⟩
  have D_law_names : Def l.prog w K mg base 2 "_law_names" ["_law_state", "_law_many"] pNames := ⟨_, _, PySem.W.mg_of X G a3, k3, b3, O_law_names⟩
  have N_House_0 : MakeE l.prog w K mg base 3 "House" c_House 0 [] (selN 1) (pHouseI c_House ⟨c_Floor, c_Flow, (0 : Addr), c_Lot⟩) := ⟨⟨f5, PySem.W.mg_of X G ac_House, ⟨mk_House, a5, n5, mkk_House⟩, ⟨⟨_, ["self"], ⟨fun s us ws hK h1 h2 => match us, ws, h1, h2 with | [u0], [], _, _ => ⟨[u0], (.at rfl .nil), .of_eq rfl⟩⟩, O_House__init⟩⟩⟩⟩
  have D_law_pick : Def l.prog w K mg base 2 "_law_pick" ["_law_state", "_law_some"] pPick := ⟨_, _, PySem.W.mg_of X G a6, k6, b6, O_law_pick⟩
  have D_law_width : Def l.prog w K mg base 2 "_law_width" ["_law_state"] pWidthL := ⟨_, _, PySem.W.mg_of X G a7, k7, b7, O_law_width⟩
  have D_law_spoilt : Def l.prog w K mg base 2 "_law_spoilt" ["_law_state", "_law_call"] pSpoilt := ⟨_, _, PySem.W.mg_of X G a8, k8, b8, O_law_spoilt⟩
  have D_law_word : Def l.prog w K mg base 2 "_law_word" ["_law_call", "_law_wide", "_law_rows"] pWordL := ⟨_, _, PySem.W.mg_of X G a10, k10, b10, O_law_word⟩
  have E_law_done_2 : DefE l.prog w K mg base 6 "_law_done" 2 [] (selN 2) (anyw (pDone c_House ⟨c_Floor, c_Flow, (0 : Addr), c_Lot⟩)) := ⟨⟨f18, PySem.W.mg_of X G a18, k18, ⟨⟨_, ["_law_house", "_law_deed"], ⟨fun s us ws hK h1 h2 => match us, ws, h1, h2 with | [u0, u1], [], _, _ => ⟨[u0, u1], (.at rfl (.at rfl .nil)), .of_eq rfl⟩⟩, O_law_done⟩⟩⟩⟩
  have M_House_lane_rows_0 : MethE l.prog w K mg base 2 c_House "lane_rows" 0 [] (selN 1) (anyw (pLaneRows c_House ⟨c_Floor, c_Flow, (0 : Addr), c_Lot⟩)) := ⟨⟨f20, CL_House, ⟨a20, n20, k20⟩, ⟨⟨_, ["self"], ⟨fun s us ws hK h1 h2 => match us, ws, h1, h2 with | [u0], [], _, _ => ⟨[u0], (.at rfl .nil), .of_eq rfl⟩⟩, O_House_lane_rows⟩⟩⟩⟩
  have M_House_stream_rows_0 : MethE l.prog w K mg base 1 c_House "stream_rows" 0 [] (selN 1) (anyw (pStreamRows0 c_House ⟨c_Floor, c_Flow, (0 : Addr), c_Lot⟩)) := ⟨⟨f21, CL_House, ⟨a21, n21, k21⟩, ⟨⟨_, ["self"], ⟨fun s us ws hK h1 h2 => match us, ws, h1, h2 with | [u0], [], _, _ => ⟨[u0], (.at rfl .nil), .of_eq rfl⟩⟩, O_House_stream_rows⟩⟩⟩⟩
  exact d_law F22 D_law_begun D_law_names N_House_0 G_range D_law_take D_law_pick D_law_width D_law_spoilt G_len D_law_word E_law_done_2 G_zip M_House_lane_rows_0 G_isinstance G_list A_Scene_now A_Floor_now A_House_now M_House_stream_rows_0
theorem walk {l : PySem.W.OpenLaw} {qq : Program} {loose : List Str} {XP : (Str → Option Value) → Heap → Prop} {YP : World → Heap → Prop} {d : DefRec} {K : Params → PySem.W.Frag} (hn : l.most = some 63) (hdf : d.params.defaults = [])
    (hY : ∀ (w : World) (h : Heap), YP w h → (K w.params).In h)
    (F : ∀ (w : World) (mg : Str → Option Value) (fa : Addr) (h : Heap), (K w.params).In h → h.Ns mainGlobals mg → mg d.name = some (.ref fa) →
      ∃ fd : FuncData, (∀ (s : Shared) (u : Value), BindsTo s fd ⟨[u], []⟩ [("_law_script", u)]) ∧ ∀ base : Heap, (K w.params).In base → base.Ns mainGlobals mg → FnOk l.prog w (K w.params) mg base (L2.CX l.prog w) 7 fa fd ["_law_script"] (liftE (pLawE (K w.params)))) :
    PySem.W.WalkO qq loose XP YP l.row.toRowW d [] (fun f vs => PySem.call f vs) :=
  L2.walk_of (n := 63) (k := 7) (x := "_law_script") (CX := fun w => L2.CX l.prog w) (sp := fun w => (liftE (pLawE (K w.params)))) hn (by decide) hdf ⟨rfl, by decide, by decide⟩ hY F (fun _ _ a ns hl _ hS => law_startE hl hS) fun _ _ _ _ _ z => law_out z
end Lw
local macro_rules | `(tactic| kernel_rfl) => `(tactic| (with_reducible refine Hc.cut (G1 := HeadRun.looksF _ _) (G2 := HeadRun.seenQ _ _ _ _) (G3 := fun s => List.map (HeadRun.getT s) _) _ _ (by decide) ?h1 ?h2 ?h3; (case h1 => as_aux_lemma => kernel_rfl); (case h2 => refine Hc.nine (by as_aux_lemma => kernel_rfl) (by as_aux_lemma => kernel_rfl) (by as_aux_lemma => kernel_rfl) (by as_aux_lemma => kernel_rfl) (by as_aux_lemma => kernel_rfl) (by as_aux_lemma => kernel_rfl) (by as_aux_lemma => kernel_rfl) (by as_aux_lemma => kernel_rfl) (by as_aux_lemma => kernel_rfl)); (case h3 => as_aux_lemma => kernel_rfl)))
open PySem PySem.W PyProof.Rows in
set_option maxRecDepth 100000 in
set_option maxHeartbeats 0 in
theorem PySem.Challenge.cw_hourlanes_k50_lanes_built_holds : PySem.Challenge.rw_hourlanes_k50_lanes_built.Holds := by
  w_on; o_law; k_headL; (case hw => w_witness2)
  k_fill
  refine Lw.walk (l := PySem.Challenge.rw_hourlanes_k50_lanes_built) rfl rfl (fun w h Y => (by first | exact PySem.W.kIn_of Y | exact PySem.W.km_in_of Y)) ?F
  case F => as_aux_lemma =>
    intro w mg fa h KX G hmg
    refine' Lw.all_mk KX G hmg ?ac_Scene ?ac_Floor ?ac_House ?ac_NoName ?ac_Taken ?ac_NoLane ?ac_NoJar ?ac_NoTick ?ac_Unknown ?ac_NoWay ?ac_TooMany ?ac_TooMuch ?ac_NoLot ?ac_NoText ?ac_NoBook ?ac_Lot ?ac_LaneError ?ac_Flow ?a1 ?l1 ?c1 ?k1 ?a2 ?l2 ?c2 ?k2 ?a3 ?l3 ?c3 ?k3 ?a4 ?n4 ?l4 ?c4 ?k4 ?a5 ?n5 ?l5 ?c5 ?k5 ?a6 ?l6 ?c6 ?k6 ?a7 ?l7 ?c7 ?k7 ?a8 ?l8 ?c8 ?k8 ?a9 ?l9 ?c9 ?k9 ?a10 ?l10 ?c10 ?k10 ?a11 ?l11 ?c11 ?k11 ?a12 ?n12 ?l12 ?c12 ?k12 ?a13 ?n13 ?l13 ?c13 ?k13 ?a14 ?n14 ?l14 ?c14 ?k14 ?a15 ?n15 ?l15 ?c15 ?k15 ?a16 ?n16 ?l16 ?c16 ?k16 ?a17 ?l17 ?c17 ?k17 ?a18 ?l18 ?c18 ?k18 ?a19 ?n19 ?l19 ?c19 ?k19 ?a20 ?n20 ?l20 ?c20 ?k20 ?a21 ?n21 ?l21 ?c21 ?k21 ?a22 ?l22 ?c22 ?k22 ?z_len ?z_range ?pg_Scene ?hd_Scene ?po_Scene ?sa_Scene ?yA_Scene_now ?pg_Floor ?hd_Floor ?po_Floor ?sa_Floor ?yA_Floor_now ?pg_House ?hd_House ?po_House ?sa_House ?yA_House_now ?yA_Floor_widths ?yA_Floor_shut_until ?yA_Floor_terms ?yA_Floor_line ?yA_House_floor ?mk_Floor ?mkk_Floor ?yA_House_pages ?v_LETTERS ?xk_NoName ?xs_NoName ?xt_NoName ?xL_NoName ?xr_NoName ?xsa_NoName ?xi_NoName ?xti_NoName ?xki_NoName ?xl_NoName ?xc_NoName ?xn_NoName_name ?xk_Taken ?xs_Taken ?xt_Taken ?xL_Taken ?xr_Taken ?xsa_Taken ?xi_Taken ?xti_Taken ?xki_Taken ?xl_Taken ?xc_Taken ?xn_Taken_name ?v_GREATEST_floor ?xk_NoLane ?xs_NoLane ?xt_NoLane ?xq_NoLane ?sb_NoJar_NoName ?sb_NoName_NoName ?xhd_NoName ?xk_NoJar ?xs_NoJar ?xt_NoJar ?xga_NoJar ?xgg_NoJar ?ob1 ?ob2 ?xhd_NoJar ?eha_NoJar ?ehm_NoJar ?sb_NoTick_NoName ?xk_NoTick ?xs_NoTick ?xt_NoTick ?xga_NoTick ?xgg_NoTick ?xhd_NoTick ?eha_NoTick ?ehm_NoTick ?sb_NoLane_NoName ?xga_NoLane ?xgg_NoLane ?xhd_NoLane ?eha_NoLane ?ehm_NoLane ?xga_NoName ?xgg_NoName ?eha_NoName ?ehm_NoName ?sb_Taken_NoName ?xga_Taken ?xgg_Taken ?xhd_Taken ?eha_Taken ?ehm_Taken ?sb_Unknown_NoName ?xk_Unknown ?xs_Unknown ?xt_Unknown ?xga_Unknown ?xgg_Unknown ?xhd_Unknown ?eha_Unknown ?ehm_Unknown ?sb_NoWay_NoName ?xk_NoWay ?xs_NoWay ?xt_NoWay ?xga_NoWay ?xgg_NoWay ?xhd_NoWay ?eha_NoWay ?ehm_NoWay ?sb_TooMany_NoName ?xk_TooMany ?xs_TooMany ?xt_TooMany ?xga_TooMany ?xgg_TooMany ?xhd_TooMany ?eha_TooMany ?ehm_TooMany ?sb_TooMuch_NoName ?xk_TooMuch ?xs_TooMuch ?xt_TooMuch ?xga_TooMuch ?xgg_TooMuch ?xhd_TooMuch ?eha_TooMuch ?ehm_TooMuch ?sb_NoneType_NoName ?z_isinstance ?sb_NoJar_Taken ?sb_Taken_Taken ?sb_NoTick_Taken ?sb_NoLane_Taken ?sb_NoName_Taken ?sb_Unknown_Taken ?sb_NoWay_Taken ?sb_TooMany_Taken ?sb_TooMuch_Taken ?sb_NoneType_Taken ?sb_NoJar_Unknown ?sb_Unknown_Unknown ?sb_NoTick_Unknown ?sb_NoLane_Unknown ?sb_NoName_Unknown ?sb_Taken_Unknown ?sb_NoWay_Unknown ?sb_TooMany_Unknown ?sb_TooMuch_Unknown ?sb_NoneType_Unknown ?sb_NoJar_NoWay ?sb_NoWay_NoWay ?sb_NoTick_NoWay ?sb_NoLane_NoWay ?sb_NoName_NoWay ?sb_Taken_NoWay ?sb_Unknown_NoWay ?sb_TooMany_NoWay ?sb_TooMuch_NoWay ?sb_NoneType_NoWay ?sb_NoJar_NoLane ?sb_NoLane_NoLane ?sb_NoTick_NoLane ?sb_NoName_NoLane ?sb_Taken_NoLane ?sb_Unknown_NoLane ?sb_NoWay_NoLane ?sb_TooMany_NoLane ?sb_TooMuch_NoLane ?sb_NoneType_NoLane ?sb_NoJar_NoTick ?sb_NoTick_NoTick ?sb_NoLane_NoTick ?sb_NoName_NoTick ?sb_Taken_NoTick ?sb_Unknown_NoTick ?sb_NoWay_NoTick ?sb_TooMany_NoTick ?sb_TooMuch_NoTick ?sb_NoneType_NoTick ?sb_NoJar_TooMany ?sb_TooMany_TooMany ?sb_NoTick_TooMany ?sb_NoLane_TooMany ?sb_NoName_TooMany ?sb_Taken_TooMany ?sb_Unknown_TooMany ?sb_NoWay_TooMany ?sb_TooMuch_TooMany ?sb_NoneType_TooMany ?sb_NoJar_TooMuch ?sb_TooMuch_TooMuch ?sb_NoTick_TooMuch ?sb_NoLane_TooMuch ?sb_NoName_TooMuch ?sb_Taken_TooMuch ?sb_Unknown_TooMuch ?sb_NoWay_TooMuch ?sb_TooMany_TooMuch ?sb_NoneType_TooMuch ?sb_NoJar_NoJar ?sb_NoTick_NoJar ?sb_NoLane_NoJar ?sb_NoName_NoJar ?sb_Taken_NoJar ?sb_Unknown_NoJar ?sb_NoWay_NoJar ?sb_TooMany_NoJar ?sb_TooMuch_NoJar ?sb_NoneType_NoJar ?sb_NoJar_NoLot ?sb_NoLot_NoLot ?xhd_NoLot ?xt0_NoLot ?sb_NoTick_NoLot ?sb_NoLane_NoLot ?sb_NoName_NoLot ?sb_Taken_NoLot ?sb_Unknown_NoLot ?sb_NoWay_NoLot ?sb_TooMany_NoLot ?sb_TooMuch_NoLot ?sb_NoneType_NoLot ?sb_NoJar_NoText ?sb_NoText_NoText ?xhd_NoText ?xt0_NoText ?sb_NoTick_NoText ?sb_NoLane_NoText ?sb_NoName_NoText ?sb_Taken_NoText ?sb_Unknown_NoText ?sb_NoWay_NoText ?sb_TooMany_NoText ?sb_TooMuch_NoText ?sb_NoneType_NoText ?sb_NoJar_NoBook ?sb_NoBook_NoBook ?xhd_NoBook ?xt0_NoBook ?sb_NoTick_NoBook ?sb_NoLane_NoBook ?sb_NoName_NoBook ?sb_Taken_NoBook ?sb_Unknown_NoBook ?sb_NoWay_NoBook ?sb_TooMany_NoBook ?sb_TooMuch_NoBook ?sb_NoneType_NoBook ?sb_NoJar_ValueError ?km_NoJar_ValueError ?sb_NoTick_ValueError ?km_NoTick_ValueError ?sb_NoLane_ValueError ?km_NoLane_ValueError ?sb_NoName_ValueError ?km_NoName_ValueError ?sb_Taken_ValueError ?km_Taken_ValueError ?sb_Unknown_ValueError ?km_Unknown_ValueError ?sb_NoWay_ValueError ?km_NoWay_ValueError ?sb_TooMany_ValueError ?km_TooMany_ValueError ?sb_TooMuch_ValueError ?km_TooMuch_ValueError ?z_ValueError ?yA_NoName_name ?yA_Taken_name ?yA_Unknown_name ?yA_TooMany_name ?pg_Lot ?hd_Lot ?po_Lot ?sa_Lot ?yA_Lot_name ?yA_NoWay_place ?yA_TooMany_bound ?sb_TooMany_LaneError ?sb_LaneError_LaneError ?xhd_LaneError ?xt0_LaneError ?xk_LaneError ?xs_LaneError ?xt_LaneError ?sb_NoLane_LaneError ?sb_NoJar_LaneError ?sb_NoWay_LaneError ?sb_NoName_LaneError ?sb_Unknown_LaneError ?sb_NoTick_LaneError ?sb_Taken_LaneError ?sb_TooMuch_LaneError ?z_max ?pg_Flow ?hd_Flow ?po_Flow ?sa_Flow ?yA_Flow_jar ?yA_Flow_marks ?mk_House ?mkk_House ?z_zip ?z_list
    (case ac_Scene => k_is)
    (case ac_Floor => k_is)
    (case ac_House => k_is)
    (case ac_NoName => k_is)
    (case ac_Taken => k_is)
    (case ac_NoLane => k_is)
    (case ac_NoJar => k_is)
    (case ac_NoTick => k_is)
    (case ac_Unknown => k_is)
    (case ac_NoWay => k_is)
    (case ac_TooMany => k_is)
    (case ac_TooMuch => k_is)
    (case ac_NoLot => k_is)
    (case ac_NoText => k_is)
    (case ac_NoBook => k_is)
    (case ac_Lot => k_is)
    (case ac_LaneError => k_is)
    (case ac_Flow => k_is)
    (case a1 => k_is)
    (case l1 => k_is)
    (case c1 => k_is)
    (case k1 => k_is)
    (case a2 => k_is)
    (case l2 => k_is)
    (case c2 => k_is)
    (case k2 => k_is)
    (case a3 => k_is)
    (case l3 => k_is)
    (case c3 => k_is)
    (case k3 => k_is)
    (case a4 => k_is)
    (case n4 => k_is)
    (case l4 => k_is)
    (case c4 => k_is)
    (case k4 => k_is)
    (case a5 => k_is)
    (case n5 => k_is)
    (case l5 => k_is)
    (case c5 => k_is)
    (case k5 => k_is)
    (case a6 => k_is)
    (case l6 => k_is)
    (case c6 => k_is)
    (case k6 => k_is)
    (case a7 => k_is)
    (case l7 => k_is)
    (case c7 => k_is)
    (case k7 => k_is)
    (case a8 => k_is)
    (case l8 => k_is)
    (case c8 => k_is)
    (case k8 => k_is)
    (case a9 => k_is)
    (case l9 => k_is)
    (case c9 => k_is)
    (case k9 => k_is)
    (case a10 => k_is)
    (case l10 => k_is)
    (case c10 => k_is)
    (case k10 => k_is)
    (case a11 => k_is)
    (case l11 => k_is)
    (case c11 => k_is)
    (case k11 => k_is)
    (case a12 => k_is)
    (case n12 => k_is)
    (case l12 => k_is)
    (case c12 => k_is)
    (case k12 => k_is)
    (case a13 => k_is)
    (case n13 => k_is)
    (case l13 => k_is)
    (case c13 => k_is)
    (case k13 => k_is)
    (case a14 => k_is)
    (case n14 => k_is)
    (case l14 => k_is)
    (case c14 => k_is)
    (case k14 => k_is)
    (case a15 => k_is)
    (case n15 => k_is)
    (case l15 => k_is)
    (case c15 => k_is)
    (case k15 => k_is)
    (case a16 => k_is)
    (case n16 => k_is)
    (case l16 => k_is)
    (case c16 => k_is)
    (case k16 => k_is)
    (case a17 => k_is)
    (case l17 => k_is)
    (case c17 => k_is)
    (case k17 => k_is)
    (case a18 => k_is)
    (case l18 => k_is)
    (case c18 => k_is)
    (case k18 => k_is)
    (case a19 => k_is)
    (case n19 => k_is)
    (case l19 => k_is)
    (case c19 => k_is)
    (case k19 => k_is)
    (case a20 => k_is)
    (case n20 => k_is)
    (case l20 => k_is)
    (case c20 => k_is)
    (case k20 => k_is)
    (case a21 => k_is)
    (case n21 => k_is)
    (case l21 => k_is)
    (case c21 => k_is)
    (case k21 => k_is)
    (case a22 => k_is)
    (case l22 => k_is)
    (case c22 => k_is)
    (case k22 => k_is)
    (case z_len => k_is)
    (case z_range => k_is)
    (case pg_Scene => k_is)
    (case hd_Scene => k_is)
    (case po_Scene => k_is)
    (case sa_Scene => k_is)
    (case yA_Scene_now => k_is)
    (case pg_Floor => k_is)
    (case hd_Floor => k_is)
    (case po_Floor => k_is)
    (case sa_Floor => k_is)
    (case yA_Floor_now => k_is)
    (case pg_House => k_is)
    (case hd_House => k_is)
    (case po_House => k_is)
    (case sa_House => k_is)
    (case yA_House_now => k_is)
    (case yA_Floor_widths => k_is)
    (case yA_Floor_shut_until => k_is)
    (case yA_Floor_terms => k_is)
    (case yA_Floor_line => k_is)
    (case yA_House_floor => k_is)
    (case mk_Floor => k_is)
    (case mkk_Floor => k_is)
    (case yA_House_pages => k_is)
    (case v_LETTERS => k_is)
    (case xk_NoName => k_is)
    (case xs_NoName => k_is)
    (case xt_NoName => k_is)
    (case xL_NoName => k_is)
    (case xr_NoName => first | rfl | decide +kernel | k_is)
    (case xsa_NoName => k_is)
    (case xi_NoName => k_is)
    (case xti_NoName => k_is)
    (case xki_NoName => k_is)
    (case xl_NoName => k_is)
    (case xc_NoName => k_is)
    (case xn_NoName_name => k_is)
    (case xk_Taken => k_is)
    (case xs_Taken => k_is)
    (case xt_Taken => k_is)
    (case xL_Taken => k_is)
    (case xr_Taken => first | rfl | decide +kernel | k_is)
    (case xsa_Taken => k_is)
    (case xi_Taken => k_is)
    (case xti_Taken => k_is)
    (case xki_Taken => k_is)
    (case xl_Taken => k_is)
    (case xc_Taken => k_is)
    (case xn_Taken_name => k_is)
    (case v_GREATEST_floor => k_is)
    (case xk_NoLane => k_is)
    (case xs_NoLane => k_is)
    (case xt_NoLane => k_is)
    (case xq_NoLane => k_exc)
    (case sb_NoJar_NoName => first | k_is | rfl | decide +kernel)
    (case sb_NoName_NoName => first | k_is | rfl | decide +kernel)
    (case xhd_NoName => k_is)
    (case xk_NoJar => k_is)
    (case xs_NoJar => k_is)
    (case xt_NoJar => k_is)
    (case xga_NoJar => k_is)
    (case xgg_NoJar => k_is)
    (case ob1 => k_is)
    (case ob2 => k_is)
    (case xhd_NoJar => k_is)
    (case eha_NoJar => k_is)
    (case ehm_NoJar => k_is)
    (case sb_NoTick_NoName => first | k_is | rfl | decide +kernel)
    (case xk_NoTick => k_is)
    (case xs_NoTick => k_is)
    (case xt_NoTick => k_is)
    (case xga_NoTick => k_is)
    (case xgg_NoTick => k_is)
    (case xhd_NoTick => k_is)
    (case eha_NoTick => k_is)
    (case ehm_NoTick => k_is)
    (case sb_NoLane_NoName => first | k_is | rfl | decide +kernel)
    (case xga_NoLane => k_is)
    (case xgg_NoLane => k_is)
    (case xhd_NoLane => k_is)
    (case eha_NoLane => k_is)
    (case ehm_NoLane => k_is)
    (case xga_NoName => k_is)
    (case xgg_NoName => k_is)
    (case eha_NoName => k_is)
    (case ehm_NoName => k_is)
    (case sb_Taken_NoName => first | k_is | rfl | decide +kernel)
    (case xga_Taken => k_is)
    (case xgg_Taken => k_is)
    (case xhd_Taken => k_is)
    (case eha_Taken => k_is)
    (case ehm_Taken => k_is)
    (case sb_Unknown_NoName => first | k_is | rfl | decide +kernel)
    (case xk_Unknown => k_is)
    (case xs_Unknown => k_is)
    (case xt_Unknown => k_is)
    (case xga_Unknown => k_is)
    (case xgg_Unknown => k_is)
    (case xhd_Unknown => k_is)
    (case eha_Unknown => k_is)
    (case ehm_Unknown => k_is)
    (case sb_NoWay_NoName => first | k_is | rfl | decide +kernel)
    (case xk_NoWay => k_is)
    (case xs_NoWay => k_is)
    (case xt_NoWay => k_is)
    (case xga_NoWay => k_is)
    (case xgg_NoWay => k_is)
    (case xhd_NoWay => k_is)
    (case eha_NoWay => k_is)
    (case ehm_NoWay => k_is)
    (case sb_TooMany_NoName => first | k_is | rfl | decide +kernel)
    (case xk_TooMany => k_is)
    (case xs_TooMany => k_is)
    (case xt_TooMany => k_is)
    (case xga_TooMany => k_is)
    (case xgg_TooMany => k_is)
    (case xhd_TooMany => k_is)
    (case eha_TooMany => k_is)
    (case ehm_TooMany => k_is)
    (case sb_TooMuch_NoName => first | k_is | rfl | decide +kernel)
    (case xk_TooMuch => k_is)
    (case xs_TooMuch => k_is)
    (case xt_TooMuch => k_is)
    (case xga_TooMuch => k_is)
    (case xgg_TooMuch => k_is)
    (case xhd_TooMuch => k_is)
    (case eha_TooMuch => k_is)
    (case ehm_TooMuch => k_is)
    (case sb_NoneType_NoName => first | k_is | rfl | decide +kernel)
    (case z_isinstance => k_is)
    (case sb_NoJar_Taken => first | k_is | rfl | decide +kernel)
    (case sb_Taken_Taken => first | k_is | rfl | decide +kernel)
    (case sb_NoTick_Taken => first | k_is | rfl | decide +kernel)
    (case sb_NoLane_Taken => first | k_is | rfl | decide +kernel)
    (case sb_NoName_Taken => first | k_is | rfl | decide +kernel)
    (case sb_Unknown_Taken => first | k_is | rfl | decide +kernel)
    (case sb_NoWay_Taken => first | k_is | rfl | decide +kernel)
    (case sb_TooMany_Taken => first | k_is | rfl | decide +kernel)
    (case sb_TooMuch_Taken => first | k_is | rfl | decide +kernel)
    (case sb_NoneType_Taken => first | k_is | rfl | decide +kernel)
    (case sb_NoJar_Unknown => first | k_is | rfl | decide +kernel)
    (case sb_Unknown_Unknown => first | k_is | rfl | decide +kernel)
    (case sb_NoTick_Unknown => first | k_is | rfl | decide +kernel)
    (case sb_NoLane_Unknown => first | k_is | rfl | decide +kernel)
    (case sb_NoName_Unknown => first | k_is | rfl | decide +kernel)
    (case sb_Taken_Unknown => first | k_is | rfl | decide +kernel)
    (case sb_NoWay_Unknown => first | k_is | rfl | decide +kernel)
    (case sb_TooMany_Unknown => first | k_is | rfl | decide +kernel)
    (case sb_TooMuch_Unknown => first | k_is | rfl | decide +kernel)
    (case sb_NoneType_Unknown => first | k_is | rfl | decide +kernel)
    (case sb_NoJar_NoWay => first | k_is | rfl | decide +kernel)
    (case sb_NoWay_NoWay => first | k_is | rfl | decide +kernel)
    (case sb_NoTick_NoWay => first | k_is | rfl | decide +kernel)
    (case sb_NoLane_NoWay => first | k_is | rfl | decide +kernel)
    (case sb_NoName_NoWay => first | k_is | rfl | decide +kernel)
    (case sb_Taken_NoWay => first | k_is | rfl | decide +kernel)
    (case sb_Unknown_NoWay => first | k_is | rfl | decide +kernel)
    (case sb_TooMany_NoWay => first | k_is | rfl | decide +kernel)
    (case sb_TooMuch_NoWay => first | k_is | rfl | decide +kernel)
    (case sb_NoneType_NoWay => first | k_is | rfl | decide +kernel)
    (case sb_NoJar_NoLane => first | k_is | rfl | decide +kernel)
    (case sb_NoLane_NoLane => first | k_is | rfl | decide +kernel)
    (case sb_NoTick_NoLane => first | k_is | rfl | decide +kernel)
    (case sb_NoName_NoLane => first | k_is | rfl | decide +kernel)
    (case sb_Taken_NoLane => first | k_is | rfl | decide +kernel)
    (case sb_Unknown_NoLane => first | k_is | rfl | decide +kernel)
    (case sb_NoWay_NoLane => first | k_is | rfl | decide +kernel)
    (case sb_TooMany_NoLane => first | k_is | rfl | decide +kernel)
    (case sb_TooMuch_NoLane => first | k_is | rfl | decide +kernel)
    (case sb_NoneType_NoLane => first | k_is | rfl | decide +kernel)
    (case sb_NoJar_NoTick => first | k_is | rfl | decide +kernel)
    (case sb_NoTick_NoTick => first | k_is | rfl | decide +kernel)
    (case sb_NoLane_NoTick => first | k_is | rfl | decide +kernel)
    (case sb_NoName_NoTick => first | k_is | rfl | decide +kernel)
    (case sb_Taken_NoTick => first | k_is | rfl | decide +kernel)
    (case sb_Unknown_NoTick => first | k_is | rfl | decide +kernel)
    (case sb_NoWay_NoTick => first | k_is | rfl | decide +kernel)
    (case sb_TooMany_NoTick => first | k_is | rfl | decide +kernel)
    (case sb_TooMuch_NoTick => first | k_is | rfl | decide +kernel)
    (case sb_NoneType_NoTick => first | k_is | rfl | decide +kernel)
    (case sb_NoJar_TooMany => first | k_is | rfl | decide +kernel)
    (case sb_TooMany_TooMany => first | k_is | rfl | decide +kernel)
    (case sb_NoTick_TooMany => first | k_is | rfl | decide +kernel)
    (case sb_NoLane_TooMany => first | k_is | rfl | decide +kernel)
    (case sb_NoName_TooMany => first | k_is | rfl | decide +kernel)
    (case sb_Taken_TooMany => first | k_is | rfl | decide +kernel)
    (case sb_Unknown_TooMany => first | k_is | rfl | decide +kernel)
    (case sb_NoWay_TooMany => first | k_is | rfl | decide +kernel)
    (case sb_TooMuch_TooMany => first | k_is | rfl | decide +kernel)
    (case sb_NoneType_TooMany => first | k_is | rfl | decide +kernel)
    (case sb_NoJar_TooMuch => first | k_is | rfl | decide +kernel)
    (case sb_TooMuch_TooMuch => first | k_is | rfl | decide +kernel)
    (case sb_NoTick_TooMuch => first | k_is | rfl | decide +kernel)
    (case sb_NoLane_TooMuch => first | k_is | rfl | decide +kernel)
    (case sb_NoName_TooMuch => first | k_is | rfl | decide +kernel)
    (case sb_Taken_TooMuch => first | k_is | rfl | decide +kernel)
    (case sb_Unknown_TooMuch => first | k_is | rfl | decide +kernel)
    (case sb_NoWay_TooMuch => first | k_is | rfl | decide +kernel)
    (case sb_TooMany_TooMuch => first | k_is | rfl | decide +kernel)
    (case sb_NoneType_TooMuch => first | k_is | rfl | decide +kernel)
    (case sb_NoJar_NoJar => first | k_is | rfl | decide +kernel)
    (case sb_NoTick_NoJar => first | k_is | rfl | decide +kernel)
    (case sb_NoLane_NoJar => first | k_is | rfl | decide +kernel)
    (case sb_NoName_NoJar => first | k_is | rfl | decide +kernel)
    (case sb_Taken_NoJar => first | k_is | rfl | decide +kernel)
    (case sb_Unknown_NoJar => first | k_is | rfl | decide +kernel)
    (case sb_NoWay_NoJar => first | k_is | rfl | decide +kernel)
    (case sb_TooMany_NoJar => first | k_is | rfl | decide +kernel)
    (case sb_TooMuch_NoJar => first | k_is | rfl | decide +kernel)
    (case sb_NoneType_NoJar => first | k_is | rfl | decide +kernel)
    (case sb_NoJar_NoLot => first | k_is | rfl | decide +kernel)
    (case sb_NoLot_NoLot => first | k_is | rfl | decide +kernel)
    (case xhd_NoLot => k_is)
    (case xt0_NoLot => k_is)
    (case sb_NoTick_NoLot => first | k_is | rfl | decide +kernel)
    (case sb_NoLane_NoLot => first | k_is | rfl | decide +kernel)
    (case sb_NoName_NoLot => first | k_is | rfl | decide +kernel)
    (case sb_Taken_NoLot => first | k_is | rfl | decide +kernel)
    (case sb_Unknown_NoLot => first | k_is | rfl | decide +kernel)
    (case sb_NoWay_NoLot => first | k_is | rfl | decide +kernel)
    (case sb_TooMany_NoLot => first | k_is | rfl | decide +kernel)
    (case sb_TooMuch_NoLot => first | k_is | rfl | decide +kernel)
    (case sb_NoneType_NoLot => first | k_is | rfl | decide +kernel)
    (case sb_NoJar_NoText => first | k_is | rfl | decide +kernel)
    (case sb_NoText_NoText => first | k_is | rfl | decide +kernel)
    (case xhd_NoText => k_is)
    (case xt0_NoText => k_is)
    (case sb_NoTick_NoText => first | k_is | rfl | decide +kernel)
    (case sb_NoLane_NoText => first | k_is | rfl | decide +kernel)
    (case sb_NoName_NoText => first | k_is | rfl | decide +kernel)
    (case sb_Taken_NoText => first | k_is | rfl | decide +kernel)
    (case sb_Unknown_NoText => first | k_is | rfl | decide +kernel)
    (case sb_NoWay_NoText => first | k_is | rfl | decide +kernel)
    (case sb_TooMany_NoText => first | k_is | rfl | decide +kernel)
    (case sb_TooMuch_NoText => first | k_is | rfl | decide +kernel)
    (case sb_NoneType_NoText => first | k_is | rfl | decide +kernel)
    (case sb_NoJar_NoBook => first | k_is | rfl | decide +kernel)
    (case sb_NoBook_NoBook => first | k_is | rfl | decide +kernel)
    (case xhd_NoBook => k_is)
    (case xt0_NoBook => k_is)
    (case sb_NoTick_NoBook => first | k_is | rfl | decide +kernel)
    (case sb_NoLane_NoBook => first | k_is | rfl | decide +kernel)
    (case sb_NoName_NoBook => first | k_is | rfl | decide +kernel)
    (case sb_Taken_NoBook => first | k_is | rfl | decide +kernel)
    (case sb_Unknown_NoBook => first | k_is | rfl | decide +kernel)
    (case sb_NoWay_NoBook => first | k_is | rfl | decide +kernel)
    (case sb_TooMany_NoBook => first | k_is | rfl | decide +kernel)
    (case sb_TooMuch_NoBook => first | k_is | rfl | decide +kernel)
    (case sb_NoneType_NoBook => first | k_is | rfl | decide +kernel)
    (case sb_NoJar_ValueError => first | k_is | rfl | decide +kernel)
    (case km_NoJar_ValueError => first | rfl | decide +kernel)
    (case sb_NoTick_ValueError => first | k_is | rfl | decide +kernel)
    (case km_NoTick_ValueError => first | rfl | decide +kernel)
    (case sb_NoLane_ValueError => first | k_is | rfl | decide +kernel)
    (case km_NoLane_ValueError => first | rfl | decide +kernel)
    (case sb_NoName_ValueError => first | k_is | rfl | decide +kernel)
    (case km_NoName_ValueError => first | rfl | decide +kernel)
    (case sb_Taken_ValueError => first | k_is | rfl | decide +kernel)
    (case km_Taken_ValueError => first | rfl | decide +kernel)
    (case sb_Unknown_ValueError => first | k_is | rfl | decide +kernel)
    (case km_Unknown_ValueError => first | rfl | decide +kernel)
    (case sb_NoWay_ValueError => first | k_is | rfl | decide +kernel)
    (case km_NoWay_ValueError => first | rfl | decide +kernel)
    (case sb_TooMany_ValueError => first | k_is | rfl | decide +kernel)
    (case km_TooMany_ValueError => first | rfl | decide +kernel)
    (case sb_TooMuch_ValueError => first | k_is | rfl | decide +kernel)
    (case km_TooMuch_ValueError => first | rfl | decide +kernel)
    (case z_ValueError => k_is)
    (case yA_NoName_name => k_is)
    (case yA_Taken_name => k_is)
    (case yA_Unknown_name => k_is)
    (case yA_TooMany_name => k_is)
    (case pg_Lot => k_is)
    (case hd_Lot => k_is)
    (case po_Lot => k_is)
    (case sa_Lot => k_is)
    (case yA_Lot_name => k_is)
    (case yA_NoWay_place => k_is)
    (case yA_TooMany_bound => k_is)
    (case sb_TooMany_LaneError => first | k_is | rfl | decide +kernel)
    (case sb_LaneError_LaneError => first | k_is | rfl | decide +kernel)
    (case xhd_LaneError => k_is)
    (case xt0_LaneError => k_is)
    (case xk_LaneError => k_is)
    (case xs_LaneError => k_is)
    (case xt_LaneError => k_is)
    (case sb_NoLane_LaneError => first | k_is | rfl | decide +kernel)
    (case sb_NoJar_LaneError => first | k_is | rfl | decide +kernel)
    (case sb_NoWay_LaneError => first | k_is | rfl | decide +kernel)
    (case sb_NoName_LaneError => first | k_is | rfl | decide +kernel)
    (case sb_Unknown_LaneError => first | k_is | rfl | decide +kernel)
    (case sb_NoTick_LaneError => first | k_is | rfl | decide +kernel)
    (case sb_Taken_LaneError => first | k_is | rfl | decide +kernel)
    (case sb_TooMuch_LaneError => first | k_is | rfl | decide +kernel)
    (case z_max => k_is)
    (case pg_Flow => k_is)
    (case hd_Flow => k_is)
    (case po_Flow => k_is)
    (case sa_Flow => k_is)
    (case yA_Flow_jar => k_is)
    (case yA_Flow_marks => k_is)
    (case mk_House => k_is)
    (case mkk_House => k_is)
    (case z_zip => k_is)
    (case z_list => k_is)
