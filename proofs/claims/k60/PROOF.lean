import PyProof.Rows.All
import Wide.All
import OpenK.AllK
import Wide.FinOn
import HandS.ForMost
import HandS.ForExc
import HandS.Wide
import HandS.IsInst
import HandS.Defaults
import HandS.Walk
import HandS.Small
import HandS.SortInts
import HandS.SortRule
import HandS.Nested
import HandS.TupAny
import KE.GoesMore
import HandS.Conv
import KE.DataMinMax
import HandS.SortKw
import HandS.TupSets
import HandS.SetFor
import HandS.Strs
import HandS.ExcInit
import HandS.TryMany
import HandS.ExcValue
import HandS.CallSlots
import KE.KExcIs
import HandS.Style
import HandS.Flt
import HandS.TupLe
import HandS.More
import HandS.Text
import HandS.OwnEq
import HandS.FStr
import KE.KCallOwn
import KE.KFmtOwn
import HandS.NoneIn
import KE.IntTextLaws
import KE.KIntText
import KE.SortKeyHeap
import HandS.EndTab
import HandS.Remove
import KE.DataFind
import PyProof.Conv_int_bool
import HandS.WordsDict
import KE.OsRunLaw
import PySem.Challenge.RW_hourlanes_k60_least_and_greatest
set_option Elab.async false
set_option linter.all false
set_option maxRecDepth 100000
set_option maxHeartbeats 4000000
namespace Hl
open PySem L2
/-! ### functions made in a def -/
/-- the words of a function that a def makes -/
structure FW where
  name : Str
  qual : Str
  params : Arguments
  body : FuncBody
  scope : Scope
abbrev FW.fd (W : FW) (cl : List (Str × Addr)) (c : Addr) (doc pm ctv : Value) : FuncData :=
  { name := W.name, qualname := W.qual, params := W.params, body := W.body, scope := W.scope, globals := mainGlobals, closure := cl, defaults := .none, kwdefaults := .none, doc := doc, pyModule := pm, annotations := none, code := .ref c, closureTuple := ctv, builtins := builtinsNs }
/-- the object at f is such a function -/
def FnObj (f : Addr) (W : FW) (cl : List (Str × Addr)) (c : Addr) : HO := .ext fun h => ∃ (od : Option Addr) (sl : Array (Option Value)) (doc pm ctv : Value), h.get? f = some (⟨.type "function", od, .func (W.fd cl c doc pm ctv), sl⟩ : Obj)
/-- just this object stands at a -/
def Exact (a : Addr) (o : Obj) : HO := .frz o (.ext fun h => h.get? a = some o)
/-- a table of code objects, all of one name -/
def TblOk (F : List Addr) (H : Hp) (a : Addr) (nm : Str) : Prop := ∃ ps : Array Value, H a = some (.tbl ps) ∧ TriplesOk ps.toList ∧ ∀ (pos : Pos) (cv : Value), codeAmong pos ps.toList = some cv → ∃ c, cv = .ref c ∧ c ∉ F ∧ H c = some (LamX.CodeO c nm)
/-- no table -/
def Nt (o : HO) : Prop := ∀ ps, o ≠ .tbl ps
/-! ### data: what a value is worth, by its content -/
inductive D where
  | non | bl (b : Bool) | int (i : Int) | str (x : Str) | lst (ds : List D) | tup (ds : List D) | obj (C : Addr) (ns : List Str) (ds : List D) | raw (v : V) | scr (K : PySem.W.Frag) (ns : List Int) | exn (C : Addr) (ns : List Str) (ds : List D) | fd (ks : List Key) (ds : List D) | hp (a : Addr) (o : HO) | fn (W : FW) (fr : List Str) (ds : List D)
/-- an exception's object, held -/
def XO (cls : Value) (d : Option Addr) (a : Addr) : HO := .ext fun h => ∃ (oe : Obj) (vs : Array Value), h.get? a = some oe ∧ Zc cls d oe ∧ oe.data = .fields vs
mutual
inductive Rep (F : List Addr) (H : Hp) : V → D → Prop
  | non : Rep F H .non .non
  | bl (b : Bool) : Rep F H (.bl b) (.bl b)
  | int (i : Int) : Rep F H (.int i) (.int i)
  | str (x : Str) : Rep F H (.str x) (.str x)
  | lst {a : Addr} {vs : List V} {ds : List D} : a ∉ F → H a = some (.lst vs) → Reps F H vs ds → Rep F H (.ref a) (.lst ds)
  | tup {a : Addr} {vs : List V} {ds : List D} : a ∉ F → H a = some (.tup vs) → Reps F H vs ds → Rep F H (.ref a) (.tup ds)
  | obj {a C dx : Addr} {ns : List Str} {vs : List V} {ds : List D} : a ∉ F → H a = some (.ins C dx (ns.zip vs)) → ns.length = vs.length → Reps F H vs ds → Rep F H (.ref a) (.obj C ns ds)
  | raw (v : V) : Rep F H v (.raw v)
  | scrH {a : Addr} {K : PySem.W.Frag} {ns : List Int} : a ∉ F → Rd H a (.lst (ns.map V.int)) → Rep F H (.ref a) (.scr K ns)
  | scrK {a : Addr} {K : PySem.W.Frag} {ns : List Int} : (∀ H', SqL K H' a (ns.map V.int)) → Rep F H (.ref a) (.scr K ns)
  | exn0 {a C : Addr} : a ∉ F → H a = some (XO (.ref C) none a) → Rep F H (.ref a) (.exn C [] [])
  | exn {a C d : Addr} {ns : List Str} {vs : List V} {ds : List D} : a ∉ F → H a = some (XO (.ref C) (some d) a) → d ∉ F → H d = some (.xd (ns.zip vs)) → ns.length = vs.length → Reps F H vs ds → Rep F H (.ref a) (.exn C ns ds)
  | fd {a : Addr} {o : Obj} {ws : List (Key × V)} {ks : List Key} {vs : List V} {ds : List D} : a ∉ F → H a = some (.frz o (.dK ws)) → ws.map (·.1) = ks → ws.map (·.2) = vs → Reps F H vs ds → Rep F H (.ref a) (.fd ks ds)
  | hp {a : Addr} {o : HO} : a ∉ F → H a = some o → Nt o → Rep F H (.ref a) (.hp a o)
  | fn {f c : Addr} {W : FW} {fr : List Str} {as : List Addr} {vs : List V} {ds : List D} : f ∉ F → H f = some (FnObj f W (fr.zip as) c) → c ∉ F → H c = some (LamX.CodeO c W.qual) → as.length = fr.length → as.Nodup → vs.length = as.length →
      (∀ p ∈ as.zip vs, p.1 ∉ F ∧ ∃ (o : Obj) (u : Value), H p.1 = some (Exact p.1 o) ∧ o.data = .cell (some u) ∧ RelV p.2 u) → Reps F H vs ds → Rep F H (.ref f) (.fn W fr ds)
inductive Reps (F : List Addr) (H : Hp) : List V → List D → Prop
  | nil : Reps F H [] []
  | cons {v : V} {d : D} {vs : List V} {ds : List D} : Rep F H v d → Reps F H vs ds → Reps F H (v :: vs) (d :: ds)
end
/-- from F, H to F', H': what is read beside F stays -/
def Fwd (F : List Addr) (H : Hp) (F' : List Addr) (H' : Hp) : Prop := ∀ a o, a ∉ F → H a = some o → Nt o → a ∉ F' ∧ H' a = some o
theorem Fwd.refl {F : List Addr} {H : Hp} : Fwd F H F H := fun _ _ h e _ => ⟨h, e⟩
theorem Fwd.trans {F F1 F2 : List Addr} {H H1 H2 : Hp} (x : Fwd F H F1 H1) (y : Fwd F1 H1 F2 H2) : Fwd F H F2 H2 := fun a o h e n => let ⟨h1, e1⟩ := x a o h e n; y a o h1 e1 n
theorem Fwd.new {F : List Addr} {H : Hp} {p : Addr} {o : HO} (h : H p = none) : Fwd F H F (upd H p o) := fun a u ha e _ => ⟨ha, by rw [upd_ne (ne_of_none e h)]; exact e⟩
theorem Fwd.less {F F' : List Addr} {H : Hp} (h : ∀ a ∈ F', a ∈ F) : Fwd F H F' H := fun a o ha e _ => ⟨fun z => ha (h a z), e⟩
theorem Fwd.same {F : List Addr} {H H' : Hp} (h : ∀ a, a ∉ F → H' a = H a) : Fwd F H F H' := fun a o ha e _ => ⟨ha, by rw [h a ha]; exact e⟩
mutual
theorem Rep.fwd {F F' : List Addr} {H H' : Hp} (k : Fwd F H F' H') : ∀ {v : V} {d : D}, Rep F H v d → Rep F' H' v d
  | _, _, .non => .non
  | _, _, .bl b => .bl b
  | _, _, .int i => .int i
  | _, _, .str x => .str x
  | _, _, .lst h e r => .lst (k _ _ h e (fun _ z => nomatch z)).1 (k _ _ h e (fun _ z => nomatch z)).2 (Reps.fwd k r)
  | _, _, .tup h e r => .tup (k _ _ h e (fun _ z => nomatch z)).1 (k _ _ h e (fun _ z => nomatch z)).2 (Reps.fwd k r)
  | _, _, .obj h e l r => .obj (k _ _ h e (fun _ z => nomatch z)).1 (k _ _ h e (fun _ z => nomatch z)).2 l (Reps.fwd k r)
  | _, _, .raw v => .raw v
  | _, _, .scrH h (.inl e) => .scrH (k _ _ h e (fun _ z => nomatch z)).1 (.inl (k _ _ h e (fun _ z => nomatch z)).2)
  | _, _, .scrH h (.inr ⟨o, e⟩) => .scrH (k _ _ h e (fun _ z => nomatch z)).1 (.inr ⟨o, (k _ _ h e (fun _ z => nomatch z)).2⟩)
  | _, _, .scrK h => .scrK h
  | _, _, .exn0 h e => .exn0 (k _ _ h e (fun _ z => nomatch z)).1 (k _ _ h e (fun _ z => nomatch z)).2
  | _, _, .exn h e h2 e2 l r => .exn (k _ _ h e (fun _ z => nomatch z)).1 (k _ _ h e (fun _ z => nomatch z)).2 (k _ _ h2 e2 (fun _ z => nomatch z)).1 (k _ _ h2 e2 (fun _ z => nomatch z)).2 l (Reps.fwd k r)
  | _, _, .fd h e e1 e2 r => .fd (k _ _ h e (fun _ z => nomatch z)).1 (k _ _ h e (fun _ z => nomatch z)).2 e1 e2 (Reps.fwd k r)
  | _, _, .hp h e n => .hp (k _ _ h e n).1 (k _ _ h e n).2 n
  | _, _, .fn h e h2 e2 l nd l2 ce r => .fn (k _ _ h e (fun _ z => nomatch z)).1 (k _ _ h e (fun _ z => nomatch z)).2 (k _ _ h2 e2 (fun _ z => nomatch z)).1 (k _ _ h2 e2 (fun _ z => nomatch z)).2 l nd l2 (fun p hp => let ⟨h3, o, u, e3, q⟩ := ce p hp; ⟨(k _ _ h3 e3 (fun _ z => nomatch z)).1, o, u, (k _ _ h3 e3 (fun _ z => nomatch z)).2, q⟩) (Reps.fwd k r)
theorem Reps.fwd {F F' : List Addr} {H H' : Hp} (k : Fwd F H F' H') : ∀ {vs : List V} {ds : List D}, Reps F H vs ds → Reps F' H' vs ds
  | _, _, .nil => .nil
  | _, _, .cons a b => .cons (Rep.fwd k a) (Reps.fwd k b)
end
theorem Reps.length {F : List Addr} {H : Hp} : ∀ {vs : List V} {ds : List D}, Reps F H vs ds → vs.length = ds.length
  | _, _, .nil => rfl
  | _, _, .cons _ b => by simp [Reps.length b]
theorem Reps.get {F : List Addr} {H : Hp} : ∀ {vs : List V} {ds : List D} {i : Nat} {v : V}, Reps F H vs ds → vs[i]? = some v → ∃ d, ds[i]? = some d ∧ Rep F H v d
  | _, _, _, _, .nil, e => by simp at e
  | _, _, 0, _, .cons r _, e => by simp at e; subst e; exact ⟨_, rfl, r⟩
  | _, _, i + 1, v, .cons _ t, e => by
    obtain ⟨u, h1, h2⟩ := Reps.get (i := i) (v := v) t (by simpa using e)
    exact ⟨u, by simpa using h1, h2⟩
theorem Reps.get' {F : List Addr} {H : Hp} : ∀ {vs : List V} {ds : List D} {i : Nat} {d : D}, Reps F H vs ds → ds[i]? = some d → ∃ v, vs[i]? = some v ∧ Rep F H v d
  | _, _, _, _, .nil, e => by simp at e
  | _, _, 0, _, .cons r _, e => by simp at e; subst e; exact ⟨_, rfl, r⟩
  | _, _, i + 1, v, .cons _ t, e => by
    obtain ⟨u, h1, h2⟩ := Reps.get' (i := i) (d := v) t (by simpa using e)
    exact ⟨u, by simpa using h1, h2⟩
theorem Reps.append {F : List Addr} {H : Hp} : ∀ {vs ws : List V} {ds es : List D}, Reps F H vs ds → Reps F H ws es → Reps F H (vs ++ ws) (ds ++ es)
  | _, _, _, _, .nil, s => s
  | _, _, _, _, .cons r t, s => .cons r (Reps.append t s)
theorem Reps.set {F : List Addr} {H : Hp} {v : V} {d : D} (r : Rep F H v d) : ∀ {vs : List V} {ds : List D} (i : Nat), Reps F H vs ds → Reps F H (vs.set i v) (ds.set i d)
  | _, _, _, .nil => .nil
  | _, _, 0, .cons _ t => .cons r t
  | _, _, i + 1, .cons q t => .cons q (Reps.set r i t)
theorem Reps.take {F : List Addr} {H : Hp} : ∀ {vs : List V} {ds : List D} (n : Nat), Reps F H vs ds → Reps F H (vs.take n) (ds.take n)
  | _, _, 0, _ => .nil
  | _, _, _ + 1, .nil => .nil
  | _, _, n + 1, .cons r t => .cons r (Reps.take n t)
theorem Reps.drop {F : List Addr} {H : Hp} : ∀ {vs : List V} {ds : List D} (n : Nat), Reps F H vs ds → Reps F H (vs.drop n) (ds.drop n)
  | _, _, 0, r => r
  | _, _, _ + 1, .nil => .nil
  | _, _, n + 1, .cons _ t => Reps.drop n t
theorem Reps.erase {F : List Addr} {H : Hp} : ∀ {vs : List V} {ds : List D} (n : Nat), Reps F H vs ds → Reps F H (vs.eraseIdx n) (ds.eraseIdx n)
  | _, _, _, .nil => .nil
  | _, _, 0, .cons _ t => t
  | _, _, n + 1, .cons r t => .cons r (Reps.erase n t)
theorem Reps.ints {F : List Addr} {H : Hp} : ∀ {vs : List V} {ns : List Int}, Reps F H vs (ns.map D.int) → vs = ns.map V.int
  | _, [], .nil => rfl
  | _, n :: ns, .cons r t => by cases r; rw [Reps.ints t]; rfl
theorem Reps.ofInts {F : List Addr} {H : Hp} : ∀ (ns : List Int), Reps F H (ns.map V.int) (ns.map D.int)
  | [] => .nil
  | n :: ns => .cons (.int n) (Reps.ofInts ns)
theorem Reps.strs {F : List Addr} {H : Hp} : ∀ {vs : List V} {ns : List Str}, Reps F H vs (ns.map D.str) → vs = ns.map V.str
  | _, [], .nil => rfl
  | _, n :: ns, .cons r t => by cases r; rw [Reps.strs t]; rfl
/-! ### what may change: cells -/
inductive SC where
  | lst (ds : List D) | obj (C : Addr) (ns : List Str) (ds : List D) | dct (kvs : List (Key × D)) | fdc (o : Obj) (ws : List (Key × V)) (kvs : List (Key × D))
/-- a cell: a list, an object, a dict, the draws' state, or a thing with its parts -/
inductive Cell where
  | lst (ds : List D) | obj (C : Addr) (ns : List Str) (ds : List D) | dct (kvs : List (Key × D)) | fdc (o : Obj) (ws : List (Key × V)) (kvs : List (Key × D)) | st (g : Addr) (b : Nat) | grp (c : SC) (N : List (Addr × SC)) | tab (nm : Str) | fnc (W : FW) (fr : List Str) (as : List Addr) (ds : List D)
def SC.up : SC → Cell
  | .lst ds => .lst ds
  | .obj C ns ds => .obj C ns ds
  | .dct kvs => .dct kvs
  | .fdc o ws kvs => .fdc o ws kvs
def own (a : Addr) : Cell → List Addr
  | .st g _ => [a, g]
  | .grp _ N => a :: N.map (·.1)
  | .fnc _ _ as _ => a :: as
  | _ => [a]
abbrev Mem := List (Addr × Cell)
def Mem.F (M : Mem) : List Addr := M.flatMap fun p => own p.1 p.2
/-- the draws' state -/
def StAt (F : List Addr) (H : Hp) (s g : Addr) (b : Nat) : Prop :=
  ∃ (c : Addr) (r t e : Int) (gs cs : List Int), c ∉ F ∧
    H s = some (.dK [(.inr "great", .ref g), (.inr "rest", .int r), (.inr "turn", .int t), (.inr "seed", .int e), (.inr "cells", .ref c)]) ∧
    H g = some (.lst (gs.map V.int)) ∧ H c = some (.lst (cs.map V.int)) ∧ (∀ x ∈ gs, 0 < x) ∧ 0 ≤ r ∧ 0 ≤ t ∧ t + (b : Int) ≤ 1000000000000 ∧ 0 ≤ e ∧ e < 2147483647 ∧ (∀ x ∈ cs, 0 ≤ x ∧ x < 2147483629) ∧ 0 < cs.length ∧ cs.length ≤ 100
def SOk (F : List Addr) (H : Hp) (a : Addr) : SC → Prop
  | .lst ds => ∃ vs, H a = some (.lst vs) ∧ Reps F H vs ds
  | .obj C ns ds => ∃ dx vs, H a = some (.ins C dx (ns.zip vs)) ∧ ns.length = vs.length ∧ Reps F H vs ds
  | .dct kvs => ∃ ws : List (Key × V), H a = some (.dK ws) ∧ ws.map (·.1) = kvs.map (·.1) ∧ Reps F H (ws.map (·.2)) (kvs.map (·.2))
  | .fdc o ws kvs => H a = some (.frz o (.dK ws)) ∧ ws.map (·.1) = kvs.map (·.1) ∧ Reps F H (ws.map (·.2)) (kvs.map (·.2))
theorem SOk.some {F : List Addr} {H : Hp} {a : Addr} {c : SC} (h : SOk F H a c) : ∃ o, H a = some o := by
  cases c with
  | lst ds => obtain ⟨vs, e, _⟩ := h; exact ⟨_, e⟩
  | obj C ns ds => obtain ⟨dx, vs, e, _⟩ := h; exact ⟨_, e⟩
  | dct kvs => obtain ⟨ws, e, _⟩ := h; exact ⟨_, e⟩
  | fdc o ws kvs => exact ⟨_, h.1⟩
theorem SOk.fwd {F F' : List Addr} {H H' : Hp} {a : Addr} {c : SC} (h : SOk F H a c) (k : Fwd F H F' H') (e : H' a = H a) : SOk F' H' a c := by
  cases c with
  | lst ds => obtain ⟨vs, e1, r⟩ := h; exact ⟨vs, by rw [e]; exact e1, r.fwd k⟩
  | obj C ns ds => obtain ⟨dx, vs, e1, l, r⟩ := h; exact ⟨dx, vs, by rw [e]; exact e1, l, r.fwd k⟩
  | dct kvs => obtain ⟨ws, e1, l, r⟩ := h; exact ⟨ws, by rw [e]; exact e1, l, r.fwd k⟩
  | fdc o ws kvs => obtain ⟨e1, l, r⟩ := h; exact ⟨by rw [e]; exact e1, l, r.fwd k⟩
def CellOk (F : List Addr) (H : Hp) (a : Addr) : Cell → Prop
  | .grp c N => SOk F H a c ∧ ∀ p ∈ N, SOk F H p.1 p.2
  | .lst ds => ∃ vs, H a = some (.lst vs) ∧ Reps F H vs ds
  | .obj C ns ds => ∃ dx vs, H a = some (.ins C dx (ns.zip vs)) ∧ ns.length = vs.length ∧ Reps F H vs ds
  | .dct kvs => ∃ ws : List (Key × V), H a = some (.dK ws) ∧ ws.map (·.1) = kvs.map (·.1) ∧ Reps F H (ws.map (·.2)) (kvs.map (·.2))
  | .fdc o ws kvs => H a = some (.frz o (.dK ws)) ∧ ws.map (·.1) = kvs.map (·.1) ∧ Reps F H (ws.map (·.2)) (kvs.map (·.2))
  | .st g b => StAt F H a g b
  | .tab nm => TblOk F H a nm
  | .fnc W fr as ds => ∃ (c : Addr) (od : Option Addr) (sl : Array (Option Value)) (doc pm ctv : Value) (vs : List V), H a = some (Exact a (⟨.type "function", od, .func (W.fd (fr.zip as) c doc pm ctv), sl⟩ : Obj)) ∧ c ∉ F ∧ H c = some (LamX.CodeO c W.qual) ∧ fr.length = as.length ∧ fr.Nodup ∧ vs.length = as.length ∧
      (∀ p ∈ as.zip vs, ∃ (o : Obj) (u : Value), H p.1 = some (Exact p.1 o) ∧ o.data = .cell (some u) ∧ RelV p.2 u) ∧ Reps F H vs ds
theorem CellOk.some {F : List Addr} {H : Hp} {a : Addr} {c : Cell} (h : CellOk F H a c) : ∀ x ∈ own a c, ∃ o, H x = some o := by
  cases c with
  | tab nm => obtain ⟨ps, e, _⟩ := h; intro x hx; simp [own] at hx; subst hx; exact ⟨_, e⟩
  | fnc W fr as ds =>
    obtain ⟨c, od, sl, doc, pm, ctv, vs, e, _, _, _, _, hv, hc, _⟩ := h
    intro x hx
    rcases List.mem_cons.mp hx with rfl | hx
    · exact ⟨_, e⟩
    · obtain ⟨i, hi⟩ := List.mem_iff_getElem?.mp hx
      have hl : i < vs.length := by rw [hv]; exact (List.getElem?_eq_some_iff.mp hi).1
      obtain ⟨o, u, e2, _⟩ := hc (x, vs[i]) (List.mem_of_getElem? (i := i) (by rw [List.getElem?_zip_eq_some]; exact ⟨hi, by simp [hl]⟩))
      exact ⟨_, e2⟩
  | lst ds => obtain ⟨vs, e, _⟩ := h; intro x hx; simp [own] at hx; subst hx; exact ⟨_, e⟩
  | obj C ns ds => obtain ⟨dx, vs, e, _⟩ := h; intro x hx; simp [own] at hx; subst hx; exact ⟨_, e⟩
  | dct kvs => obtain ⟨ws, e, _⟩ := h; intro x hx; simp [own] at hx; subst hx; exact ⟨_, e⟩
  | fdc o ws kvs => intro x hx; simp [own] at hx; subst hx; exact ⟨_, h.1⟩
  | grp c N =>
    intro x hx
    rcases List.mem_cons.mp hx with rfl | hx
    · exact h.1.some
    · obtain ⟨p, hp, rfl⟩ := List.mem_map.mp hx; exact (h.2 p hp).some
  | st g b =>
    obtain ⟨c, r, t, e, gs, cs, _, h1, h2, _⟩ := h
    intro x hx; simp [own] at hx
    rcases hx with rfl | rfl
    · exact ⟨_, h1⟩
    · exact ⟨_, h2⟩
theorem CellOk.fwd {F F' : List Addr} {H H' : Hp} {a : Addr} {c : Cell} (h : CellOk F H a c) (k : Fwd F H F' H') (e : ∀ x ∈ own a c, H' x = H x) : CellOk F' H' a c := by
  cases c with
  | lst ds => obtain ⟨vs, e1, r⟩ := h; exact ⟨vs, by rw [e a (by simp [own])]; exact e1, r.fwd k⟩
  | obj C ns ds => obtain ⟨dx, vs, e1, l, r⟩ := h; exact ⟨dx, vs, by rw [e a (by simp [own])]; exact e1, l, r.fwd k⟩
  | dct kvs => obtain ⟨ws, e1, l, r⟩ := h; exact ⟨ws, by rw [e a (by simp [own])]; exact e1, l, r.fwd k⟩
  | fdc o ws kvs => obtain ⟨e1, l, r⟩ := h; exact ⟨by rw [e a (by simp [own])]; exact e1, l, r.fwd k⟩
  | tab nm => obtain ⟨ps, e1, t, ha⟩ := h; exact ⟨ps, by rw [e a (by simp [own])]; exact e1, t, fun pos cv hc => let ⟨c, e2, h2, e3⟩ := ha pos cv hc; ⟨c, e2, (k _ _ h2 e3 (fun _ z => by unfold LamX.CodeO at z; cases z)).1, (k _ _ h2 e3 (fun _ z => by unfold LamX.CodeO at z; cases z)).2⟩⟩
  | fnc W fr as ds =>
    obtain ⟨c, od, sl, doc, pm, ctv, vs, e1, hcF, e2, h1, h2, h3, h4, r⟩ := h
    exact ⟨c, od, sl, doc, pm, ctv, vs, by rw [e a List.mem_cons_self]; exact e1, (k _ _ hcF e2 (fun _ z => by unfold LamX.CodeO at z; cases z)).1, (k _ _ hcF e2 (fun _ z => by unfold LamX.CodeO at z; cases z)).2, h1, h2, h3,
      fun p hp => let ⟨o, u, e3, q⟩ := h4 p hp; ⟨o, u, by rw [e p.1 (List.mem_cons_of_mem _ (List.of_mem_zip (show (p.1, p.2) ∈ as.zip vs from hp)).1)]; exact e3, q⟩, r.fwd k⟩
  | grp c N => exact ⟨h.1.fwd k (e a List.mem_cons_self), fun p hp => (h.2 p hp).fwd k (e p.1 (List.mem_cons_of_mem _ (List.mem_map.mpr ⟨p, hp, rfl⟩)))⟩
  | st g b =>
    obtain ⟨c, r, t, z, gs, cs, h0, h1, h2, h3, h4⟩ := h
    exact ⟨c, r, t, z, gs, cs, (k _ _ h0 h3 (fun _ z => nomatch z)).1, by rw [e a (by simp [own])]; exact h1, by rw [e g (by simp [own])]; exact h2, (k _ _ h0 h3 (fun _ z => nomatch z)).2, h4⟩
def SlotOk (F : List Addr) (H : Hp) (ov : Option V) (od : Option D) : Prop := ∀ d, od = some d → ∃ v, ov = some v ∧ Rep F H v d
structure Rs (κ : List (V × D)) (δ : List (Option D)) (M : Mem) (σ : St) (H : Hp) : Prop where
  kp : ∀ p ∈ κ, Rep M.F H p.1 p.2
  sl : Paired (SlotOk M.F H) σ δ
  cl : ∀ p ∈ M, CellOk M.F H p.1 p.2
  nd : M.F.Nodup
section
variable {κ κ' : List (V × D)} {δ : List (Option D)} {M M' : Mem} {σ : St} {H H' : Hp} {p : Addr} {o : HO} {v : V} {d : D}
theorem SlotOk.fwd {F F' : List Addr} {ov : Option V} {od : Option D} (k : Fwd F H F' H') (h : SlotOk F H ov od) : SlotOk F' H' ov od := fun d e => let ⟨v, e1, r⟩ := h d e; ⟨v, e1, r.fwd k⟩
theorem Rs.inF (R : Rs κ δ M σ H) {a : Addr} (h : a ∈ M.F) : ∃ o, H a = some o := by
  obtain ⟨q, hq, hx⟩ := List.mem_flatMap.mp h
  exact (R.cl q hq).some a hx
theorem Rs.fresh (R : Rs κ δ M σ H) (h : H p = none) : p ∉ M.F := fun z => by
  obtain ⟨o, e⟩ := R.inF z
  rw [h] at e; cases e
theorem Rs.go (R : Rs κ δ M σ H) (k : Fwd M.F H M.F H') (e : ∀ x ∈ M.F, H' x = H x) : Rs κ δ M σ H' :=
  ⟨fun q hq => (R.kp q hq).fwd k, Paired.mono (fun _ _ h => h.fwd k) R.sl, fun q hq => (R.cl q hq).fwd k fun x hx => e x (List.mem_flatMap.mpr ⟨q, hq, hx⟩), R.nd⟩
theorem Rs.new (R : Rs κ δ M σ H) (h : H p = none) : Rs κ δ M σ (upd H p o) := R.go (Fwd.new h) fun x hx => upd_ne fun z => R.fresh h (z ▸ hx)
theorem Rs.same (R : Rs κ δ M σ H) (h : Same H H') : Rs κ δ M σ H' := R.go (fun a o ha e _ => ⟨ha, h a o e⟩) fun x hx => by
  obtain ⟨o, e⟩ := R.inF hx
  rw [e]; exact h _ _ e
theorem Rs.push (R : Rs κ δ M σ H) (r : Rep M.F H v d) : Rs ((v, d) :: κ) δ M σ H := ⟨fun q hq => by
  rcases List.mem_cons.mp hq with rfl | hq
  · exact r
  · exact R.kp q hq, R.sl, R.cl, R.nd⟩
theorem Rs.sub (R : Rs κ δ M σ H) (h : ∀ q ∈ κ', q ∈ κ) : Rs κ' δ M σ H := ⟨fun q hq => R.kp q (h q hq), R.sl, R.cl, R.nd⟩
theorem Rs.pop {q : V × D} (R : Rs (q :: κ) δ M σ H) : Rs κ δ M σ H := R.sub fun _ h => List.mem_cons_of_mem _ h
theorem Rs.top {v : V} {d : D} (R : Rs ((v, d) :: κ) δ M σ H) : Rep M.F H v d := R.kp _ List.mem_cons_self
theorem paired_get {α β : Type} {G : α → β → Prop} : ∀ {l₁ : List α} {l₂ : List β} {i : Nat} {b : β}, Paired G l₁ l₂ → l₂[i]? = some b → ∃ a, l₁[i]? = some a ∧ G a b
  | _, _, _, _, .nil, e => by simp at e
  | _, _, 0, _, .cons r _, e => by simp at e; subst e; exact ⟨_, rfl, r⟩
  | _, _, i + 1, b, .cons _ t, e => by
    obtain ⟨u, h1, h2⟩ := paired_get (i := i) (b := b) t (by simpa using e)
    exact ⟨u, by simpa using h1, h2⟩
theorem paired_set {α β : Type} {G : α → β → Prop} {a : α} {b : β} (r : G a b) : ∀ {l₁ : List α} {l₂ : List β} (i : Nat), Paired G l₁ l₂ → Paired G (l₁.set i a) (l₂.set i b)
  | _, _, _, .nil => .nil
  | _, _, 0, .cons _ t => .cons r t
  | _, _, i + 1, .cons q t => .cons q (paired_set r i t)
theorem Rs.get {i : Nat} (R : Rs κ δ M σ H) (e : δ[i]? = some (some d)) : ∃ v, σ[i]? = some (some v) ∧ Rep M.F H v d := by
  obtain ⟨a, e1, h⟩ := paired_get R.sl e
  obtain ⟨v, rfl, r⟩ := h d rfl
  exact ⟨v, e1, r⟩
theorem Rs.put (R : Rs κ δ M σ H) (i : Nat) (r : Rep M.F H v d) : Rs κ (δ.set i (some d)) M (σ.set i (some v)) H :=
  ⟨R.kp, paired_set (fun d' e => by cases e; exact ⟨v, rfl, r⟩) i R.sl, R.cl, R.nd⟩
theorem Rs.wipe1 (R : Rs κ δ M σ H) (i : Nat) (ov : Option V) : Rs κ (δ.set i none) M (σ.set i ov) H :=
  ⟨R.kp, paired_set (fun d' e => by cases e) i R.sl, R.cl, R.nd⟩
theorem Rs.slots {δ' : List (Option D)} {σ' : St} (R : Rs κ δ M σ H) (h : Paired (SlotOk M.F H) σ' δ') : Rs κ δ' M σ' H := ⟨R.kp, h, R.cl, R.nd⟩
/-- fewer cells -/
theorem F_sub : ∀ {M M' : Mem}, M'.Sublist M → M'.F.Sublist M.F
  | _, _, .slnil => .slnil
  | _, _, .cons a h => by
    show List.Sublist _ (own a.1 a.2 ++ _)
    exact (F_sub h).trans (List.sublist_append_right _ _)
  | _, _, .cons_cons a h => by
    show List.Sublist (own a.1 a.2 ++ _) (own a.1 a.2 ++ _)
    exact (F_sub h).append_left _
theorem Rs.less (R : Rs κ δ M σ H) (h : M'.Sublist M) : Rs κ δ M' σ H := by
  have k : Fwd M.F H M'.F H := Fwd.less fun a ha => (F_sub h).subset ha
  exact ⟨fun q hq => (R.kp q hq).fwd k, Paired.mono (fun _ _ h => h.fwd k) R.sl, fun q hq => (R.cl q (h.subset hq)).fwd k fun _ _ => rfl, R.nd.sublist (F_sub h)⟩
/-- one cell more -/
theorem Fwd.newC {F : List Addr} {H : Hp} {p : Addr} {o : HO} (h : H p = none) : Fwd F H (p :: F) (upd H p o) := fun a u ha e _ => ⟨by
  simp only [List.mem_cons, not_or]
  exact ⟨ne_of_none e h, ha⟩, by rw [upd_ne (ne_of_none e h)]; exact e⟩
theorem Rs.add (R : Rs κ δ M σ H) {c : Cell} (h : H p = none) (hc : own p c = [p]) (ok : CellOk (p :: M.F) (upd H p o) p c) : Rs κ δ ((p, c) :: M) σ (upd H p o) := by
  have e : Mem.F ((p, c) :: M) = p :: M.F := by show own p c ++ M.F = _; rw [hc]; rfl
  have k : Fwd M.F H (Mem.F ((p, c) :: M)) (upd H p o) := by rw [e]; exact Fwd.newC h
  refine ⟨fun q hq => (R.kp q hq).fwd k, Paired.mono (fun _ _ h => h.fwd k) R.sl, fun q hq => ?_, ?_⟩
  · rcases List.mem_cons.mp hq with rfl | hq
    · rw [e]; exact ok
    · refine (R.cl q hq).fwd k fun x hx => upd_ne fun z => R.fresh h (z ▸ List.mem_flatMap.mpr ⟨q, hq, hx⟩)
  · rw [e]
    exact List.nodup_cons.mpr ⟨R.fresh h, R.nd⟩
theorem F_perm {M M' : Mem} (h : M.Perm M') : (Mem.F M).Perm (Mem.F M') := by
  induction h with
  | nil => exact .nil
  | cons x _ ih => exact ih.append_left _
  | swap x y l =>
    show (own y.1 y.2 ++ (own x.1 x.2 ++ Mem.F l)).Perm (own x.1 x.2 ++ (own y.1 y.2 ++ Mem.F l))
    rw [← List.append_assoc, ← List.append_assoc]
    exact List.perm_append_comm.append_right _
  | trans _ _ h1 h2 => exact h1.trans h2
theorem Rs.perm (R : Rs κ δ M σ H) (h : M.Perm M') : Rs κ δ M' σ H := by
  have k : Fwd M.F H M'.F H := Fwd.less fun a ha => (F_perm h).mem_iff.mpr ha
  exact ⟨fun q hq => (R.kp q hq).fwd k, Paired.mono (fun _ _ h => h.fwd k) R.sl, fun q hq => (R.cl q (h.mem_iff.mpr hq)).fwd k fun _ _ => rfl, (F_perm h).nodup_iff.mp R.nd⟩
/-- a cell at place k -/
def insM : Nat → Addr × Cell → Mem → Mem
  | 0, c, M => c :: M
  | k + 1, c, x :: M => x :: insM k c M
  | _ + 1, c, [] => [c]
theorem insM_perm {c : Addr × Cell} : ∀ {k : Nat} {M : Mem}, (c :: M).Perm (insM k c M)
  | 0, _ => .refl _
  | k + 1, x :: M => (List.Perm.swap x c M).trans (insM_perm.cons x)
  | _ + 1, [] => .refl _
theorem F_set : ∀ {M : Mem} {i : Nat} {a : Addr} {c c' : Cell}, M[i]? = some (a, c) → own a c' = own a c → Mem.F (M.set i (a, c')) = M.F
  | [], _, _, _, _, e, _ => by simp at e
  | q :: M, 0, a, c, c', e, h => by
    have : q = (a, c) := by simpa using e
    subst this
    show own a c' ++ _ = own a c ++ _
    rw [h]
  | q :: M, i + 1, a, c, c', e, h => by
    show own q.1 q.2 ++ Mem.F (M.set i (a, c')) = own q.1 q.2 ++ Mem.F M
    rw [F_set (by simpa using e) h]
theorem F_apart : ∀ {M : Mem} {i j : Nat} {a b : Addr} {c d : Cell}, M.F.Nodup → M[i]? = some (a, c) → M[j]? = some (b, d) → i ≠ j → ∀ x ∈ own a c, x ∉ own b d
  | [], _, _, _, _, _, _, _, e, _, _ => by simp at e
  | q :: M, 0, 0, _, _, _, _, _, _, _, h => absurd rfl h
  | q :: M, 0, j + 1, a, b, c, d, n, e, e', _ => fun x hx hy => by
    have : q = (a, c) := by simpa using e
    subst this
    have n : (own a c ++ Mem.F M).Nodup := n
    exact (List.nodup_append.mp n).2.2 x hx x (List.mem_flatMap.mpr ⟨(b, d), List.mem_of_getElem? (by simpa using e'), hy⟩) rfl
  | q :: M, i + 1, 0, a, b, c, d, n, e, e', _ => fun x hx hy => by
    have : q = (b, d) := by simpa using e'
    subst this
    have n : (own b d ++ Mem.F M).Nodup := n
    exact (List.nodup_append.mp n).2.2 x hy x (List.mem_flatMap.mpr ⟨(a, c), List.mem_of_getElem? (by simpa using e), hx⟩) rfl
  | q :: M, i + 1, j + 1, a, b, c, d, n, e, e', h => by
    have n : (own q.1 q.2 ++ Mem.F M).Nodup := n
    exact F_apart (List.nodup_append.mp n).2.1 (by simpa using e) (by simpa using e') (by omega)
/-- another content of a cell -/
theorem Rs.cell (R : Rs κ δ M σ H) {i : Nat} {a : Addr} {c c' : Cell} (e : M[i]? = some (a, c)) (hc : own a c' = own a c) (k : ∀ x, x ∉ own a c → H' x = H x) (ok : CellOk M.F H' a c') : Rs κ δ (M.set i (a, c')) σ H' := by
  have eF : Mem.F (M.set i (a, c')) = M.F := F_set e hc
  have inF : ∀ x ∈ own a c, x ∈ M.F := fun x hx => List.mem_flatMap.mpr ⟨_, List.mem_of_getElem? e, hx⟩
  have k' : Fwd M.F H M.F H' := Fwd.same fun x hx => k x fun z => hx (inF x z)
  refine ⟨fun q hq => by rw [eF]; exact (R.kp q hq).fwd k', by rw [eF]; exact Paired.mono (fun _ _ h => h.fwd k') R.sl, fun q hq => ?_, by rw [eF]; exact R.nd⟩
  rw [eF]
  obtain ⟨j, hj⟩ := List.getElem?_of_mem hq
  by_cases hij : i = j
  · subst hij
    rw [List.getElem?_set_self (List.getElem?_eq_some_iff.mp e).1] at hj
    cases hj
    exact ok
  · rw [List.getElem?_set_ne hij] at hj
    obtain ⟨b, d⟩ := q
    exact (R.cl _ (List.mem_of_getElem? hj)).fwd k' fun x hx => k x (F_apart R.nd hj e (fun z => hij z.symm) x hx)
theorem Rs.at (R : Rs κ δ M σ H) {i : Nat} {a : Addr} {c : Cell} (e : M[i]? = some (a, c)) : CellOk M.F H a c := R.cl _ (List.mem_of_getElem? e)
theorem Rs.mem (R : Rs κ δ M σ H) {i : Nat} {a : Addr} {c : Cell} (e : M[i]? = some (a, c)) : ∀ x ∈ own a c, x ∈ M.F := fun x hx => List.mem_flatMap.mpr ⟨_, List.mem_of_getElem? e, hx⟩
end
section
variable {M : Mem} {a : Addr} {c : SC} {N : List (Addr × SC)}
theorem own_up {a : Addr} {c : SC} : own a c.up = [a] := by cases c <;> rfl
theorem ok_up {F : List Addr} {H : Hp} {a : Addr} {c : SC} : CellOk F H a c.up ↔ SOk F H a c := by cases c <;> exact Iff.rfl
theorem F_app (M M' : Mem) : Mem.F (M ++ M') = M.F ++ M'.F := List.flatMap_append
end
/-! ### memory, things opened -/
/-- a cell of a memory, maybe part of a thing -/
def InM (M : Mem) (p : Addr) (c : SC) : Prop := (p, c.up) ∈ M ∨ (∃ N, (p, Cell.grp c N) ∈ M) ∨ ∃ b c0 N, (b, Cell.grp c0 N) ∈ M ∧ (p, c) ∈ N
section
variable {κ : List (V × D)} {δ : List (Option D)} {M M' : Mem} {σ : St} {H H' : Hp} {d : D} {p : Addr} {c c' : SC}
theorem InM.ok (h : InM M p c) (R : Rs κ δ M σ H) : SOk M.F H p c := by
  rcases h with h | ⟨N, h⟩ | ⟨b, c0, N, h, hp⟩
  · exact ok_up.mp (R.cl _ h)
  · exact (R.cl _ h).1
  · exact (R.cl _ h).2 _ hp
theorem InM.mono (h : InM M p c) (k : ∀ x ∈ M, x ∈ M') : InM M' p c := by
  rcases h with h | ⟨N, h⟩ | ⟨b, c0, N, h, hp⟩
  · exact .inl (k _ h)
  · exact .inr (.inl ⟨N, k _ h⟩)
  · exact .inr (.inr ⟨b, c0, N, k _ h, hp⟩)
theorem InM.mem (h : InM M p c) : p ∈ M.F := by
  rcases h with h | ⟨N, h⟩ | ⟨b, c0, N, h, hp⟩
  · exact List.mem_flatMap.mpr ⟨_, h, by show p ∈ own p c.up; rw [own_up]; exact List.mem_singleton.mpr rfl⟩
  · exact List.mem_flatMap.mpr ⟨_, h, List.mem_cons_self⟩
  · exact List.mem_flatMap.mpr ⟨_, h, List.mem_cons_of_mem _ (List.mem_map.mpr ⟨_, hp, rfl⟩)⟩
/-- a cell of a memory with another content -/
inductive Rpl (p : Addr) (c c' : SC) : Mem → Mem → Prop
  | cell {M : Mem} (j : Nat) : M[j]? = some (p, c.up) → Rpl p c c' M (M.set j (p, c'.up))
  | head {M : Mem} {N : List (Addr × SC)} (j : Nat) : M[j]? = some (p, .grp c N) → Rpl p c c' M (M.set j (p, .grp c' N))
  | part {M : Mem} {N : List (Addr × SC)} {b : Addr} {c0 : SC} (j i : Nat) : M[j]? = some (b, .grp c0 N) → N[i]? = some (p, c) → Rpl p c c' M (M.set j (b, .grp c0 (N.set i (p, c'))))
theorem Rpl.inM (h : Rpl p c c' M M') : InM M p c := by
  cases h with
  | cell j h => exact .inl (List.mem_of_getElem? h)
  | head j h => exact .inr (.inl ⟨_, List.mem_of_getElem? h⟩)
  | part j i h h2 => exact .inr (.inr ⟨_, _, _, List.mem_of_getElem? h, List.mem_of_getElem? h2⟩)
theorem map_set_fst {N : List (Addr × SC)} {i : Nat} (h : N[i]? = some (p, c)) : (N.set i (p, c')).map (·.1) = N.map (·.1) := by
  induction N generalizing i with
  | nil => simp at h
  | cons q N ih =>
    cases i with
    | zero =>
      have : q = (p, c) := by simpa using h
      subst this; rfl
    | succ i => show q.1 :: _ = q.1 :: _; rw [ih (by simpa using h)]
theorem nd_own {x : Addr × Cell} (R : Rs κ δ M σ H) (h : x ∈ M) : (own x.1 x.2).Nodup := by
  have : (own x.1 x.2).Sublist M.F := by
    obtain ⟨l1, l2, rfl⟩ := List.append_of_mem h
    rw [F_app]
    exact (List.sublist_append_left _ _).trans (List.sublist_append_right _ _)
  exact R.nd.sublist this
theorem Rs.rpl (R : Rs κ δ M σ H) (r : Rpl p c c' M M') (k : ∀ x, x ≠ p → H' x = H x) (ok : SOk M.F H' p c') : Rs κ δ M' σ H' := by
  have hpF := r.inM.mem
  have fw : Fwd M.F H M.F H' := Fwd.same fun x hx => k x fun z => hx (by rw [z]; exact hpF)
  cases r with
  | cell j h => exact R.cell h (by rw [own_up, own_up]) (fun x hx => k x (by rw [own_up] at hx; simpa using hx)) (ok_up.mpr ok)
  | head j h =>
    have nd := nd_own R (List.mem_of_getElem? h)
    refine R.cell h rfl (fun x hx => k x fun z => hx (by rw [z]; exact List.mem_cons_self)) ⟨ok, fun q hq => ?_⟩
    have hne : q.1 ≠ p := fun z => (List.nodup_cons.mp nd).1 (by rw [← z]; exact List.mem_map.mpr ⟨q, hq, rfl⟩)
    exact ((R.cl _ (List.mem_of_getElem? h)).2 q hq).fwd fw (k _ hne)
  | @part N b c0 j i h h2 =>
    have nd := nd_own R (List.mem_of_getElem? h)
    have hpN : p ∈ N.map (·.1) := List.mem_map.mpr ⟨_, List.mem_of_getElem? h2, rfl⟩
    have hbp : b ≠ p := fun z => (List.nodup_cons.mp nd).1 (by rw [z]; exact hpN)
    have hown : own b (.grp c0 (N.set i (p, c'))) = own b (.grp c0 N) := by
      show b :: _ = b :: _
      rw [map_set_fst h2]
    refine R.cell h hown (fun x hx => k x fun z => hx (by rw [z]; exact List.mem_cons_of_mem _ hpN)) ⟨(R.cl _ (List.mem_of_getElem? h)).1.fwd fw (k _ hbp), fun q hq => ?_⟩
    obtain ⟨j', hj'⟩ := List.getElem?_of_mem hq
    by_cases hij : i = j'
    · subst hij
      rw [List.getElem?_set_self (List.getElem?_eq_some_iff.mp h2).1] at hj'
      cases hj'
      exact ok
    · rw [List.getElem?_set_ne hij] at hj'
      have hq' : q ∈ N := List.mem_of_getElem? hj'
      have hne : q.1 ≠ p := fun z => by
        have n2 := (List.nodup_cons.mp nd).2
        have e1 : (N.map (·.1))[i]? = some p := by rw [List.getElem?_map, h2]; rfl
        have e2 : (N.map (·.1))[j']? = some p := by rw [List.getElem?_map, hj', ← z]; rfl
        exact hij ((List.getElem?_inj (List.getElem?_eq_some_iff.mp e1).1 n2).mp (e1.trans e2.symm))
      exact ((R.cl _ (List.mem_of_getElem? h)).2 q hq').fwd fw (k _ hne)
end
end Hl
namespace Hl
open PySem L2
/-! ### the readings as such -/
@[irreducible] def tE (X : Cx) (e : Expr) : TE := fun σ H Q => ∀ pins s, Inv X pins σ H s → wpAny (model X.prog X.w) X.A (eval e X.env) (EP X pins σ Q) X.xe s
@[irreducible] def tT (X : Cx) (e : Expr) : TT := fun σ H Q => ∀ pins s, Inv X pins σ H s → wpAny (model X.prog X.w) X.A (isTrue e X.env (eval e X.env)) (TP X pins σ Q) X.xe s
@[irreducible] def tA (X : Cx) (es : List Expr) : TA := fun σ H Q => ∀ (pos : Pos) pins s, Inv X pins σ H s → wpAny (model X.prog X.w) X.A (spliced (backTo pos (starEach es X.env))) (AP X pins σ Q) X.xe s
@[irreducible] def tS (X : Cx) (st : Stmt) : TS := fun D σ H => ∀ pins s, Inv X pins σ H s → wpAny (model X.prog X.w) X.A (exec st X.env) (SP X pins D) X.xe s
@[irreducible] def tSs (X : Cx) (st : List Stmt) : TS := fun D σ H => ∀ pins s, Inv X pins σ H s → wpAny (model X.prog X.w) X.A (execs st X.env) (SP X pins D) X.xe s
@[irreducible] def tG (X : Cx) (tg : Expr) : TG := fun v σ H Q => ∀ pins s u, Inv X pins σ H s → RelV v u → wpAny (model X.prog X.w) X.A (assign tg X.env u) (fun _ s' => ∃ σ' H', Inv X pins σ' H' s' ∧ Q σ' H') X.xe s
@[irreducible] def tGs (X : Cx) (ts : List Expr) : TGs := fun vs σ H Q => ∀ pins s us, Inv X pins σ H s → Vals vs us → wpAny (model X.prog X.w) X.A (assignInOrder ((assignEach ts X.env).map (·.2)) us) (fun _ s' => ∃ σ' H', Inv X pins σ' H' s' ∧ Q σ' H') X.xe s
section
variable {X : Cx} {e : Expr} {es : List Expr} {st : Stmt} {sts : List Stmt}
theorem cE : PE X e (tE X e) := ⟨fun pins s _ _ _ I h => by unfold tE at h; exact h pins s I⟩
theorem cT : PT X e (tT X e) := ⟨fun pins s _ _ _ I h => by unfold tT at h; exact h pins s I⟩
theorem cA : PA X es (tA X es) := ⟨fun pos pins s _ _ _ I h => by unfold tA at h; exact h pos pins s I⟩
theorem cS : PS X st (tS X st) := ⟨fun pins s _ _ _ I h => by unfold tS at h; exact h pins s I⟩
theorem cSs : PSs X sts (tSs X sts) := ⟨fun pins s _ _ _ I h => by unfold tSs at h; exact h pins s I⟩
theorem cG : PG X e (tG X e) := ⟨fun pins s _ _ _ u _ I r h => by unfold tG at h; exact h pins s u I r⟩
theorem cGs : PGs X es (tGs X es) := ⟨fun pins s _ _ _ us _ I r h => by unfold tGs at h; exact h pins s us I r⟩
end
/-! ### by data -/
/-- what a body keeps for its caller, and what it may raise -/
structure Bx where
  ps : List (V × D)
  ex : Addr → List Str → List D → List (Option D) → Mem → Prop
def B0 (ps : List (V × D)) : Bx := ⟨ps, fun _ _ _ _ _ => False⟩
abbrev Env' := List (Option D)
def WE (B : Bx) (te : TE) (δ : Env') (M : Mem) (Φ : D → Mem → Prop) : Prop := ∀ κ σ H Q, (∀ q ∈ B.ps, q ∈ κ) → Rs κ δ M σ H → (∀ v d M' H', Φ d M' → Rs κ δ M' σ H' → Rep M'.F H' v d → Q v H') → te σ H Q
/-- a new list, nobody else's -/
def WF (B : Bx) (te : TE) (δ : Env') (M : Mem) (Φ : List D → Mem → Prop) : Prop := ∀ κ σ H Q, (∀ q ∈ B.ps, q ∈ κ) → Rs κ δ M σ H → (∀ p ds M' H', Φ ds M' → Rs κ δ ((p, .lst ds) :: M') σ H' → Q (.ref p) H') → te σ H Q
def WT (B : Bx) (tt : TT) (δ : Env') (M : Mem) (Φ : Bool → Mem → Prop) : Prop := ∀ κ σ H Q, (∀ q ∈ B.ps, q ∈ κ) → Rs κ δ M σ H → (∀ b M' H', Φ b M' → Rs κ δ M' σ H' → Q b H') → tt σ H Q
def WA (B : Bx) (ta : TA) (δ : Env') (M : Mem) (Φ : List D → Mem → Prop) : Prop := ∀ κ σ H Q, (∀ q ∈ B.ps, q ∈ κ) → Rs κ δ M σ H → (∀ vs ds M' H', Φ ds M' → Rs κ δ M' σ H' → Reps M'.F H' vs ds → Q vs H') → ta σ H Q
structure DEnds where
  nx : Env' → Mem → Prop
  rt : D → Mem → Prop
  bk : Env' → Mem → Prop := fun _ _ => False
  ct : Env' → Mem → Prop := fun _ _ => False
structure EndsOk (κ : List (V × D)) (Φ : DEnds) (E : Ends) : Prop where
  nx : ∀ δ M σ H, Φ.nx δ M → Rs κ δ M σ H → E.nx σ H
  rt : ∀ v d M δ σ H, Φ.rt d M → Rs κ δ M σ H → Rep M.F H v d → E.rt v H
  bk : ∀ δ M σ H, Φ.bk δ M → Rs κ δ M σ H → E.bk σ H
  ct : ∀ δ M σ H, Φ.ct δ M → Rs κ δ M σ H → E.ct σ H
def WS (B : Bx) (ts : TS) (δ : Env') (M : Mem) (Φ : DEnds) : Prop := ∀ κ σ H E, (∀ q ∈ B.ps, q ∈ κ) → Rs κ δ M σ H → EndsOk κ Φ E → ts E σ H
def WG (B : Bx) (tg : TG) (d : D) (δ : Env') (M : Mem) (Φ : Env' → Mem → Prop) : Prop := ∀ κ σ H v Q, (∀ q ∈ B.ps, q ∈ κ) → Rs κ δ M σ H → Rep M.F H v d → (∀ δ' M' σ' H', Φ δ' M' → Rs κ δ' M' σ' H' → Q σ' H') → tg v σ H Q
def WGs (B : Bx) (tg : TGs) (ds : List D) (δ : Env') (M : Mem) (Φ : Env' → Mem → Prop) : Prop := ∀ κ σ H vs Q, (∀ q ∈ B.ps, q ∈ κ) → Rs κ δ M σ H → Reps M.F H vs ds → (∀ δ' M' σ' H', Φ δ' M' → Rs κ δ' M' σ' H' → Q σ' H') → tg vs σ H Q
abbrev DE (B : Bx) (X : Cx) (e : Expr) := WE B (tE X e)
abbrev DF (B : Bx) (X : Cx) (e : Expr) := WF B (tE X e)
abbrev DT (B : Bx) (X : Cx) (e : Expr) := WT B (tT X e)
abbrev DA (B : Bx) (X : Cx) (es : List Expr) := WA B (tA X es)
abbrev DS (B : Bx) (X : Cx) (st : Stmt) := WS B (tS X st)
abbrev DSs (B : Bx) (X : Cx) (st : List Stmt) := WS B (tSs X st)
abbrev DG (B : Bx) (X : Cx) (tg : Expr) := WG B (tG X tg)
abbrev DGs (B : Bx) (X : Cx) (tg : List Expr) := WGs B (tGs X tg)
section
variable {B : Bx} {X : Cx} {e a b c : Expr} {es rest : List Expr} {st : Stmt} {sts : List Stmt} {δ δ' : Env'} {M : Mem} {Φ : D → Mem → Prop} {Ψ : DEnds} {te ta tb : TE} {tt : TT} {pos : Pos} {d : D}
theorem DE.of (h : PE X e te) (w : WE B te δ M Φ) : DE B X e δ M Φ := fun κ σ H Q hb R k => by unfold tE; exact fun pins s I => h.run pins s σ H Q I (w κ σ H Q hb R k)
theorem DF.of {Φ : List D → Mem → Prop} (h : PE X e te) (w : WF B te δ M Φ) : DF B X e δ M Φ := fun κ σ H Q hb R k => by unfold tE; exact fun pins s I => h.run pins s σ H Q I (w κ σ H Q hb R k)
theorem DT.of {Φ : Bool → Mem → Prop} (h : PT X e tt) (w : WT B tt δ M Φ) : DT B X e δ M Φ := fun κ σ H Q hb R k => by unfold tT; exact fun pins s I => h.run pins s σ H Q I (w κ σ H Q hb R k)
theorem DA.of {Φ : List D → Mem → Prop} {t : TA} (h : PA X es t) (w : WA B t δ M Φ) : DA B X es δ M Φ := fun κ σ H Q hb R k => by unfold tA; exact fun pos pins s I => h.run pos pins s σ H Q I (w κ σ H Q hb R k)
theorem DS.of {t : TS} (h : PS X st t) (w : WS B t δ M Ψ) : DS B X st δ M Ψ := fun κ σ H E hb R k => by unfold tS; exact fun pins s I => h.run pins s σ H E I (w κ σ H E hb R k)
theorem DSs.of {t : TS} (h : PSs X sts t) (w : WS B t δ M Ψ) : DSs B X sts δ M Ψ := fun κ σ H E hb R k => by unfold tSs; exact fun pins s I => h.run pins s σ H E I (w κ σ H E hb R k)
theorem DG.of {t : TG} {Φ : Env' → Mem → Prop} (h : PG X e t) (w : WG B t d δ M Φ) : DG B X e d δ M Φ := fun κ σ H v Q hb R r k => by unfold tG; exact fun pins s u I ru => h.run pins s σ H v u Q I ru (w κ σ H v Q hb R r k)
theorem DGs.of {t : TGs} {ds : List D} {Φ : Env' → Mem → Prop} (h : PGs X es t) (w : WGs B t ds δ M Φ) : DGs B X es ds δ M Φ := fun κ σ H v Q hb R r k => by unfold tGs; exact fun pins s u I ru => h.run pins s σ H v u Q I ru (w κ σ H v Q hb R r k)
/-- a list nobody else's, as a plain one -/
theorem cons_sub {M : Mem} {q : Addr × Cell} : M.Sublist (q :: M) := .cons _ (.refl _)
theorem WE.ofF (w : WF B te δ M fun ds M' => Φ (.lst ds) M') : WE B te δ M Φ := fun κ σ H Q hb R k => w κ σ H Q hb R fun p ds M' H' q R' => by
  refine k (.ref p) (.lst ds) M' H' q (R'.less cons_sub) ?_
  obtain ⟨vs, e, r⟩ := R'.cl (p, .lst ds) (by simp)
  have nd : (p :: Mem.F M').Nodup := R'.nd
  refine .lst (List.nodup_cons.mp nd).1 e (r.fwd ?_)
  exact Fwd.less fun x hx => (F_sub cons_sub).subset hx
theorem WE.mono {Φ' : D → Mem → Prop} (w : WE B te δ M Φ) (h : ∀ d M', Φ d M' → Φ' d M') : WE B te δ M Φ' := fun κ σ H Q hb R k => w κ σ H Q hb R fun v d M' H' q R' r => k v d M' H' (h d M' q) R' r
theorem WT.mono {Φ Φ' : Bool → Mem → Prop} (w : WT B tt δ M Φ) (h : ∀ d M', Φ d M' → Φ' d M') : WT B tt δ M Φ' := fun κ σ H Q hb R k => w κ σ H Q hb R fun b M' H' q R' => k b M' H' (h b M' q) R'
theorem EndsOk.mono {κ : List (V × D)} {Φ Φ' : DEnds} {E : Ends} (k : EndsOk κ Φ' E) (h1 : ∀ δ M, Φ.nx δ M → Φ'.nx δ M) (h2 : ∀ d M, Φ.rt d M → Φ'.rt d M) (h3 : ∀ δ M, Φ.bk δ M → Φ'.bk δ M) (h4 : ∀ δ M, Φ.ct δ M → Φ'.ct δ M) : EndsOk κ Φ E :=
  ⟨fun δ M σ H q R => k.nx δ M σ H (h1 δ M q) R, fun v d M δ σ H q R r => k.rt v d M δ σ H (h2 d M q) R r, fun δ M σ H q R => k.bk δ M σ H (h3 δ M q) R, fun δ M σ H q R => k.ct δ M σ H (h4 δ M q) R⟩
theorem EndsOk.sub {κ κ' : List (V × D)} {Φ : DEnds} {E : Ends} (k : EndsOk κ Φ E) (h : ∀ q ∈ κ, q ∈ κ') : EndsOk κ' Φ E :=
  ⟨fun δ M σ H q R => k.nx δ M σ H q (R.sub h), fun v d M δ σ H q R r => k.rt v d M δ σ H q (R.sub h) r, fun δ M σ H q R => k.bk δ M σ H q (R.sub h), fun δ M σ H q R => k.ct δ M σ H q (R.sub h)⟩
theorem WS.mono {ts : TS} {Ψ' : DEnds} (w : WS B ts δ M Ψ) (h1 : ∀ δ M, Ψ.nx δ M → Ψ'.nx δ M) (h2 : ∀ d M, Ψ.rt d M → Ψ'.rt d M) (h3 : ∀ δ M, Ψ.bk δ M → Ψ'.bk δ M) (h4 : ∀ δ M, Ψ.ct δ M → Ψ'.ct δ M) : WS B ts δ M Ψ' := fun κ σ H E hb R k =>
  w κ σ H E hb R (k.mono h1 h2 h3 h4)
/-! ### names -/
structure NmP (N : List Str) (sc : Scope) (i : Nat) (x : Str) : Prop where
  at_ : N[i]? = some x
  vis : Vis sc x
  dbg : (x == ("__debug__" : Str)) = false
  cdc : (x == ("__classdict__" : Str)) = false
abbrev Nm (X : Cx) := NmP X.N X.env.scope
structure LoP (N : List Str) (sc : Scope) (fu : Str → Bool) (i : Nat) (x : Str) : Prop extends NmP N sc i x where
  loc : Loc sc x
  fn : fu x = true ∨ sc.names.lookup x = some .local
abbrev Lo (X : Cx) := LoP X.N X.env.scope X.fn
/-- a built-in's name -/
structure GnP (env : Env) (mg : Str → Option Value) (x : Str) : Prop where
  gl : env.kindOf x = some .globalImplicit
  no : mg x = none
abbrev Gn (X : Cx) := GnP X.env X.mg
structure CzP (N : List Str) (calm_ : Bool) (A : Around) (k : Nat) : Prop where
  nd : N.Nodup
  calm : calm_ = true
  room : Room k A
abbrev Cz (X : Cx) := CzP X.N X.calm X.A
theorem WE.val {v : V} (hv : ∀ F H, Rep F H v d) (k : Φ d M) : WE B (tC v) δ M Φ := fun κ σ H Q hb R h => h v d M H k R (hv _ _)
theorem de_name {i : Nat} {x : Str} (n : Nm X i x) (hd : δ[i]? = some (some d)) (k : Φ d M) : DE B X (.Name x pos) δ M Φ :=
  .of (pe_var n.at_ n.vis n.dbg n.cdc) fun κ σ H Q hb R h => let ⟨v, e, r⟩ := R.get hd; ⟨v, e, h v d M H k R r⟩
theorem de_int {i : Int} {j} (k : Φ (.int i) M) : DE B X (.Constant (.int i) j pos) δ M Φ := .of pe_int (.val (fun _ _ => .int i) k)
theorem de_str {x : Str} {j} (k : Φ (.str x) M) : DE B X (.Constant (.str x) j pos) δ M Φ := .of pe_str (.val (fun _ _ => .str x) k)
theorem de_bl {b : Bool} {j} (k : Φ (.bl b) M) : DE B X (.Constant (.bool b) j pos) δ M Φ := .of pe_bl (.val (fun _ _ => .bl b) k)
theorem de_non {j} (k : Φ .non M) : DE B X (.Constant .none j pos) δ M Φ := .of pe_non (.val (fun _ _ => .non) k)
/-- a constant of the module -/
structure GcP (env : Env) (mg : Str → Option Value) (x : Str) (v : V) : Prop where
  gl : env.kindOf x = some .globalImplicit
  is : ∃ u, mg x = some u ∧ RelV v u
  dbg : (x == ("__debug__" : Str)) = false
abbrev Gc (X : Cx) := GcP X.env X.mg
theorem de_glob {x : Str} {v : V} (g : Gc X x v) (hv : ∀ F H, Rep F H v d) (k : Φ d M) : DE B X (.Name x pos) δ M Φ := by
  obtain ⟨gl, ⟨u, e, r⟩, dbg⟩ := g
  exact .of (pe_glob gl e r dbg) (.val hv k)
/-! ### operators -/
/-- what an operator on values gives of data -/
def OpD (r : R2) (x y : D) (M : Mem) (Φ : D → Mem → Prop) : Prop := ∀ κ (δ : Env') σ H v w Q, Rs κ δ M σ H → Rep M.F H v x → Rep M.F H w y → (∀ z d M' H', Φ d M' → Rs κ δ M' σ H' → Rep M'.F H' z d → Q z H') → r v w H Q
theorem WE.op {r : R2} (ha : WE B ta δ M fun x M1 => WE B tb δ M1 fun y M2 => OpD r x y M2 Φ) : WE B (tOp r ta tb) δ M Φ := fun κ σ H Q hb R k =>
  ha κ σ H _ hb R fun v x M1 H1 q1 R1 r1 => q1 ((v, x) :: κ) σ H1 _ (fun q hq => List.mem_cons_of_mem _ (hb q hq)) (R1.push r1) fun w y M2 H2 q2 R2 r2 =>
    q2 κ δ σ H2 v w Q R2.pop R2.top r2 k
theorem de_bin {op : Operator} {r : R2} (ho : OpR X (binaryOp op) r) (h : DE B X a δ M fun x M1 => DE B X b δ M1 fun y M2 => OpD r x y M2 Φ) : DE B X (.BinOp a op b pos) δ M Φ := .of (pe_op ho cE cE) (.op h)
theorem od_I {C : Int → Int → Prop} {g : Int → Int → V} {gd : Int → Int → D} {i j : Int} (hc : C i j) (hg : ∀ F H, Rep F H (g i j) (gd i j)) (k : Φ (gd i j) M) : OpD (rI C g) (.int i) (.int j) M Φ := fun κ δ σ H v w Q R rv rw' h => by
  cases rv; cases rw'
  exact ⟨i, j, rfl, rfl, hc, h _ _ M H k R (hg _ _)⟩
theorem od_I0 {g : Int → Int → V} {gd : Int → Int → D} {i j : Int} (hg : ∀ F H, Rep F H (g i j) (gd i j)) (k : Φ (gd i j) M) : OpD (rI0 g) (.int i) (.int j) M Φ := fun κ δ σ H v w Q R rv rw' h => by
  cases rv; cases rw'
  exact ⟨i, j, rfl, rfl, h _ _ M H k R (hg _ _)⟩
theorem OpD.inl {r r' : R2} {x y : D} (h : OpD r x y M Φ) : OpD (fun a b H Q => r a b H Q ∨ r' a b H Q) x y M Φ := fun κ δ σ H v w Q R rv rw' k => .inl (h κ δ σ H v w Q R rv rw' k)
theorem OpD.inr {r r' : R2} {x y : D} (h : OpD r' x y M Φ) : OpD (fun a b H Q => r a b H Q ∨ r' a b H Q) x y M Φ := fun κ δ σ H v w Q R rv rw' k => .inr (h κ δ σ H v w Q R rv rw' k)
def rAddS : R2 := fun x y H Q => ∃ i j, x = .str i ∧ y = .str j ∧ i.length + j.length ≤ sizeLine ∧ Q (.str (i ++ j)) H
def rCatH : R2 := fun x y H Q => ∃ a b xs ys, x = .ref a ∧ y = .ref b ∧ H a = some (.tup xs) ∧ H b = some (.tup ys) ∧ xs.length + ys.length ≤ sizeLine ∧ (xs = [] → Q (.ref b) H) ∧ (xs ≠ [] → ys = [] → Q (.ref a) H) ∧ (xs ≠ [] → ys ≠ [] → ∀ p, H p = none → Q (.ref p) (upd H p (.tup (xs ++ ys))))
theorem op_catH : OpR X (binaryOp .Add) rCatH := fun pins s σ H x y v u Q I rx ry ⟨a, b, xs, ys, e1, e2, h1, h2, hz, q0, q1, q2⟩ => op_catA pins s σ H x y v u Q I rx ry ⟨a, b, xs, ys, e1, e2, SqT.of h1, SqT.of h2, hz, q0, q1, q2⟩
def rAddU : R2 := fun x y H Q => (rI0 fun i j => .int (i + j)) x y H Q ∨ (fun x y H Q => rAddS x y H Q ∨ (fun x y H Q => rCat x y H Q ∨ rCatH x y H Q) x y H Q) x y H Q
theorem op_addU : OpR X (binaryOp .Add) rAddU := op_add.or ((op_add_str (X := X)).or (op_cat.or op_catH))
theorem od_addI {i j : Int} (k : Φ (.int (i + j)) M) : OpD rAddU (.int i) (.int j) M Φ := (od_I0 (gd := fun i j => .int (i + j)) (fun _ _ => .int _) k).inl
/-- a new list at p -/
theorem Rs.lst {κ : List (V × D)} {σ : St} {H : Hp} {p : Addr} {vs : List V} {ds : List D} (R : Rs κ δ M σ H) (r : Reps M.F H vs ds) (hp : H p = none) : Rs κ δ ((p, .lst ds) :: M) σ (upd H p (.lst vs)) :=
  R.add hp rfl ⟨vs, upd_same, r.fwd (Fwd.newC hp)⟩
theorem Rs.lstV {κ : List (V × D)} {σ : St} {H : Hp} {p : Addr} {vs : List V} {ds : List D} (R : Rs κ δ M σ H) (r : Reps M.F H vs ds) (hp : H p = none) : Rs κ δ M σ (upd H p (.lst vs)) ∧ Rep M.F (upd H p (.lst vs)) (.ref p) (.lst ds) :=
  ⟨R.new hp, .lst (R.fresh hp) upd_same (r.fwd (Fwd.new hp))⟩
theorem Rs.tupV {κ : List (V × D)} {σ : St} {H : Hp} {p : Addr} {vs : List V} {ds : List D} (R : Rs κ δ M σ H) (r : Reps M.F H vs ds) (hp : H p = none) : Rs κ δ M σ (upd H p (.tup vs)) ∧ Rep M.F (upd H p (.tup vs)) (.ref p) (.tup ds) :=
  ⟨R.new hp, .tup (R.fresh hp) upd_same (r.fwd (Fwd.new hp))⟩
theorem od_addL {xs ys : List D} (hl : xs.length + ys.length ≤ sizeLine) (k : Φ (.lst (xs ++ ys)) M) : OpD rAddU (.lst xs) (.lst ys) M Φ := .inr (.inr (.inl fun κ δ σ H v w Q R rv rw' h => by
  cases rv with
  | lst h1 e1 r1 =>
    cases rw' with
    | lst h2 e2 r2 =>
      refine ⟨_, _, _, _, rfl, rfl, e1, e2, by rw [r1.length, r2.length]; exact hl, fun p hp => ?_⟩
      obtain ⟨R', r'⟩ := R.lstV (r1.append r2) hp
      exact h _ _ M _ k R' r'))
theorem od_addT {xs ys : List D} (hl : xs.length + ys.length ≤ sizeLine) (k : Φ (.tup (xs ++ ys)) M) : OpD rAddU (.tup xs) (.tup ys) M Φ := .inr (.inr (.inr fun κ δ σ H v w Q R rv rw' h => by
  cases rv with
  | tup h1 e1 r1 =>
    cases rw' with
    | tup h2 e2 r2 =>
      refine ⟨_, _, _, _, rfl, rfl, e1, e2, by rw [r1.length, r2.length]; exact hl, fun z => ?_, fun z1 z => ?_, fun _ _ p hp => ?_⟩
      · subst z
        cases r1
        exact h _ _ M _ k R (.tup h2 e2 r2)
      · subst z
        cases r2
        rw [List.append_nil] at k
        exact h _ _ M _ k R (.tup h1 e1 r1)
      · obtain ⟨R', r'⟩ := R.tupV (r1.append r2) hp
        exact h _ _ M _ k R' r'))
theorem de_add (h : DE B X a δ M fun x M1 => DE B X b δ M1 fun y M2 => OpD rAddU x y M2 Φ) : DE B X (.BinOp a .Add b pos) δ M Φ := de_bin op_addU h
def rSubU : R2 := rI0 fun i j => .int (i - j)
theorem de_sub (h : DE B X a δ M fun x M1 => DE B X b δ M1 fun y M2 => OpD rSubU x y M2 Φ) : DE B X (.BinOp a .Sub b pos) δ M Φ := de_bin op_sub h
theorem od_sub {i j : Int} (k : Φ (.int (i - j)) M) : OpD rSubU (.int i) (.int j) M Φ := od_I0 (gd := fun i j => .int (i - j)) (fun _ _ => .int _) k
def rMulStr : R2 := fun x y H Q => ∃ (z : Str) (n : Int), x = .str z ∧ y = .int n ∧ MulOk z n ∧ Q (.str (Txt.mul z n)) H
theorem op_mulStr : OpR X (binaryOp .Mult) rMulStr := by
  intro pins s σ H x y v u Q I rx ry h
  obtain ⟨z, n, rfl, rfl, hok, q⟩ := h
  obtain ⟨t, rfl⟩ := rx
  obtain ⟨t', rfl⟩ := ry
  exact SB.mul hok fun t' k => ⟨.str _, H, I.tok k, ⟨t', rfl⟩, q⟩
def rMulU : R2 := fun x y H Q => (rI CMul fun i j => .int (i * j)) x y H Q ∨ ((rI CMulW fun i j => .int (i * j)) x y H Q ∨ rMulStr x y H Q)
theorem de_mul (h : DE B X a δ M fun x M1 => DE B X b δ M1 fun y M2 => OpD rMulU x y M2 Φ) : DE B X (.BinOp a .Mult b pos) δ M Φ := de_bin (op_mul.or (op_mulW.or op_mulStr)) h
theorem od_mul {i j : Int} (hc : CMul i j) (k : Φ (.int (i * j)) M) : OpD rMulU (.int i) (.int j) M Φ := (od_I (gd := fun i j => .int (i * j)) hc (fun _ _ => .int _) k).inl
def rDivU : R2 := rI CDivW fun i j => .int (i / j)
theorem de_div (h : DE B X a δ M fun x M1 => DE B X b δ M1 fun y M2 => OpD rDivU x y M2 Φ) : DE B X (.BinOp a .FloorDiv b pos) δ M Φ := de_bin op_fdivW h
theorem od_div {i j : Int} (hc : CDivW i j) (k : Φ (.int (i / j)) M) : OpD rDivU (.int i) (.int j) M Φ := od_I (gd := fun i j => .int (i / j)) hc (fun _ _ => .int _) k
def rModU : R2 := rI (fun _ j => 0 < j) fun i j => .int (i % j)
theorem de_mod (h : DE B X a δ M fun x M1 => DE B X b δ M1 fun y M2 => OpD rModU x y M2 Φ) : DE B X (.BinOp a .Mod b pos) δ M Φ := de_bin op_mod h
theorem od_mod {i j : Int} (hc : 0 < j) (k : Φ (.int (i % j)) M) : OpD rModU (.int i) (.int j) M Φ := od_I (gd := fun i j => .int (i % j)) hc (fun _ _ => .int _) k
def rPowU : R2 := rI CPow fun i j => .int (i ^ j.toNat)
theorem de_pow (h : DE B X a δ M fun x M1 => DE B X b δ M1 fun y M2 => OpD rPowU x y M2 Φ) : DE B X (.BinOp a .Pow b pos) δ M Φ := de_bin op_pow h
theorem od_pow {i j : Int} (hc : CPow i j) (k : Φ (.int (i ^ j.toNat)) M) : OpD rPowU (.int i) (.int j) M Φ := od_I (gd := fun i j => .int (i ^ j.toNat)) hc (fun _ _ => .int _) k
theorem de_neg (h : DE B X a δ M fun x M1 => ∃ i, x = .int i ∧ Φ (.int (-i)) M1) : DE B X (.UnaryOp .USub a pos) δ M Φ := .of (pe_un un_neg cE) fun κ σ H Q hb R k => h κ σ H _ hb R fun v x M1 H1 ⟨i, e, q⟩ R1 r1 => by
  subst e; cases r1
  exact ⟨i, rfl, k _ _ _ _ q R1 (.int _)⟩
end
end Hl
namespace Hl
open PySem L2
@[irreducible] def tW (X : Cx) (e : Expr) : TT := fun σ H Q => ∀ whole pins s, Inv X pins σ H s → wpAny (model X.prog X.w) X.A (isTrue e X.env whole) (TP X pins σ Q) X.xe s
theorem cW {X : Cx} {e : Expr} : PW X e (tW X e) := ⟨fun whole pins s _ _ _ I h => by unfold tW at h; exact h whole pins s I⟩
abbrev DW (B : Bx) (X : Cx) (e : Expr) := WT B (tW X e)
section
variable {B : Bx} {X : Cx} {e a b c : Expr} {es rest : List Expr} {st : Stmt} {sts : List Stmt} {δ δ' : Env'} {M : Mem} {Φ : D → Mem → Prop} {Ψ : DEnds} {te ta tb : TE} {tt : TT} {pos : Pos} {d x y : D} {ΦB : Bool → Mem → Prop}
theorem DW.of (h : PW X e tt) (w : WT B tt δ M ΦB) : DW B X e δ M ΦB := fun κ σ H Q hb R k => by unfold tW; exact fun whole pins s I => h.run whole pins s σ H Q I (w κ σ H Q hb R k)
theorem DT.w (h : DW B X e δ M ΦB) : DT B X e δ M ΦB := .of cW.pt h
/-- both ways of a truth -/
def Br (b : Bool) (P Q : Prop) : Prop := (b = true → P) ∧ (b = false → Q)
theorem Br.mk {b : Bool} {P Q : Prop} (h1 : b = true → P) (h2 : b = false → Q) : Br b P Q := ⟨h1, h2⟩
theorem Br.yes {P Q : Prop} (h : P) : Br true P Q := ⟨fun _ => h, fun e => (nomatch e)⟩
theorem Br.no {P Q : Prop} (h : Q) : Br false P Q := ⟨fun e => (nomatch e), fun _ => h⟩
theorem Br.ite {b : Bool} {P Q : Prop} (h : Br b P Q) : if b = true then P else Q := by
  cases b with
  | true => exact iteT (h.1 rfl)
  | false => exact iteF (h.2 rfl)
theorem Br.dec {p : Prop} [Decidable p] {P Q : Prop} (h1 : p → P) (h2 : ¬ p → Q) : Br (decide p) P Q := ⟨fun e => h1 (of_decide_eq_true e), fun e => h2 (of_decide_eq_false e)⟩
theorem Br.ndec {p : Prop} [Decidable p] {P Q : Prop} (h1 : ¬ p → P) (h2 : p → Q) : Br (!decide p) P Q := ⟨fun e => h1 (of_decide_eq_false (by simpa using e)), fun e => h2 (of_decide_eq_true (by simpa using e))⟩
theorem Br.decT {p : Prop} [Decidable p] {P Q : Prop} (h : p) (h1 : P) : Br (decide p) P Q := ⟨fun _ => h1, fun e => absurd h (of_decide_eq_false e)⟩
theorem Br.decF {p : Prop} [Decidable p] {P Q : Prop} (h : ¬ p) (h1 : Q) : Br (decide p) P Q := ⟨fun e => absurd (of_decide_eq_true e) h, fun _ => h1⟩
theorem Br.ndecT {p : Prop} [Decidable p] {P Q : Prop} (h : ¬ p) (h1 : P) : Br (!decide p) P Q := ⟨fun _ => h1, fun e => absurd (of_decide_eq_true (by simpa using e)) h⟩
theorem Br.ndecF {p : Prop} [Decidable p] {P Q : Prop} (h : p) (h1 : Q) : Br (!decide p) P Q := ⟨fun e => absurd h (of_decide_eq_false (by simpa using e)), fun _ => h1⟩
theorem Br.neg {b : Bool} {P Q : Prop} (h : Br b Q P) : Br (!b) P Q := by
  cases b with
  | true => exact ⟨fun e => (nomatch e), fun _ => h.1 rfl⟩
  | false => exact ⟨fun _ => h.2 rfl, fun e => (nomatch e)⟩
def toB (Φ : Bool → Mem → Prop) : D → Mem → Prop := fun d M => ∃ b, d = .bl b ∧ Φ b M
theorem toB.mk {b : Bool} (k : ΦB b M) : toB ΦB (.bl b) M := ⟨b, rfl, k⟩
theorem WT.test {t : TE} (h : WE B t δ M (toB ΦB)) : WT B (tTest t) δ M ΦB := fun κ σ H Q hb R k => h κ σ H _ hb R fun v d M' H' ⟨b, e, q⟩ R' r => by
  subst e; cases r
  exact ⟨b, rfl, k b M' H' q R'⟩
theorem de_cmp {op : CmpOp} {r : R2} (ho : OpR X (compareOp op) r) (hm : behindInMarks op b = false) (h : DE B X a δ M fun x M1 => DE B X b δ M1 fun y M2 => OpD r x y M2 Φ) : DE B X (.Compare a [op] [b] pos) δ M Φ := .of (pe_cmpR ho cE cE hm) (.op h)
theorem dt_cmp {op : CmpOp} {r : R2} (ho : OpR X (compareOp op) r) (hm : behindInMarks op b = false) (h : DE B X a δ M fun x M1 => DE B X b δ M1 fun y M2 => OpD r x y M2 (toB ΦB)) : DT B X (.Compare a [op] [b] pos) δ M ΦB := .of (pt_cmpR ho cE cE hm) (.test (.op h))
/-! comparisons of ints -/
def rLtU : R2 := rI0 fun i j => .bl (decide (i < j))
def rLeU : R2 := rI0 fun i j => .bl (decide (i ≤ j))
def rGtU : R2 := rI0 fun i j => .bl (decide (j < i))
def rGeU : R2 := rI0 fun i j => .bl (decide (j ≤ i))
theorem od_lt {i j : Int} (k : Φ (.bl (decide (i < j))) M) : OpD rLtU (.int i) (.int j) M Φ := od_I0 (gd := fun i j => .bl (decide (i < j))) (fun _ _ => .bl _) k
theorem od_le {i j : Int} (k : Φ (.bl (decide (i ≤ j))) M) : OpD rLeU (.int i) (.int j) M Φ := od_I0 (gd := fun i j => .bl (decide (i ≤ j))) (fun _ _ => .bl _) k
theorem od_gt {i j : Int} (k : Φ (.bl (decide (j < i))) M) : OpD rGtU (.int i) (.int j) M Φ := od_I0 (gd := fun i j => .bl (decide (j < i))) (fun _ _ => .bl _) k
theorem od_ge {i j : Int} (k : Φ (.bl (decide (j ≤ i))) M) : OpD rGeU (.int i) (.int j) M Φ := od_I0 (gd := fun i j => .bl (decide (j ≤ i))) (fun _ _ => .bl _) k
theorem de_lt (h : DE B X a δ M fun x M1 => DE B X b δ M1 fun y M2 => OpD rLtU x y M2 Φ) : DE B X (.Compare a [.Lt] [b] pos) δ M Φ := de_cmp op_lt (nomark _) h
theorem de_le (h : DE B X a δ M fun x M1 => DE B X b δ M1 fun y M2 => OpD rLeU x y M2 Φ) : DE B X (.Compare a [.LtE] [b] pos) δ M Φ := de_cmp op_le (nomark _) h
theorem de_gt (h : DE B X a δ M fun x M1 => DE B X b δ M1 fun y M2 => OpD rGtU x y M2 Φ) : DE B X (.Compare a [.Gt] [b] pos) δ M Φ := de_cmp op_gt (nomark _) h
theorem de_ge (h : DE B X a δ M fun x M1 => DE B X b δ M1 fun y M2 => OpD rGeU x y M2 Φ) : DE B X (.Compare a [.GtE] [b] pos) δ M Φ := de_cmp op_ge (nomark _) h
theorem dt_lt (h : DE B X a δ M fun x M1 => DE B X b δ M1 fun y M2 => OpD rLtU x y M2 (toB ΦB)) : DT B X (.Compare a [.Lt] [b] pos) δ M ΦB := dt_cmp op_lt (nomark _) h
theorem dt_le (h : DE B X a δ M fun x M1 => DE B X b δ M1 fun y M2 => OpD rLeU x y M2 (toB ΦB)) : DT B X (.Compare a [.LtE] [b] pos) δ M ΦB := dt_cmp op_le (nomark _) h
theorem dt_gt (h : DE B X a δ M fun x M1 => DE B X b δ M1 fun y M2 => OpD rGtU x y M2 (toB ΦB)) : DT B X (.Compare a [.Gt] [b] pos) δ M ΦB := dt_cmp op_gt (nomark _) h
theorem dt_ge (h : DE B X a δ M fun x M1 => DE B X b δ M1 fun y M2 => OpD rGeU x y M2 (toB ΦB)) : DT B X (.Compare a [.GtE] [b] pos) δ M ΦB := dt_cmp op_ge (nomark _) h
/-! == and != -/
def rEqU (K : PySem.W.Frag) : R2 := fun x y H Q => rEq x y H Q ∨ rEqD K x y H Q
def rNeU (K : PySem.W.Frag) : R2 := fun x y H Q => rNe x y H Q ∨ rNeD K x y H Q
theorem un64 {k : Nat} (z : Cz X k) : X.A.units + 64 < cLine := by have := z.room.un; omega
theorem un1 {k : Nat} (z : Cz X k) : X.A.units + 1 < cLine := by have := z.room.un; omega
theorem de_eq {k : Nat} (z : Cz X k) (h : DE B X a δ M fun x M1 => DE B X b δ M1 fun y M2 => OpD (rEqU X.K) x y M2 Φ) : DE B X (.Compare a [.Eq] [b] pos) δ M Φ := de_cmp (op_eq.or (op_eqD (un64 z))) (nomark _) h
theorem de_ne {k : Nat} (z : Cz X k) (h : DE B X a δ M fun x M1 => DE B X b δ M1 fun y M2 => OpD (rNeU X.K) x y M2 Φ) : DE B X (.Compare a [.NotEq] [b] pos) δ M Φ := de_cmp (op_ne.or (op_neD (un64 z))) (nomark _) h
theorem dt_eq {k : Nat} (z : Cz X k) (h : DE B X a δ M fun x M1 => DE B X b δ M1 fun y M2 => OpD (rEqU X.K) x y M2 (toB ΦB)) : DT B X (.Compare a [.Eq] [b] pos) δ M ΦB := dt_cmp (op_eq.or (op_eqD (un64 z))) (nomark _) h
theorem dt_ne {k : Nat} (z : Cz X k) (h : DE B X a δ M fun x M1 => DE B X b δ M1 fun y M2 => OpD (rNeU X.K) x y M2 (toB ΦB)) : DT B X (.Compare a [.NotEq] [b] pos) δ M ΦB := dt_cmp (op_ne.or (op_neD (un64 z))) (nomark _) h
theorem od_eqI {K : PySem.W.Frag} {i j : Int} (k : Φ (.bl (decide (i = j))) M) : OpD (rEqU K) (.int i) (.int j) M Φ := .inl fun κ δ σ H v w Q R rv rw' h => by
  cases rv; cases rw'
  refine ⟨rfl, ?_⟩
  rw [show decide (V.int i = V.int j) = decide (i = j) by simp]
  exact h _ _ M H k R (.bl _)
theorem od_neI {K : PySem.W.Frag} {i j : Int} (k : Φ (.bl (!decide (i = j))) M) : OpD (rNeU K) (.int i) (.int j) M Φ := .inl fun κ δ σ H v w Q R rv rw' h => by
  cases rv; cases rw'
  refine ⟨rfl, ?_⟩
  rw [show decide (V.int i = V.int j) = decide (i = j) by simp]
  exact h _ _ M H k R (.bl _)
/-! is None -/
def isN : D → Bool
  | .non => true
  | .raw v => decide (v = .non)
  | _ => false
def rIsNU : R2 := fun x y H Q => y = .non ∧ Q (.bl (decide (x = .non))) H
def rNotNU : R2 := fun x y H Q => y = .non ∧ Q (.bl (!decide (x = .non))) H
theorem rep_isN {F : List Addr} {H : Hp} {v : V} {x : D} (r : Rep F H v x) : decide (v = .non) = isN x := by cases r <;> simp [isN]
theorem od_isN {x : D} (k : Φ (.bl (isN x)) M) : OpD rIsNU x .non M Φ := fun κ δ σ H v w Q R rv rw' h => by
  cases rw'
  refine ⟨rfl, ?_⟩
  rw [rep_isN rv]
  exact h _ _ M H k R (.bl _)
theorem od_notN {x : D} (k : Φ (.bl (!isN x)) M) : OpD rNotNU x .non M Φ := fun κ δ σ H v w Q R rv rw' h => by
  cases rw'
  refine ⟨rfl, ?_⟩
  rw [rep_isN rv]
  exact h _ _ M H k R (.bl _)
theorem de_is (h : DE B X a δ M fun x M1 => DE B X b δ M1 fun y M2 => OpD rIsNU x y M2 Φ) : DE B X (.Compare a [.Is] [b] pos) δ M Φ := de_cmp op_isN (nomark _) h
theorem de_isnot (h : DE B X a δ M fun x M1 => DE B X b δ M1 fun y M2 => OpD rNotNU x y M2 Φ) : DE B X (.Compare a [.IsNot] [b] pos) δ M Φ := de_cmp op_notN (nomark _) h
theorem dt_is (h : DE B X a δ M fun x M1 => DE B X b δ M1 fun y M2 => OpD rIsNU x y M2 (toB ΦB)) : DT B X (.Compare a [.Is] [b] pos) δ M ΦB := dt_cmp op_isN (nomark _) h
theorem dt_isnot (h : DE B X a δ M fun x M1 => DE B X b δ M1 fun y M2 => OpD rNotNU x y M2 (toB ΦB)) : DT B X (.Compare a [.IsNot] [b] pos) δ M ΦB := dt_cmp op_notN (nomark _) h
/-! tests -/
theorem dt_not (h : DT B X a δ M fun b M1 => ΦB (!b) M1) : DT B X (.UnaryOp .Not a pos) δ M ΦB := .of (pt_not cT) fun κ σ H Q hb R k => h κ σ H _ hb R fun b M1 H1 q R1 => k _ _ _ q R1
theorem dw_and1 (h : DT B X a δ M ΦB) : DW B X (.BoolOp .And [a] pos) δ M ΦB := .of (pw_and1 cT) h
theorem dw_or1 (h : DT B X a δ M ΦB) : DW B X (.BoolOp .Or [a] pos) δ M ΦB := .of (pw_or1 cT) h
theorem dw_and (h : DT B X a δ M fun t M1 => Br t (DW B X (.BoolOp .And (b :: rest) pos) δ M1 ΦB) (ΦB false M1)) : DW B X (.BoolOp .And (a :: b :: rest) pos) δ M ΦB := .of (pw_and cT cW) fun κ σ H Q hb R k => h κ σ H _ hb R fun t M1 H1 q R1 =>
  Br.ite ⟨fun e => q.1 e κ σ H1 Q hb R1 k, fun e => k _ _ _ (q.2 e) R1⟩
theorem dw_or (h : DT B X a δ M fun t M1 => Br t (ΦB true M1) (DW B X (.BoolOp .Or (b :: rest) pos) δ M1 ΦB)) : DW B X (.BoolOp .Or (a :: b :: rest) pos) δ M ΦB := .of (pw_or cT cW) fun κ σ H Q hb R k => h κ σ H _ hb R fun t M1 H1 q R1 =>
  Br.ite ⟨fun e => k _ _ _ (q.1 e) R1, fun e => q.2 e κ σ H1 Q hb R1 k⟩
theorem dt_and (h : DW B X (.BoolOp .And es pos) δ M ΦB) : DT B X (.BoolOp .And es pos) δ M ΦB := .w h
theorem dt_or (h : DW B X (.BoolOp .Or es pos) δ M ΦB) : DT B X (.BoolOp .Or es pos) δ M ΦB := .w h
/-- a truth that stands as a value -/
theorem dt_val (h : DE B X e δ M (toB ΦB)) (he : ∀ whole, isTrue e X.env whole = (do let v ← whole; standAt e.pos; holding [v] (truthy v)) := by intro _; rfl) : DT B X e δ M ΦB := .of (pt_val cE he) fun κ σ H Q hb R k => h κ σ H _ hb R fun v d M' H' ⟨b, e, q⟩ R' r => by
  subst e; cases r
  exact ⟨b, rfl, k b M' H' q R'⟩
/-! and, or, not as values -/
theorem de_one {op} (h : DE B X a δ M Φ) : DE B X (.BoolOp op [a] pos) δ M Φ := .of (pe_one cE) h
theorem de_and (h : DE B X a δ M (toB fun t M1 => Br t (DE B X (.BoolOp .And (b :: rest) pos) δ M1 Φ) (Φ (.bl false) M1))) : DE B X (.BoolOp .And (a :: b :: rest) pos) δ M Φ := .of (pe_and cE cE) fun κ σ H Q hb R k => h κ σ H _ hb R fun v d M1 H1 ⟨t, e, q⟩ R1 r => by
  subst e; cases r
  exact ⟨t, rfl, Br.ite ⟨fun e => q.1 e κ σ H1 Q hb R1 k, fun e => k _ _ _ _ (q.2 e) R1 (.bl _)⟩⟩
theorem de_or (h : DE B X a δ M (toB fun t M1 => Br t (Φ (.bl true) M1) (DE B X (.BoolOp .Or (b :: rest) pos) δ M1 Φ))) : DE B X (.BoolOp .Or (a :: b :: rest) pos) δ M Φ := .of (pe_or cE cE) fun κ σ H Q hb R k => h κ σ H _ hb R fun v d M1 H1 ⟨t, e, q⟩ R1 r => by
  subst e; cases r
  exact ⟨t, rfl, Br.ite ⟨fun e => k _ _ _ _ (q.1 e) R1 (.bl _), fun e => q.2 e κ σ H1 Q hb R1 k⟩⟩
theorem de_not (h : DE B X a δ M (toB fun t M1 => Φ (.bl (!t)) M1)) : DE B X (.UnaryOp .Not a pos) δ M Φ := .of (pe_not cE) fun κ σ H Q hb R k => h κ σ H _ hb R fun v d M1 H1 ⟨t, e, q⟩ R1 r => by
  subst e; cases r
  exact ⟨t, rfl, k _ _ _ _ q R1 (.bl _)⟩
theorem de_if (h : DT B X c δ M fun t M1 => Br t (DE B X a δ M1 Φ) (DE B X b δ M1 Φ)) : DE B X (.IfExp c a b pos) δ M Φ := .of (pe_ifExp cT cE cE) fun κ σ H Q hb R k => h κ σ H _ hb R fun t M1 H1 q R1 =>
  Br.ite ⟨fun e => q.1 e κ σ H1 Q hb R1 k, fun e => q.2 e κ σ H1 Q hb R1 k⟩
/-! arguments, displays -/
variable {ΦL : List D → Mem → Prop}
theorem da_nil (k : ΦL [] M) : DA B X [] δ M ΦL := .of pa_nil fun κ σ H Q hb R h => h _ _ M H k R .nil
theorem da_cons (h : DE B X a δ M fun x M1 => DA B X es δ M1 fun xs M2 => ΦL (x :: xs) M2) (hs : starEach (a :: es) X.env = (false, eval a X.env) :: starEach es X.env := by rfl) : DA B X (a :: es) δ M ΦL := .of (pa_cons cE cA hs) fun κ σ H Q hb R k =>
  h κ σ H _ hb R fun v x M1 H1 q1 R1 r1 => q1 ((v, x) :: κ) σ H1 _ (fun q hq => List.mem_cons_of_mem _ (hb q hq)) (R1.push r1) fun vs xs M2 H2 q2 R2 r2 => k _ _ _ _ q2 R2.pop (.cons R2.top r2)
theorem de_tup {x1} (h : DA B X es δ M fun xs M1 => xs.length ≤ sizeLine ∧ Φ (.tup xs) M1) : DE B X (.Tuple es x1 pos) δ M Φ := .of (pe_tup cA) fun κ σ H Q hb R k => h κ σ H _ hb R fun vs xs M1 H1 ⟨hl, q⟩ R1 r1 =>
  ⟨by rw [r1.length]; exact hl, fun p hp => let ⟨R2, r2⟩ := R1.tupV r1 hp; k _ _ _ _ q R2 r2⟩
theorem df_lst (h : DA B X es δ M fun xs M1 => xs.length ≤ sizeLine ∧ ΦL xs M1) : DF B X (.List es pos) δ M ΦL := .of (pe_lst cA) fun κ σ H Q hb R k => h κ σ H _ hb R fun vs xs M1 H1 ⟨hl, q⟩ R1 r1 =>
  ⟨by rw [r1.length]; exact hl, fun p hp => k p xs M1 _ q (R1.lst r1 hp)⟩
theorem DE.f (h : DF B X e δ M fun ds M' => Φ (.lst ds) M') : DE B X e δ M Φ := WE.ofF h
theorem de_lst (h : DA B X es δ M fun xs M1 => xs.length ≤ sizeLine ∧ Φ (.lst xs) M1) : DE B X (.List es pos) δ M Φ := .f (df_lst h)
/-! subscripts -/
def rDG : R2 := fun x y H Q => ∃ a v, x = .ref a ∧ DGet H a y (some v) ∧ Q v H
open PyProof.Rows in
theorem ix_dict (hu : X.A.units + 1 < cLine) : IxR X rDG := by
  intro value slice pins s σ H x y v u Q I rx ry h hs
  obtain ⟨a, w, rfl, g, q⟩ := h
  obtain rfl : v = Value.ref a := rx
  exact tail_any (dict_typeIs I g) PySem.F.slot_dict_getitem.lookup (d_getItem hu I g ry fun w' s' I' rw' => ⟨w, H, I', rw', q⟩) hs
def rIxU (K : PySem.W.Frag) : R2 := fun x y H Q => rIx K x y H Q ∨ rDG x y H Q
theorem de_ix {n : Nat} (z : Cz X n) (h : DE B X a δ M fun x M1 => DE B X b δ M1 fun y M2 => OpD (rIxU X.K) x y M2 Φ) (hs : PlainIx b := by intro _ _; rfl) : DE B X (.Subscript a b pos) δ M Φ := .of (pe_ix (ix_seq.or (ix_dict (un1 z))) cE cE hs) (.op h)
theorem at_rep {F : List Addr} {H : Hp} {vs : List V} {ds : List D} {i : Int} {d : D} (r : Reps F H vs ds) (h : atI ds i = some d) : ∃ v, atI vs i = some v ∧ Rep F H v d := by
  unfold atI at h ⊢
  rw [← r.length] at h
  cases e : ixN vs.length i with
  | none => rw [e] at h; cases h
  | some j =>
    rw [e] at h
    obtain ⟨v, e1, r1⟩ := r.get' (i := j) h
    exact ⟨v, e1, r1⟩
theorem od_ixL {K : PySem.W.Frag} {ds : List D} {i : Int} {d : D} (h : atI ds i = some d) (k : Φ d M) : OpD (rIxU K) (.lst ds) (.int i) M Φ := .inl fun κ δ σ H v w Q R rv rw' f => by
  cases rw'
  cases rv with
  | lst h1 e1 r1 =>
    obtain ⟨u, e2, r2⟩ := at_rep r1 h
    exact .inl ⟨_, _, i, u, rfl, rfl, SqL.of e1, e2, f _ _ M H k R r2⟩
theorem od_ixT {K : PySem.W.Frag} {ds : List D} {i : Int} {d : D} (h : atI ds i = some d) (k : Φ d M) : OpD (rIxU K) (.tup ds) (.int i) M Φ := .inl fun κ δ σ H v w Q R rv rw' f => by
  cases rw'
  cases rv with
  | tup h1 e1 r1 =>
    obtain ⟨u, e2, r2⟩ := at_rep r1 h
    exact .inr (.inl ⟨_, _, i, u, rfl, rfl, SqT.of e1, e2, f _ _ M H k R r2⟩)
theorem od_ixS {K : PySem.W.Frag} {z : Str} {i : Int} {c : Nat} (hl : z.length ≤ sizeLine) (h : atI z.cps.toList i = some c) (k : Φ (.str ⟨#[c]⟩) M) : OpD (rIxU K) (.str z) (.int i) M Φ := .inl fun κ δ σ H v w Q R rv rw' f => by
  cases rw'
  cases rv
  exact .inr (.inr ⟨z, i, c, rfl, rfl, hl, h, f _ _ M H k R (.str _)⟩)
/-- a list that is a cell -/
theorem od_ixC {K : PySem.W.Frag} {ds : List D} {i : Int} {d : D} {p : Addr} {j : Nat} (hm : M[j]? = some (p, .lst ds)) (h : atI ds i = some d) (k : Φ d M) : OpD (rIxU K) (.raw (.ref p)) (.int i) M Φ := .inl fun κ δ σ H v w Q R rv rw' f => by
  cases rw'
  cases rv
  obtain ⟨vs, e1, r1⟩ := R.at hm
  obtain ⟨u, e2, r2⟩ := at_rep r1 h
  exact .inl ⟨_, _, i, u, rfl, rfl, SqL.of e1, e2, f _ _ M H k R r2⟩
/-! dicts that are cells -/
def kD : Key → D
  | .inl i => .int i
  | .inr x => .str x
theorem rep_k {F : List Addr} {H : Hp} {v : V} {k : Key} (r : Rep F H v (kD k)) : v = kV k := by
  cases k with
  | inl i => cases (show Rep F H v (.int i) from r); rfl
  | inr x => cases (show Rep F H v (.str x) from r); rfl
def lookD (kvs : List (Key × D)) (k : Key) : Option D := (kvs.find? fun kv => decide (kv.1 = k)).map (·.2)
theorem look_rep {F : List Addr} {H : Hp} {k : Key} : ∀ {ws : List (Key × V)} {kvs : List (Key × D)}, ws.map (·.1) = kvs.map (·.1) → Reps F H (ws.map (·.2)) (kvs.map (·.2)) → ∀ {d : D}, lookD kvs k = some d → ∃ v, valV ws k = some v ∧ Rep F H v d
  | [], [], _, _, d, e => by cases e
  | [], _ :: _, h, _, _, _ => by cases h
  | _ :: _, [], h, _, _, _ => by cases h
  | (k1, v) :: ws, (k2, d') :: kvs, h, r, d, e => by
    have h1 : k1 = k2 := (List.cons.inj h).1
    have h2 : ws.map (·.1) = kvs.map (·.1) := (List.cons.inj h).2
    subst h1
    cases r with
    | cons r1 r2 =>
      unfold lookD at e
      unfold valV
      by_cases hk : k1 = k
      · rw [List.find?_cons_of_pos (by simpa using hk)] at e ⊢
        cases e
        exact ⟨v, rfl, r1⟩
      · rw [List.find?_cons_of_neg (by simpa using hk)] at e ⊢
        exact look_rep h2 r2 e
theorem od_ixD {K : PySem.W.Frag} {kvs : List (Key × D)} {k : Key} {y d : D} {p : Addr} (j : Nat) (hm : M[j]? = some (p, .dct kvs)) (hk : y = kD k) (h : lookD kvs k = some d) (q : Φ d M) : OpD (rIxU K) (.raw (.ref p)) y M Φ := .inr fun κ δ σ H v w Q R rv rw' f => by
  subst hk
  have := rep_k rw'
  subst this
  cases rv
  obtain ⟨ws, e1, e2, r⟩ := R.at hm
  obtain ⟨u, e3, r3⟩ := look_rep e2 r h
  exact ⟨p, u, rfl, .inl ⟨ws, k, .inl e1, rfl, e3.symm⟩, f _ _ M H q R r3⟩
end
end Hl
namespace Hl
open PySem L2
/-! ### statements -/
section
variable {B : Bx} {X : Cx} {e a b c : Expr} {es rest : List Expr} {st : Stmt} {sts : List Stmt} {δ δ' : Env'} {M : Mem} {Φ : D → Mem → Prop} {Ψ : DEnds} {te ta tb : TE} {tt : TT} {pos pos' : Pos} {d x y : D} {ΦB : Bool → Mem → Prop} {ΦL : List D → Mem → Prop}
theorem ds_nil (k : Ψ.nx δ M) : DSs B X [] δ M Ψ := .of pss_nil fun κ σ H E hb R h => h.nx δ M σ H k R
theorem ds_cons (h : DS B X st δ M { Ψ with nx := fun δ' M' => DSs B X sts δ' M' Ψ }) : DSs B X (st :: sts) δ M Ψ := .of (pss_cons cS cSs) fun κ σ H E hb R k =>
  h κ σ H _ hb R ⟨fun δ' M' σ' H' q R' => q κ σ' H' E hb R' k, k.rt, k.bk, k.ct⟩
theorem ds_one (h : DS B X st δ M Ψ) : DSs B X [st] δ M Ψ := .of (pss_one cS) h
theorem ds_pass (k : Ψ.nx δ M) : DS B X (.Pass pos) δ M Ψ := .of ps_pass fun κ σ H E hb R h => h.nx δ M σ H k R
theorem ds_break (k : Ψ.bk δ M) : DS B X (.Break pos) δ M Ψ := .of ps_break fun κ σ H E hb R h => h.bk δ M σ H k R
theorem ds_continue (k : Ψ.ct δ M) : DS B X (.Continue pos) δ M Ψ := .of ps_continue fun κ σ H E hb R h => h.ct δ M σ H k R
theorem ds_ret (h : DE B X e δ M Ψ.rt) : DS B X (.Return (some e) pos) δ M Ψ := .of (ps_ret cE) fun κ σ H E hb R k => h κ σ H _ hb R fun v d M' H' q R' r => k.rt v d M' δ σ H' q R' r
theorem ds_retN (k : Ψ.rt .non M) : DS B X (.Return none pos) δ M Ψ := .of ps_retN fun κ σ H E hb R h => h.rt .non .non M δ σ H k R .non
theorem ds_if {s1 s2 : List Stmt} (h : DT B X c δ M fun t M1 => Br t (DSs B X s1 δ M1 Ψ) (DSs B X s2 δ M1 Ψ)) : DS B X (.If c s1 s2 pos) δ M Ψ := .of (ps_if cT cSs cSs) fun κ σ H E hb R k => h κ σ H _ hb R fun t M1 H1 q R1 =>
  Br.ite ⟨fun e => q.1 e κ σ H1 E hb R1 k, fun e => q.2 e κ σ H1 E hb R1 k⟩
theorem ds_expr (h : DE B X e δ M fun _ M' => Ψ.nx δ M') (hs : swapsWith e none pos.line X.env = pure false := by rfl) : DS B X (.Expr e pos) δ M Ψ := .of (ps_expr cE hs) fun κ σ H E hb R k => h κ σ H _ hb R fun v d M' H' q R' r => k.nx _ _ _ _ q R'
/-- slot i holds d from now on -/
@[irreducible] def Sets (δ : Env') (i : Nat) (d : D) (P : Env' → Prop) : Prop := P (δ.set i (some d))
theorem Sets.get {i : Nat} {P : Env' → Prop} (h : Sets δ i d P) : P (δ.set i (some d)) := by unfold Sets at h; exact h
theorem Sets.of {i : Nat} {P : Env' → Prop} (h : P (δ.set i (some d))) : Sets δ i d P := by unfold Sets; exact h
/-- x = e -/
theorem ds_set {i : Nat} {x : Str} {n : Nat} (z : Cz X n) (l : Lo X i x) (h : DE B X e δ M fun d M' => Sets δ i d fun δ' => Ψ.nx δ' M') (hs : swapsWith e (some (.Name x pos')) pos.line X.env = pure false := by rfl) : DS B X (.Assign [.Name x pos'] e pos) δ M Ψ :=
  .of (ps_set z.nd l.at_ l.loc cE hs l.fn) fun κ σ H E hb R k => h κ σ H _ hb R fun v d M' H' q R' r => k.nx _ _ _ _ q.get (R'.put i r)
/-- x = a new list, that will change: a cell at place k -/
theorem ds_own {i : Nat} {x : Str} {n : Nat} (k : Nat) (z : Cz X n) (l : Lo X i x) (h : DF B X e δ M fun ds M' => ∀ p : Addr, Sets δ i (.raw (.ref p)) fun δ' => Ψ.nx δ' (insM k (p, .lst ds) M')) (hs : swapsWith e (some (.Name x pos')) pos.line X.env = pure false := by rfl) : DS B X (.Assign [.Name x pos'] e pos) δ M Ψ :=
  .of (ps_set z.nd l.at_ l.loc cE hs l.fn) fun κ σ H E hb R k => h κ σ H _ hb R fun p ds M' H' q R' => k.nx _ _ _ _ (q p).get ((R'.perm insM_perm).put i (.raw _))
/-- targets -/
theorem dg_name {i : Nat} {x : Str} {n : Nat} (z : Cz X n) (l : Lo X i x) {Φ : Env' → Mem → Prop} (k : Sets δ i d fun δ' => Φ δ' M) : DG B X (.Name x pos) d δ M Φ :=
  .of (pg_name z.nd l.at_ l.loc l.fn) fun κ σ H v Q hb R r h => h _ _ _ _ k.get (R.put i r)
theorem dgs_nil {Φ : Env' → Mem → Prop} (k : Φ δ M) : DGs B X [] [] δ M Φ := .of pgs_nil fun κ σ H vs Q hb R r h => by
  cases r
  exact ⟨rfl, h _ _ _ _ k R⟩
theorem dgs_cons {ds : List D} {Φ : Env' → Mem → Prop} (h : DG B X a d δ M fun δ' M' => DGs B X es ds δ' M' Φ) (hs : (assignEach (a :: es) X.env).map (·.2) = assign a X.env :: (assignEach es X.env).map (·.2) := by rfl) : DGs B X (a :: es) (d :: ds) δ M Φ :=
  .of (pgs_cons cG cGs hs) fun κ σ H vs Q hb R r k => by
    cases r with
    | cons r1 r2 =>
      rename_i v vs
      refine ⟨v, vs, rfl, ?_⟩
      -- the further values are held meanwhile
      have held : ∀ {κ : List (V × D)} {vs : List V} {ds : List D} {δ : Env'} {M : Mem} {σ : St} {H : Hp}, Reps M.F H vs ds → Rs κ δ M σ H → ∃ κ', (∀ q ∈ κ, q ∈ κ') ∧ Rs κ' δ M σ H ∧ ∀ {δ' : Env'} {M' : Mem} {σ' : St} {H' : Hp}, Rs κ' δ' M' σ' H' → Reps M'.F H' vs ds := by
        intro κ vs
        induction vs with
        | nil => intro ds δ M σ H r R; cases r; exact ⟨κ, fun _ h => h, R, fun _ => .nil⟩
        | cons v vs ih =>
          intro ds δ M σ H r R
          cases r with
          | cons r1 r2 =>
            obtain ⟨κ', h1, R', h2⟩ := ih r2 R
            rename_i d ds
            exact ⟨(v, d) :: κ', fun q hq => List.mem_cons_of_mem _ (h1 q hq), R'.push r1, fun R => .cons R.top (h2 R.pop)⟩
      obtain ⟨κ', hk, R', hr⟩ := held r2 R
      exact h κ' σ H v _ (fun q hq => hk q (hb q hq)) R' r1 fun δ' M' σ' H' q R2 => q κ σ' H' vs Q hb (R2.sub hk) (hr R2) k
theorem dg_tup {ds : List D} {kk : Nat} {m : Nat} {n : Nat} {Φ : Env' → Mem → Prop} (z : Cz X n) (hl : ds.length = m) (h : DGs B X es ds δ M Φ) (hn : (assignEach es X.env).length = m := by rfl) (hst : (assignEach es X.env).findIdx? (·.1) = none := by rfl) : DG B X (.Tuple es kk pos) (.tup ds) δ M Φ :=
  .of (pg_tup z.calm cGs hn hst) fun κ σ H v Q hb R r k => by
    cases r with
    | tup h1 e1 r1 => exact ⟨_, _, rfl, SqT.of e1, by rw [r1.length]; exact hl, h κ σ H _ Q hb R r1 k⟩
theorem ds_asg {tg : Expr} (h : DE B X e δ M fun d M' => DG B X tg d δ M' Ψ.nx) (hs : swapsWithSole [tg] e pos.line X.env = pure false := by rfl) (hw : swappedStores [tg] e X.env = pure none := by rfl) (h1 : (assignEach [tg] X.env).map (·.2) = [assign tg X.env] := by rfl) : DS B X (.Assign [tg] e pos) δ M Ψ :=
  .of (ps_asg cE cG hs hw h1) fun κ σ H E hb R k => h κ σ H _ hb R fun v d M' H' q R' r => q κ σ H' v _ hb R' r fun δ' M2 σ' H2 q2 R2 => k.nx _ _ _ _ q2 R2
/-- x op= e -/
theorem ds_aug {i : Nat} {x : Str} {n : Nat} {op : Operator} {r : TIp} (z : Cz X n) (l : Lo X i x) (ho : PIp X op r) (hd : δ[i]? = some (some d)) (h : DE B X e δ M fun y M' => OpD r d y M' fun v M2 => Sets δ i v fun δ' => Ψ.nx δ' M2) : DS B X (.AugAssign (.Name x pos') op e pos) δ M Ψ :=
  .of (ps_aug z.nd l.at_ l.loc cE ho l.fn) fun κ σ H E hb R k => by
    obtain ⟨v, e1, r1⟩ := R.get hd
    refine ⟨v, e1, h ((v, d) :: κ) σ H _ (fun q hq => List.mem_cons_of_mem _ (hb q hq)) (R.push r1) fun w y M' H' q R' r' => ?_⟩
    exact q κ δ σ H' v w _ R'.pop R'.top r' fun u du M2 H2 q2 R2 r2 => k.nx _ _ _ _ q2.get (R2.put i r2)
def rAddI : TIp := fun x y H Q => (rI0 fun i j => .int (i + j)) x y H Q ∨ rAddS x y H Q
theorem ip_add : PIp X .Add rAddI := (iop_add (X := X)).or (iop_add_str (X := X))
theorem oi_addI {i j : Int} (k : Φ (.int (i + j)) M) : OpD rAddI (.int i) (.int j) M Φ := (od_I0 (gd := fun i j => .int (i + j)) (fun _ _ => .int _) k).inl
theorem ip_sub : PIp X .Sub rSubU := iop_sub
theorem ds_augAdd {i : Nat} {x : Str} {n : Nat} (z : Cz X n) (l : Lo X i x) (hd : δ[i]? = some (some d)) (h : DE B X e δ M fun y M' => OpD rAddI d y M' fun v M2 => Sets δ i v fun δ' => Ψ.nx δ' M2) : DS B X (.AugAssign (.Name x pos') .Add e pos) δ M Ψ := ds_aug z l ip_add hd h
theorem ds_augSub {i : Nat} {x : Str} {n : Nat} (z : Cz X n) (l : Lo X i x) (hd : δ[i]? = some (some d)) (h : DE B X e δ M fun y M' => OpD rSubU d y M' fun v M2 => Sets δ i v fun δ' => Ψ.nx δ' M2) : DS B X (.AugAssign (.Name x pos') .Sub e pos) δ M Ψ := ds_aug z l ip_sub hd h
/-! ### what is walked -/
structure WalkD (κ : List (V × D)) (xs : List D) (J : It) : Prop where
  goes : ∀ i δ M σ H, i < xs.length → Rs κ δ M σ H → J.go i H
  stops : ∀ δ M σ H, Rs κ δ M σ H → J.stop xs.length H
  yields : ∀ i δ M σ H x H', i < xs.length → Rs κ δ M σ H → J.yld i H x H' → ∃ d, xs[i]? = some d ∧ Rs κ δ M σ H' ∧ Rep M.F H' x d
def WI (B : Bx) (wi : TI) (δ : Env') (M : Mem) (Φ : List D → Mem → Prop) : Prop := ∀ κ σ H R, (∀ q ∈ B.ps, q ∈ κ) → Rs κ δ M σ H → (∀ xs M' H' J κ', Φ xs M' → (∀ q ∈ κ, q ∈ κ') → Rs κ' δ M' σ H' → WalkD κ' xs J → R J H') → wi σ H R
def DI (B : Bx) (X : Cx) (tg iter : Expr) (δ : Env') (M : Mem) (Φ : List D → Mem → Prop) : Prop := ∃ wi, PI X tg iter wi ∧ WI B wi δ M Φ
theorem lt_some {α : Type} {l : List α} {i : Nat} (h : i < l.length) : ∃ x, l[i]? = some x := ⟨l[i], by simp [h]⟩
theorem wd_list {κ : List (V × D)} {a : Addr} {ds : List D} {K : PySem.W.Frag} : WalkD ((.ref a, .lst ds) :: κ) ds (Itl K a) where
  goes := fun i δ M σ H hi R => by
    cases R.top with
    | lst hn e r =>
      obtain ⟨d, hd⟩ := lt_some hi
      obtain ⟨v, hv, _⟩ := r.get' hd
      exact ⟨_, v, SqL.of e, hv⟩
  stops := fun δ M σ H R => by
    cases R.top with
    | lst hn e r => exact ⟨_, SqL.of e, by rw [r.length]; exact Nat.le_refl _⟩
  yields := fun i δ M σ H x H' hi R y => by
    obtain ⟨rfl, y⟩ := y
    cases R.top with
    | lst hn e r =>
      obtain ⟨d, hd, rd⟩ := r.get (y _ (SqL.of e))
      exact ⟨d, hd, R, rd⟩
theorem wd_range {κ : List (V × D)} {lo : Int} {n : Nat} : WalkD κ ((List.range n).map fun i => .int (lo + (i : Nat))) (Itr lo n) where
  goes := fun i δ M σ H hi R => by show i < n; simpa using hi
  stops := fun δ M σ H R => by show n ≤ _; simp
  yields := fun i δ M σ H x H' hi R y => by
    obtain ⟨rfl, rfl⟩ := y
    have hi : i < n := by simpa using hi
    exact ⟨.int (lo + (i : Nat)), by simp [hi], R, .int _⟩
def enumD (ds : List D) : List D := (List.range ds.length).map fun i => .tup [.int (i : Nat), ds.getD i .non]
variable {tg iter : Expr}
theorem di_list (h : DE B X iter δ M fun d M' => ∃ ds, d = .lst ds ∧ ΦL ds M') : DI B X tg iter δ M ΦL := ⟨_, pi_list cE, fun κ σ H R hb Rr k => h κ σ H _ hb Rr fun v d M1 H1 ⟨ds, ed, q⟩ R1 r1 => by
  subst ed
  cases r1 with
  | lst hn e1 r1 => exact ⟨_, rfl, ⟨_, SqL.of e1⟩, k ds M1 H1 _ _ q (fun q hq => List.mem_cons_of_mem _ hq) (R1.push (.lst hn e1 r1)) wd_list⟩⟩
def rangeD (lo : Int) (n : Nat) : List D := (List.range n).map fun i => .int (lo + (i : Nat))
theorem di_range1 {p : Pos} (g : Gn X "range") (h : DE B X a δ M fun d M' => ∃ j, d = .int j ∧ -(2 ^ 62) ≤ j ∧ j < 2 ^ 62 ∧ ΦL (rangeD 0 j.toNat) M') (hs : starEach [a] X.env = [(false, eval a X.env)] := by rfl) : DI B X tg (.Call (.Name "range" p) [a] [] pos) δ M ΦL :=
  ⟨_, pi_range1 g.gl g.no (pa_cons cE pa_nil hs) hs, fun κ σ H R hb Rr k => h κ σ H _ hb Rr fun v d M1 H1 ⟨j, ed, h1, h2, q⟩ R1 r1 => by
    subst ed
    cases r1
    exact ⟨j, rfl, h1, h2, k _ M1 H1 _ κ q (fun _ h => h) R1 wd_range⟩⟩
/-! ### loops -/
theorem ds_for {body : List Stmt} {n : Nat} (z : Cz X n) (hp : PassesOwn (model X.prog X.w) X.A X.env X.xe)
    (h : DI B X tg iter δ M fun xs M' => ∃ Iv : Nat → Env' → Mem → Prop, Iv 0 δ M' ∧ (∀ i x δ M, xs[i]? = some x → Iv i δ M → DG B X tg x δ M fun δ' M' => DSs B X body δ' M' { Ψ with nx := Iv (i + 1), ct := Iv (i + 1), bk := Ψ.nx }) ∧ ∀ δ M, Iv xs.length δ M → Ψ.nx δ M)
    (hs : ∀ x, foldedSetIterable iter X.env x = pure x := by intro _; rfl) : DS B X (.For tg iter body [] pos) δ M Ψ := by
  obtain ⟨wi, pi, w⟩ := h
  refine .of (ps_for hp z.calm pi cG cSs hs) fun κ σ H E hb R k => ?_
  refine w κ σ H _ hb R fun xs M1 H1 J κ' ⟨Iv, h0, hst, hd⟩ hk R1 W => ?_
  refine ⟨fun i m σ H => m = xs.length - i ∧ i ≤ xs.length ∧ ∃ δ M, Iv i δ M ∧ Rs κ' δ M σ H, ⟨xs.length, by simp, Nat.zero_le _, δ, M1, h0, R1⟩, ?_⟩
  rintro i m σ H ⟨rfl, hi, δ, M, q, R⟩
  by_cases hlt : i < xs.length
  · refine .inr ⟨W.goes i δ M σ H hlt R, fun σ' H' => ∃ δ' M', Iv (i + 1) δ' M' ∧ Rs κ' δ' M' σ' H', fun σ' H' p' => ⟨xs.length - (i + 1), by omega, rfl, hlt, p'⟩, fun x H' y => ?_⟩
    obtain ⟨d, hd1, R2, r2⟩ := W.yields i δ M σ H x H' hlt R y
    refine hst i d δ M hd1 q κ' σ H' x _ (fun q hq => hk q (hb q hq)) R2 r2 fun δ2 M2 σ2 H2 q2 R3 => ?_
    exact q2 κ' σ2 H2 _ (fun q hq => hk q (hb q hq)) R3 ⟨fun δ3 M3 σ3 H3 q3 R4 => ⟨δ3, M3, q3, R4⟩, fun v d M δ σ H q R r => k.rt v d M δ σ H q (R.sub hk) r, fun δ M σ H q R => k.nx δ M σ H q (R.sub hk), fun δ3 M3 σ3 H3 q3 R4 => ⟨δ3, M3, q3, R4⟩⟩
  · have e : i = xs.length := by omega
    subst e
    exact .inl ⟨W.stops δ M σ H R, k.nx δ M σ H (hd δ M q) (R.sub hk)⟩
theorem ds_while {body : List Stmt} (hp : PassesOwn (model X.prog X.w) X.A X.env X.xe) (Iv : Nat → Env' → Mem → Prop) (h0 : ∃ m, Iv m δ M)
    (h : ∀ m δ M, Iv m δ M → DT B X c δ M fun t M1 => Br t (DSs B X body δ M1 { Ψ with nx := fun δ' M' => ∃ m', m' < m ∧ Iv m' δ' M', ct := fun δ' M' => ∃ m', m' < m ∧ Iv m' δ' M', bk := Ψ.nx }) (Ψ.nx δ M1)) : DS B X (.While c body [] pos) δ M Ψ := by
  refine .of (ps_while hp cT cSs) fun κ σ H E hb R k => ?_
  obtain ⟨m0, h0⟩ := h0
  refine ⟨fun m σ H => ∃ δ M, Iv m δ M ∧ Rs κ δ M σ H, ⟨m0, δ, M, h0, R⟩, ?_⟩
  rintro m σ H ⟨δ, M, q, R⟩
  refine h m δ M q κ σ H _ hb R fun t M1 H1 q1 R1 => Br.ite ⟨fun e => ?_, fun e => k.nx _ _ _ _ (q1.2 e) R1⟩
  refine ⟨fun σ' H' => ∃ m', m' < m ∧ ∃ δ' M', Iv m' δ' M' ∧ Rs κ δ' M' σ' H', fun σ' H' p => p, ?_⟩
  exact q1.1 e κ σ H1 _ hb R1 ⟨fun δ2 M2 σ2 H2 ⟨m', hm, q2⟩ R2 => ⟨m', hm, δ2, M2, q2, R2⟩, k.rt, k.nx, fun δ2 M2 σ2 H2 ⟨m', hm, q2⟩ R2 => ⟨m', hm, δ2, M2, q2, R2⟩⟩
end
end Hl
namespace Hl
open PySem L2
/-! ### defs -/
abbrev DSp := List D → Mem → (D → Mem → Prop) → Prop
def lift (p : DSp) : Sp := fun vs H Q _ => ∃ κ ds M Φ, Rs κ [] M [] H ∧ Reps M.F H vs ds ∧ p ds M Φ ∧ ∀ v d M' H', Φ d M' → Rs κ [] M' [] H' → Rep M'.F H' v d → Q v H'
def sk : St → Env' → List (V × D)
  | some v :: σ, some d :: δ => (v, d) :: sk σ δ
  | _ :: σ, _ :: δ => sk σ δ
  | _, _ => []
section
variable {κ : List (V × D)} {δ : Env'} {M M' : Mem} {σ : St} {H H' : Hp}
theorem sk_rep {F : List Addr} {H : Hp} : ∀ {σ : St} {δ : Env'}, Paired (SlotOk F H) σ δ → ∀ q ∈ sk σ δ, Rep F H q.1 q.2
  | _, _, .nil => by intro q hq; simp [sk] at hq
  | some v :: σ, some d :: δ, .cons h t => by
    intro q hq
    rcases List.mem_cons.mp (show q ∈ (v, d) :: sk σ δ from hq) with rfl | hq
    · obtain ⟨v', e, r⟩ := h d rfl
      cases e; exact r
    · exact sk_rep t q hq
  | none :: σ, o :: δ, .cons h t => by
    intro q hq
    have : q ∈ sk σ δ := by cases o <;> exact hq
    exact sk_rep t q this
  | some v :: σ, none :: δ, .cons h t => by
    intro q hq
    exact sk_rep t q hq
theorem sk_back {F : List Addr} {H F' H'} : ∀ {σ : St} {δ : Env'}, Paired (SlotOk F H) σ δ → (∀ q ∈ sk σ δ, Rep F' H' q.1 q.2) → Paired (SlotOk F' H') σ δ
  | _, _, .nil, _ => .nil
  | some v :: σ, some d :: δ, .cons h t, k => .cons (fun d' e => by cases e; exact ⟨v, rfl, k (v, d) List.mem_cons_self⟩) (sk_back t fun q hq => k q (List.mem_cons_of_mem _ hq))
  | none :: σ, some d :: δ, .cons h t, k => by
    obtain ⟨v, e, _⟩ := h d rfl
    cases e
  | o :: σ, none :: δ, .cons h t, k => .cons (fun d' e => by cases e) (sk_back t fun q hq => k q (by cases o <;> exact hq))
theorem Rs.pack (R : Rs κ δ M σ H) : Rs (κ ++ sk σ δ) [] M [] H := ⟨fun q hq => by
  rcases List.mem_append.mp hq with h | h
  · exact R.kp q h
  · exact sk_rep R.sl q h, .nil, R.cl, R.nd⟩
theorem Rs.unpack (R : Rs κ δ M σ H) (R' : Rs (κ ++ sk σ δ) [] M' [] H') : Rs κ δ M' σ H' := ⟨fun q hq => R'.kp q (List.mem_append.mpr (.inl hq)), sk_back R.sl fun q hq => R'.kp q (List.mem_append.mpr (.inr hq)), R'.cl, R'.nd⟩
end
/-- a def of the module, with its promise -/
structure Def (P : Program) (w : World) (K : PySem.W.Frag) (mg : Str → Option Value) (base : Heap) (k : Nat) (x : Str) (ps : List Str) (p : DSp) : Prop where
  ex : ∃ f fd, mg x = some (.ref f) ∧ PySem.W.keepIn K (.ref f) = true ∧ Binds K fd ps [] ∧ FnOk P w K mg base CX0 k f fd ps (lift p)
abbrev DefX (X : Cx) := Def X.prog X.w X.K X.mg X.base
section
variable {B : Bx} {X : Cx} {e a b c : Expr} {es rest : List Expr} {st : Stmt} {sts : List Stmt} {δ δ' : Env'} {M : Mem} {Φ : D → Mem → Prop} {Ψ : DEnds} {te ta tb : TE} {tt : TT} {pos pos' : Pos} {d x y : D} {ΦB : Bool → Mem → Prop} {ΦL : List D → Mem → Prop}
theorem de_call {k n : Nat} {x : Str} {ps : List Str} {p : DSp} {pp : Pos} (z : Cz X n) (f : DefX X k x ps p) (hk : k ≤ n) (hg : Gl X x) (h : DA B X (e :: es) δ M fun ds M' => p ds M' Φ)
    (hdb : (x == ("__debug__" : Str)) = false := by decide) (he : starEach (e :: es) X.env = (false, eval e X.env) :: starEach es X.env := by rfl) (hpl : (backTo pos (starEach es X.env)).any (·.1) = false := by rfl) : DE B X (.Call (.Name x pp) (e :: es) [] pos) δ M Φ := by
  obtain ⟨fa, fd, h1, h2, h3, h4⟩ := f.ex
  refine .of (pe_call h4 (z.room.mono hk) hg h1 h2 h3 .nil pass0 cA hdb he hpl) fun κ σ H Q hb R k => h κ σ H _ hb R fun vs ds M1 H1 q R1 r1 => ?_
  rw [List.append_nil]
  exact ⟨κ ++ sk σ δ, ds, M1, Φ, R1.pack, r1, q, fun v d M2 H2 q2 R2 r2 => k v d M2 H2 q2 (R1.unpack R2) r2⟩
/-- what a def's body is to show -/
structure InDef (P : Program) (w : World) (K : PySem.W.Frag) (mg : Str → Option Value) (base : Heap) (N : List Str) (sc : Scope) (k : Nat) (X : Cx) : Prop where
  prog : X.prog = P
  wd : X.w = w
  K : X.K = K
  mg : X.mg = mg
  base : X.base = base
  N : X.N = N
  sc : X.env.scope = sc
  fn : X.fn = fun _ => true
  z : Cz X k
  xe : ∀ v s, ¬ X.xe v s
theorem passes_of {X : Cx} (h : ∀ v s, ¬ X.xe v s) : PassesOwn (model X.prog X.w) X.A X.env X.xe := by
  have : X.xe = fun _ _ => False := by
    funext v s
    exact propext ⟨fun z => (h v s z).elim, fun z => z.elim⟩
  rw [this]
  exact PassesOwn.never
/-- the slots at the entry -/
def startD (n : Nat) (ds : List D) : Env' := ds.map some ++ List.replicate (n - ds.length) none
theorem start_rs {κ : List (V × D)} {M : Mem} {H : Hp} {N : List Str} {vs : List V} {ds : List D} (R : Rs κ [] M [] H) (r : Reps M.F H vs ds) : Rs κ (startD N.length ds) M (L2.start N vs) H := by
  refine ⟨R.kp, ?_, R.cl, R.nd⟩
  unfold L2.start startD
  rw [r.length]
  have h1 : ∀ {vs : List V} {ds : List D}, Reps M.F H vs ds → ∀ n, Paired (SlotOk M.F H) (vs.map some ++ List.replicate n none) (ds.map some ++ List.replicate n none) := by
    intro vs
    induction vs with
    | nil =>
      intro ds r n
      cases r
      show Paired _ (List.replicate n none) (List.replicate n none)
      induction n with
      | zero => exact .nil
      | succ n ih => exact .cons (fun d e => by cases e) ih
    | cons v vs ih =>
      intro ds r n
      cases r with
      | cons r1 r2 => exact .cons (fun d e => by cases e; exact ⟨v, rfl, r1⟩) (ih r2 n)
  exact h1 r _
theorem erase_sub {M : Mem} {j : Nat} : (M.eraseIdx j).Sublist M := List.eraseIdx_sublist M j
theorem F_erase : ∀ {M : Mem} {j : Nat} {p : Addr} {c : Cell}, M.F.Nodup → M[j]? = some (p, c) → p ∉ Mem.F (M.eraseIdx j)
  | [], _, _, _, _, e => by simp at e
  | q :: M, 0, p, c, n, e => by
    have : q = (p, c) := by simpa using e
    subst this
    have n : (own p c ++ Mem.F M).Nodup := n
    intro z
    exact (List.nodup_append.mp n).2.2 p (by cases c <;> simp [own]) p z rfl
  | q :: M, j + 1, p, c, n, e => by
    have n : (own q.1 q.2 ++ Mem.F M).Nodup := n
    show p ∉ own q.1 q.2 ++ Mem.F (M.eraseIdx j)
    intro z
    rcases List.mem_append.mp z with z | z
    · exact (List.nodup_append.mp n).2.2 p z p (List.mem_flatMap.mpr ⟨(p, c), List.mem_of_getElem? (by simpa using e), by cases c <;> simp [own]⟩) rfl
    · exact F_erase (List.nodup_append.mp n).2.1 (by simpa using e) z
theorem Rs.frz {κ : List (V × D)} {σ : St} {H : Hp} {j : Nat} {p : Addr} {ds : List D} (R : Rs κ δ M σ H) (e : M[j]? = some (p, .lst ds)) : Rs κ δ (M.eraseIdx j) σ H ∧ Rep (Mem.F (M.eraseIdx j)) H (.ref p) (.lst ds) := by
  obtain ⟨vs, h1, h2⟩ := R.at e
  exact ⟨R.less erase_sub, .lst (F_erase R.nd e) h1 (h2.fwd (Fwd.less fun x hx => (F_sub erase_sub).subset hx))⟩
theorem Rs.frzO {κ : List (V × D)} {σ : St} {H : Hp} {j : Nat} {p C : Addr} {ns : List Str} {ds : List D} (R : Rs κ δ M σ H) (e : M[j]? = some (p, .obj C ns ds)) : Rs κ δ (M.eraseIdx j) σ H ∧ Rep (Mem.F (M.eraseIdx j)) H (.ref p) (.obj C ns ds) := by
  obtain ⟨dx, vs, h1, hl, h2⟩ := R.at e
  exact ⟨R.less erase_sub, .obj (F_erase R.nd e) h1 hl (h2.fwd (Fwd.less fun x hx => (F_sub erase_sub).subset hx))⟩
/-- behind a return the state may be looked at otherwise -/
def Vw (d : D) (M : Mem) (d2 : D) (M2 : Mem) : Prop := ∀ κ δ σ H v, Rs κ δ M σ H → Rep M.F H v d → Rs κ δ M2 σ H ∧ Rep M2.F H v d2
theorem Vw.refl {d : D} {M : Mem} : Vw d M d M := fun _ _ _ _ _ R r => ⟨R, r⟩
theorem Vw.trans {d d1 d2 : D} {M M1 M2 : Mem} (h1 : Vw d M d1 M1) (h2 : Vw d1 M1 d2 M2) : Vw d M d2 M2 := fun κ δ σ H v R r => let ⟨R1, r1⟩ := h1 κ δ σ H v R r; h2 κ δ σ H v R1 r1
theorem Vw.sub {d : D} {M M2 : Mem} (h : M2.Sublist M) : Vw d M d M2 := fun _ _ _ _ _ R r => ⟨R.less h, r.fwd (Fwd.less fun x hx => (F_sub h).subset hx)⟩
theorem Vw.perm {d : D} {M M2 : Mem} (h : M.Perm M2) : Vw d M d M2 := fun _ _ _ _ _ R r => ⟨R.perm h, r.fwd (Fwd.less fun x hx => (F_perm h).mem_iff.mpr hx)⟩
theorem Vw.frz {p : Addr} {M : Mem} {ds : List D} (j : Nat) (e : M[j]? = some (p, .lst ds)) : Vw (.raw (.ref p)) M (.lst ds) (M.eraseIdx j) := fun _ _ _ _ _ R r => by
  cases r
  exact R.frz e
theorem Vw.frzO {p C : Addr} {ns : List Str} {M : Mem} {ds : List D} (j : Nat) (e : M[j]? = some (p, .obj C ns ds)) : Vw (.raw (.ref p)) M (.obj C ns ds) (M.eraseIdx j) := fun _ _ _ _ _ R r => by
  cases r
  exact R.frzO e
theorem fnok_of {P : Program} {w : World} {K : PySem.W.Frag} {mg : Str → Option Value} {base : Heap} {x qual : Str} {st : Stmt} {f : Addr} {fd : FuncData} {N ps : List Str} {k : Nat} {p : DSp} (F : Fun K x qual st f fd) (S : FnScope N ps (defScope st))
    (len : ∀ ds M Φ, p ds M Φ → ds.length = ps.length)
    (h : ∀ X B, InDef P w K mg base N (defScope st) k X → ∀ ds M Φ, p ds M Φ → DSs B X (defBody st) (startD N.length ds) M { nx := fun _ M' => ∃ d2 M2, Vw .non M' d2 M2 ∧ Φ d2 M2, rt := fun d M' => ∃ d2 M2, Vw d M' d2 M2 ∧ Φ d2 M2 }) : FnOk P w K mg base CX0 (k + 1) f fd ps (lift p) := by
  refine F.ok S (fun vs H Q E hl => ?_) fun cdv A outer s H vs Q E hr hl => ?_
  · obtain ⟨κ, ds, M, Φ, R, r, q, _⟩ := hl
    rw [r.length]; exact len ds M Φ q
  · obtain ⟨κ, ds, M, Φ, R, r, q, kk⟩ := hl
    refine ⟨_, cSs, ?_⟩
    refine h _ (B0 κ) ⟨rfl, rfl, rfl, rfl, rfl, rfl, rfl, rfl, ⟨S.nd, rfl, hr⟩, fun _ _ z => z⟩ ds M Φ q κ _ H _ (fun _ h => h) (start_rs R r) ⟨fun δ M' σ H' ⟨d2, M2, h1, h2⟩ R' => ?_, fun v d M' δ σ H' ⟨d2, M2, h1, h2⟩ R' r' => ?_, fun _ _ _ _ z => z.elim, fun _ _ _ _ z => z.elim⟩
    · obtain ⟨R2, r2⟩ := h1 _ _ _ _ _ R' .non
      exact kk .non d2 M2 H' h2 ⟨R2.kp, .nil, R2.cl, R2.nd⟩ r2
    · obtain ⟨R2, r2⟩ := h1 _ _ _ _ _ R' r'
      exact kk v d2 M2 H' h2 ⟨R2.kp, .nil, R2.cl, R2.nd⟩ r2
/-! names of a def's body -/
def visB (sc : Scope) (x : Str) : Bool := match sc.names.lookup x with
  | some .local => true
  | some .cell => true
  | some .free => true
  | _ => false
def locB (sc : Scope) (x : Str) : Bool := match sc.names.lookup x with
  | some .local => true
  | some .cell => true
  | _ => false
def nmB (N : List Str) (sc : Scope) (i : Nat) (x : Str) : Bool := decide (N[i]? = some x) && visB sc x && !(x == ("__debug__" : Str)) && !(x == ("__classdict__" : Str))
theorem vis_of {sc : Scope} {x : Str} (h : visB sc x = true) : Vis sc x := by
  unfold visB at h
  unfold Vis
  split at h
  · next e => exact .inl e
  · next e => exact .inr (.inl e)
  · next e => exact .inr (.inr e)
  · cases h
theorem loc_of {sc : Scope} {x : Str} (h : locB sc x = true) : L2.Loc sc x := by
  unfold locB at h
  unfold L2.Loc
  split at h
  · next e => exact .inl e
  · next e => exact .inr e
  · cases h
theorem nm_of {N : List Str} {sc : Scope} {i : Nat} {x : Str} (hN : X.N = N) (hs : X.env.scope = sc) (h : nmB N sc i x = true) : Nm X i x := by
  unfold nmB at h
  simp only [Bool.and_eq_true, decide_eq_true_eq, Bool.not_eq_true'] at h
  exact ⟨by rw [hN]; exact h.1.1.1, by rw [hs]; exact vis_of h.1.1.2, h.1.2, h.2⟩
theorem lo_of {N : List Str} {sc : Scope} {i : Nat} {x : Str} (hN : X.N = N) (hs : X.env.scope = sc) (hf : X.fn = fun _ => true) (h : (nmB N sc i x && locB sc x) = true) : Lo X i x := by
  rw [Bool.and_eq_true] at h
  exact ⟨nm_of hN hs h.1, by rw [hs]; exact loc_of h.2, .inl (by rw [hf])⟩
theorem gl_of {sc : Scope} {x : Str} (hs : X.env.scope = sc) (h : sc.names.lookup x = some .globalImplicit) : Gl X x := by
  unfold Gl Env.kindOf
  rw [hs]; exact h
theorem gn_of {sc : Scope} {x : Str} (hs : X.env.scope = sc) (h : sc.names.lookup x = some .globalImplicit) (hm : X.mg x = none) : Gn X x := ⟨gl_of hs h, hm⟩
/-! another view of the same state -/
/-! ### built-ins -/
end
end Hl
namespace Hl
open PySem L2
section
variable {B : Bx} {X : Cx} {e a b c o : Expr} {es rest : List Expr} {st : Stmt} {sts : List Stmt} {δ δ' : Env'} {M : Mem} {Φ : D → Mem → Prop} {Ψ : DEnds} {te ta tb : TE} {tt : TT} {pos pos' apos : Pos} {d x y : D} {ΦB : Bool → Mem → Prop} {ΦL : List D → Mem → Prop}
/-! ### stores into cells -/
def putD (kvs : List (Key × D)) (k : Key) (d : D) : List (Key × D) :=
  if (kvs.any fun kv => decide (kv.1 = k)) = true then kvs.map (fun kv => if kv.1 = k then (kv.1, d) else kv) else kvs ++ [(k, d)]
theorem put_keys {k : Key} {v : V} {d : D} {ws : List (Key × V)} {kvs : List (Key × D)} (h : ws.map (·.1) = kvs.map (·.1)) : (putK ws k v).map (·.1) = (putD kvs k d).map (·.1) := by
  have h1 : (ws.any fun kv => decide (kv.1 = k)) = (kvs.any fun kv => decide (kv.1 = k)) := by
    have e1 : (ws.any fun kv => decide (kv.1 = k)) = (ws.map (·.1)).any fun q => decide (q = k) := by rw [List.any_map]; rfl
    have e2 : (kvs.any fun kv => decide (kv.1 = k)) = (kvs.map (·.1)).any fun q => decide (q = k) := by rw [List.any_map]; rfl
    rw [e1, e2, h]
  unfold putK putD
  rw [h1]
  split
  · have a1 : ∀ (ws : List (Key × V)), (ws.map (fun kv => if kv.1 = k then (kv.1, v) else kv)).map (·.1) = ws.map (·.1) := fun ws => by
      rw [List.map_map]; apply List.map_congr_left; intro q _; show (if q.1 = k then (q.1, v) else q).1 = q.1; split <;> rfl
    have a2 : ∀ (ws : List (Key × D)), (ws.map (fun kv => if kv.1 = k then (kv.1, d) else kv)).map (·.1) = ws.map (·.1) := fun ws => by
      rw [List.map_map]; apply List.map_congr_left; intro q _; show (if q.1 = k then (q.1, d) else q).1 = q.1; split <;> rfl
    rw [a1, a2, h]
  · rw [List.map_append, List.map_append, h]; rfl
theorem put_vals {F : List Addr} {H : Hp} {k : Key} {v : V} {d : D} (r : Rep F H v d) {ws : List (Key × V)} {kvs : List (Key × D)} (h : ws.map (·.1) = kvs.map (·.1)) (rs : Reps F H (ws.map (·.2)) (kvs.map (·.2))) : Reps F H ((putK ws k v).map (·.2)) ((putD kvs k d).map (·.2)) := by
  have h1 : (ws.any fun kv => decide (kv.1 = k)) = (kvs.any fun kv => decide (kv.1 = k)) := by
    have e1 : (ws.any fun kv => decide (kv.1 = k)) = (ws.map (·.1)).any fun q => decide (q = k) := by rw [List.any_map]; rfl
    have e2 : (kvs.any fun kv => decide (kv.1 = k)) = (kvs.map (·.1)).any fun q => decide (q = k) := by rw [List.any_map]; rfl
    rw [e1, e2, h]
  unfold putK putD
  rw [h1]
  split
  · clear h1
    have : ∀ {ws : List (Key × V)} {kvs : List (Key × D)}, ws.map (·.1) = kvs.map (·.1) → Reps F H (ws.map (·.2)) (kvs.map (·.2)) → Reps F H ((ws.map (fun kv => if kv.1 = k then (kv.1, v) else kv)).map (·.2)) ((kvs.map (fun kv => if kv.1 = k then (kv.1, d) else kv)).map (·.2)) := by
      intro ws
      induction ws with
      | nil => intro kvs h r; cases kvs with
        | nil => exact .nil
        | cons _ _ => cases h
      | cons q ws ih =>
        intro kvs h r1
        cases kvs with
        | nil => cases h
        | cons q' kvs =>
          have e1 : q.1 = q'.1 := (List.cons.inj h).1
          have e2 : ws.map (·.1) = kvs.map (·.1) := (List.cons.inj h).2
          cases r1 with
          | cons r1 r2 =>
            refine .cons ?_ (ih e2 r2)
            show Rep F H (if q.1 = k then (q.1, v) else q).2 (if q'.1 = k then (q'.1, d) else q').2
            rw [e1]
            split
            · exact r
            · exact r1
    exact this h rs
  · rw [List.map_append, List.map_append]
    exact rs.append (.cons r .nil)
def tsetU : TSet := fun o i v H Q => rSetL o i v H Q ∨ rSetD o i v H Q
theorem set_U {n : Nat} (z : Cz X n) : PSet X tsetU := by
  intro pins s σ H o i v ov iv u Q I ro ri rv h
  rcases h with h | h
  · exact set_list pins s σ H o i v ov iv u Q I ro ri rv h
  · exact set_dict (un1 z) pins s σ H o i v ov iv u Q I ro ri rv h
/-- o[i] = v, by data -/
def SetD (o i v : D) (M : Mem) (Φ : Mem → Prop) : Prop := ∀ κ (δ : Env') σ H vo vi vv Q, Rs κ δ M σ H → Rep M.F H vo o → Rep M.F H vi i → Rep M.F H vv v → (∀ M' H', Φ M' → Rs κ δ M' σ H' → Q H') → tsetU vo vi vv H Q
theorem dg_sub {n : Nat} (z : Cz X n) {Φ : Env' → Mem → Prop} (h : DE B X o δ M fun x M1 => DE B X b δ M1 fun y M2 => SetD x y d M2 fun M3 => Φ δ M3)
    (ha : ∀ v, assign (.Subscript o b pos) X.env v = (do
      let ov ← holding [v] (eval o X.env)
      let iv ← holding [v, ov] (eval b X.env)
      standAt pos
      holding [v, ov, iv] (setItem ov iv v)
      release [v, ov, iv] []) := by intro _; rfl) : DG B X (.Subscript o b pos) d δ M Φ := .of (pg_sub cE cE (set_U z) ha) fun κ σ H v Q hb R r k =>
  h ((v, d) :: κ) σ H _ (fun q hq => List.mem_cons_of_mem _ (hb q hq)) (R.push r) fun vo x M1 H1 q1 R1 r1 => q1 ((vo, x) :: (v, d) :: κ) σ H1 _ (fun q hq => List.mem_cons_of_mem _ (List.mem_cons_of_mem _ (hb q hq))) (R1.push r1) fun vi y M2 H2 q2 R2 r2 =>
    q2 κ δ σ H2 vo vi v _ R2.pop.pop R2.top r2 R2.pop.top fun M3 H3 q3 R3 => k _ _ _ _ q3 R3
theorem sd_list {j : Nat} {p : Addr} {ds : List D} {i : Int} {m : Nat} {Φ : Mem → Prop} (hm : M[j]? = some (p, .lst ds)) (hi : ixN ds.length i = some m) (k : Φ (M.set j (p, .lst (ds.set m d)))) : SetD (.raw (.ref p)) (.int i) d M Φ := fun κ δ σ H vo vi vv Q R r1 r2 r3 h => by
  cases r1; cases r2
  obtain ⟨vs, e1, rs⟩ := R.at hm
  refine .inl ⟨p, vs, i, m, rfl, rfl, e1, by rw [rs.length]; exact hi, h _ _ k ?_⟩
  have hp : ∀ x, x ∉ M.F → upd H p (.lst (vs.set m vv)) x = H x := fun x hx => upd_ne fun z => hx (z ▸ R.mem hm p (by simp [own]))
  exact R.cell hm rfl (fun x hx => upd_ne (by simpa [own] using hx)) ⟨_, upd_same, (rs.set r3 m).fwd (Fwd.same hp)⟩
theorem sd_dict {p : Addr} {kvs : List (Key × D)} {k : Key} {Φ : Mem → Prop} (j : Nat) (hm : M[j]? = some (p, .dct kvs)) (hk : y = kD k) (hl : kvs.length < sizeLine) (q : Φ (M.set j (p, .dct (putD kvs k d)))) : SetD (.raw (.ref p)) y d M Φ := fun κ δ σ H vo vi vv Q R r1 r2 r3 h => by
  subst hk
  have := rep_k r2
  subst this
  cases r1
  obtain ⟨ws, e1, e2, rs⟩ := R.at hm
  have el : ws.length = kvs.length := by simpa using congrArg List.length e2
  refine .inr ⟨p, _, rfl, .inl ⟨ws, k, e1, rfl, by rw [el]; exact hl, rfl⟩, h _ _ q ?_⟩
  have hp : ∀ x, x ∉ M.F → upd H p (.dK (putK ws k vv)) x = H x := fun x hx => upd_ne fun z => hx (z ▸ R.mem hm p (by simp [own]))
  exact R.cell hm rfl (fun x hx => upd_ne (by simpa [own] using hx)) ⟨_, upd_same, put_keys e2, (put_vals r3 e2 rs).fwd (Fwd.same hp)⟩
/-! ### methods of lists that are cells -/
def MtD (K : PySem.W.Frag) (T : String) (r : V → List V → Hp → VK → Prop) (x : D) (ds : List D) (M : Mem) (Φ : D → Mem → Prop) : Prop := ∀ κ (δ : Env') σ H v vs Q, Rs κ δ M σ H → Rep M.F H v x → Reps M.F H vs ds → (∀ u d M' H', Φ d M' → Rs κ δ M' σ H' → Rep M'.F H' u d → Q u H') → r v vs H Q
/-- a list, by data -/
inductive IsL (M : Mem) : D → List D → Prop
  | val (ds : List D) : IsL M (.lst ds) ds
  | cell {p : Addr} {ds : List D} (j : Nat) (h : M[j]? = some (p, .lst ds)) : IsL M (.raw (.ref p)) ds
  | inm {p : Addr} {ds : List D} (h : InM M p (.lst ds)) : IsL M (.raw (.ref p)) ds
theorem IsL.sq {κ : List (V × D)} {σ : St} {H : Hp} {v : V} {x : D} {ds : List D} (h : IsL M x ds) (R : Rs κ δ M σ H) (r : Rep M.F H v x) : ∃ p vs, v = .ref p ∧ H p = some (.lst vs) ∧ Reps M.F H vs ds := by
  cases h with
  | val ds => cases r with | lst h1 e1 r1 => exact ⟨_, _, rfl, e1, r1⟩
  | cell j h =>
    cases r
    obtain ⟨vs, e1, r1⟩ := R.at h
    exact ⟨_, vs, rfl, e1, r1⟩
  | inm h =>
    cases r
    obtain ⟨vs, e1, r1⟩ := h.ok R
    exact ⟨_, vs, rfl, e1, r1⟩
theorem de_bml {name : Str} {id : String} {r : V → List V → Hp → VK → Prop} {cpos : Pos} (slot : Slot "list" name id) (hty : typeOf (.builtin id) = pure (.type "method_descriptor")) (hm : MtR X id r)
    (h : DE B X o δ M fun x M1 => (∃ ds, IsL M1 x ds) ∧ DA B X (e :: es) δ M1 fun ys M2 => MtD X.K "list" r x ys M2 Φ)
    (hbase : attributeBase o name X.env (eval o X.env) = eval o X.env := by rfl)
    (hfew : ((backTo cpos (starEach (e :: es) X.env)).all (fun x => !x.1) && (backToKw cpos (keywordEach [] X.env)).all (fun x => x.1.isSome)
      && decide ((e :: es).length + ([] : List Keyword).length + (if ([] : List Keyword).isEmpty then 0 else 1) < 30)) = true := by rfl)
    (hline : (apos.endLine == cpos.line) = true := by rfl) (hs : starEach (e :: es) X.env = (false, eval e X.env) :: starEach es X.env := by rfl) (hplain : (backTo cpos (starEach es X.env)).any (·.1) = false := by rfl) :
    DE B X (.Call (.Attribute o name apos) (e :: es) [] cpos) δ M Φ := .of (pe_bm PySem.F.plainAttrs_list slot hty hm cE cA hbase hfew hline hs hplain) fun κ σ H Q hb R k =>
  h κ σ H _ hb R fun v x M1 H1 ⟨⟨ds, il⟩, q⟩ R1 r1 => by
    obtain ⟨p, vs, ev, e1, rr⟩ := il.sq R1 r1
    refine ⟨by subst ev; exact .inl ⟨rfl, vs, SqL.of e1⟩, ?_⟩
    exact q ((v, x) :: κ) σ H1 _ (fun q hq => List.mem_cons_of_mem _ (hb q hq)) (R1.push r1) fun vs ys M2 H2 q2 R2 r2 => q2 κ δ σ H2 v vs Q R2.pop R2.top r2 k
theorem de_append {cpos : Pos} (h : DE B X o δ M fun x M1 => (∃ ds, IsL M1 x ds) ∧ DA B X [a] δ M1 fun ys M2 => MtD X.K "list" rAppend x ys M2 Φ)
    (hbase : attributeBase o "append" X.env (eval o X.env) = eval o X.env := by rfl)
    (hfew : ((backTo cpos (starEach [a] X.env)).all (fun x => !x.1) && (backToKw cpos (keywordEach [] X.env)).all (fun x => x.1.isSome)
      && decide (([a] : List Expr).length + ([] : List Keyword).length + (if ([] : List Keyword).isEmpty then 0 else 1) < 30)) = true := by rfl)
    (hline : (apos.endLine == cpos.line) = true := by rfl) (hs : starEach [a] X.env = (false, eval a X.env) :: starEach [] X.env := by rfl) (hplain : (backTo cpos (starEach [] X.env)).any (·.1) = false := by rfl) :
    DE B X (.Call (.Attribute o "append" apos) [a] [] cpos) δ M Φ := de_bml PySem.F.slot_list_append PySem.F.type_list_append mt_append h hbase hfew hline hs hplain
theorem mt_app {K : PySem.W.Frag} {j : Nat} {p : Addr} {ds : List D} (hm : M[j]? = some (p, .lst ds)) (hl : ds.length < sizeLine) (k : Φ .non (M.set j (p, .lst (ds ++ [d])))) : MtD K "list" rAppend (.raw (.ref p)) [d] M Φ := fun κ δ σ H v vs Q R rv rs h => by
  cases rv
  cases rs with
  | cons r1 r2 =>
    cases r2
    obtain ⟨vs, e1, rr⟩ := R.at hm
    rename_i u
    refine ⟨p, vs, u, rfl, rfl, e1, by rw [rr.length]; exact hl, h _ _ _ _ k ?_ .non⟩
    have hp : ∀ x, x ∉ M.F → upd H p (.lst (vs ++ [u])) x = H x := fun x hx => upd_ne fun z => hx (z ▸ R.mem hm p (by simp [own]))
    exact R.cell hm rfl (fun x hx => upd_ne (by simpa [own] using hx)) ⟨_, upd_same, (rr.append (.cons r1 .nil)).fwd (Fwd.same hp)⟩
theorem de_pop {cpos : Pos} (h : DE B X o δ M fun x M1 => (∃ ds, IsL M1 x ds) ∧ DA B X [a] δ M1 fun ys M2 => MtD X.K "list" rPopAt x ys M2 Φ)
    (hbase : attributeBase o "pop" X.env (eval o X.env) = eval o X.env := by rfl)
    (hfew : ((backTo cpos (starEach [a] X.env)).all (fun x => !x.1) && (backToKw cpos (keywordEach [] X.env)).all (fun x => x.1.isSome)
      && decide (([a] : List Expr).length + ([] : List Keyword).length + (if ([] : List Keyword).isEmpty then 0 else 1) < 30)) = true := by rfl)
    (hline : (apos.endLine == cpos.line) = true := by rfl) (hs : starEach [a] X.env = (false, eval a X.env) :: starEach [] X.env := by rfl) (hplain : (backTo cpos (starEach [] X.env)).any (·.1) = false := by rfl) :
    DE B X (.Call (.Attribute o "pop" apos) [a] [] cpos) δ M Φ := de_bml PySem.F.slot_list_pop PySem.F.type_list_pop mt_popAt h hbase hfew hline hs hplain
theorem mt_popD {K : PySem.W.Frag} {j m : Nat} {p : Addr} {ds : List D} {i : Int} (hm : M[j]? = some (p, .lst ds)) (h1 : -(2 ^ 63) ≤ i) (h2 : i < 2 ^ 63) (hi : seqIndex? i ds.length = some m) (hd : ds[m]? = some d) (k : Φ d (M.set j (p, .lst (ds.eraseIdx m)))) : MtD K "list" rPopAt (.raw (.ref p)) [.int i] M Φ := fun κ δ σ H v vs Q R rv rs h => by
  cases rv
  cases rs with
  | cons r1 r2 =>
    cases r2
    cases r1
    obtain ⟨vs, e1, rr⟩ := R.at hm
    obtain ⟨u, e2, ru⟩ := rr.get' hd
    have hp : ∀ x, x ∉ M.F → upd H p (.lst (vs.eraseIdx m)) x = H x := fun x hx => upd_ne fun z => hx (z ▸ R.mem hm p (by simp [own]))
    refine ⟨p, vs, i, m, u, rfl, rfl, e1, h1, h2, by rw [rr.length]; exact hi, e2, h _ _ _ _ k ?_ ?_⟩
    · exact R.cell hm rfl (fun x hx => upd_ne (by simpa [own] using hx)) ⟨_, upd_same, (rr.erase m).fwd (Fwd.same hp)⟩
    · rw [F_set (c' := .lst (ds.eraseIdx m)) hm rfl]
      exact ru.fwd (Fwd.same hp)
/-! ### built-in functions -/
def CallD (r : List V → Hp → VK → Prop) (ds : List D) (M : Mem) (Φ : D → Mem → Prop) : Prop := ∀ κ (δ : Env') σ H vs Q, Rs κ δ M σ H → Reps M.F H vs ds → (∀ v d M' H', Φ d M' → Rs κ δ M' σ H' → Rep M'.F H' v d → Q v H') → r vs H Q
theorem CallD.inl {r r' : List V → Hp → VK → Prop} {ds : List D} (h : CallD r ds M Φ) : CallD (fun vs H Q => r vs H Q ∨ r' vs H Q) ds M Φ := fun κ δ σ H vs Q R rs k => .inl (h κ δ σ H vs Q R rs k)
theorem CallD.inr {r r' : List V → Hp → VK → Prop} {ds : List D} (h : CallD r' ds M Φ) : CallD (fun vs H Q => r vs H Q ∨ r' vs H Q) ds M Φ := fun κ δ σ H vs Q R rs k => .inr (h κ δ σ H vs Q R rs k)
theorem de_blt {id : String} {r : List V → Hp → VK → Prop} {x : Str} {p : Pos} (hc : CallR X (.builtin id) r) (g : Gn X x) (hv : bootBuiltins x = some (.builtin id)) (h : DA B X (e :: es) δ M fun ds M1 => CallD r ds M1 Φ)
    (hn : x ≠ "__name__" := by decide) (hdb : (x == ("__debug__" : Str)) = false := by decide) (he : starEach (e :: es) X.env = (false, eval e X.env) :: starEach es X.env := by rfl) (hpl : (backTo pos (starEach es X.env)).any (·.1) = false := by rfl) : DE B X (.Call (.Name x p) (e :: es) [] pos) δ M Φ :=
  .of (pe_callB hc g.gl g.no hv cA hn hdb he hpl) fun κ σ H Q hb R k => h κ σ H _ hb R fun vs ds M1 H1 q R1 r1 => q κ δ σ H1 vs Q R1 r1 k
def rLenU (K : PySem.W.Frag) : List V → Hp → VK → Prop := fun xs H Q => ∃ x n, xs = [x] ∧ LenV K x H n ∧ Q (.int n) H
theorem de_len {p : Pos} (g : Gn X "len") (h : DA B X [a] δ M fun ds M1 => CallD (rLenU X.K) ds M1 Φ) (he : starEach [a] X.env = (false, eval a X.env) :: starEach [] X.env := by rfl) (hpl : (backTo pos (starEach [] X.env)).any (·.1) = false := by rfl) : DE B X (.Call (.Name "len" p) [a] [] pos) δ M Φ := de_blt call_len g PySem.boot_len h (by decide) (by decide) he hpl
theorem cd_lenL {K : PySem.W.Frag} {ds : List D} (h : IsL M x ds) (k : Φ (.int (ds.length : Nat)) M) : CallD (rLenU K) [x] M Φ := fun κ δ σ H vs Q R rs f => by
  cases rs with
  | cons r1 r2 =>
    cases r2
    obtain ⟨p, vs, rfl, e1, rr⟩ := h.sq R r1
    exact ⟨_, vs.length, rfl, .inl ⟨vs, SqL.of e1, rfl⟩, by rw [rr.length]; exact f _ _ _ _ k R (.int _)⟩
theorem cd_lenT {K : PySem.W.Frag} {ds : List D} (k : Φ (.int (ds.length : Nat)) M) : CallD (rLenU K) [.tup ds] M Φ := fun κ δ σ H vs Q R rs f => by
  cases rs with
  | cons r1 r2 =>
    cases r2
    cases r1 with
    | tup h1 e1 rr => exact ⟨_, _, rfl, .inr ⟨_, SqT.of e1, rfl⟩, by rw [rr.length]; exact f _ _ _ _ k R (.int _)⟩
theorem cd_lenS {K : PySem.W.Frag} {z : Str} (hl : z.length ≤ sizeLine) (k : Φ (.int (z.length : Nat)) M) : CallD (rLenU K) [.str z] M Φ := fun κ δ σ H vs Q R rs f => by
  cases rs with
  | cons r1 r2 =>
    cases r2
    cases r1
    exact ⟨_, z.length, rfl, ⟨hl, rfl⟩, f _ _ _ _ k R (.int _)⟩
theorem cd_lenX {K : PySem.W.Frag} {ns : List Int} (k : Φ (.int (ns.length : Nat)) M) : CallD (rLenU K) [.scr K ns] M Φ := fun κ δ σ H vs Q R rs f => by
  cases rs with
  | cons r1 r2 =>
    cases r2
    cases r1 with
    | scrH h1 e1 => exact ⟨_, _, rfl, .inl ⟨_, .inl e1, rfl⟩, by rw [List.length_map]; exact f _ _ _ _ k R (.int _)⟩
    | scrK h1 => exact ⟨_, _, rfl, .inl ⟨_, h1 H, rfl⟩, by rw [List.length_map]; exact f _ _ _ _ k R (.int _)⟩
def rMin2 : List V → Hp → VK → Prop := fun xs H Q => ∃ i j, xs = [.int i, .int j] ∧ Q (.int (if j < i then j else i)) H
def rMax2 : List V → Hp → VK → Prop := fun xs H Q => ∃ i j, xs = [.int i, .int j] ∧ Q (.int (if j > i then j else i)) H
open PyProof.Rows in
theorem de_min2 {n : Nat} (z : Cz X n) {p : Pos} (g : Gn X "min") (h : DA B X [a, b] δ M fun ds M1 => CallD rMin2 ds M1 Φ) (he : starEach [a, b] X.env = (false, eval a X.env) :: starEach [b] X.env := by rfl) (hpl : (backTo pos (starEach [b] X.env)).any (·.1) = false := by rfl) : DE B X (.Call (.Name "min" p) [a, b] [] pos) δ M Φ := de_blt (call_min2 z.calm) g boot_min h (by decide) (by decide) he hpl
open PyProof.Rows in
theorem de_max2 {n : Nat} (z : Cz X n) {p : Pos} (g : Gn X "max") (h : DA B X [a, b] δ M fun ds M1 => CallD rMax2 ds M1 Φ) (he : starEach [a, b] X.env = (false, eval a X.env) :: starEach [b] X.env := by rfl) (hpl : (backTo pos (starEach [b] X.env)).any (·.1) = false := by rfl) : DE B X (.Call (.Name "max" p) [a, b] [] pos) δ M Φ := de_blt (call_max2 z.calm) g boot_max h (by decide) (by decide) he hpl
theorem cd_min2 {i j : Int} (k : Φ (.int (min i j)) M) : CallD rMin2 [.int i, .int j] M Φ := fun κ δ σ H vs Q R rs f => by
  cases rs with
  | cons r1 r2 =>
    cases r1
    cases r2 with
    | cons r2 r3 =>
      cases r2; cases r3
      exact ⟨i, j, rfl, by rw [show (if j < i then j else i) = min i j by omega]; exact f _ _ _ _ k R (.int _)⟩
theorem cd_max2 {i j : Int} (k : Φ (.int (max i j)) M) : CallD rMax2 [.int i, .int j] M Φ := fun κ δ σ H vs Q R rs f => by
  cases rs with
  | cons r1 r2 =>
    cases r1
    cases r2 with
    | cons r2 r3 =>
      cases r2; cases r3
      exact ⟨i, j, rfl, by rw [show (if j > i then j else i) = max i j by omega]; exact f _ _ _ _ k R (.int _)⟩
/-! isinstance -/
/-- a built-in type as a value -/
theorem de_tyN {x : Str} {T : String} (g : Gn X x) (hv : bootBuiltins x = some (.type T)) (k : Φ (.raw (.ty T)) M) (hn : x ≠ "__name__" := by decide) (hd : (x == ("__debug__" : Str)) = false := by decide) : DE B X (.Name x pos) δ M Φ := .of (pe_bltn (v := .ty T) g.gl g.no hv rfl hn hd) (.val (fun _ _ => .raw _) k)
/-- the name of the type -/
def tyD : D → Option String
  | .non => some "NoneType"
  | .bl _ => some "bool"
  | .int _ => some "int"
  | .str _ => some "str"
  | .lst _ => some "list"
  | .tup _ => some "tuple"
  | _ => none
theorem cd_isi {K : PySem.W.Frag} {T S : String} {r : Bool} (hx : tyD x = some S) (hk : kitB S T = some r) (k : Φ (.bl r) M) : CallD (rIsi K) [x, .raw (.ty T)] M Φ := fun κ δ σ H vs Q R rs f => by
  cases rs with
  | cons r1 r2 =>
    cases r2 with
    | cons r2 r3 =>
      cases r2; cases r3
      refine ⟨_, _, .type S, .type T, r, rfl, .ty T, ?_, kit_ty hk, f _ _ _ _ k R (.bl _)⟩
      cases r1 with
      | non => cases hx; exact .base .non
      | bl b => cases hx; exact .base (.bl b)
      | int i => cases hx; exact .base (.int i)
      | str i => cases hx; exact .base (.str i)
      | lst h1 e1 _ => cases hx; exact .base (.lst e1)
      | tup h1 e1 _ => cases hx; exact .base (.tup e1)
      | obj _ _ _ _ => cases hx
      | raw _ => cases hx
      | scrH _ _ => cases hx
      | scrK _ => cases hx
      | exn0 _ _ => cases hx
      | exn _ _ _ _ _ _ => cases hx
      | fd _ _ _ _ _ => cases hx
      | hp _ _ _ => cases hx
      | fn _ _ _ _ _ _ _ _ _ => cases hx
end
end Hl
namespace Hl
open PySem L2
section
variable {B : Bx} {X : Cx} {e a b c o : Expr} {es rest : List Expr} {st : Stmt} {sts : List Stmt} {δ δ' : Env'} {M : Mem} {Φ : D → Mem → Prop} {Ψ : DEnds} {te ta tb : TE} {tt : TT} {pos pos' apos : Pos} {d x y : D} {ΦB : Bool → Mem → Prop} {ΦL : List D → Mem → Prop}
/-! ### comprehensions -/
/-- the context of a comprehension's block -/
structure Bk (X X' : Cx) (scope : Scope) : Prop where
  prog : X'.prog = X.prog
  wd : X'.w = X.w
  K : X'.K = X.K
  mg : X'.mg = X.mg
  base : X'.base = X.base
  N : X'.N = X.N
  A : X'.A = X.A
  calm : X'.calm = X.calm
  sc : X'.env.scope = relS scope X.env.scope
  xe : ∀ v s, ¬ X'.xe v s
  fn : ∀ x, scope.names.lookup x = some .cell → X'.fn x = true
theorem Bk.z {X X' : Cx} {scope : Scope} {n : Nat} (h : Bk X X' scope) (z : Cz X n) : Cz X' n := ⟨by rw [h.N]; exact z.nd, by rw [h.calm]; exact z.calm, by rw [h.A]; exact z.room⟩
theorem Bk.nm {X X' : Cx} {scope sc : Scope} {N : List Str} {i : Nat} {x : Str} (h : Bk X X' scope) (hN : X.N = N) (hs : X.env.scope = sc) (hh : nmB N (relS scope sc) i x = true) : Nm X' i x := nm_of (by rw [h.N, hN]) (by rw [h.sc, hs]) hh
theorem Bk.lo {X X' : Cx} {scope sc : Scope} {N : List Str} {i : Nat} {x : Str} (h : Bk X X' scope) (hN : X.N = N) (hs : X.env.scope = sc) (hh : (nmB N (relS scope sc) i x && (decide ((relS scope sc).names.lookup x = some .local) || (locB (relS scope sc) x && decide (scope.names.lookup x = some .cell)))) = true) : Lo X' i x := by
  rw [Bool.and_eq_true] at hh
  rcases Bool.or_eq_true _ _ ▸ hh.2 with hl | hl
  · have e := of_decide_eq_true hl
    exact ⟨h.nm hN hs hh.1, by rw [h.sc, hs]; exact .inl e, .inr (by rw [h.sc, hs]; exact e)⟩
  · rw [Bool.and_eq_true] at hl
    exact ⟨h.nm hN hs hh.1, by rw [h.sc, hs]; exact loc_of hl.1, .inl (h.fn x (of_decide_eq_true hl.2))⟩
theorem Bk.gl {X X' : Cx} {scope sc : Scope} {x : Str} (h : Bk X X' scope) (hs : X.env.scope = sc) (hh : (relS scope sc).names.lookup x = some .globalImplicit) : Gl X' x := gl_of (by rw [h.sc, hs]) hh
def wipeD (δ : Env') : List Nat → Env'
  | [] => δ
  | v :: vs => (wipeD δ vs).set v none
theorem Rs.wipe {κ : List (V × D)} {σ : St} {H : Hp} (R : Rs κ δ M σ H) : ∀ vs : List Nat, Rs κ (wipeD δ vs) M (L2.wipe σ vs) H
  | [] => R
  | v :: vs => (R.wipe vs).wipe1 v none
/-! targets of a comprehension -/
inductive Tk where
  | one (i : Nat) | tup (is : List Nat)
def gNames : List Nat → TGs
  | [] => gNil
  | i :: is => gCons (gName i) (gNames is)
def gK (K : PySem.W.Frag) : Tk → TG
  | .one i => gName i
  | .tup is => gTup K is.length (gNames is)
def setsD : Env' → List Nat → List D → Env'
  | δ, i :: is, d :: ds => setsD (δ.set i (some d)) is ds
  | δ, _, _ => δ
def sets : St → List Nat → List V → St
  | σ, i :: is, v :: vs => sets (σ.set i (some v)) is vs
  | σ, _, _ => σ
def slotsK : Tk → List Nat
  | .one i => [i]
  | .tup is => is
theorem Rs.puts {κ : List (V × D)} {M : Mem} {H : Hp} : ∀ {is : List Nat} {vs : List V} {ds : List D} {δ : Env'} {σ : St}, Rs κ δ M σ H → Reps M.F H vs ds → Rs κ (setsD δ is ds) M (sets σ is vs) H
  | [], _, _, _, _, R, _ => by unfold setsD sets; exact R
  | i :: is, _, _, _, _, R, .nil => by unfold setsD sets; exact R
  | i :: is, v :: vs, d :: ds, δ, σ, R, .cons r rs => by unfold setsD sets; exact (R.put i r).puts rs
theorem gNames_run {H : Hp} : ∀ {is : List Nat} {vs : List V} {σ : St} {Q : St → Hp → Prop}, vs.length = is.length → Q (sets σ is vs) H → gNames is vs σ H Q
  | [], [], _, _, _, q => ⟨rfl, q⟩
  | [], _ :: _, _, _, h, _ => by cases h
  | i :: is, [], _, _, h, _ => by cases h
  | i :: is, v :: vs, σ, Q, h, q => ⟨v, vs, rfl, gNames_run (by simpa using h) q⟩
theorem wipe_set {σ : St} {i : Nat} {ov : Option V} : ∀ {vs : List Nat}, i ∈ vs → L2.wipe (σ.set i ov) vs = L2.wipe σ vs
  | v :: vs, h => by
    unfold L2.wipe
    by_cases e : i = v
    · subst e
      by_cases hm : i ∈ vs
      · rw [wipe_set hm]
      · have : ∀ (vs : List Nat) (σ : St), i ∉ vs → L2.wipe (σ.set i ov) vs = (L2.wipe σ vs).set i ov := by
          intro vs
          induction vs with
          | nil => intro σ _; rfl
          | cons w vs ih =>
            intro σ hn
            unfold L2.wipe
            rw [ih σ (fun z => hn (List.mem_cons_of_mem _ z)), List.set_comm _ _ (fun z => hn (by rw [z]; exact List.mem_cons_self))]
        rw [this vs σ hm, List.set_set]
    · have hm : i ∈ vs := by
        rcases List.mem_cons.mp h with h | h
        · exact absurd h e
        · exact h
      rw [wipe_set hm]
theorem wipe_none {σ : St} : ∀ {vs : List Nat}, L2.wipe (L2.wipe σ vs) vs = L2.wipe σ vs := by
  intro vs
  have key : ∀ (ws vs : List Nat) (σ : St), (∀ w ∈ ws, w ∈ vs) → L2.wipe (L2.wipe σ ws) vs = L2.wipe σ vs := by
    intro ws
    induction ws with
    | nil => intro vs σ _; rfl
    | cons w ws ih =>
      intro vs σ h
      show L2.wipe ((L2.wipe σ ws).set w none) vs = _
      rw [wipe_set (h w List.mem_cons_self), ih vs σ fun x hx => h x (List.mem_cons_of_mem _ hx)]
  exact key vs vs σ fun _ h => h
theorem wipe_sets {vs : List Nat} : ∀ {is : List Nat} {ws : List V} {σ : St}, (∀ i ∈ is, i ∈ vs) → L2.wipe (sets σ is ws) vs = L2.wipe σ vs
  | [], _, _, _ => by unfold sets; rfl
  | i :: is, [], _, _ => by unfold sets; rfl
  | i :: is, w :: ws, σ, h => by
    unfold sets
    rw [wipe_sets fun j hj => h j (List.mem_cons_of_mem _ hj), wipe_set (h i List.mem_cons_self)]
def bindK (tk : Tk) (x : D) (δ : Env') : Option Env' := match tk, x with
  | .one i, x => some (δ.set i (some x))
  | .tup is, .tup ds => if ds.length = is.length then some (setsD δ is ds) else none
  | _, _ => none
theorem gK_run {K : PySem.W.Frag} {tk : Tk} {δ2 : Env'} {κ : List (V × D)} {σ : St} {H : Hp} {v : V} {Q : St → Hp → Prop} {vs : List Nat} (R : Rs κ δ M σ H) (r : Rep M.F H v x) (e : bindK tk x δ = some δ2) (hv : ∀ i ∈ slotsK tk, i ∈ vs) (h : ∀ σ2, L2.wipe σ2 vs = L2.wipe σ vs → Rs κ δ2 M σ2 H → Q σ2 H) : gK K tk v σ H Q := by
  cases tk with
  | one i =>
    have e : δ.set i (some x) = δ2 := by unfold bindK at e; cases x <;> exact Option.some.inj e
    subst e
    exact h _ (wipe_set (hv i (by simp [slotsK]))) (R.put i r)
  | tup is =>
    cases x with
    | tup ds =>
      unfold bindK at e
      dsimp only at e
      split at e
      · next hl =>
        cases e
        cases r with
        | tup h1 e1 r1 =>
          refine ⟨_, _, rfl, SqT.of e1, by rw [r1.length]; exact hl, gNames_run (by rw [r1.length]; exact hl) ?_⟩
          exact h _ (wipe_sets hv) (R.puts r1)
      · cases e
    | _ => exact nomatch e
def teA (X : Cx) (scope : Scope) (e : Expr) : TE := fun σ H Q => ∀ X', Bk X X' scope → tE X' e σ H Q
def ttA (X : Cx) (scope : Scope) (ifs : List Expr) : TT := fun σ H Q => match ifs with
  | [] => Q true H
  | [c] => ∀ X', Bk X X' scope → tT X' c σ H Q
  | _ => False
theorem bk_blk {s : Shared} {H : Hp} {scope : Scope} {C : Addr} {cl : List (Str × Addr)} {fp : List Addr} : Bk X (X.blk s H scope (compEnvC scope cl C X.env) fp) scope := ⟨rfl, rfl, rfl, rfl, rfl, rfl, rfl, rfl, rfl, fun _ _ z => z, fun x h => by show (_ == _) = true; rw [h]; rfl⟩
/-- what one turn of a comprehension gives: an item or none -/
def Turn1 (B : Bx) (X : Cx) (scope : Scope) (elt : Expr) (ifs : List Expr) (δ : Env') (M : Mem) (P : Option D → Mem → Prop) : Prop := match ifs with
  | [] => ∀ X', Bk X X' scope → DE B X' elt δ M fun d M3 => P (some d) M3
  | [c] => ∀ X', Bk X X' scope → DT B X' c δ M fun t M3 => Br t (∀ X', Bk X X' scope → DE B X' elt δ M3 fun d M4 => P (some d) M4) (P none M3)
  | _ => False
theorem pts_A {s : Shared} {H : Hp} {scope : Scope} {C : Addr} {cl : List (Str × Addr)} {fp : List Addr} {ifs : List Expr} : PTs (X.blk s H scope (compEnvC scope cl C X.env) fp) ifs (ttA X scope ifs) := by
  match ifs with
  | [] => exact pts_nil
  | [c] => exact ⟨fun pins s' σ' H' Q I q => (pts_one cT).run pins s' σ' H' Q I (q _ bk_blk)⟩
  | _ :: _ :: _ => exact ⟨fun pins s' σ' H' Q I q => q.elim⟩
theorem pe_A {s : Shared} {H : Hp} {scope : Scope} {C : Addr} {cl : List (Str × Addr)} {fp : List Addr} {elt : Expr} : PE (X.blk s H scope (compEnvC scope cl C X.env) fp) elt (teA X scope elt) := ⟨fun pins s' σ' H' Q I q => cE.run pins s' σ' H' Q I (q _ bk_blk)⟩
/-- the turns of a comprehension, by data -/
def LcH (k : Nat) (B : Bx) (X : Cx) (scope : Scope) (elt : Expr) (ifs : List Expr) (own : List (Str × Nat)) (tk : Tk) (δ : Env') (xs : List D) (M' : Mem) (ΦL : List D → Mem → Prop) : Prop :=
  ∃ Iv : Nat → List D → Mem → Prop, Iv 0 [] M' ∧ (∀ (p : Addr) i x acc M1, xs[i]? = some x → Iv i acc M1 → acc.length < sizeLine ∧ ∃ δ2, bindK tk x (wipeD δ (own.map (·.2))) = some δ2 ∧
        Turn1 B X scope elt ifs δ2 (insM k (p, .lst acc) M1) fun od M2 => ∃ M3, M2 = insM k (p, .lst acc) M3 ∧ Iv (i + 1) (acc ++ od.toList) M3) ∧ ∀ acc M1, Iv xs.length acc M1 → ΦL acc M1
theorem wf_lc {elt : Expr} {ifs : List Expr} {scope : Scope} {wi : TI} {k : Nat} (own : List (Str × Nat)) (tk : Tk) (hv : ∀ i ∈ slotsK tk, i ∈ own.map (·.2))
    (w : WI B wi δ M fun xs M' => LcH k B X scope elt ifs own tk δ xs M' ΦL) : WF B (tLc wi (gK X.K tk) (ttA X scope ifs) (teA X scope elt) (own.map (·.2))) δ M ΦL := by
  intro κ σ H Q hb R kk
  refine w κ σ H _ hb R fun xs M1 H1 J κ' ⟨Iv, h0, hst, hd⟩ hk R1 W => ?_
  intro p hp
  have R1p : Rs κ' δ (insM k (p, .lst []) M1) σ (upd H1 p (.lst [])) := (R1.lst .nil hp).perm insM_perm
  refine ⟨fun i m H => m = xs.length - i ∧ i ≤ xs.length ∧ ∃ acc M, Iv i acc M ∧ Rs κ' δ (insM k (p, .lst acc) M) σ H, ⟨xs.length, by simp, Nat.zero_le _, [], M1, h0, R1p⟩, ?_⟩
  rintro i m H ⟨rfl, hi, acc, M, q, R⟩
  by_cases hlt : i < xs.length
  · refine .inr ⟨W.goes i δ _ σ H hlt R, fun H' => ∃ acc' M', Iv (i + 1) acc' M' ∧ Rs κ' δ (insM k (p, .lst acc') M') σ H', fun H' ⟨acc', M', q', R'⟩ => ⟨xs.length - (i + 1), by omega, rfl, hlt, acc', M', q', R'⟩, fun x H' y => ?_⟩
    obtain ⟨d, hd1, R2, r2⟩ := W.yields i δ _ σ H x H' hlt R y
    obtain ⟨hlen, δ2, eb, tu⟩ := hst p i d acc M hd1 q
    have Rw := (R2.push r2)
    let κ2 := κ' ++ sk σ δ
    have back : ∀ {M' : Mem} {H' : Hp}, (∀ q ∈ κ2, Rep M'.F H' q.1 q.2) → (∀ q ∈ M', CellOk M'.F H' q.1 q.2) → M'.F.Nodup → Rs κ' δ M' σ H' := fun h1 h2 h3 => ⟨fun q hq => h1 q (List.mem_append.mpr (.inl hq)), sk_back R2.sl fun q hq => h1 q (List.mem_append.mpr (.inr hq)), h2, h3⟩
    have R3 : Rs κ2 (wipeD δ (own.map (·.2))) (insM k (p, .lst acc) M) (L2.wipe σ (own.map (·.2))) H' := by
      have := R2.wipe (own.map (·.2))
      exact ⟨fun q hq => by
        rcases List.mem_append.mp hq with h | h
        · exact R2.kp q h
        · exact sk_rep R2.sl q h, this.sl, R2.cl, R2.nd⟩
    refine gK_run R3 r2 eb hv fun σ2 hw R4 => ⟨by rw [hw, wipe_none], ?_⟩
    have hb2 : ∀ q ∈ B.ps, q ∈ κ2 := fun q hq => List.mem_append.mpr (.inl (hk q (hb q hq)))
    have fin : ∀ {u : V} {d : D} {M2 : Mem} {H2 : Hp}, (∃ M3, M2 = insM k (p, .lst acc) M3 ∧ Iv (i + 1) (acc ++ [d]) M3) → Rs κ2 δ2 M2 σ2 H2 → Rep M2.F H2 u d → ∃ ac, H2 p = some (.lst ac) ∧ ac.length < sizeLine ∧ ∃ acc' M', Iv (i + 1) acc' M' ∧ Rs κ' δ (insM k (p, .lst acc') M') σ (upd H2 p (.lst (ac ++ [u]))) := by
      rintro u d M2 H2 ⟨M3, rfl, q3⟩ R5 r5
      have R6 := (back R5.kp R5.cl R5.nd).perm insM_perm.symm
      have r5 : Rep (Mem.F ((p, Cell.lst acc) :: M3)) H2 u d := r5.fwd (Fwd.less fun x hx => (F_perm insM_perm).mem_iff.mp hx)
      have hm : ((p, Cell.lst acc) :: M3)[0]? = some (p, .lst acc) := rfl
      obtain ⟨vs, e1, rr⟩ := R6.at hm
      refine ⟨vs, e1, by rw [rr.length]; exact hlen, acc ++ [d], M3, q3, ?_⟩
      have hpF : ∀ x, x ∉ (Mem.F ((p, Cell.lst acc) :: M3)) → upd H2 p (.lst (vs ++ [u])) x = H2 x := fun x hx => upd_ne fun z => hx (z ▸ R6.mem hm p (by simp [Hl.own]))
      have := R6.cell (c' := .lst (acc ++ [d])) hm rfl (H' := upd H2 p (.lst (vs ++ [u]))) (fun x hx => upd_ne (by simpa [Hl.own] using hx)) ⟨_, upd_same, (rr.append (.cons r5 .nil)).fwd (Fwd.same hpF)⟩
      exact Rs.perm this insM_perm
    match ifs, tu with
    | [], tu =>
      show (if true = true then teA X scope elt σ2 H' (fun y H4 => ∃ ac, H4 p = some (.lst ac) ∧ ac.length < sizeLine ∧ (∃ acc' M', Iv (i + 1) acc' M' ∧ Rs κ' δ (insM k (p, .lst acc') M') σ (upd H4 p (.lst (ac ++ [y]))))) else (∃ acc' M', Iv (i + 1) acc' M' ∧ Rs κ' δ (insM k (p, .lst acc') M') σ H'))
      rw [if_pos rfl]
      intro X' bk
      exact tu X' bk κ2 σ2 H' _ hb2 R4 fun u d M2 H2 q2 R5 r5 => fin q2 R5 r5
    | [c], tu =>
      intro X' bk
      refine tu X' bk κ2 σ2 H' _ hb2 R4 fun t M2 H2 q2 R5 => Br.ite ⟨fun e X2 bk2 => ?_, fun e => ?_⟩
      · exact q2.1 e X2 bk2 κ2 σ2 H2 _ hb2 R5 fun u d M3 H3 q3 R6 r6 => fin q3 R6 r6
      · obtain ⟨M3, rfl, q3⟩ := q2.2 e
        exact ⟨acc, M3, by simpa using q3, back R5.kp R5.cl R5.nd⟩
    | _ :: _ :: _, tu => exact tu.elim
  · have e : i = xs.length := by omega
    subst e
    refine .inl ⟨W.stops δ _ σ H R, ?_⟩
    exact kk p acc M H (hd acc M q) ((R.sub hk).perm insM_perm.symm)
theorem df_lc {tg iter elt : Expr} {ifs : List Expr} {scope sc : Scope} {N : List Str} {n : Nat} (k : Nat) (z : Cz X n) (hN : X.N = N) (hs : X.env.scope = sc) (own : List (Str × Nat)) (tk : Tk) (ok : blkC N sc scope own = true) (hv : ∀ i ∈ slotsK tk, i ∈ own.map (·.2)) (hg : ∀ X', Bk X X' scope → PG X' tg (gK X.K tk))
    (h : DI B X tg iter δ M fun xs M' => LcH k B X scope elt ifs own tk δ xs M' ΦL) (hf : ∀ x, foldedSetIterable iter X.env x = pure x := by intro _; rfl) : DF B X (.ListComp elt [⟨tg, iter, ifs, 0⟩] scope pos) δ M ΦL := by
  obtain ⟨wi, pi, w⟩ := h
  exact .of (pe_lc z.calm z.nd pi (blkOk_by (by rw [hN, hs]; exact ok)) (fun s H C cl fp => hg _ bk_blk) (fun s H C cl fp => pts_A) (fun s H C cl fp => pe_A) hf) (wf_lc own tk hv w)
end
end Hl
namespace Hl
open PySem L2
/-! ### == of lists and tuples -/
mutual
def toPy : D → PyData
  | .bl b => .bool b
  | .int i => .int i
  | .str x => .str x
  | .lst ds => .list (toPys ds)
  | .tup ds => .tuple (toPys ds)
  | _ => .none
def toPys : List D → List PyData
  | [] => []
  | d :: ds => toPy d :: toPys ds
end
mutual
def okD : D → Bool
  | .non => true
  | .bl _ => true
  | .int _ => true
  | .str x => PyData.canLay0 (.str x)
  | .lst ds => okDs ds
  | .tup ds => okDs ds
  | _ => false
def okDs : List D → Bool
  | [] => true
  | d :: ds => okD d && okDs ds
end
mutual
theorem rep_dp {K : PySem.W.Frag} {F : List Addr} {H : Hp} : ∀ {v : V} {d : D}, Rep F H v d → okD d = true → Dp K H v (toPy d)
  | _, _, .non, _ => .non
  | _, _, .bl b, _ => .bl b
  | _, _, .int i, _ => .int i
  | _, _, .str x, _ => .str x
  | _, _, .lst h e r, k => .lst (SqL.of e) (reps_dp r k)
  | _, _, .tup h e r, k => .tup (SqT.of e) (reps_dp r k)
  | _, _, .obj h e l r, k => by cases k
  | _, _, .raw v, k => by cases k
  | _, _, .scrH h e, k => by cases k
  | _, _, .scrK h, k => by cases k
  | _, _, .exn0 h e, k => by cases k
  | _, _, .exn h e h2 e2 l r, k => by cases k
  | _, _, .fd h e e1 e2 r, k => by cases k
  | _, _, .hp h e _, k => by cases k
  | _, _, .fn _ _ _ _ _ _ _ _ _, k => by cases k
theorem reps_dp {K : PySem.W.Frag} {F : List Addr} {H : Hp} : ∀ {vs : List V} {ds : List D}, Reps F H vs ds → okDs ds = true → DpAll K H vs (toPys ds)
  | _, _, .nil, _ => .nil
  | _, _, .cons r rs, k => by
    have k := Bool.and_eq_true_iff.mp (show (_ && _) = true from k)
    exact .cons (rep_dp r k.1) (reps_dp rs k.2)
end
mutual
theorem ok_lay : ∀ {d : D}, okD d = true → (toPy d).canLay0 = true
  | .non, _ => rfl
  | .bl _, _ => rfl
  | .int _, _ => rfl
  | .str x, h => h
  | .lst ds, h => oks_lay (ds := ds) h
  | .tup ds, h => oks_lay (ds := ds) h
  | .obj _ _ _, h => by cases h
  | .raw _, h => by cases h
  | .scr _ _, h => by cases h
  | .exn _ _ _, h => by cases h
  | .fd _ _, h => by cases h
  | .hp _ _, h => by cases h
  | .fn _ _ _, h => by cases h
theorem oks_lay : ∀ {ds : List D}, okDs ds = true → PyData.canLayAll0 (toPys ds) = true
  | [], _ => rfl
  | d :: ds, h => by
    have k := Bool.and_eq_true_iff.mp (show (_ && _) = true from h)
    show (_ && _) = true
    rw [ok_lay k.1, oks_lay k.2]; rfl
end
mutual
theorem eqv_refl : ∀ (d : PyData), d.canLay0 = true → PyData.eqv d d = true
  | .none, _ => rfl
  | .bool b, _ => by cases b <;> rfl
  | .int i, _ => by simp [PyData.eqv]
  | .str x, _ => by simp [PyData.eqv]
  | .list ds, h => eqvs_refl ds h
  | .tuple ds, h => eqvs_refl ds h
  | .dict _, h => by cases h
theorem eqvs_refl : ∀ (ds : List PyData), PyData.canLayAll0 ds = true → PyData.eqvAll ds ds = true
  | [], _ => rfl
  | d :: ds, h => by
    have k := Bool.and_eq_true_iff.mp (show (_ && _) = true from h)
    show (_ && _) = true
    rw [eqv_refl d k.1, eqvs_refl ds k.2]; rfl
end
/-- data as such, or a list that is a cell -/
inductive Is (M : Mem) : D → D → Prop
  | val (d : D) : Is M d d
  | cell {p : Addr} {ds : List D} (j : Nat) (h : M[j]? = some (p, .lst ds)) : Is M (.raw (.ref p)) (.lst ds)
  | inm {p : Addr} {ds : List D} (h : InM M p (.lst ds)) : Is M (.raw (.ref p)) (.lst ds)
section
variable {B : Bx} {X : Cx} {e a b c o : Expr} {es rest : List Expr} {st : Stmt} {sts : List Stmt} {δ δ' : Env'} {M : Mem} {Φ : D → Mem → Prop} {Ψ : DEnds} {te ta tb : TE} {tt : TT} {pos pos' apos : Pos} {d x y : D} {ΦB : Bool → Mem → Prop} {ΦL : List D → Mem → Prop}
theorem Is.dp {κ : List (V × D)} {σ : St} {H : Hp} {v : V} {x d : D} {K : PySem.W.Frag} (h : Is M x d) (R : Rs κ δ M σ H) (r : Rep M.F H v x) (k : okD d = true) : Dp K H v (toPy d) := by
  cases h with
  | val d => exact rep_dp r k
  | cell j h =>
    cases r
    obtain ⟨vs, e1, r1⟩ := R.at h
    exact .lst (SqL.of e1) (reps_dp r1 k)
  | inm h =>
    cases r
    obtain ⟨vs, e1, r1⟩ := h.ok R
    exact .lst (SqL.of e1) (reps_dp r1 k)
def okE (d : D) : Bool := okD d && decide ((toPy d).depth ≤ 64)
theorem okE_sh {d : D} (h : okE d = true) : SeqAt.shaped (toPy d) = true := by
  have k := Bool.and_eq_true_iff.mp (show (_ && _) = true from h)
  show (_ && _) = true
  rw [ok_lay k.1, k.2]; rfl
theorem okE_ok {d : D} (h : okE d = true) : okD d = true := (Bool.and_eq_true_iff.mp (show (_ && _) = true from h)).1
theorem od_eqD {K : PySem.W.Frag} {x' y' : D} (hx : Is M x x') (hy : Is M y y') (kx : okE x' = true) (ky : okE y' = true) (k : Φ (.bl (PyData.eqv (toPy x') (toPy y'))) M) : OpD (rEqU K) x y M Φ := .inr fun κ δ σ H v w Q R rv rw' h =>
  ⟨_, _, hx.dp R rv (okE_ok kx), hy.dp R rw' (okE_ok ky), okE_sh kx, okE_sh ky, h _ _ M H k R (.bl _)⟩
theorem od_neD {K : PySem.W.Frag} {x' y' : D} (hx : Is M x x') (hy : Is M y y') (kx : okE x' = true) (ky : okE y' = true) (k : Φ (.bl (!PyData.eqv (toPy x') (toPy y'))) M) : OpD (rNeU K) x y M Φ := .inr fun κ δ σ H v w Q R rv rw' h =>
  ⟨_, _, hx.dp R rv (okE_ok kx), hy.dp R rw' (okE_ok ky), okE_sh kx, okE_sh ky, h _ _ M H k R (.bl _)⟩
theorem okDs_ints : ∀ (ns : List Int), okDs (ns.map D.int) = true
  | [] => rfl
  | n :: ns => okDs_ints ns
theorem depths_ints : ∀ (ns : List Int), PyData.depthAll (toPys (ns.map D.int)) = 0
  | [] => rfl
  | n :: ns => by
    show max 0 _ = 0
    rw [depths_ints ns]; rfl
theorem okE_ints (ns : List Int) : okE (.lst (ns.map D.int)) = true := by
  show (_ && _) = true
  rw [show okD (.lst (ns.map D.int)) = true from okDs_ints ns]
  have : (toPy (.lst (ns.map D.int))).depth = 1 := by
    show PyData.depthAll (toPys (ns.map D.int)) + 1 = 1
    rw [depths_ints]
  rw [this]; rfl
/-- against the empty list -/
theorem od_neNil {K : PySem.W.Frag} {ds : List D} (hx : Is M x (.lst ds)) (hk : okE (.lst ds) = true) (k : Φ (.bl (!ds.isEmpty)) M) : OpD (rNeU K) x (.lst []) M Φ := od_neD hx (.val _) hk rfl (by
  rw [show PyData.eqv (toPy (.lst ds)) (toPy (.lst [])) = ds.isEmpty from by cases ds <;> rfl]; exact k)
theorem od_eqNil {K : PySem.W.Frag} {ds : List D} (hx : Is M x (.lst ds)) (hk : okE (.lst ds) = true) (k : Φ (.bl ds.isEmpty) M) : OpD (rEqU K) x (.lst []) M Φ := od_eqD hx (.val _) hk rfl (by
  rw [show PyData.eqv (toPy (.lst ds)) (toPy (.lst [])) = ds.isEmpty from by cases ds <;> rfl]; exact k)
/-- the same data -/
theorem od_neSame {K : PySem.W.Frag} {x' : D} (hx : Is M x x') (hy : Is M y x') (hk : okE x' = true) (k : Φ (.bl false) M) : OpD (rNeU K) x y M Φ := od_neD hx hy hk hk (by
  rw [eqv_refl _ (ok_lay (okE_ok hk))]; exact k)
/-! ### the draws' state as a dict and a list -/
def stD (g : Addr) (r t e : Int) (cs : List Int) : List (Key × D) := [(.inr "great", .raw (.ref g)), (.inr "rest", .int r), (.inr "turn", .int t), (.inr "seed", .int e), (.inr "cells", .lst (cs.map .int))]
structure StOk (b : Nat) (gs : List Int) (r t e : Int) (cs : List Int) : Prop where
  hgs : ∀ x ∈ gs, 0 < x
  hr : 0 ≤ r
  ht : 0 ≤ t
  htb : t + (b : Int) ≤ 1000000000000
  he : 0 ≤ e
  he2 : e < 2147483647
  hcs : ∀ x ∈ cs, 0 ≤ x ∧ x < 2147483629
  hc1 : 0 < cs.length
  hc2 : cs.length ≤ 100
theorem st_open {κ : List (V × D)} {σ : St} {H : Hp} {s g : Addr} {b : Nat} (R : Rs κ δ ((s, .st g b) :: M) σ H) : ∃ gs r t e cs, StOk b gs r t e cs ∧ Rs κ δ ((s, .dct (stD g r t e cs)) :: (g, .lst (gs.map .int)) :: M) σ H := by
  obtain ⟨c, r, t, e, gs, cs, hc, h1, h2, h3, p1, p2, p3, p4, p5, p6, p7, p8, p9⟩ := R.cl (s, .st g b) List.mem_cons_self
  refine ⟨gs, r, t, e, cs, ⟨p1, p2, p3, p4, p5, p6, p7, p8, p9⟩, ?_⟩
  have eF : Mem.F ((s, Cell.dct (stD g r t e cs)) :: (g, .lst (gs.map .int)) :: M) = Mem.F ((s, .st g b) :: M) := rfl
  refine ⟨fun q hq => by rw [eF]; exact R.kp q hq, by rw [eF]; exact R.sl, fun q hq => ?_, by rw [eF]; exact R.nd⟩
  rw [eF]
  rcases List.mem_cons.mp hq with rfl | hq
  · exact ⟨_, h1, rfl, .cons (.raw _) (.cons (.int _) (.cons (.int _) (.cons (.int _) (.cons (.lst hc h3 (.ofInts cs)) .nil))))⟩
  · rcases List.mem_cons.mp hq with rfl | hq
    · exact ⟨_, h2, .ofInts gs⟩
    · exact R.cl q (List.mem_cons_of_mem _ hq)
theorem st_close {κ : List (V × D)} {σ : St} {H : Hp} {s g : Addr} {b : Nat} {gs : List Int} {r t e : Int} {cs : List Int} (k : StOk b gs r t e cs) (R : Rs κ δ ((s, .dct (stD g r t e cs)) :: (g, .lst (gs.map .int)) :: M) σ H) : Rs κ δ ((s, .st g b) :: M) σ H := by
  have eF : Mem.F ((s, Cell.dct (stD g r t e cs)) :: (g, .lst (gs.map .int)) :: M) = Mem.F ((s, .st g b) :: M) := rfl
  refine ⟨fun q hq => by rw [← eF]; exact R.kp q hq, by rw [← eF]; exact R.sl, fun q hq => ?_, by rw [← eF]; exact R.nd⟩
  rw [← eF]
  rcases List.mem_cons.mp hq with rfl | hq
  · obtain ⟨ws, h1, h2, rs⟩ := R.cl (s, .dct (stD g r t e cs)) List.mem_cons_self
    obtain ⟨vs, h3, r3⟩ := R.cl (g, .lst (gs.map .int)) (by simp)
    match ws, h2, rs with
    | [(k1, v1), (k2, v2), (k3, v3), (k4, v4), (k5, v5)], h2, rs =>
      injection h2 with e1 h2
      injection h2 with e2 h2
      injection h2 with e3 h2
      injection h2 with e4 h2
      injection h2 with e5 _
      have e1 : k1 = .inr "great" := e1
      have e2 : k2 = .inr "rest" := e2
      have e3 : k3 = .inr "turn" := e3
      have e4 : k4 = .inr "seed" := e4
      have e5 : k5 = .inr "cells" := e5
      subst e1 e2 e3 e4 e5
      cases rs with
      | cons r1 rs =>
        cases rs with
        | cons r2 rs =>
          cases rs with
          | cons r3' rs =>
            cases rs with
            | cons r4 rs =>
              cases rs with
              | cons r5 rs =>
                cases r1; cases r2; cases r3'; cases r4
                cases r5 with
                | lst hn he hr =>
                  have ev := hr.ints
                  subst ev
                  have ev := r3.ints
                  subst ev
                  exact ⟨_, r, t, e, gs, cs, hn, h1, h3, he, k.hgs, k.hr, k.ht, k.htb, k.he, k.he2, k.hcs, k.hc1, k.hc2⟩
  · exact R.cl q (List.mem_cons_of_mem _ (List.mem_cons_of_mem _ hq))
/-- a new state -/
theorem Rs.dct {κ : List (V × D)} {σ : St} {H : Hp} {p : Addr} {kvs : List (Key × D)} {ws : List (Key × V)} (R : Rs κ δ M σ H) (hp : H p = none) (e : ws.map (·.1) = kvs.map (·.1)) (r : Reps M.F H (ws.map (·.2)) (kvs.map (·.2))) : Rs κ δ ((p, .dct kvs) :: M) σ (upd H p (.dK ws)) :=
  R.add hp rfl ⟨ws, upd_same, e, r.fwd (Fwd.newC hp)⟩
theorem ws_stOpen {ts : TS} {s g : Addr} {b : Nat} (h : ∀ gs r t e cs, StOk b gs r t e cs → WS B ts δ ((s, .dct (stD g r t e cs)) :: (g, .lst (gs.map .int)) :: M) Ψ) : WS B ts δ ((s, .st g b) :: M) Ψ := fun κ σ H E hb R k => by
  obtain ⟨gs, r, t, e, cs, ok, R'⟩ := st_open R
  exact h gs r t e cs ok κ σ H E hb R' k
theorem Vw.stc {s g : Addr} {b : Nat} {gs : List Int} {r t e : Int} {cs : List Int} (ok : StOk b gs r t e cs) : Vw d ((s, .dct (stD g r t e cs)) :: (g, .lst (gs.map .int)) :: M) d ((s, .st g b) :: M) := fun _ _ _ _ _ R r' => ⟨st_close ok R, r'⟩
end
end Hl
namespace Hl
open PySem L2
section
variable {d : D} {P : Env' → Prop}
theorem se0 {x0 : Option D} {r : Env'} (h : P (some d :: r)) : Sets (x0 :: r) 0 d P := .of h
theorem se1 {x0 x1 : Option D} {r : Env'} (h : P (x0 :: some d :: r)) : Sets (x0 :: x1 :: r) 1 d P := .of h
theorem se2 {x0 x1 x2 : Option D} {r : Env'} (h : P (x0 :: x1 :: some d :: r)) : Sets (x0 :: x1 :: x2 :: r) 2 d P := .of h
theorem se3 {x0 x1 x2 x3 : Option D} {r : Env'} (h : P (x0 :: x1 :: x2 :: some d :: r)) : Sets (x0 :: x1 :: x2 :: x3 :: r) 3 d P := .of h
theorem se4 {x0 x1 x2 x3 x4 : Option D} {r : Env'} (h : P (x0 :: x1 :: x2 :: x3 :: some d :: r)) : Sets (x0 :: x1 :: x2 :: x3 :: x4 :: r) 4 d P := .of h
theorem se5 {x0 x1 x2 x3 x4 x5 : Option D} {r : Env'} (h : P (x0 :: x1 :: x2 :: x3 :: x4 :: some d :: r)) : Sets (x0 :: x1 :: x2 :: x3 :: x4 :: x5 :: r) 5 d P := .of h
theorem se6 {x0 x1 x2 x3 x4 x5 x6 : Option D} {r : Env'} (h : P (x0 :: x1 :: x2 :: x3 :: x4 :: x5 :: some d :: r)) : Sets (x0 :: x1 :: x2 :: x3 :: x4 :: x5 :: x6 :: r) 6 d P := .of h
theorem se7 {x0 x1 x2 x3 x4 x5 x6 x7 : Option D} {r : Env'} (h : P (x0 :: x1 :: x2 :: x3 :: x4 :: x5 :: x6 :: some d :: r)) : Sets (x0 :: x1 :: x2 :: x3 :: x4 :: x5 :: x6 :: x7 :: r) 7 d P := .of h
theorem se8 {x0 x1 x2 x3 x4 x5 x6 x7 x8 : Option D} {r : Env'} (h : P (x0 :: x1 :: x2 :: x3 :: x4 :: x5 :: x6 :: x7 :: some d :: r)) : Sets (x0 :: x1 :: x2 :: x3 :: x4 :: x5 :: x6 :: x7 :: x8 :: r) 8 d P := .of h
theorem se9 {x0 x1 x2 x3 x4 x5 x6 x7 x8 x9 : Option D} {r : Env'} (h : P (x0 :: x1 :: x2 :: x3 :: x4 :: x5 :: x6 :: x7 :: x8 :: some d :: r)) : Sets (x0 :: x1 :: x2 :: x3 :: x4 :: x5 :: x6 :: x7 :: x8 :: x9 :: r) 9 d P := .of h
theorem se10 {x0 x1 x2 x3 x4 x5 x6 x7 x8 x9 x10 : Option D} {r : Env'} (h : P (x0 :: x1 :: x2 :: x3 :: x4 :: x5 :: x6 :: x7 :: x8 :: x9 :: some d :: r)) : Sets (x0 :: x1 :: x2 :: x3 :: x4 :: x5 :: x6 :: x7 :: x8 :: x9 :: x10 :: r) 10 d P := .of h
theorem se11 {x0 x1 x2 x3 x4 x5 x6 x7 x8 x9 x10 x11 : Option D} {r : Env'} (h : P (x0 :: x1 :: x2 :: x3 :: x4 :: x5 :: x6 :: x7 :: x8 :: x9 :: x10 :: some d :: r)) : Sets (x0 :: x1 :: x2 :: x3 :: x4 :: x5 :: x6 :: x7 :: x8 :: x9 :: x10 :: x11 :: r) 11 d P := .of h
theorem se12 {x0 x1 x2 x3 x4 x5 x6 x7 x8 x9 x10 x11 x12 : Option D} {r : Env'} (h : P (x0 :: x1 :: x2 :: x3 :: x4 :: x5 :: x6 :: x7 :: x8 :: x9 :: x10 :: x11 :: some d :: r)) : Sets (x0 :: x1 :: x2 :: x3 :: x4 :: x5 :: x6 :: x7 :: x8 :: x9 :: x10 :: x11 :: x12 :: r) 12 d P := .of h
theorem se13 {x0 x1 x2 x3 x4 x5 x6 x7 x8 x9 x10 x11 x12 x13 : Option D} {r : Env'} (h : P (x0 :: x1 :: x2 :: x3 :: x4 :: x5 :: x6 :: x7 :: x8 :: x9 :: x10 :: x11 :: x12 :: some d :: r)) : Sets (x0 :: x1 :: x2 :: x3 :: x4 :: x5 :: x6 :: x7 :: x8 :: x9 :: x10 :: x11 :: x12 :: x13 :: r) 13 d P := .of h
theorem se14 {x0 x1 x2 x3 x4 x5 x6 x7 x8 x9 x10 x11 x12 x13 x14 : Option D} {r : Env'} (h : P (x0 :: x1 :: x2 :: x3 :: x4 :: x5 :: x6 :: x7 :: x8 :: x9 :: x10 :: x11 :: x12 :: x13 :: some d :: r)) : Sets (x0 :: x1 :: x2 :: x3 :: x4 :: x5 :: x6 :: x7 :: x8 :: x9 :: x10 :: x11 :: x12 :: x13 :: x14 :: r) 14 d P := .of h
theorem se15 {x0 x1 x2 x3 x4 x5 x6 x7 x8 x9 x10 x11 x12 x13 x14 x15 : Option D} {r : Env'} (h : P (x0 :: x1 :: x2 :: x3 :: x4 :: x5 :: x6 :: x7 :: x8 :: x9 :: x10 :: x11 :: x12 :: x13 :: x14 :: some d :: r)) : Sets (x0 :: x1 :: x2 :: x3 :: x4 :: x5 :: x6 :: x7 :: x8 :: x9 :: x10 :: x11 :: x12 :: x13 :: x14 :: x15 :: r) 15 d P := .of h
theorem se16 {x0 x1 x2 x3 x4 x5 x6 x7 x8 x9 x10 x11 x12 x13 x14 x15 x16 : Option D} {r : Env'} (h : P (x0 :: x1 :: x2 :: x3 :: x4 :: x5 :: x6 :: x7 :: x8 :: x9 :: x10 :: x11 :: x12 :: x13 :: x14 :: x15 :: some d :: r)) : Sets (x0 :: x1 :: x2 :: x3 :: x4 :: x5 :: x6 :: x7 :: x8 :: x9 :: x10 :: x11 :: x12 :: x13 :: x14 :: x15 :: x16 :: r) 16 d P := .of h
theorem se17 {x0 x1 x2 x3 x4 x5 x6 x7 x8 x9 x10 x11 x12 x13 x14 x15 x16 x17 : Option D} {r : Env'} (h : P (x0 :: x1 :: x2 :: x3 :: x4 :: x5 :: x6 :: x7 :: x8 :: x9 :: x10 :: x11 :: x12 :: x13 :: x14 :: x15 :: x16 :: some d :: r)) : Sets (x0 :: x1 :: x2 :: x3 :: x4 :: x5 :: x6 :: x7 :: x8 :: x9 :: x10 :: x11 :: x12 :: x13 :: x14 :: x15 :: x16 :: x17 :: r) 17 d P := .of h
theorem se18 {x0 x1 x2 x3 x4 x5 x6 x7 x8 x9 x10 x11 x12 x13 x14 x15 x16 x17 x18 : Option D} {r : Env'} (h : P (x0 :: x1 :: x2 :: x3 :: x4 :: x5 :: x6 :: x7 :: x8 :: x9 :: x10 :: x11 :: x12 :: x13 :: x14 :: x15 :: x16 :: x17 :: some d :: r)) : Sets (x0 :: x1 :: x2 :: x3 :: x4 :: x5 :: x6 :: x7 :: x8 :: x9 :: x10 :: x11 :: x12 :: x13 :: x14 :: x15 :: x16 :: x17 :: x18 :: r) 18 d P := .of h
theorem se19 {x0 x1 x2 x3 x4 x5 x6 x7 x8 x9 x10 x11 x12 x13 x14 x15 x16 x17 x18 x19 : Option D} {r : Env'} (h : P (x0 :: x1 :: x2 :: x3 :: x4 :: x5 :: x6 :: x7 :: x8 :: x9 :: x10 :: x11 :: x12 :: x13 :: x14 :: x15 :: x16 :: x17 :: x18 :: some d :: r)) : Sets (x0 :: x1 :: x2 :: x3 :: x4 :: x5 :: x6 :: x7 :: x8 :: x9 :: x10 :: x11 :: x12 :: x13 :: x14 :: x15 :: x16 :: x17 :: x18 :: x19 :: r) 19 d P := .of h
theorem se20 {x0 x1 x2 x3 x4 x5 x6 x7 x8 x9 x10 x11 x12 x13 x14 x15 x16 x17 x18 x19 x20 : Option D} {r : Env'} (h : P (x0 :: x1 :: x2 :: x3 :: x4 :: x5 :: x6 :: x7 :: x8 :: x9 :: x10 :: x11 :: x12 :: x13 :: x14 :: x15 :: x16 :: x17 :: x18 :: x19 :: some d :: r)) : Sets (x0 :: x1 :: x2 :: x3 :: x4 :: x5 :: x6 :: x7 :: x8 :: x9 :: x10 :: x11 :: x12 :: x13 :: x14 :: x15 :: x16 :: x17 :: x18 :: x19 :: x20 :: r) 20 d P := .of h
theorem se21 {x0 x1 x2 x3 x4 x5 x6 x7 x8 x9 x10 x11 x12 x13 x14 x15 x16 x17 x18 x19 x20 x21 : Option D} {r : Env'} (h : P (x0 :: x1 :: x2 :: x3 :: x4 :: x5 :: x6 :: x7 :: x8 :: x9 :: x10 :: x11 :: x12 :: x13 :: x14 :: x15 :: x16 :: x17 :: x18 :: x19 :: x20 :: some d :: r)) : Sets (x0 :: x1 :: x2 :: x3 :: x4 :: x5 :: x6 :: x7 :: x8 :: x9 :: x10 :: x11 :: x12 :: x13 :: x14 :: x15 :: x16 :: x17 :: x18 :: x19 :: x20 :: x21 :: r) 21 d P := .of h
theorem se22 {x0 x1 x2 x3 x4 x5 x6 x7 x8 x9 x10 x11 x12 x13 x14 x15 x16 x17 x18 x19 x20 x21 x22 : Option D} {r : Env'} (h : P (x0 :: x1 :: x2 :: x3 :: x4 :: x5 :: x6 :: x7 :: x8 :: x9 :: x10 :: x11 :: x12 :: x13 :: x14 :: x15 :: x16 :: x17 :: x18 :: x19 :: x20 :: x21 :: some d :: r)) : Sets (x0 :: x1 :: x2 :: x3 :: x4 :: x5 :: x6 :: x7 :: x8 :: x9 :: x10 :: x11 :: x12 :: x13 :: x14 :: x15 :: x16 :: x17 :: x18 :: x19 :: x20 :: x21 :: x22 :: r) 22 d P := .of h
theorem se23 {x0 x1 x2 x3 x4 x5 x6 x7 x8 x9 x10 x11 x12 x13 x14 x15 x16 x17 x18 x19 x20 x21 x22 x23 : Option D} {r : Env'} (h : P (x0 :: x1 :: x2 :: x3 :: x4 :: x5 :: x6 :: x7 :: x8 :: x9 :: x10 :: x11 :: x12 :: x13 :: x14 :: x15 :: x16 :: x17 :: x18 :: x19 :: x20 :: x21 :: x22 :: some d :: r)) : Sets (x0 :: x1 :: x2 :: x3 :: x4 :: x5 :: x6 :: x7 :: x8 :: x9 :: x10 :: x11 :: x12 :: x13 :: x14 :: x15 :: x16 :: x17 :: x18 :: x19 :: x20 :: x21 :: x22 :: x23 :: r) 23 d P := .of h
theorem se24 {x0 x1 x2 x3 x4 x5 x6 x7 x8 x9 x10 x11 x12 x13 x14 x15 x16 x17 x18 x19 x20 x21 x22 x23 x24 : Option D} {r : Env'} (h : P (x0 :: x1 :: x2 :: x3 :: x4 :: x5 :: x6 :: x7 :: x8 :: x9 :: x10 :: x11 :: x12 :: x13 :: x14 :: x15 :: x16 :: x17 :: x18 :: x19 :: x20 :: x21 :: x22 :: x23 :: some d :: r)) : Sets (x0 :: x1 :: x2 :: x3 :: x4 :: x5 :: x6 :: x7 :: x8 :: x9 :: x10 :: x11 :: x12 :: x13 :: x14 :: x15 :: x16 :: x17 :: x18 :: x19 :: x20 :: x21 :: x22 :: x23 :: x24 :: r) 24 d P := .of h
theorem se25 {x0 x1 x2 x3 x4 x5 x6 x7 x8 x9 x10 x11 x12 x13 x14 x15 x16 x17 x18 x19 x20 x21 x22 x23 x24 x25 : Option D} {r : Env'} (h : P (x0 :: x1 :: x2 :: x3 :: x4 :: x5 :: x6 :: x7 :: x8 :: x9 :: x10 :: x11 :: x12 :: x13 :: x14 :: x15 :: x16 :: x17 :: x18 :: x19 :: x20 :: x21 :: x22 :: x23 :: x24 :: some d :: r)) : Sets (x0 :: x1 :: x2 :: x3 :: x4 :: x5 :: x6 :: x7 :: x8 :: x9 :: x10 :: x11 :: x12 :: x13 :: x14 :: x15 :: x16 :: x17 :: x18 :: x19 :: x20 :: x21 :: x22 :: x23 :: x24 :: x25 :: r) 25 d P := .of h
theorem se26 {x0 x1 x2 x3 x4 x5 x6 x7 x8 x9 x10 x11 x12 x13 x14 x15 x16 x17 x18 x19 x20 x21 x22 x23 x24 x25 x26 : Option D} {r : Env'} (h : P (x0 :: x1 :: x2 :: x3 :: x4 :: x5 :: x6 :: x7 :: x8 :: x9 :: x10 :: x11 :: x12 :: x13 :: x14 :: x15 :: x16 :: x17 :: x18 :: x19 :: x20 :: x21 :: x22 :: x23 :: x24 :: x25 :: some d :: r)) : Sets (x0 :: x1 :: x2 :: x3 :: x4 :: x5 :: x6 :: x7 :: x8 :: x9 :: x10 :: x11 :: x12 :: x13 :: x14 :: x15 :: x16 :: x17 :: x18 :: x19 :: x20 :: x21 :: x22 :: x23 :: x24 :: x25 :: x26 :: r) 26 d P := .of h
theorem se27 {x0 x1 x2 x3 x4 x5 x6 x7 x8 x9 x10 x11 x12 x13 x14 x15 x16 x17 x18 x19 x20 x21 x22 x23 x24 x25 x26 x27 : Option D} {r : Env'} (h : P (x0 :: x1 :: x2 :: x3 :: x4 :: x5 :: x6 :: x7 :: x8 :: x9 :: x10 :: x11 :: x12 :: x13 :: x14 :: x15 :: x16 :: x17 :: x18 :: x19 :: x20 :: x21 :: x22 :: x23 :: x24 :: x25 :: x26 :: some d :: r)) : Sets (x0 :: x1 :: x2 :: x3 :: x4 :: x5 :: x6 :: x7 :: x8 :: x9 :: x10 :: x11 :: x12 :: x13 :: x14 :: x15 :: x16 :: x17 :: x18 :: x19 :: x20 :: x21 :: x22 :: x23 :: x24 :: x25 :: x26 :: x27 :: r) 27 d P := .of h
theorem se28 {x0 x1 x2 x3 x4 x5 x6 x7 x8 x9 x10 x11 x12 x13 x14 x15 x16 x17 x18 x19 x20 x21 x22 x23 x24 x25 x26 x27 x28 : Option D} {r : Env'} (h : P (x0 :: x1 :: x2 :: x3 :: x4 :: x5 :: x6 :: x7 :: x8 :: x9 :: x10 :: x11 :: x12 :: x13 :: x14 :: x15 :: x16 :: x17 :: x18 :: x19 :: x20 :: x21 :: x22 :: x23 :: x24 :: x25 :: x26 :: x27 :: some d :: r)) : Sets (x0 :: x1 :: x2 :: x3 :: x4 :: x5 :: x6 :: x7 :: x8 :: x9 :: x10 :: x11 :: x12 :: x13 :: x14 :: x15 :: x16 :: x17 :: x18 :: x19 :: x20 :: x21 :: x22 :: x23 :: x24 :: x25 :: x26 :: x27 :: x28 :: r) 28 d P := .of h
theorem se29 {x0 x1 x2 x3 x4 x5 x6 x7 x8 x9 x10 x11 x12 x13 x14 x15 x16 x17 x18 x19 x20 x21 x22 x23 x24 x25 x26 x27 x28 x29 : Option D} {r : Env'} (h : P (x0 :: x1 :: x2 :: x3 :: x4 :: x5 :: x6 :: x7 :: x8 :: x9 :: x10 :: x11 :: x12 :: x13 :: x14 :: x15 :: x16 :: x17 :: x18 :: x19 :: x20 :: x21 :: x22 :: x23 :: x24 :: x25 :: x26 :: x27 :: x28 :: some d :: r)) : Sets (x0 :: x1 :: x2 :: x3 :: x4 :: x5 :: x6 :: x7 :: x8 :: x9 :: x10 :: x11 :: x12 :: x13 :: x14 :: x15 :: x16 :: x17 :: x18 :: x19 :: x20 :: x21 :: x22 :: x23 :: x24 :: x25 :: x26 :: x27 :: x28 :: x29 :: r) 29 d P := .of h
theorem se30 {x0 x1 x2 x3 x4 x5 x6 x7 x8 x9 x10 x11 x12 x13 x14 x15 x16 x17 x18 x19 x20 x21 x22 x23 x24 x25 x26 x27 x28 x29 x30 : Option D} {r : Env'} (h : P (x0 :: x1 :: x2 :: x3 :: x4 :: x5 :: x6 :: x7 :: x8 :: x9 :: x10 :: x11 :: x12 :: x13 :: x14 :: x15 :: x16 :: x17 :: x18 :: x19 :: x20 :: x21 :: x22 :: x23 :: x24 :: x25 :: x26 :: x27 :: x28 :: x29 :: some d :: r)) : Sets (x0 :: x1 :: x2 :: x3 :: x4 :: x5 :: x6 :: x7 :: x8 :: x9 :: x10 :: x11 :: x12 :: x13 :: x14 :: x15 :: x16 :: x17 :: x18 :: x19 :: x20 :: x21 :: x22 :: x23 :: x24 :: x25 :: x26 :: x27 :: x28 :: x29 :: x30 :: r) 30 d P := .of h
theorem se31 {x0 x1 x2 x3 x4 x5 x6 x7 x8 x9 x10 x11 x12 x13 x14 x15 x16 x17 x18 x19 x20 x21 x22 x23 x24 x25 x26 x27 x28 x29 x30 x31 : Option D} {r : Env'} (h : P (x0 :: x1 :: x2 :: x3 :: x4 :: x5 :: x6 :: x7 :: x8 :: x9 :: x10 :: x11 :: x12 :: x13 :: x14 :: x15 :: x16 :: x17 :: x18 :: x19 :: x20 :: x21 :: x22 :: x23 :: x24 :: x25 :: x26 :: x27 :: x28 :: x29 :: x30 :: some d :: r)) : Sets (x0 :: x1 :: x2 :: x3 :: x4 :: x5 :: x6 :: x7 :: x8 :: x9 :: x10 :: x11 :: x12 :: x13 :: x14 :: x15 :: x16 :: x17 :: x18 :: x19 :: x20 :: x21 :: x22 :: x23 :: x24 :: x25 :: x26 :: x27 :: x28 :: x29 :: x30 :: x31 :: r) 31 d P := .of h
theorem se32 {x0 x1 x2 x3 x4 x5 x6 x7 x8 x9 x10 x11 x12 x13 x14 x15 x16 x17 x18 x19 x20 x21 x22 x23 x24 x25 x26 x27 x28 x29 x30 x31 x32 : Option D} {r : Env'} (h : P (x0 :: x1 :: x2 :: x3 :: x4 :: x5 :: x6 :: x7 :: x8 :: x9 :: x10 :: x11 :: x12 :: x13 :: x14 :: x15 :: x16 :: x17 :: x18 :: x19 :: x20 :: x21 :: x22 :: x23 :: x24 :: x25 :: x26 :: x27 :: x28 :: x29 :: x30 :: x31 :: some d :: r)) : Sets (x0 :: x1 :: x2 :: x3 :: x4 :: x5 :: x6 :: x7 :: x8 :: x9 :: x10 :: x11 :: x12 :: x13 :: x14 :: x15 :: x16 :: x17 :: x18 :: x19 :: x20 :: x21 :: x22 :: x23 :: x24 :: x25 :: x26 :: x27 :: x28 :: x29 :: x30 :: x31 :: x32 :: r) 32 d P := .of h
theorem se33 {x0 x1 x2 x3 x4 x5 x6 x7 x8 x9 x10 x11 x12 x13 x14 x15 x16 x17 x18 x19 x20 x21 x22 x23 x24 x25 x26 x27 x28 x29 x30 x31 x32 x33 : Option D} {r : Env'} (h : P (x0 :: x1 :: x2 :: x3 :: x4 :: x5 :: x6 :: x7 :: x8 :: x9 :: x10 :: x11 :: x12 :: x13 :: x14 :: x15 :: x16 :: x17 :: x18 :: x19 :: x20 :: x21 :: x22 :: x23 :: x24 :: x25 :: x26 :: x27 :: x28 :: x29 :: x30 :: x31 :: x32 :: some d :: r)) : Sets (x0 :: x1 :: x2 :: x3 :: x4 :: x5 :: x6 :: x7 :: x8 :: x9 :: x10 :: x11 :: x12 :: x13 :: x14 :: x15 :: x16 :: x17 :: x18 :: x19 :: x20 :: x21 :: x22 :: x23 :: x24 :: x25 :: x26 :: x27 :: x28 :: x29 :: x30 :: x31 :: x32 :: x33 :: r) 33 d P := .of h
theorem se34 {x0 x1 x2 x3 x4 x5 x6 x7 x8 x9 x10 x11 x12 x13 x14 x15 x16 x17 x18 x19 x20 x21 x22 x23 x24 x25 x26 x27 x28 x29 x30 x31 x32 x33 x34 : Option D} {r : Env'} (h : P (x0 :: x1 :: x2 :: x3 :: x4 :: x5 :: x6 :: x7 :: x8 :: x9 :: x10 :: x11 :: x12 :: x13 :: x14 :: x15 :: x16 :: x17 :: x18 :: x19 :: x20 :: x21 :: x22 :: x23 :: x24 :: x25 :: x26 :: x27 :: x28 :: x29 :: x30 :: x31 :: x32 :: x33 :: some d :: r)) : Sets (x0 :: x1 :: x2 :: x3 :: x4 :: x5 :: x6 :: x7 :: x8 :: x9 :: x10 :: x11 :: x12 :: x13 :: x14 :: x15 :: x16 :: x17 :: x18 :: x19 :: x20 :: x21 :: x22 :: x23 :: x24 :: x25 :: x26 :: x27 :: x28 :: x29 :: x30 :: x31 :: x32 :: x33 :: x34 :: r) 34 d P := .of h
theorem se35 {x0 x1 x2 x3 x4 x5 x6 x7 x8 x9 x10 x11 x12 x13 x14 x15 x16 x17 x18 x19 x20 x21 x22 x23 x24 x25 x26 x27 x28 x29 x30 x31 x32 x33 x34 x35 : Option D} {r : Env'} (h : P (x0 :: x1 :: x2 :: x3 :: x4 :: x5 :: x6 :: x7 :: x8 :: x9 :: x10 :: x11 :: x12 :: x13 :: x14 :: x15 :: x16 :: x17 :: x18 :: x19 :: x20 :: x21 :: x22 :: x23 :: x24 :: x25 :: x26 :: x27 :: x28 :: x29 :: x30 :: x31 :: x32 :: x33 :: x34 :: some d :: r)) : Sets (x0 :: x1 :: x2 :: x3 :: x4 :: x5 :: x6 :: x7 :: x8 :: x9 :: x10 :: x11 :: x12 :: x13 :: x14 :: x15 :: x16 :: x17 :: x18 :: x19 :: x20 :: x21 :: x22 :: x23 :: x24 :: x25 :: x26 :: x27 :: x28 :: x29 :: x30 :: x31 :: x32 :: x33 :: x34 :: x35 :: r) 35 d P := .of h
end
section
variable {B : Bx} {X : Cx} {K : PySem.W.Frag} {M : Mem} {Φ : D → Mem → Prop} {Φ' : Mem → Prop} {s g : Addr} {r t e r' t' e' : Int} {cs : List Int}
theorem st_great (k : Φ (.raw (.ref g)) ((s, .dct (stD g r t e cs)) :: M)) : OpD (rIxU K) (.raw (.ref s)) (.str "great") ((s, .dct (stD g r t e cs)) :: M) Φ := od_ixD (k := .inr "great") 0 rfl rfl rfl k
theorem st_rest (k : Φ (.int r) ((s, .dct (stD g r t e cs)) :: M)) : OpD (rIxU K) (.raw (.ref s)) (.str "rest") ((s, .dct (stD g r t e cs)) :: M) Φ := od_ixD (k := .inr "rest") 0 rfl rfl rfl k
theorem st_turn (k : Φ (.int t) ((s, .dct (stD g r t e cs)) :: M)) : OpD (rIxU K) (.raw (.ref s)) (.str "turn") ((s, .dct (stD g r t e cs)) :: M) Φ := od_ixD (k := .inr "turn") 0 rfl rfl rfl k
theorem st_seed (k : Φ (.int e) ((s, .dct (stD g r t e cs)) :: M)) : OpD (rIxU K) (.raw (.ref s)) (.str "seed") ((s, .dct (stD g r t e cs)) :: M) Φ := od_ixD (k := .inr "seed") 0 rfl rfl rfl k
theorem st_cells (k : Φ (.lst (cs.map .int)) ((s, .dct (stD g r t e cs)) :: M)) : OpD (rIxU K) (.raw (.ref s)) (.str "cells") ((s, .dct (stD g r t e cs)) :: M) Φ := od_ixD (k := .inr "cells") 0 rfl rfl rfl k
theorem set_rest (k : Φ' ((s, .dct (stD g r' t e cs)) :: M)) : SetD (.raw (.ref s)) (.str "rest") (.int r') ((s, .dct (stD g r t e cs)) :: M) Φ' := sd_dict (k := .inr "rest") 0 rfl rfl (by show 5 < sizeLine; decide) k
theorem set_turn (k : Φ' ((s, .dct (stD g r t' e cs)) :: M)) : SetD (.raw (.ref s)) (.str "turn") (.int t') ((s, .dct (stD g r t e cs)) :: M) Φ' := sd_dict (k := .inr "turn") 0 rfl rfl (by show 5 < sizeLine; decide) k
theorem set_seed (k : Φ' ((s, .dct (stD g r t e' cs)) :: M)) : SetD (.raw (.ref s)) (.str "seed") (.int e') ((s, .dct (stD g r t e cs)) :: M) Φ' := sd_dict (k := .inr "seed") 0 rfl rfl (by show 5 < sizeLine; decide) k
theorem at_int {cs : List Int} {i : Int} (h0 : 0 ≤ i) (h1 : i < cs.length) : ∃ c, c ∈ cs ∧ atI (cs.map D.int) i = some (.int c) := by
  have hl : i.toNat < cs.length := by omega
  refine ⟨cs[i.toNat], List.getElem_mem hl, ?_⟩
  unfold atI ixN
  rw [if_pos h0, if_pos (by rw [List.length_map]; exact h1)]
  show (cs.map D.int)[i.toNat]? = _
  rw [List.getElem?_map, List.getElem?_eq_getElem hl]; rfl
end
/-! what kind of goal it is -/
section
variable {B : Bx} {X : Cx} {e a b c o v : Expr} {es : List Expr} {st : Stmt} {sts : List Stmt} {δ : Env'} {M : Mem} {Φ : D → Mem → Prop} {Ψ : DEnds} {ΦB : Bool → Mem → Prop} {ΦL : List D → Mem → Prop} {ΦM : Mem → Prop} {ΦE : Env' → Mem → Prop} {d x y : D} {pos : Pos}
theorem idE (h : DE B X e δ M Φ) : DE B X e δ M Φ := h
theorem idName {n : Str} (h : DE B X (.Name n pos) δ M Φ) : DE B X (.Name n pos) δ M Φ := h
theorem idCst {n : Const} {j} (h : DE B X (.Constant n j pos) δ M Φ) : DE B X (.Constant n j pos) δ M Φ := h
theorem idBin {op} (h : DE B X (.BinOp a op b pos) δ M Φ) : DE B X (.BinOp a op b pos) δ M Φ := h
theorem idCmp {ops bs} (h : DE B X (.Compare a ops bs pos) δ M Φ) : DE B X (.Compare a ops bs pos) δ M Φ := h
theorem idCallN {n : Str} {p ks} (h : DE B X (.Call (.Name n p) es ks pos) δ M Φ) : DE B X (.Call (.Name n p) es ks pos) δ M Φ := h
theorem idCallA {n : Str} {p ks} (h : DE B X (.Call (.Attribute o n p) es ks pos) δ M Φ) : DE B X (.Call (.Attribute o n p) es ks pos) δ M Φ := h
theorem idA (h : DA B X es δ M ΦL) : DA B X es δ M ΦL := h
theorem idT (h : DT B X e δ M ΦB) : DT B X e δ M ΦB := h
theorem idTC {ops bs} (h : DT B X (.Compare a ops bs pos) δ M ΦB) : DT B X (.Compare a ops bs pos) δ M ΦB := h
theorem idW (h : DW B X e δ M ΦB) : DW B X e δ M ΦB := h
theorem idS (h : DS B X st δ M Ψ) : DS B X st δ M Ψ := h
theorem idAsg {t} (h : DS B X (.Assign t e pos) δ M Ψ) : DS B X (.Assign t e pos) δ M Ψ := h
theorem idSs (h : DSs B X sts δ M Ψ) : DSs B X sts δ M Ψ := h
theorem idG (h : DG B X e d δ M ΦE) : DG B X e d δ M ΦE := h
theorem idGs {ds : List D} (h : DGs B X es ds δ M ΦE) : DGs B X es ds δ M ΦE := h
theorem idO {r : R2} (h : OpD r x y M Φ) : OpD r x y M Φ := h
theorem idOx {K : PySem.W.Frag} (h : OpD (rIxU K) x y M Φ) : OpD (rIxU K) x y M Φ := h
theorem idC {r : List V → Hp → VK → Prop} {ds : List D} (h : CallD r ds M Φ) : CallD r ds M Φ := h
theorem idSet (h : SetD x y d M ΦM) : SetD x y d M ΦM := h
theorem idSl {i : Nat} {P : Env' → Prop} (h : Sets δ i d P) : Sets δ i d P := h
theorem idBr {b : Bool} {P Q : Prop} (h : Br b P Q) : Br b P Q := h
end
section
variable {M : Mem} {Φ : D → Mem → Prop} {i j : Int}
theorem od_mulS (h : (-(2 ^ 64) < i ∧ i < 2 ^ 64) ∨ (-(2 ^ 64) < j ∧ j < 2 ^ 64)) (k : Φ (.int (i * j)) M) : OpD rMulU (.int i) (.int j) M Φ := od_mul h k
theorem log2_small {j : Int} (h : 0 < j) (h2 : j < 2 ^ 1000) : j.natAbs.log2 < 9000 := by
  have : j.natAbs < 2 ^ 1000 := by omega
  exact Nat.lt_trans (PySem.Flt.log2_lt_of (by decide) this) (by decide)
theorem od_divS (h : 0 < j) (h2 : j < 2 ^ 1000) (k : Φ (.int (i / j)) M) : OpD rDivU (.int i) (.int j) M Φ := od_div ⟨h, log2_small h h2⟩ k
theorem p10_1 (k : Φ (.int 10) M) : OpD rPowU (.int 10) (.int 1) M Φ := od_pow ⟨by decide, by decide, by decide⟩ k
theorem p10_2 (k : Φ (.int 100) M) : OpD rPowU (.int 10) (.int 2) M Φ := od_pow ⟨by decide, by decide, by decide⟩ k
theorem p10_3 (k : Φ (.int 1000) M) : OpD rPowU (.int 10) (.int 3) M Φ := od_pow ⟨by decide, by decide, by decide⟩ k
theorem p10_4 (k : Φ (.int 10000) M) : OpD rPowU (.int 10) (.int 4) M Φ := od_pow ⟨by decide, by decide, by decide⟩ k
theorem p10_5 (k : Φ (.int 100000) M) : OpD rPowU (.int 10) (.int 5) M Φ := od_pow ⟨by decide, by decide, by decide⟩ k
theorem p10_6 (k : Φ (.int 1000000) M) : OpD rPowU (.int 10) (.int 6) M Φ := od_pow ⟨by decide, by decide, by decide⟩ k
theorem p10_7 (k : Φ (.int 10000000) M) : OpD rPowU (.int 10) (.int 7) M Φ := od_pow ⟨by decide, by decide, by decide⟩ k
theorem p10_8 (k : Φ (.int 100000000) M) : OpD rPowU (.int 10) (.int 8) M Φ := od_pow ⟨by decide, by decide, by decide⟩ k
theorem p10_9 (k : Φ (.int 1000000000) M) : OpD rPowU (.int 10) (.int 9) M Φ := od_pow ⟨by decide, by decide, by decide⟩ k
theorem p10_10 (k : Φ (.int 10000000000) M) : OpD rPowU (.int 10) (.int 10) M Φ := od_pow ⟨by decide, by decide, by decide⟩ k
theorem p10_11 (k : Φ (.int 100000000000) M) : OpD rPowU (.int 10) (.int 11) M Φ := od_pow ⟨by decide, by decide, by decide⟩ k
theorem p10_12 (k : Φ (.int 1000000000000) M) : OpD rPowU (.int 10) (.int 12) M Φ := od_pow ⟨by decide, by decide, by decide⟩ k
theorem p10_13 (k : Φ (.int 10000000000000) M) : OpD rPowU (.int 10) (.int 13) M Φ := od_pow ⟨by decide, by decide, by decide⟩ k
theorem p10_14 (k : Φ (.int 100000000000000) M) : OpD rPowU (.int 10) (.int 14) M Φ := od_pow ⟨by decide, by decide, by decide⟩ k
theorem p10_15 (k : Φ (.int 1000000000000000) M) : OpD rPowU (.int 10) (.int 15) M Φ := od_pow ⟨by decide, by decide, by decide⟩ k
theorem p10_16 (k : Φ (.int 10000000000000000) M) : OpD rPowU (.int 10) (.int 16) M Φ := od_pow ⟨by decide, by decide, by decide⟩ k
theorem p10_17 (k : Φ (.int 100000000000000000) M) : OpD rPowU (.int 10) (.int 17) M Φ := od_pow ⟨by decide, by decide, by decide⟩ k
theorem p10_18 (k : Φ (.int 1000000000000000000) M) : OpD rPowU (.int 10) (.int 18) M Φ := od_pow ⟨by decide, by decide, by decide⟩ k
theorem p10_19 (k : Φ (.int 10000000000000000000) M) : OpD rPowU (.int 10) (.int 19) M Φ := od_pow ⟨by decide, by decide, by decide⟩ k
theorem p10_20 (k : Φ (.int 100000000000000000000) M) : OpD rPowU (.int 10) (.int 20) M Φ := od_pow ⟨by decide, by decide, by decide⟩ k
theorem p10_21 (k : Φ (.int 1000000000000000000000) M) : OpD rPowU (.int 10) (.int 21) M Φ := od_pow ⟨by decide, by decide, by decide⟩ k
theorem p10_22 (k : Φ (.int 10000000000000000000000) M) : OpD rPowU (.int 10) (.int 22) M Φ := od_pow ⟨by decide, by decide, by decide⟩ k
theorem p10_23 (k : Φ (.int 100000000000000000000000) M) : OpD rPowU (.int 10) (.int 23) M Φ := od_pow ⟨by decide, by decide, by decide⟩ k
theorem p10_24 (k : Φ (.int 1000000000000000000000000) M) : OpD rPowU (.int 10) (.int 24) M Φ := od_pow ⟨by decide, by decide, by decide⟩ k
theorem p10_25 (k : Φ (.int 10000000000000000000000000) M) : OpD rPowU (.int 10) (.int 25) M Φ := od_pow ⟨by decide, by decide, by decide⟩ k
theorem p10_26 (k : Φ (.int 100000000000000000000000000) M) : OpD rPowU (.int 10) (.int 26) M Φ := od_pow ⟨by decide, by decide, by decide⟩ k
theorem p10_27 (k : Φ (.int 1000000000000000000000000000) M) : OpD rPowU (.int 10) (.int 27) M Φ := od_pow ⟨by decide, by decide, by decide⟩ k
theorem p10_28 (k : Φ (.int 10000000000000000000000000000) M) : OpD rPowU (.int 10) (.int 28) M Φ := od_pow ⟨by decide, by decide, by decide⟩ k
theorem p10_29 (k : Φ (.int 100000000000000000000000000000) M) : OpD rPowU (.int 10) (.int 29) M Φ := od_pow ⟨by decide, by decide, by decide⟩ k
theorem p10_30 (k : Φ (.int 1000000000000000000000000000000) M) : OpD rPowU (.int 10) (.int 30) M Φ := od_pow ⟨by decide, by decide, by decide⟩ k
theorem p10_31 (k : Φ (.int 10000000000000000000000000000000) M) : OpD rPowU (.int 10) (.int 31) M Φ := od_pow ⟨by decide, by decide, by decide⟩ k
theorem p10_32 (k : Φ (.int 100000000000000000000000000000000) M) : OpD rPowU (.int 10) (.int 32) M Φ := od_pow ⟨by decide, by decide, by decide⟩ k
theorem p10_33 (k : Φ (.int 1000000000000000000000000000000000) M) : OpD rPowU (.int 10) (.int 33) M Φ := od_pow ⟨by decide, by decide, by decide⟩ k
theorem p10_34 (k : Φ (.int 10000000000000000000000000000000000) M) : OpD rPowU (.int 10) (.int 34) M Φ := od_pow ⟨by decide, by decide, by decide⟩ k
theorem p10_35 (k : Φ (.int 100000000000000000000000000000000000) M) : OpD rPowU (.int 10) (.int 35) M Φ := od_pow ⟨by decide, by decide, by decide⟩ k
theorem p10_36 (k : Φ (.int 1000000000000000000000000000000000000) M) : OpD rPowU (.int 10) (.int 36) M Φ := od_pow ⟨by decide, by decide, by decide⟩ k
theorem p10_37 (k : Φ (.int 10000000000000000000000000000000000000) M) : OpD rPowU (.int 10) (.int 37) M Φ := od_pow ⟨by decide, by decide, by decide⟩ k
theorem p10_38 (k : Φ (.int 100000000000000000000000000000000000000) M) : OpD rPowU (.int 10) (.int 38) M Φ := od_pow ⟨by decide, by decide, by decide⟩ k
theorem p10_39 (k : Φ (.int 1000000000000000000000000000000000000000) M) : OpD rPowU (.int 10) (.int 39) M Φ := od_pow ⟨by decide, by decide, by decide⟩ k
theorem p10_40 (k : Φ (.int 10000000000000000000000000000000000000000) M) : OpD rPowU (.int 10) (.int 40) M Φ := od_pow ⟨by decide, by decide, by decide⟩ k
theorem p10_41 (k : Φ (.int 100000000000000000000000000000000000000000) M) : OpD rPowU (.int 10) (.int 41) M Φ := od_pow ⟨by decide, by decide, by decide⟩ k
theorem p10_42 (k : Φ (.int 1000000000000000000000000000000000000000000) M) : OpD rPowU (.int 10) (.int 42) M Φ := od_pow ⟨by decide, by decide, by decide⟩ k
theorem p10_43 (k : Φ (.int 10000000000000000000000000000000000000000000) M) : OpD rPowU (.int 10) (.int 43) M Φ := od_pow ⟨by decide, by decide, by decide⟩ k
theorem p10_44 (k : Φ (.int 100000000000000000000000000000000000000000000) M) : OpD rPowU (.int 10) (.int 44) M Φ := od_pow ⟨by decide, by decide, by decide⟩ k
theorem p10_45 (k : Φ (.int 1000000000000000000000000000000000000000000000) M) : OpD rPowU (.int 10) (.int 45) M Φ := od_pow ⟨by decide, by decide, by decide⟩ k
end
end Hl
namespace Hl
open PySem L2
section
variable {B : Bx} {X : Cx} {e a b c o : Expr} {es rest : List Expr} {st : Stmt} {sts : List Stmt} {δ δ' : Env'} {M : Mem} {Φ : D → Mem → Prop} {Ψ : DEnds} {te ta tb : TE} {tt : TT} {pos pos' apos : Pos} {d x y : D} {ΦB : Bool → Mem → Prop} {ΦL : List D → Mem → Prop}
/-- a new list as a cell at place k -/
theorem DE.own (k : Nat) (h : DF B X e δ M fun ds M' => ∀ p : Addr, Φ (.raw (.ref p)) (insM k (p, .lst ds) M')) : DE B X e δ M Φ := fun κ σ H Q hb R kk => h κ σ H Q hb R fun p ds M' H' q R' => kk _ _ _ _ (q p) (R'.perm insM_perm) (.raw _)
/-! dict displays -/
def DPs (B : Bx) (X : Cx) : List (Option Expr) → List Expr → Env' → Mem → (List (D × D) → Mem → Prop) → Prop
  | [], [], _, M, Φ => Φ [] M
  | some k :: ks, v :: vs, δ, M, Φ => DE B X k δ M fun x M1 => DE B X v δ M1 fun y M2 => DPs B X ks vs δ M2 fun ps M3 => Φ ((x, y) :: ps) M3
  | _, _, _, _, _ => False
def trsOf (X : Cx) : List (Option Expr) → List Expr → List (TE × TE)
  | some k :: ks, v :: vs => (tE X k, tE X v) :: trsOf X ks vs
  | _, _ => []
def isSomes : List (Option Expr) → List Expr → Bool
  | [], [] => true
  | some _ :: ks, _ :: vs => isSomes ks vs
  | _, _ => false
theorem pps_of : ∀ {ks : List (Option Expr)} {vs : List Expr}, isSomes ks vs = true → PPs X pos ks vs (trsOf X ks vs)
  | [], [], _ => pps_nil
  | some k :: ks, v :: vs, h => pps_cons cE cE (pps_of (ks := ks) (vs := vs) h)
  | [], _ :: _, h => by cases h
  | none :: _, _, h => by cases h
  | some _ :: _, [], h => by cases h
def PairRep (F : List Addr) (H : Hp) : List (V × V) → List (D × D) → Prop := Paired fun p q => Rep F H p.1 q.1 ∧ Rep F H p.2 q.2
theorem pairs_run : ∀ {ks : List (Option Expr)} {vs : List Expr} {M : Mem} {Φ : List (D × D) → Mem → Prop} {κ : List (V × D)} {σ : St} {H : Hp} {Q : List (V × V) → Hp → Prop}, DPs B X ks vs δ M Φ → (∀ q ∈ B.ps, q ∈ κ) → Rs κ δ M σ H →
    (∀ ps ds M' H', Φ ds M' → Rs κ δ M' σ H' → PairRep M'.F H' ps ds → Q ps H') → tPairs (trsOf X ks vs) σ H Q
  | [], [], _, _, _, _, _, _, h, hb, R, k => k [] [] _ _ h R .nil
  | some ke :: ks, v :: vs, M, Φ, κ, σ, H, Q, h, hb, R, k => by
    refine (show DE B X ke δ M _ from h) κ σ H _ hb R fun u x M1 H1 q1 R1 r1 => ?_
    refine q1 ((u, x) :: κ) σ H1 _ (fun q hq => List.mem_cons_of_mem _ (hb q hq)) (R1.push r1) fun w y M2 H2 q2 R2 r2 => ?_
    refine pairs_run q2 (fun q hq => List.mem_cons_of_mem _ (List.mem_cons_of_mem _ (hb q hq))) (R2.push r2) fun ps ds M3 H3 q3 R3 r3 => ?_
    exact k _ _ _ _ q3 R3.pop.pop (.cons ⟨R3.pop.top, R3.top⟩ r3)
  | [], _ :: _, _, _, _, _, _, _, h, _, _, _ => h.elim
  | none :: _, _, _, _, _, _, _, _, h, _, _, _ => by cases h
  | some _ :: _, [], _, _, _, _, _, _, h, _, _, _ => h.elim
def mergeD (kvs more : List (Key × D)) : List (Key × D) := more.foldl (fun acc kv => putD acc kv.1 kv.2) kvs
theorem pair_keys {F : List Addr} {H : Hp} : ∀ {ps : List (V × V)} {kvs : List (Key × D)}, PairRep F H ps (kvs.map fun kv => (kD kv.1, kv.2)) → ∃ ws : List (Key × V), ps = ws.map (fun kv => (kV kv.1, kv.2)) ∧ ws.map (·.1) = kvs.map (·.1) ∧ Reps F H (ws.map (·.2)) (kvs.map (·.2))
  | _, [], .nil => ⟨[], rfl, rfl, .nil⟩
  | (v1, v2) :: ps, (k, d) :: kvs, .cons ⟨r1, r2⟩ t => by
    obtain ⟨ws, e1, e2, r⟩ := pair_keys (kvs := kvs) t
    have := rep_k r1
    exact ⟨(k, v2) :: ws, by rw [e1]; show (v1, v2) :: _ = (kV k, v2) :: _; rw [show v1 = kV k from this], by simp [e2], .cons r2 r⟩
theorem merge_rep {F : List Addr} {H : Hp} : ∀ {ws : List (Key × V)} {kvs : List (Key × D)} {ws0 : List (Key × V)} {kvs0 : List (Key × D)}, ws.map (·.1) = kvs.map (·.1) → Reps F H (ws.map (·.2)) (kvs.map (·.2)) → ws0.map (·.1) = kvs0.map (·.1) → Reps F H (ws0.map (·.2)) (kvs0.map (·.2)) →
    (mergeK ws0 ws).map (·.1) = (mergeD kvs0 kvs).map (·.1) ∧ Reps F H ((mergeK ws0 ws).map (·.2)) ((mergeD kvs0 kvs).map (·.2))
  | [], [], _, _, _, _, h1, h2 => ⟨h1, h2⟩
  | [], _ :: _, _, _, h, _, _, _ => by cases h
  | _ :: _, [], _, _, h, _, _, _ => by cases h
  | (k1, v) :: ws, (k2, d) :: kvs, ws0, kvs0, h, r, h1, h2 => by
    have e1 : k1 = k2 := (List.cons.inj h).1
    have e2 : ws.map (·.1) = kvs.map (·.1) := (List.cons.inj h).2
    subst e1
    cases r with
    | cons r1 r2 => exact merge_rep (ws0 := putK ws0 k1 v) (kvs0 := putD kvs0 k1 d) e2 r2 (put_keys h1) (put_vals r1 h1 h2)
theorem de_disp {keys : List (Option Expr)} {values : List Expr} (k : Nat) (hi : isSomes keys values = true) (hall : keys.all (·.isSome) = true) (hl : keys.length = values.length) (h0 : keys ≠ []) (h15 : keys.length ≤ 15)
    (h : ∀ p, DPs B X keys values δ (insM k (p, .dct []) M) fun ps M2 => ∃ j kvs, M2[j]? = some (p, .dct []) ∧ ps = kvs.map (fun kv => (kD kv.1, kv.2)) ∧ kvs.length ≤ 15 ∧ Φ (.raw (.ref p)) (M2.set j (p, .dct (mergeD [] kvs)))) : DE B X (.Dict keys values pos) δ M Φ := by
  refine .of (pe_disp (pps_of hi) hall hl h0 h15) fun κ σ H Q hb R kk => ?_
  intro p hp
  have R1 : Rs κ δ (insM k (p, .dct []) M) σ (upd H p (.dK [])) := (R.dct (kvs := []) (ws := []) hp rfl .nil).perm insM_perm
  refine pairs_run (h p) hb R1 fun ps ds M2 H2 ⟨j, kvs, ej, ep, hk, q⟩ R2 r2 => ?_
  subst ep
  obtain ⟨ws0, e0, e1, r0⟩ := R2.at ej
  have hw : ws0 = [] := by cases ws0 with | nil => rfl | cons _ _ => cases e1
  subst hw
  obtain ⟨ws, ep, e2, rr⟩ := pair_keys r2
  refine ⟨e0, ws, ep, ?_, ?_⟩
  · have := congrArg List.length e2
    rw [List.length_map, List.length_map] at this
    omega
  · refine kk _ _ _ _ q ?_ (.raw _)
    obtain ⟨m1, m2⟩ := merge_rep (ws0 := []) (kvs0 := []) e2 rr rfl .nil
    have hpF : ∀ x, x ∉ M2.F → upd H2 p (.dK (mergeK [] ws)) x = H2 x := fun x hx => upd_ne fun z => hx (z ▸ R2.mem ej p (by simp [own]))
    exact R2.cell ej rfl (fun x hx => upd_ne (by simpa [own] using hx)) ⟨_, upd_same, m1, m2.fwd (Fwd.same hpF)⟩
/-! the script is walked -/
theorem wd_scr {κ : List (V × D)} {a : Addr} {K : PySem.W.Frag} {ns : List Int} : WalkD ((.ref a, .scr K ns) :: κ) (ns.map .int) (Itl K a) := by
  have sq : ∀ {δ : Env'} {M : Mem} {σ : St} {H : Hp}, Rs ((.ref a, .scr K ns) :: κ) δ M σ H → SqL K H a (ns.map V.int) := fun R => by
    cases R.top with
    | scrH h e => exact .inl e
    | scrK h => exact h _
  exact {
    goes := fun i δ M σ H hi R => by
      rw [List.length_map] at hi
      exact ⟨_, .int ns[i], sq R, by simp [hi]⟩
    stops := fun δ M σ H R => ⟨_, sq R, by simp⟩
    yields := fun i δ M σ H x H' hi R y => by
      obtain ⟨rfl, y⟩ := y
      have := y _ (sq R)
      rw [List.getElem?_map] at this
      cases e : ns[i]? with
      | none => rw [e] at this; cases this
      | some n =>
        rw [e] at this
        have ex : V.int n = x := Option.some.inj this
        subst ex
        exact ⟨.int n, by rw [List.getElem?_map, e]; rfl, R, .int n⟩ }
theorem di_scr {tg iter : Expr} (h : DE B X iter δ M fun d M' => ∃ ns, d = .scr X.K ns ∧ ΦL (ns.map .int) M') : DI B X tg iter δ M ΦL := ⟨_, pi_list cE, fun κ σ H R hb Rr k => h κ σ H _ hb Rr fun v d M1 H1 ⟨ns, ed, q⟩ R1 r1 => by
  subst ed
  cases r1 with
  | scrH h e => exact ⟨_, rfl, ⟨_, .inl e⟩, k _ M1 H1 _ _ q (fun q hq => List.mem_cons_of_mem _ hq) (R1.push (.scrH h e)) wd_scr⟩
  | scrK h => exact ⟨_, rfl, ⟨_, h _⟩, k _ M1 H1 _ _ q (fun q hq => List.mem_cons_of_mem _ hq) (R1.push (.scrK h)) wd_scr⟩⟩
/-- a comprehension without effects: each item gives F of it -/
theorem LcH.pure {scope : Scope} {elt : Expr} {ifs : List Expr} {own : List (Str × Nat)} {tk : Tk} {xs : List D} {k : Nat} (F : D → Option D) (hl : xs.length ≤ sizeLine)
    (h : ∀ (p : Addr) acc x, x ∈ xs → ∃ δ2, bindK tk x (wipeD δ (own.map (·.2))) = some δ2 ∧ Turn1 B X scope elt ifs δ2 (insM k (p, .lst acc) M) fun od M2 => od = F x ∧ M2 = insM k (p, .lst acc) M)
    (q : ΦL (xs.filterMap F) M) : LcH k B X scope elt ifs own tk δ xs M ΦL := by
  refine ⟨fun i acc M1 => M1 = M ∧ acc = (xs.take i).filterMap F ∧ acc.length ≤ i, ⟨rfl, rfl, Nat.le_refl _⟩, ?_, ?_⟩
  · rintro p i x acc M1 hx ⟨rfl, ha, hal⟩
    have hi : i < xs.length := (List.getElem?_eq_some_iff.mp hx).1
    obtain ⟨δ2, e1, tu⟩ := h p acc x (List.mem_of_getElem? hx)
    have fin : ∀ (od : Option D) M2, od = F x ∧ M2 = insM k (p, .lst acc) M1 → ∃ M3, M2 = insM k (p, .lst acc) M3 ∧ M3 = M1 ∧ acc ++ od.toList = (xs.take (i + 1)).filterMap F ∧ (acc ++ od.toList).length ≤ i + 1 := by
      rintro od M2 ⟨rfl, rfl⟩
      refine ⟨M1, rfl, rfl, ?_, ?_⟩
      · rw [List.take_add_one, hx, List.filterMap_append, ← ha]
        cases e : F x <;> simp [e]
      · rw [List.length_append]
        cases F x <;> simp <;> omega
    refine ⟨by omega, δ2, e1, ?_⟩
    unfold Turn1 at tu ⊢
    match ifs, tu with
    | [], tu => exact fun X' bk => (tu X' bk).mono fun d M2 q => fin _ _ q
    | [c], tu => exact fun X' bk => (tu X' bk).mono fun t M2 q => ⟨fun e X2 bk2 => (q.1 e X2 bk2).mono fun d M3 q => fin _ _ q, fun e => fin _ _ (q.2 e)⟩
    | _ :: _ :: _, tu => exact tu.elim
  · rintro acc M1 ⟨rfl, rfl, _⟩
    rw [List.take_length]
    exact q
end
end Hl
namespace Hl
open PySem L2
section
variable {B : Bx} {X X' : Cx} {scope : Scope} {n i : Nat} {x : Str} {pos tpos : Pos}
theorem pg_one (bk : Bk X X' scope) (z : Cz X n) (l : Lo X' i x) : PG X' (.Name x pos) (gK X.K (.one i)) := pg_name (bk.z z).nd l.at_ l.loc l.fn
end
/-! ### the draws -/
/-- a number below many -/
def pTake : DSp := fun ds M Φ => ∃ s g b n M', ds = [.raw (.ref s), .int n] ∧ M = (s, .st g (b + 1)) :: M' ∧ 0 < n ∧ n < 2 ^ 1000 ∧ ∀ r, 0 ≤ r → r < n → Φ (.int r) ((s, .st g b) :: M')
theorem c_take {s g : Addr} {b : Nat} {n : Int} {M : Mem} {Φ : D → Mem → Prop} (hb : 0 < b) (h0 : 0 < n) (h1 : n < 2 ^ 1000) (k : ∀ r, 0 ≤ r → r < n → Φ (.int r) ((s, .st g (b - 1)) :: M)) : pTake [.raw (.ref s), .int n] ((s, .st g b) :: M) Φ := by
  refine ⟨s, g, b - 1, n, M, rfl, ?_, h0, h1, k⟩
  rw [Nat.sub_add_cancel hb]
/-- the state of a script -/
def pBegun (K : PySem.W.Frag) : DSp := fun ds M Φ => ∃ ns, ds = [.scr K ns] ∧ ns.length ≤ 63 ∧ ∀ s g, Φ (.raw (.ref s)) ((s, .st g 1000000000000) :: M)
def bigOnes (ns : List Int) : List Int := ns.filter fun n => decide (1000000000000000000 ≤ n)
def bigF : D → Option D
  | .int n => if 1000000000000000000 ≤ n then some (.int n) else none
  | _ => none
def modF : D → Option D
  | .int n => some (.int (n % 2147483629))
  | _ => none
theorem big_map (ns : List Int) : (ns.map D.int).filterMap bigF = (bigOnes ns).map D.int := by
  induction ns with
  | nil => rfl
  | cons n ns ih =>
    rw [List.map_cons, List.filterMap_cons]
    unfold bigOnes at ih ⊢
    rw [List.filter_cons]
    by_cases h : 1000000000000000000 ≤ n
    · simp only [bigF, h, if_true, decide_true, List.map_cons, ih]
    · simp only [bigF, h, if_false, decide_false, ih]; rfl
theorem rest_map (ns : List Int) : (ns.map D.int).filterMap modF = (ns.map fun n => n % 2147483629).map D.int := by
  induction ns with
  | nil => rfl
  | cons n ns ih => rw [List.map_cons, List.filterMap_cons]; simp only [modF, ih, List.map_cons]
theorem begun_ok (ns : List Int) (h : ns.length ≤ 63) : StOk 1000000000000 (bigOnes ns) 0 0 7 ((ns.map fun n => n % 2147483629) ++ [77]) := by
  refine ⟨fun x hx => ?_, by decide, by decide, by decide, by decide, by decide, fun x hx => ?_, by simp, by simp; omega⟩
  · have := of_decide_eq_true (List.mem_filter.mp hx).2
    omega
  · rcases List.mem_append.mp hx with hx | hx
    · obtain ⟨n, _, rfl⟩ := List.mem_map.mp hx
      exact ⟨Int.emod_nonneg _ (by decide), Int.emod_lt_of_pos _ (by decide)⟩
    · have : x = 77 := by simpa using hx
      subst this; decide
theorem c_begun {K : PySem.W.Frag} {ns : List Int} {M : Mem} {Φ : D → Mem → Prop} (h : ns.length ≤ 63) (k : ∀ s g, Φ (.raw (.ref s)) ((s, .st g 1000000000000) :: M)) : pBegun K [.scr K ns] M Φ := ⟨ns, rfl, h, k⟩
theorem at_sign {z : Str} {i : Int} (h0 : 0 ≤ i) (h1 : i < z.length) : ∃ c, atI z.cps.toList i = some c := by
  have hl : i.toNat < z.cps.toList.length := by
    have : z.length = z.cps.toList.length := by simp [Str.length]
    omega
  obtain ⟨j, rfl⟩ : ∃ j : Nat, i = (j : Int) := ⟨i.toNat, by omega⟩
  exact ⟨z.cps.toList[j], atI_nat (by simp [hl])⟩
end Hl
namespace Hl
open PySem L2
/-! ### calls with keywords -/
@[irreducible] def tKw (X : Cx) (kws : List Keyword) : TA := fun σ H Q => ∀ (pos : Pos) pins s, Inv X pins σ H s → wpAny (model X.prog X.w) X.A (evalAll ((backToKw pos (keywordEach kws X.env)).map (·.2))) (AP X pins σ Q) X.xe s
theorem cK {X : Cx} {kws : List Keyword} : PK X kws (tKw X kws) := ⟨fun pos pins s _ _ _ I h => by unfold tKw at h; exact h pos pins s I⟩
abbrev DK (B : Bx) (X : Cx) (kws : List Keyword) := WA B (tKw X kws)
structure DefK (P : Program) (w : World) (K : PySem.W.Frag) (mg : Str → Option Value) (base : Heap) (k : Nat) (x : Str) (ks ps : List Str) (pm : List Nat) (p : DSp) : Prop where
  ex : ∃ f fd, mg x = some (.ref f) ∧ PySem.W.keepIn K (.ref f) = true ∧ (∀ (s : Shared) (ws : List Value), ws.length = ks.length → BindsTo s fd ⟨[], ks.zip ws⟩ (ps.zip (pm.map fun j => ws.getD j .none))) ∧ (∀ j ∈ pm, j < ks.length) ∧ FnOk P w K mg base CX0 k f fd ps (lift p)
abbrev DefKX (X : Cx) := DefK X.prog X.w X.K X.mg X.base
section
variable {B : Bx} {X : Cx} {e a b c o : Expr} {es rest : List Expr} {st : Stmt} {sts : List Stmt} {δ δ' : Env'} {M : Mem} {Φ : D → Mem → Prop} {Ψ : DEnds} {te ta tb : TE} {tt : TT} {pos pos' apos kpos : Pos} {d x y : D} {ΦB : Bool → Mem → Prop} {ΦL : List D → Mem → Prop} {kws : List Keyword} {nm : Option Str}
theorem DK.of {t : TA} (h : PK X kws t) (w : WA B t δ M ΦL) : DK B X kws δ M ΦL := fun κ σ H Q hb R k => by unfold tKw; exact fun pos pins s I => h.run pos pins s σ H Q I (w κ σ H Q hb R k)
theorem dk_nil (k : ΦL [] M) : DK B X [] δ M ΦL := .of pk_nil fun κ σ H Q hb R h => h _ _ M H k R .nil
theorem dk_cons (h : DE B X a δ M fun x M1 => DK B X kws δ M1 fun xs M2 => ΦL (x :: xs) M2) : DK B X (⟨nm, a, kpos⟩ :: kws) δ M ΦL := .of (pk_cons cE cK) fun κ σ H Q hb R k =>
  h κ σ H _ hb R fun v x M1 H1 q1 R1 r1 => q1 ((v, x) :: κ) σ H1 _ (fun q hq => List.mem_cons_of_mem _ (hb q hq)) (R1.push r1) fun vs xs M2 H2 q2 R2 r2 => k _ _ _ _ q2 R2.pop (.cons R2.top r2)
theorem Reps.pick {F : List Addr} {H : Hp} {vs : List V} {ds : List D} (r : Reps F H vs ds) : ∀ (pm : List Nat), (∀ j ∈ pm, j < vs.length) → Reps F H (pm.map fun j => vs.getD j .non) (pm.map fun j => ds.getD j .non)
  | [], _ => .nil
  | j :: pm, h => by
    have hj := h j List.mem_cons_self
    obtain ⟨d, e1, r1⟩ := r.get (i := j) (v := vs[j]) (by simp [hj])
    refine .cons ?_ (r.pick pm fun i hi => h i (List.mem_cons_of_mem _ hi))
    have a1 : vs.getD j .non = vs[j] := by simp [List.getD, hj]
    have a2 : ds.getD j .non = d := by simp [List.getD, e1]
    dsimp only
    rw [a1, a2]; exact r1
theorem Vals.pick {vs : List V} {us : List Value} (r : Vals vs us) : ∀ (pm : List Nat), (∀ j ∈ pm, j < vs.length) → Vals (pm.map fun j => vs.getD j .non) (pm.map fun j => us.getD j .none)
  | [], _ => .nil
  | j :: pm, h => by
    have hj := h j List.mem_cons_self
    obtain ⟨u, e1, r1⟩ := Vals.get r (i := j) (x := vs[j]) (by simp [hj])
    refine .cons ?_ (Vals.pick r pm fun i hi => h i (List.mem_cons_of_mem _ hi))
    have a1 : vs.getD j .non = vs[j] := by simp [List.getD, hj]
    have a2 : us.getD j .none = u := by simp [List.getD, e1]
    dsimp only
    rw [a1, a2]; exact r1
theorem de_callK {k n : Nat} {x : Str} {ks ps : List Str} {pm : List Nat} {p : DSp} {pp : Pos} (z : Cz X n) (f : DefKX X k x ks ps pm p) (hk : k ≤ n) (hg : Gl X x) (h : DK B X kws δ M fun ds M' => ds.length = ks.length ∧ p (pm.map fun j => ds.getD j .non) M' Φ)
    (hall : (backToKw pos (keywordEach kws X.env)).all (·.1.isSome) = true := by rfl) (hks : (backToKw pos (keywordEach kws X.env)).filterMap (·.1) = ks := by rfl) (hdb : (x == ("__debug__" : Str)) = false := by decide)
    (hpl : ((backTo pos (starEach [] X.env)).any (·.1) || (backToKw pos (keywordEach kws X.env)).any (·.1.isNone)) = false := by rfl) : DE B X (.Call (.Name x pp) [] kws pos) δ M Φ := by
  obtain ⟨fa, fd, h1, h2, h3, h4, h5⟩ := f.ex
  refine .of (te := fun σ H Q => tKw X kws σ H fun zs H2 => zs.length = ks.length ∧ lift p (pm.map fun j => zs.getD j .non) H2 Q E0) ⟨fun pins s σ H Q I hq => ?_⟩ fun κ σ H Q hb R kk => h κ σ H _ hb R fun vs ds M1 H1 ⟨ql, q⟩ R1 r1 => ⟨by rw [r1.length]; exact ql, ?_⟩
  · refine wpAny_Call_Name_kw (ld_glob I hg h1 ?_ hdb)
    refine PySem.W.callWith_KW0 (h₀ := X.base) (first := []) I.ok.mod.kin h2 hall (thn (cK.run pos pins s σ H _ I hq) fun ws s2 ⟨zs, H2, I2, rz, l2, q2⟩ => ⟨I2.kIn, ?_⟩) hpl
    rw [hks]
    have r2 := Vals.pick rz pm (fun j hj => by rw [l2]; exact h4 j hj)
    refine wpAny_call (codeAny_mono (h5.run X.A X.stack s2 H2 ⟨[], ks.zip ws⟩ _ _ Q E0 (z.room.mono hk) I2.env0 (h3 s2 ws (rz.length.symm.trans l2)) r2 q2) fun r s' hq => ?_)
    cases r with
    | error e => exact hq.elim
    | ok fl =>
      cases fl with
      | ret u => exact I2.after hq
      | next => exact False.elim hq
      | brk => exact False.elim hq
      | cont => exact False.elim hq
  · refine ⟨κ ++ sk σ δ, _, M1, Φ, R1.pack, r1.pick pm (fun j hj => by rw [r1.length, ql]; exact h4 j hj), q, fun v d M2 H2 q2 R2 r2 => kk v d M2 H2 q2 (R1.unpack R2) r2⟩
/-! ### in, not in -/
def rInDc : R2 := fun x y H Q => ∃ (a : Addr) (o : Option V), y = .ref a ∧ DGet H a x o ∧ Q (.bl o.isSome) H
def rNotInDc : R2 := fun x y H Q => ∃ (a : Addr) (o : Option V), y = .ref a ∧ DGet H a x o ∧ Q (.bl (!o.isSome)) H
theorem op_in_dict (hu : X.A.units + 1 < cLine) : OpR X (compareOp .In) rInDc := by
  intro pins s σ H x y v u Q I rx ry h
  obtain ⟨a, o, rfl, g, q⟩ := h
  obtain rfl : u = Value.ref a := ry
  exact d_in hu I g rx fun s' I' => ⟨.bl _, H, I', rfl, q⟩
theorem op_notIn_dict (hu : X.A.units + 1 < cLine) : OpR X (compareOp .NotIn) rNotInDc := by
  intro pins s σ H x y v u Q I rx ry h
  obtain ⟨a, o, rfl, g, q⟩ := h
  obtain rfl : u = Value.ref a := ry
  exact d_notIn hu I g rx fun s' I' => ⟨.bl _, H, I', rfl, q⟩
def rInU (K : PySem.W.Frag) : R2 := fun x y H Q => (∃ (c : Nat) (z : Str), x = .str ⟨#[c]⟩ ∧ y = .str z ∧ Q (.bl (decide (c ∈ z.cps.toList))) H) ∨ (rIn K false x y H Q ∨ rInDc x y H Q)
def rNotInU (K : PySem.W.Frag) : R2 := fun x y H Q => (∃ (c : Nat) (z : Str), x = .str ⟨#[c]⟩ ∧ y = .str z ∧ Q (.bl (!decide (c ∈ z.cps.toList))) H) ∨ (rIn K true x y H Q ∨ rNotInDc x y H Q)
theorem de_in {n : Nat} (z : Cz X n) (h : DE B X a δ M fun x M1 => DE B X b δ M1 fun y M2 => OpD (rInU X.K) x y M2 Φ) (hm : behindInMarks .In b = false := by rfl) : DE B X (.Compare a [.In] [b] pos) δ M Φ := de_cmp (op_in_sign.or (op_in_seq.or (op_in_dict (un1 z)))) hm h
theorem de_notin {n : Nat} (z : Cz X n) (h : DE B X a δ M fun x M1 => DE B X b δ M1 fun y M2 => OpD (rNotInU X.K) x y M2 Φ) (hm : behindInMarks .NotIn b = false := by rfl) : DE B X (.Compare a [.NotIn] [b] pos) δ M Φ := de_cmp (op_notIn_sign.or (op_notIn_seq.or (op_notIn_dict (un1 z)))) hm h
theorem dt_in {n : Nat} (z : Cz X n) (h : DE B X a δ M fun x M1 => DE B X b δ M1 fun y M2 => OpD (rInU X.K) x y M2 (toB ΦB)) (hm : behindInMarks .In b = false := by rfl) : DT B X (.Compare a [.In] [b] pos) δ M ΦB := dt_cmp (op_in_sign.or (op_in_seq.or (op_in_dict (un1 z)))) hm h
theorem dt_notin {n : Nat} (z : Cz X n) (h : DE B X a δ M fun x M1 => DE B X b δ M1 fun y M2 => OpD (rNotInU X.K) x y M2 (toB ΦB)) (hm : behindInMarks .NotIn b = false := by rfl) : DT B X (.Compare a [.NotIn] [b] pos) δ M ΦB := dt_cmp (op_notIn_sign.or (op_notIn_seq.or (op_notIn_dict (un1 z)))) hm h
theorem od_inS {K : PySem.W.Frag} {c : Nat} {z : Str} (k : Φ (.bl (decide (c ∈ z.cps.toList))) M) : OpD (rInU K) (.str ⟨#[c]⟩) (.str z) M Φ := .inl fun κ δ σ H v w Q R rv rw' h => by
  cases rv; cases rw'
  exact ⟨c, z, rfl, rfl, h _ _ M H k R (.bl _)⟩
theorem od_notinS {K : PySem.W.Frag} {c : Nat} {z : Str} (k : Φ (.bl (!decide (c ∈ z.cps.toList))) M) : OpD (rNotInU K) (.str ⟨#[c]⟩) (.str z) M Φ := .inl fun κ δ σ H v w Q R rv rw' h => by
  cases rv; cases rw'
  exact ⟨c, z, rfl, rfl, h _ _ M H k R (.bl _)⟩
theorem de_gstr {x : Str} {z : Str} (g : Gc X x (.str z)) (k : Φ (.str z) M) : DE B X (.Name x pos) δ M Φ := de_glob g (fun _ _ => .str z) k
theorem de_gint {x : Str} {z : Int} (g : Gc X x (.int z)) (k : Φ (.int z) M) : DE B X (.Name x pos) δ M Φ := de_glob g (fun _ _ => .int z) k
/-! a op1 b op2 c -/
theorem de_chain {op op' : CmpOp} {r r' : R2} (ho : OpR X (compareOp op) r) (ho' : OpR X (compareOp op') r') (h : DE B X a δ M fun x M1 => DE B X b δ M1 fun y M2 => OpD r x y M2 (toB fun t M3 => Br t (DE B X c δ M3 fun w M4 => OpD r' y w M4 Φ) (Φ (.bl false) M3)))
    (hm : lastMarks [op, op'] [b, c] = false := by with_unfolding_all rfl) : DE B X (.Compare a [op, op'] [b, c] pos) δ M Φ := .of (pe_chain ho ho' cE cE cE hm) fun κ σ H Q hb R k =>
  h κ σ H _ hb R fun v x M1 H1 q1 R1 r1 => q1 ((v, x) :: κ) σ H1 _ (fun q hq => List.mem_cons_of_mem _ (hb q hq)) (R1.push r1) fun w y M2 H2 q2 R2 r2 =>
    q2 ((w, y) :: κ) δ σ H2 v w _ (R2.pop.push r2) R2.top r2 fun u du M3 H3 ⟨t, e, q3⟩ R3 r3 => by
      subst e; cases r3
      refine ⟨t, rfl, Br.ite ⟨fun e => ?_, fun e => k _ _ _ _ (q3.2 e) R3.pop (.bl _)⟩⟩
      exact q3.1 e ((w, y) :: κ) σ H3 _ (fun q hq => List.mem_cons_of_mem _ (hb q hq)) R3 fun w2 y2 M4 H4 q4 R4 r4 => q4 κ δ σ H4 w w2 Q R4.pop R4.top r4 k
theorem de_le2 (h : DE B X a δ M fun x M1 => DE B X b δ M1 fun y M2 => OpD rLeU x y M2 (toB fun t M3 => Br t (DE B X c δ M3 fun w M4 => OpD rLeU y w M4 Φ) (Φ (.bl false) M3))) (hm : lastMarks [.LtE, .LtE] [b, c] = false := by with_unfolding_all rfl) : DE B X (.Compare a [.LtE, .LtE] [b, c] pos) δ M Φ := de_chain op_le op_le h hm
/-- 1 <= x <= 9 of ints, the last one written -/
theorem de_le2C {l : Int} {j : Nat} {p1 : Pos} (h : DE B X a δ M fun x M1 => DE B X b δ M1 fun y M2 => ∃ i j, x = .int i ∧ y = .int j ∧ Φ (.bl (decide (i ≤ j) && decide (j ≤ l))) M2) (hm : lastMarks [.LtE, .LtE] [b, .Constant (.int l) j p1] = false := by with_unfolding_all rfl) :
    DE B X (.Compare a [.LtE, .LtE] [b, .Constant (.int l) j p1] pos) δ M Φ := de_le2 (h.mono fun x M1 h1 => h1.mono fun y M2 ⟨i, j, ex, ey, q⟩ => by
  subst ex ey
  refine od_le (toB.mk ⟨fun e => de_int (od_le ?_), fun e => ?_⟩)
  · rw [e] at q; exact q
  · rw [e] at q; exact q) hm
theorem ex_ii {i j : Int} {P : Int → Int → Prop} (h : P i j) : ∃ a b, D.int i = .int a ∧ D.int j = .int b ∧ P a b := ⟨i, j, rfl, rfl, h⟩
theorem ex_i {i : Int} {P : Int → Prop} (h : P i) : ∃ a, D.int i = .int a ∧ P a := ⟨i, rfl, h⟩
theorem ex_l {ds : List D} {P : List D → Prop} (h : P ds) : ∃ a, D.lst ds = .lst a ∧ P a := ⟨ds, rfl, h⟩
theorem ex_t {ds : List D} {P : List D → Prop} (h : P ds) : ∃ a, D.tup ds = .tup a ∧ P a := ⟨ds, rfl, h⟩
theorem ex_s {z : Str} {P : Str → Prop} (h : P z) : ∃ a, D.str z = .str a ∧ P a := ⟨z, rfl, h⟩
theorem ex_x {K : PySem.W.Frag} {ns : List Int} {P : List Int → Prop} (h : P ns) : ∃ a, D.scr K ns = .scr K a ∧ P a := ⟨ns, rfl, h⟩
theorem idK (h : DK B X kws δ M ΦL) : DK B X kws δ M ΦL := h
end
end Hl
namespace Hl
open PySem L2
section
variable {B : Bx} {X : Cx} {e a b c o : Expr} {es rest : List Expr} {st : Stmt} {sts : List Stmt} {δ δ' : Env'} {M : Mem} {Φ : D → Mem → Prop} {Ψ : DEnds} {te ta tb : TE} {tt : TT} {pos pos' apos kpos : Pos} {d x y : D} {ΦB : Bool → Mem → Prop} {ΦL : List D → Mem → Prop}
/-! ### typed lists -/
theorem range_get {lo : Int} {n i : Nat} {x : D} (h : (rangeD lo n)[i]? = some x) : i < n ∧ x = .int (lo + (i : Nat)) := by
  unfold rangeD at h
  have hi : i < n := by have := (List.getElem?_eq_some_iff.mp h).1; simpa using this
  rw [List.getElem?_map, List.getElem?_range hi] at h
  exact ⟨hi, (Option.some.inj h).symm⟩
theorem range_len {lo : Int} {n : Nat} : (rangeD lo n).length = n := by simp [rangeD]
theorem map_get {α : Type} {f : α → D} {l : List α} {i : Nat} {x : D} (h : (l.map f)[i]? = some x) : ∃ y, l[i]? = some y ∧ x = f y := by
  rw [List.getElem?_map] at h
  cases e : l[i]? with
  | none => rw [e] at h; cases h
  | some y => rw [e] at h; exact ⟨y, rfl, (Option.some.inj h).symm⟩
theorem enum_len {ds : List D} : (enumD ds).length = ds.length := by simp [enumD]
theorem at_map {α : Type} {f : α → D} {l : List α} {i : Int} (h0 : 0 ≤ i) (h1 : i < l.length) : ∃ y, l[i.toNat]? = some y ∧ atI (l.map f) i = some (f y) := by
  have hl : i.toNat < l.length := by omega
  refine ⟨l[i.toNat], by simp [hl], ?_⟩
  obtain ⟨j, rfl⟩ : ∃ j : Nat, i = (j : Int) := ⟨i.toNat, by omega⟩
  exact atI_nat (by rw [List.getElem?_map]; simp at hl ⊢; simp [hl])
theorem at_mapN {α : Type} {f : α → D} {l : List α} {j : Nat} {y : α} (h : l[j]? = some y) : atI (l.map f) (j : Int) = some (f y) := atI_nat (by rw [List.getElem?_map, h]; rfl)
theorem ixN_nat' {n j : Nat} (h : j < n) : ixN n (j : Int) = some j := by
  unfold ixN
  rw [if_pos (by omega), if_pos (by omega)]
  simp
/-! ### sorted -/
/-! ### sum, list -/
theorem de_sum {n : Nat} (z : Cz X n) {p : Pos} (g : Gn X "sum") (h : DA B X [a] δ M fun ds M1 => CallD (rSum X.K) ds M1 Φ) (he : starEach [a] X.env = (false, eval a X.env) :: starEach [] X.env := by rfl) (hpl : (backTo pos (starEach [] X.env)).any (·.1) = false := by rfl) : DE B X (.Call (.Name "sum" p) [a] [] pos) δ M Φ := de_blt (cr_sum z.calm) g PyProof.Rows.boot_sum h (by decide) (by decide) he hpl
theorem df_list {p : Pos} {ds : List D} (g : Gn X "list") (h : DE B X a δ M fun x M1 => ∃ ds, IsL M1 x ds ∧ ΦL ds M1) (he : starEach [a] X.env = (false, eval a X.env) :: starEach [] X.env := by rfl) (hpl : (backTo pos (starEach [] X.env)).any (·.1) = false := by rfl) : DF B X (.Call (.Name "list" p) [a] [] pos) δ M ΦL :=
  .of (pe_callTy call_list_of g.gl g.no PyProof.Rows.boot_list (pa_cons cE pa_nil he) (by decide) (by decide) he hpl) fun κ σ H Q hb R k => h κ σ H _ hb R fun v x M1 H1 ⟨ds, il, q⟩ R1 r1 => by
    obtain ⟨a, us, rfl, e1, rr⟩ := il.sq R1 r1
    exact ⟨a, us, rfl, .inl (SqL.of e1), fun l hl => k l ds M1 _ q (R1.lst rr hl)⟩
theorem de_list {p : Pos} (g : Gn X "list") (h : DE B X a δ M fun x M1 => ∃ ds, IsL M1 x ds ∧ Φ (.lst ds) M1) (he : starEach [a] X.env = (false, eval a X.env) :: starEach [] X.env := by rfl) (hpl : (backTo pos (starEach [] X.env)).any (·.1) = false := by rfl) : DE B X (.Call (.Name "list" p) [a] [] pos) δ M Φ := .f (df_list (ds := []) g h he hpl)
/-! isinstance of what is known -/
theorem isi_ii {K : PySem.W.Frag} {i : Int} (k : Φ (.bl true) M) : CallD (rIsi K) [.int i, .raw (.ty "int")] M Φ := cd_isi (S := "int") rfl (by decide +kernel) k
theorem isi_ib {K : PySem.W.Frag} {i : Int} (k : Φ (.bl false) M) : CallD (rIsi K) [.int i, .raw (.ty "bool")] M Φ := cd_isi (S := "int") rfl (by decide +kernel) k
theorem isi_bb {K : PySem.W.Frag} {i : Bool} (k : Φ (.bl true) M) : CallD (rIsi K) [.bl i, .raw (.ty "bool")] M Φ := cd_isi (S := "bool") rfl (by decide +kernel) k
theorem isi_bi {K : PySem.W.Frag} {i : Bool} (k : Φ (.bl true) M) : CallD (rIsi K) [.bl i, .raw (.ty "int")] M Φ := cd_isi (S := "bool") rfl (by decide +kernel) k
theorem isi_ll {K : PySem.W.Frag} {ds : List D} (k : Φ (.bl true) M) : CallD (rIsi K) [.lst ds, .raw (.ty "list")] M Φ := cd_isi (S := "list") rfl (by decide +kernel) k
theorem isi_tt {K : PySem.W.Frag} {ds : List D} (k : Φ (.bl true) M) : CallD (rIsi K) [.tup ds, .raw (.ty "tuple")] M Φ := cd_isi (S := "tuple") rfl (by decide +kernel) k
theorem isi_nb {K : PySem.W.Frag} (k : Φ (.bl false) M) : CallD (rIsi K) [.non, .raw (.ty "bool")] M Φ := cd_isi (S := "NoneType") rfl (by decide +kernel) k
theorem isi_ni {K : PySem.W.Frag} (k : Φ (.bl false) M) : CallD (rIsi K) [.non, .raw (.ty "int")] M Φ := cd_isi (S := "NoneType") rfl (by decide +kernel) k
theorem isi_nt {K : PySem.W.Frag} (k : Φ (.bl false) M) : CallD (rIsi K) [.non, .raw (.ty "tuple")] M Φ := cd_isi (S := "NoneType") rfl (by decide +kernel) k
/-! the same lists of pairs, triples -/
theorem len_and {xs : List D} {P : Prop} (h : xs.length ≤ sizeLine) (k : P) : xs.length ≤ sizeLine ∧ P := ⟨h, k⟩
/-- a comprehension over typed data without effects -/
theorem LcH.pureT {α β : Type} {scope : Scope} {elt : Expr} {ifs : List Expr} {own : List (Str × Nat)} {tk : Tk} {k : Nat} (l : List α) (f : α → D) (G : α → Option β) (g : β → D) (hl : l.length ≤ sizeLine)
    (h : ∀ (p : Addr) acc a, a ∈ l → ∃ δ2, bindK tk (f a) (wipeD δ (own.map (·.2))) = some δ2 ∧ Turn1 B X scope elt ifs δ2 (insM k (p, .lst acc) M) fun od M2 => od = (G a).map g ∧ M2 = insM k (p, .lst acc) M)
    (q : ΦL ((l.filterMap G).map g) M) : LcH k B X scope elt ifs own tk δ (l.map f) M ΦL := by
  refine ⟨fun i acc M1 => M1 = M ∧ acc = ((l.take i).filterMap G).map g ∧ acc.length ≤ i, ⟨rfl, rfl, Nat.le_refl _⟩, ?_, ?_⟩
  · rintro p i x acc M1 hx ⟨rfl, ha, hal⟩
    obtain ⟨a, ea, rfl⟩ := map_get hx
    have hi : i < l.length := (List.getElem?_eq_some_iff.mp ea).1
    obtain ⟨δ2, e1, tu⟩ := h p acc a (List.mem_of_getElem? ea)
    have fin : ∀ (od : Option D) M2, od = (G a).map g ∧ M2 = insM k (p, .lst acc) M1 → ∃ M3, M2 = insM k (p, .lst acc) M3 ∧ M3 = M1 ∧ acc ++ od.toList = ((l.take (i + 1)).filterMap G).map g ∧ (acc ++ od.toList).length ≤ i + 1 := by
      rintro od M2 ⟨rfl, rfl⟩
      refine ⟨M1, rfl, rfl, ?_, ?_⟩
      · rw [List.take_add_one, ea, List.filterMap_append, List.map_append, ← ha]
        cases e : G a <;> simp [e]
      · rw [List.length_append]
        cases G a <;> simp <;> omega
    refine ⟨by omega, δ2, e1, ?_⟩
    unfold Turn1 at tu ⊢
    match ifs, tu with
    | [], tu => exact fun X' bk => (tu X' bk).mono fun d M2 q => fin _ _ q
    | [c], tu => exact fun X' bk => (tu X' bk).mono fun t M2 q => ⟨fun e X2 bk2 => (q.1 e X2 bk2).mono fun d M3 q => fin _ _ q, fun e => fin _ _ (q.2 e)⟩
    | _ :: _ :: _, tu => exact tu.elim
  · rintro acc M1 ⟨rfl, rfl, _⟩
    rw [List.length_map, List.take_length]
    exact q
end
end Hl
namespace Hl
open PySem L2
open PyProof.Rows hiding St
/-! ### enumerate(tuple) -/
section
variable {B : Bx} {X : Cx} {e a b c o : Expr} {es rest : List Expr} {st : Stmt} {sts : List Stmt} {δ δ' : Env'} {M : Mem} {Φ : D → Mem → Prop} {Ψ : DEnds} {te ta tb : TE} {tt : TT} {pos pos' apos : Pos} {d x y : D} {ΦB : Bool → Mem → Prop} {ΦL : List D → Mem → Prop}
/-! ### in, not in, of lists of texts or numbers -/
/-! ### slices -/
def DPt (B : Bx) (X : Cx) : Option Expr → Env' → Mem → (Option Int → Mem → Prop) → Prop
  | none, _, M, Φ => Φ none M
  | some e, δ, M, Φ => DE B X e δ M fun d M' => ∃ i, d = .int i ∧ Φ (some i) M'
def cutD {α : Type} (xs : List α) (lo hi : Option Int) : List α := (xs.drop (HT.sIx xs.length 0 lo)).take (HT.sIx xs.length xs.length hi - HT.sIx xs.length 0 lo)
def SlD (x : D) (lo hi : Option Int) (M : Mem) (Φ : D → Mem → Prop) : Prop := (∃ z : Str, x = .str z ∧ z.length ≤ sizeLine ∧ Φ (.str (cutS z lo hi)) M) ∨ (∃ ds, IsL M x ds ∧ Φ (.lst (cutD ds lo hi)) M)
def rSlU (K : PySem.W.Frag) : V → Option Int → Option Int → Hp → VK → Prop := fun x lo hi H Q => rSlS x lo hi H Q ∨ rSlL K x lo hi H Q
theorem sl_U : SlR X (rSlU X.K) := sl_str.or sl_list
def tPt (X : Cx) : Option Expr → TO
  | none => tNoPart
  | some e => tPart (tE X e)
theorem po_pt : ∀ {e : Option Expr}, PO X e (tPt X e)
  | none => po_none
  | some e => po_some cE
theorem DPt.run {e : Option Expr} {Φ : Option Int → Mem → Prop} (h : DPt B X e δ M Φ) {κ : List (V × D)} {σ : St} {H : Hp} {Q : Option Int → Hp → Prop} (hb : ∀ q ∈ B.ps, q ∈ κ) (R : Rs κ δ M σ H) (k : ∀ o M' H', Φ o M' → Rs κ δ M' σ H' → Q o H') : tPt X e σ H Q := by
  cases e with
  | none => exact k none M H h R
  | some e =>
    refine h κ σ H _ hb R fun v d M' H' ⟨i, ed, q⟩ R' r' => ?_
    subst ed
    cases r'
    exact ⟨i, rfl, k _ _ _ q R'⟩
theorem Reps.cut {F : List Addr} {H : Hp} {vs : List V} {ds : List D} (r : Reps F H vs ds) (i : Nat) : Reps F H (vs.take i) (ds.take i) ∧ Reps F H (vs.drop i) (ds.drop i) := by
  induction i generalizing vs ds with
  | zero => exact ⟨by rw [List.take_zero, List.take_zero]; exact .nil, r⟩
  | succ i ih =>
    cases r with
    | nil => exact ⟨.nil, .nil⟩
    | cons r1 r2 => exact ⟨.cons r1 (ih r2).1, (ih r2).2⟩
theorem de_slice {lo hi : Option Expr} {p2 : Pos} (h : DE B X a δ M fun x M1 => DPt B X lo δ M1 fun l M2 => DPt B X hi δ M2 fun u M3 => SlD x l u M3 Φ) : DE B X (.Subscript a (.Slice lo hi none p2) pos) δ M Φ :=
  .of (pe_slice sl_U cE po_pt po_pt) fun κ σ H Q hb R k => h κ σ H _ hb R fun v x M1 H1 q1 R1 r1 =>
    q1.run (κ := (v, x) :: κ) (fun q hq => List.mem_cons_of_mem _ (hb q hq)) (R1.push r1) fun l M2 H2 q2 R2 =>
    q2.run (κ := (v, x) :: κ) (fun q hq => List.mem_cons_of_mem _ (hb q hq)) R2 fun u M3 H3 q3 R3 => by
      have rx := R3.top
      rcases q3 with ⟨z, rfl, hz, q⟩ | ⟨ds, il, q⟩
      · cases rx
        exact .inl ⟨z, rfl, hz, k _ _ _ _ q R3.pop (.str _)⟩
      · obtain ⟨p, us, rfl, e1, rr⟩ := il.sq R3.pop rx
        refine .inr ⟨p, us, rfl, SqL.of e1, fun p hp => ?_⟩
        have hc : Reps M3.F H3 (cutV us l u) (cutD ds l u) := by
          unfold cutV cutD
          rw [rr.length]
          exact (((Reps.cut rr _).2).cut _).1
        obtain ⟨R', r'⟩ := R3.pop.lstV hc hp
        exact k _ _ _ _ q R' r'
theorem SlD.str {z : Str} {l u : Option Int} (hz : z.length ≤ sizeLine) (k : Φ (.str (cutS z l u)) M) : SlD (.str z) l u M Φ := .inl ⟨z, rfl, hz, k⟩
theorem SlD.lst {ds : List D} {l u : Option Int} (h : IsL M x ds) (k : Φ (.lst (cutD ds l u)) M) : SlD x l u M Φ := .inr ⟨ds, h, k⟩
theorem DPt.no {Φ : Option Int → Mem → Prop} (k : Φ none M) : DPt B X none δ M Φ := k
theorem DPt.so {Φ : Option Int → Mem → Prop} (k : DE B X e δ M fun d M' => ∃ i, d = .int i ∧ Φ (some i) M') : DPt B X (some e) δ M Φ := k
/-! ### tuple(list) -/
theorem de_tuple {p : Pos} (g : Gn X "tuple") (h : DE B X a δ M fun x M1 => ∃ ds, IsL M1 x ds ∧ Φ (.tup ds) M1) (he : starEach [a] X.env = (false, eval a X.env) :: starEach [] X.env := by rfl) : DE B X (.Call (.Name "tuple" p) [a] [] pos) δ M Φ :=
  .of (pe_tupleOf g.gl g.no cE he) fun κ σ H Q hb R k => h κ σ H _ hb R fun v x M1 H1 ⟨ds, il, q⟩ R1 r1 => by
    obtain ⟨a, us, rfl, e1, rr⟩ := il.sq R1 r1
    refine .inl ⟨a, us, rfl, SqL.of e1, fun q' hq => ?_⟩
    obtain ⟨R', r'⟩ := R1.tupV rr hq
    exact k _ _ _ _ q R' r'
end
end Hl
namespace Hl
open PySem L2
open PyProof.Rows hiding St
/-! ### max(xs, default=d), min(xs), all(xs), sorted triples -/
def rMaxDef (K : PySem.W.Frag) : List V → List V → Hp → VK → Prop := fun vs zs H Q => ∃ (a : Addr) (ns : List Int) (d : Int), vs = [V.ref a] ∧ zs = [.int d] ∧ SqL K H a (ns.map V.int) ∧ (ns = [] → Q (.int d) H) ∧ ∀ m, m ∈ ns → (∀ y, y ∈ ns → y ≤ m) → Q (.int m) H
theorem foldmax (n : Int) (ns : List Int) : ns.foldl max n ∈ n :: ns ∧ ∀ y, y ∈ n :: ns → y ≤ ns.foldl max n := by
  induction ns generalizing n with
  | nil => exact ⟨List.mem_cons_self, fun y hy => by have : y = n := by simpa using hy
                                                     subst this; exact Int.le_refl _⟩
  | cons k ns ih =>
    obtain ⟨h1, h2⟩ := ih (max n k)
    rw [List.foldl_cons]
    refine ⟨?_, fun y hy => ?_⟩
    · rcases List.mem_cons.mp h1 with e | e
      · rw [e]
        rcases Int.le_total n k with q | q
        · rw [Int.max_eq_right q]; simp
        · rw [Int.max_eq_left q]; simp
      · exact List.mem_cons_of_mem _ (List.mem_cons_of_mem _ e)
    · have hm := h2 (max n k) List.mem_cons_self
      rcases List.mem_cons.mp hy with e | e
      · subst e; omega
      · rcases List.mem_cons.mp e with e | e
        · subst e; omega
        · exact h2 y (List.mem_cons_of_mem _ e)
theorem cr_maxDef {X : Cx} (hc : X.calm = true) (hu : X.A.units + 64 < cLine) : CallRK X (.builtin "max") [Str.ofString "default"] (rMaxDef X.K) := by
  intro pins s σ H vs zs us ws Q I r rz h
  obtain ⟨a, ns, d, rfl, rfl, hs, q0, q⟩ := h
  obtain ⟨its, rv, hl, _⟩ := I.list hs
  rw [Vals.ref1 r]
  cases rz with
  | cons r1 r2 =>
    cases r2
    obtain ⟨t, rfl⟩ := r1
    have hi := rv.ints
    have hr : ReadsAll s.heap its.toArray.toList (ns.map PyData.int) [] := by simpa using PySem.W.readsAll_of_ints hi
    have hd : PyData.depthAll (ns.map PyData.int) = 0 := by
      have : ∀ ns : List Int, PyData.depthAll (ns.map PyData.int) = 0 := fun ns => by
       induction ns with
       | nil => rfl
       | cons n ns ih => show max 0 _ = 0; rw [ih]; rfl
      exact this ns
    refine PySem.W.max_list_default (xs := ns.map PyData.int) (I.ok.hd hc) hl.isList hr ⟨fun x hx y hy => ?_, fun x hx => ?_⟩ (by rw [hd]; omega) (fun e h' tk hk => ?_) fun y ys i v h' tk bs e hv hrd hk => ?_
    · obtain ⟨n, _, rfl⟩ := List.mem_map.mp hx
      obtain ⟨m, _, rfl⟩ := List.mem_map.mp hy
      rfl
    · obtain ⟨n, _, rfl⟩ := List.mem_map.mp hx
      exact fun e => nomatch e
    · exact ⟨.int d, H, I.kept hk, ⟨_, rfl⟩, q0 (List.map_eq_nil_iff.mp e)⟩
    · cases ns with
      | nil => cases e
      | cons n ns =>
        rw [List.map_cons] at e
        cases e
        rw [PySem.W.maxD_ints] at hrd
        obtain ⟨h1, h2⟩ := foldmax n ns
        cases hrd
        exact ⟨.int _, H, I.kept hk, ⟨_, rfl⟩, q _ h1 h2⟩
section
variable {B : Bx} {X : Cx} {e a b c o : Expr} {es rest : List Expr} {st : Stmt} {sts : List Stmt} {δ δ' : Env'} {M : Mem} {Φ : D → Mem → Prop} {Ψ : DEnds} {te ta tb : TE} {tt : TT} {pos pos' apos kpos : Pos} {d x y : D} {ΦB : Bool → Mem → Prop} {ΦL : List D → Mem → Prop}
theorem de_maxDef {p : Pos} {n : Nat} {kws : List Keyword} (z : Cz X n) (g : Gn X "max") (h : DE B X a δ M fun x M1 => DK B X kws δ M1 fun ds M2 => ∃ ns d, IsL M2 x (ns.map .int) ∧ ds = [.int d] ∧ (ns = [] → Φ (.int d) M2) ∧ ∀ m, m ∈ ns → (∀ y, y ∈ ns → y ≤ m) → Φ (.int m) M2)
    (hu : X.A.units + 64 < cLine) (he : starEach [a] X.env = (false, eval a X.env) :: starEach [] X.env := by rfl) (he2 : backTo pos (starEach [a] X.env) = (false, eval a X.env) :: backTo pos (starEach [] X.env) := by rfl) (hpl : (backTo pos (starEach [a] X.env)).any (·.1) = false := by rfl)
    (hall : (backToKw pos (keywordEach kws X.env)).all (·.1.isSome) = true := by rfl) (hnone : (backToKw pos (keywordEach kws X.env)).any (·.1.isNone) = false := by rfl) (hks : (backToKw pos (keywordEach kws X.env)).filterMap (·.1) = [Str.ofString "default"] := by rfl) : DE B X (.Call (.Name "max" p) [a] kws pos) δ M Φ :=
  .of (pe_callBK (cr_maxDef z.calm hu) g.gl g.no boot_max (pa_cons cE pa_nil he) cK (by decide) (by decide) he2 hpl hall hnone hks) fun κ σ H Q hb R k => h κ σ H _ hb R fun v x M1 H1 q1 R1 r1 =>
    q1 ((v, x) :: κ) σ H1 _ (fun q hq => List.mem_cons_of_mem _ (hb q hq)) (R1.push r1) fun ws ds M2 H2 ⟨ns, d, il, ed, k0, k1⟩ R2 r2 => by
      subst ed
      obtain ⟨a, us, rfl, e1, rr⟩ := il.sq R2.pop R2.top
      have := rr.ints
      subst this
      cases r2 with
      | cons r2 r3 =>
        cases r3
        cases r2
        exact ⟨a, ns, d, rfl, rfl, SqL.of e1, fun e => k _ _ _ _ (k0 e) R2.pop (.int _), fun m h1 h2 => k _ _ _ _ (k1 m h1 h2) R2.pop (.int _)⟩
theorem de_minL {n : Nat} (z : Cz X n) {p : Pos} (g : Gn X "min") (h : DA B X [a] δ M fun ds M1 => CallD (rMin X.K) ds M1 Φ) (he : starEach [a] X.env = (false, eval a X.env) :: starEach [] X.env := by rfl) (hpl : (backTo pos (starEach [] X.env)).any (·.1) = false := by rfl) : DE B X (.Call (.Name "min" p) [a] [] pos) δ M Φ := de_blt (cr_min z.calm) g boot_min h (by decide) (by decide) he hpl
theorem de_maxL {n : Nat} (z : Cz X n) {p : Pos} (g : Gn X "max") (h : DA B X [a] δ M fun ds M1 => CallD (rMax X.K) ds M1 Φ) (he : starEach [a] X.env = (false, eval a X.env) :: starEach [] X.env := by rfl) (hpl : (backTo pos (starEach [] X.env)).any (·.1) = false := by rfl) : DE B X (.Call (.Name "max" p) [a] [] pos) δ M Φ := de_blt (cr_max z.calm) g boot_max h (by decide) (by decide) he hpl
theorem de_all {n : Nat} (z : Cz X n) {p : Pos} (g : Gn X "all") (h : DA B X [a] δ M fun ds M1 => CallD (rAll X.K) ds M1 Φ) (he : starEach [a] X.env = (false, eval a X.env) :: starEach [] X.env := by rfl) (hpl : (backTo pos (starEach [] X.env)).any (·.1) = false := by rfl) : DE B X (.Call (.Name "all" p) [a] [] pos) δ M Φ := de_blt (cr_all z.calm) g boot_all h (by decide) (by decide) he hpl
end
end Hl
namespace Hl
open PySem PySem.Spec L2
open PyProof.Rows hiding St
/-! ### sorted(set(xs)), xs a list of ints -/
def rSetL (K : PySem.W.Frag) (w : World) : List V → Hp → VK → Prop := fun xs H Q => ∃ (l : Addr) (ns : List Int), xs = [V.ref l] ∧ SqL K H l (ns.map V.int) ∧ ns.length ≤ 1000 ∧ ∀ p c, H p = none → c ≤ ns.length → Q (.ref p) (upd H p (SetO w p (fun j => decide (j ∈ ns)) c))
end Hl
namespace Hl
open PySem L2
open PyProof.Rows hiding St
/-! ### exceptions in the air, by data -/
def XRep (F : List Addr) (H : Hp) (dx : Option Addr) (ns : List Str) (ds : List D) : Prop :=
  (dx = none ∧ ns = [] ∧ ds = []) ∨ ∃ d vs, dx = some d ∧ d ∉ F ∧ H d = some (.xd (ns.zip vs)) ∧ ns.length = vs.length ∧ Reps F H vs ds
theorem XRep.fwd {F F' : List Addr} {H H' : Hp} {dx : Option Addr} {ns : List Str} {ds : List D} (h : XRep F H dx ns ds) (k : Fwd F H F' H') : XRep F' H' dx ns ds := by
  rcases h with h | ⟨d, vs, e, hn, hd, hl, r⟩
  · exact .inl h
  · exact .inr ⟨d, vs, e, (k _ _ hn hd (fun _ z => nomatch z)).1, (k _ _ hn hd (fun _ z => nomatch z)).2, hl, r.fwd k⟩
theorem XRep.held {F : List Addr} {H : Hp} {dx : Option Addr} {ns : List Str} {ds : List D} {a C : Addr} (h : XRep F H dx ns ds) (hn : a ∉ F) (hf : H a = none) : Rep F (upd H a (XO (.ref C) dx a)) (.ref a) (.exn C ns ds) := by
  rcases h with ⟨rfl, rfl, rfl⟩ | ⟨d, vs, rfl, hd, e, hl, r⟩
  · exact .exn0 hn upd_same
  · exact .exn hn upd_same hd (by rw [upd_ne (ne_of_none e hf)]; exact e) hl (r.fwd (Fwd.new hf))
/-- what is wished of an exception, by data -/
def wishX (B : Bx) : WX := fun cls dx σ H => ∃ C ns ds δ M κ, cls = .ref C ∧ B.ex C ns ds δ M ∧ (∀ q ∈ B.ps, q ∈ κ) ∧ Rs κ δ M σ H ∧ XRep M.F H dx ns ds
def Tks (X : Cx) (B : Bx) : Prop := Takes X (wishX B)
abbrev XPost := Addr → List Str → List D → Mem → Prop
abbrev DSpE := List D → Mem → (D → Mem → Prop) → XPost → Prop
def noX : XPost := fun _ _ _ _ => False
def liftE (p : DSpE) : Sp := fun vs H Q E => ∃ κ ds M Φ Ξ, Rs κ [] M [] H ∧ Reps M.F H vs ds ∧ p ds M Φ Ξ ∧ (∀ v d M' H', Φ d M' → Rs κ [] M' [] H' → Rep M'.F H' v d → Q v H') ∧
  ∀ C ns es M' H' dx, Ξ C ns es M' → Rs κ [] M' [] H' → XRep M'.F H' dx ns es → E (.ref C) dx H'
/-! ### arguments: by place, by keyword, defaults -/
def DVal : D → Value → Prop
  | .non, u => u = .none
  | .bl b, u => u = .bool b
  | .int i, u => ∃ t, u = .int i t
  | .str z, u => ∃ t, u = .str z t
  | _, _ => False
def dV : D → V
  | .bl b => .bl b
  | .int i => .int i
  | .str z => .str z
  | _ => .non
theorem dval_rel {d : D} {u : Value} (h : DVal d u) : RelV (dV d) u := by
  cases d <;> first | exact h | exact h.elim
theorem dval_rep {d : D} {u : Value} (h : DVal d u) (F : List Addr) (H : Hp) : Rep F H (dV d) d := by
  cases d <;> first | exact .non | exact .bl _ | exact .int _ | exact .str _ | exact h.elim
abbrev Sel := List (Nat ⊕ D)
def selD (sel : Sel) (ds : List D) : List D := sel.map fun | .inl j => ds.getD j .non | .inr d => d
def selV (sel : Sel) (vs : List V) : List V := sel.map fun | .inl j => vs.getD j .non | .inr d => dV d
inductive SelOk (us : List Value) : Sel → List Value → Prop
  | nil : SelOk us [] []
  | at {j : Nat} {u : Value} {sel : Sel} {all : List Value} : us[j]? = some u → SelOk us sel all → SelOk us (.inl j :: sel) (u :: all)
  | dflt {d : D} {u : Value} {sel : Sel} {all : List Value} : DVal d u → SelOk us sel all → SelOk us (.inr d :: sel) (u :: all)
theorem SelOk.vals {vs : List V} {us : List Value} (r : Vals vs us) : ∀ {sel : Sel} {all : List Value}, SelOk us sel all → Vals (selV sel vs) all
  | _, _, .nil => .nil
  | _, _, .at (j := j) e t => by
    refine .cons ?_ (SelOk.vals r t)
    have hj : j < us.length := (List.getElem?_eq_some_iff.mp e).1
    have hv : j < vs.length := by rw [r.length]; exact hj
    obtain ⟨u', e1, r1⟩ := Vals.get r (i := j) (x := vs[j]) (by simp [hv])
    rw [e] at e1
    cases e1
    have a1 : vs.getD j .non = vs[j] := by simp [List.getD, hv]
    show RelV (vs.getD j .non) _
    rw [a1]; exact r1
  | _, _, .dflt h t => .cons (dval_rel h) (SelOk.vals r t)
theorem SelOk.reps {us : List Value} {vs : List V} {ds : List D} {F : List Addr} {H : Hp} (hl : vs.length = us.length) (r : Reps F H vs ds) : ∀ {sel : Sel} {all : List Value}, SelOk us sel all → Reps F H (selV sel vs) (selD sel ds)
  | _, _, .nil => .nil
  | _, _, .at (j := j) e t => by
    refine .cons ?_ (SelOk.reps hl r t)
    have hj : j < us.length := (List.getElem?_eq_some_iff.mp e).1
    have hv : j < vs.length := by omega
    obtain ⟨d, e1, r1⟩ := r.get (i := j) (v := vs[j]) (by simp [hv])
    have a1 : vs.getD j .non = vs[j] := by simp [List.getD, hv]
    have a2 : ds.getD j .non = d := by simp [List.getD, e1]
    show Rep F H (vs.getD j .non) (ds.getD j .non)
    rw [a1, a2]; exact r1
  | _, _, .dflt h t => .cons (dval_rep h F H) (SelOk.reps hl r t)
/-- how a call with n arguments by place and the keywords ks binds the parameters ps -/
structure CallB (K : PySem.W.Frag) (fd : FuncData) (ps : List Str) (n : Nat) (ks : List Str) (sel : Sel) : Prop where
  to : ∀ (s : Shared) (us ws : List Value), K.In s.heap → us.length = n → ws.length = ks.length → ∃ all, SelOk (us ++ ws) sel all ∧ BindsTo s fd ⟨us, ks.zip ws⟩ (ps.zip all)
/-- a def, its promise, a way to call it -/
structure FnD (P : Program) (w : World) (K : PySem.W.Frag) (mg : Str → Option Value) (base : Heap) (k : Nat) (f : Addr) (n : Nat) (ks : List Str) (sel : Sel) (p : DSpE) : Prop where
  ex : ∃ fd ps, CallB K fd ps n ks sel ∧ FnOk P w K mg base (L2.CX P w) k f fd ps (liftE p)
structure DefE (P : Program) (w : World) (K : PySem.W.Frag) (mg : Str → Option Value) (base : Heap) (k : Nat) (x : Str) (n : Nat) (ks : List Str) (sel : Sel) (p : DSpE) : Prop where
  ex : ∃ f, mg x = some (.ref f) ∧ PySem.W.keepIn K (.ref f) = true ∧ FnD P w K mg base k f n ks sel p
structure MethE (P : Program) (w : World) (K : PySem.W.Frag) (mg : Str → Option Value) (base : Heap) (k : Nat) (C : Addr) (m : Str) (n : Nat) (ks : List Str) (sel : Sel) (p : DSpE) : Prop where
  ex : ∃ f, Cls K C ∧ Meth K C m f ∧ FnD P w K mg base k f (n + 1) ks sel p
structure MakeE (P : Program) (w : World) (K : PySem.W.Frag) (mg : Str → Option Value) (base : Heap) (k : Nat) (x : Str) (C : Addr) (n : Nat) (ks : List Str) (sel : Sel) (p : DSpE) : Prop where
  ex : ∃ f, mg x = some (.ref C) ∧ Mk K C f ∧ FnD P w K mg base k f (n + 1) ks sel p
abbrev DefEX (X : Cx) := DefE X.prog X.w X.K X.mg X.base
abbrev MethEX (X : Cx) := MethE X.prog X.w X.K X.mg X.base
abbrev MakeEX (X : Cx) := MakeE X.prog X.w X.K X.mg X.base
section
variable {X : Cx} {k n : Nat} {f : Addr} {ks : List Str} {sel : Sel} {p : DSpE} {pins : List (Addr × Obj)} {σ : St} {H : Hp} {s : Shared} {Q : VK} {E : XK} {us ws : List Value} {vs zs : List V}
theorem run_E (F : FnD X.prog X.w X.K X.mg X.base k f n ks sel p) (hr : Room k X.A) (hx : PassesAt (L2.CX X.prog X.w) X σ E) (I : Inv X pins σ H s) (r : Vals vs us) (rz : Vals zs ws) (h1 : vs.length = n) (h2 : zs.length = ks.length)
    (h : ∀ us all, Vals (vs ++ zs) us → SelOk us sel all → liftE p (selV sel (vs ++ zs)) H Q E) : wpAny (model X.prog X.w) X.A (call (.ref f) us (ks.zip ws)) (EP X pins σ Q) X.xe s := by
  obtain ⟨fd, ps, cb, F⟩ := F.ex
  obtain ⟨all, so, b⟩ := cb.to s us ws I.kIn (by rw [← r.length]; exact h1) (by rw [← rz.length]; exact h2)
  have r2 := so.vals (r.append rz)
  have hq := h _ all (r.append rz) so
  refine wpAny_call (codeAny_mono (F.run X.A X.stack s H ⟨us, ks.zip ws⟩ all _ Q E hr I.env0 b r2 hq) fun r s' hq => ?_)
  cases r with
  | error e => exact hx pins H s e s' I hq
  | ok fl =>
    cases fl with
    | ret u => exact I.after hq
    | next => exact False.elim hq
    | brk => exact False.elim hq
    | cont => exact False.elim hq
theorem run_makeE {C : Addr} (Mk_ : Mk X.K C f) (F : FnD X.prog X.w X.K X.mg X.base k f (n + 1) ks sel p) (hr : Room (k + 1) X.A) (hx : PassesAt (L2.CX X.prog X.w) X σ E) (I : Inv X pins σ H s) (r : Vals vs us) (rz : Vals zs ws) (h1 : vs.length = n) (h2 : zs.length = ks.length)
    (h : ∀ x dx, H x = none → H dx = none → dx ≠ x → ∀ us all, Vals (.ref x :: vs ++ zs) us → SelOk us sel all → liftE p (selV sel (.ref x :: vs ++ zs)) (upd (upd H dx (.own x)) x (.ins C dx [])) (fun v H2 => v = .non ∧ Q (.ref x) H2) E) :
    wpAny (model X.prog X.w) X.A (call (.ref C) us (ks.zip ws)) (EP X pins σ Q) X.xe s := by
  obtain ⟨fd, ps, cb, F⟩ := F.ex
  have I2 := Inv.made (C := C) I
  obtain ⟨all, so, b⟩ := cb.to _ (.ref (s.heap.objs.size + 1) :: us) ws I2.kIn (by rw [List.length_cons, ← r.length, h1]) (by rw [← rz.length]; exact h2)
  have r1 : Vals (V.ref (s.heap.objs.size + 1) :: vs ++ zs) (Value.ref (s.heap.objs.size + 1) :: us ++ ws) := .cons rfl (r.append rz)
  have r2 := so.vals r1
  have hq := h (s.heap.objs.size + 1) s.heap.objs.size (I.hok.fresh (Nat.le_succ _)) (I.hok.fresh (Nat.le_refl _)) (Nat.ne_of_lt (Nat.lt_succ_self _)) _ all r1 so
  refine wpAny_call (make_map (f := f) I.kIn Mk_.makes Mk_.init (beq_iff_eq.mp Mk_.fn) (codeAny_mono (F.run _ X.stack _ _ ⟨Value.ref (s.heap.objs.size + 1) :: us, ks.zip ws⟩ all _ _ E (hr.make C us (ks.zip ws))
    (I2.env0.make C us (ks.zip ws)) b r2 hq) fun r s' hq' => ?_))
  cases r with
  | error e => exact hx pins _ _ e s' I2 hq'
  | ok fl =>
    cases fl with
    | ret u =>
      obtain ⟨v, H', I3, rv, ev, q3⟩ := I2.after hq'
      subst ev
      exact ⟨rv, ⟨V.ref (s.heap.objs.size + 1), H', I3, rfl, q3⟩⟩
    | next => exact False.elim hq'
    | brk => exact False.elim hq'
    | cont => exact False.elim hq'
end
end Hl
namespace Hl
open PySem L2
open PyProof.Rows hiding St
/-! ### the arguments of a call -/
def DAK (B : Bx) (X : Cx) : List Expr → List Keyword → Env' → Mem → (List D → List D → Mem → Prop) → Prop
  | [], [], _, M, Φ => Φ [] [] M
  | e :: es, [], δ, M, Φ => DA B X (e :: es) δ M fun ds M1 => Φ ds [] M1
  | [], k :: kws, δ, M, Φ => DK B X (k :: kws) δ M fun zs M1 => Φ [] zs M1
  | e :: es, k :: kws, δ, M, Φ => DA B X (e :: es) δ M fun ds M1 => DK B X (k :: kws) δ M1 fun zs M2 => Φ ds zs M2
def PlA (X : Cx) (pos : Pos) : List Expr → List Keyword → List Str → Prop
  | [], [], ks => ks = []
  | e :: es, [], ks => ks = [] ∧ starEach (e :: es) X.env = (false, eval e X.env) :: starEach es X.env ∧ (backTo pos (starEach es X.env)).any (·.1) = false
  | [], k :: kws, ks => (backToKw pos (keywordEach (k :: kws) X.env)).filterMap (·.1) = ks ∧ (backToKw pos (keywordEach (k :: kws) X.env)).all (·.1.isSome) = true ∧ ((backTo pos (starEach [] X.env)).any (·.1) || (backToKw pos (keywordEach (k :: kws) X.env)).any (·.1.isNone)) = false
  | e :: es, k :: kws, ks => (backToKw pos (keywordEach (k :: kws) X.env)).filterMap (·.1) = ks ∧ (backToKw pos (keywordEach (k :: kws) X.env)).all (·.1.isSome) = true ∧ ((backTo pos (starEach (e :: es) X.env)).any (·.1) || (backToKw pos (keywordEach (k :: kws) X.env)).any (·.1.isNone)) = false ∧
      starEach (e :: es) X.env = (false, eval e X.env) :: starEach es X.env
section
variable {B : Bx} {X : Cx} {e a b c o : Expr} {es rest : List Expr} {kw : Keyword} {kws : List Keyword} {st : Stmt} {sts : List Stmt} {δ δ' : Env'} {M : Mem} {Φ : D → Mem → Prop} {Ψ : DEnds} {pos pos' apos pp : Pos} {d x y : D} {ΦA : List D → List D → Mem → Prop}
theorem dak_nn (h : ΦA [] [] M) : DAK B X [] [] δ M ΦA := h
theorem dak_en (h : DA B X (e :: es) δ M fun ds M1 => ΦA ds [] M1) : DAK B X (e :: es) [] δ M ΦA := h
theorem dak_nk (h : DK B X (kw :: kws) δ M fun zs M1 => ΦA [] zs M1) : DAK B X [] (kw :: kws) δ M ΦA := h
theorem dak_ek (h : DA B X (e :: es) δ M fun ds M1 => DK B X (kw :: kws) δ M1 fun zs M2 => ΦA ds zs M2) : DAK B X (e :: es) (kw :: kws) δ M ΦA := h
/-- the held values -/
theorem held {κ : List (V × D)} {vs : List V} {ds : List D} {δ : Env'} {M : Mem} {σ : St} {H : Hp} : Reps M.F H vs ds → Rs κ δ M σ H → ∃ κ', (∀ q ∈ κ, q ∈ κ') ∧ Rs κ' δ M σ H ∧ ∀ {δ' : Env'} {M' : Mem} {σ' : St} {H' : Hp}, Rs κ' δ' M' σ' H' → Reps M'.F H' vs ds := by
  induction vs generalizing ds with
  | nil => intro r R; cases r; exact ⟨κ, fun _ h => h, R, fun _ => .nil⟩
  | cons v vs ih =>
    intro r R
    cases r with
    | cons r1 r2 =>
      obtain ⟨κ', h1, R', h2⟩ := ih r2 R
      rename_i d ds
      exact ⟨(v, d) :: κ', fun q hq => List.mem_cons_of_mem _ (h1 q hq), R'.push r1, fun R => .cons R.top (h2 R.pop)⟩
theorem dak_run {ks : List Str} {f : Value} {first : List Value} {pins : List (Addr × Obj)} {s : Shared} {κ : List (V × D)} {σ : St} {H : Hp} {Rq : Value → Shared → Prop} (hk : PySem.W.keepIn X.K f = true) (pl : PlA X pos es kws ks) (h : DAK B X es kws δ M ΦA) (I : Inv X pins σ H s)
    (hb : ∀ q ∈ B.ps, q ∈ κ) (R : Rs κ δ M σ H)
    (q : ∀ us ws s2 vs zs ds es M2 H2, Inv X pins σ H2 s2 → Vals vs us → Vals zs ws → ΦA ds es M2 → Rs κ δ M2 σ H2 → Reps M2.F H2 vs ds → Reps M2.F H2 zs es → wpAny (model X.prog X.w) X.A (call f (first ++ us) (ks.zip ws)) Rq X.xe s2) :
    wpAny (model X.prog X.w) X.A (callWith pos f first (backTo pos (starEach es X.env)) (backToKw pos (keywordEach kws X.env))) Rq X.xe s := by
  match es, kws, pl, h with
  | [], [], pl, h =>
    have pl : ks = [] := pl
    subst pl
    exact PySem.W.callWith_K0 I.kIn hk (q [] [] s [] [] [] [] M H I .nil .nil h R .nil .nil)
  | e :: es, [], ⟨e1, e2, e3⟩, h =>
    subst e1
    refine PySem.W.callWith_K (h₀ := X.base) I.ok.mod.kin hk (thn ((cA (X := X) (es := e :: es)).run pos pins s σ H (fun vs H1 => ∃ ds M1, ΦA ds [] M1 ∧ Rs κ δ M1 σ H1 ∧ Reps M1.F H1 vs ds) I (h κ σ H _ hb R fun vs ds M1 H1 q1 R1 r1 => ⟨ds, M1, q1, R1, r1⟩)) fun us s1 ⟨vs, H1, I1, r, ds, M1, q1, R1, r1⟩ => ⟨I1.kIn, ?_⟩) e2 e3
    exact q us [] s1 vs [] ds [] M1 H1 I1 r .nil q1 R1 r1 .nil
  | [], k :: kws, ⟨e1, e2, e3⟩, h =>
    refine PySem.W.callWith_KW0 (h₀ := X.base) I.ok.mod.kin hk e2 (thn ((cK (X := X) (kws := k :: kws)).run pos pins s σ H (fun vs H1 => ∃ ds M1, ΦA [] ds M1 ∧ Rs κ δ M1 σ H1 ∧ Reps M1.F H1 vs ds) I (h κ σ H _ hb R fun vs ds M1 H1 q1 R1 r1 => ⟨ds, M1, q1, R1, r1⟩)) fun ws s1 ⟨zs, H1, I1, r, ds, M1, q1, R1, r1⟩ => ⟨I1.kIn, ?_⟩) e3
    rw [e1]
    exact q [] ws s1 [] zs [] ds M1 H1 I1 .nil r q1 R1 .nil r1
  | e :: es, k :: kws, ⟨e1, e2, e3, e4⟩, h =>
    refine PySem.W.callWith_KW (h₀ := X.base) I.ok.mod.kin hk e2 (thn ((cA (X := X) (es := e :: es)).run pos pins s σ H (fun vs H1 => ∃ ds M1, (DK B X (k :: kws) δ M1 fun zs M2 => ΦA ds zs M2) ∧ Rs κ δ M1 σ H1 ∧ Reps M1.F H1 vs ds) I (h κ σ H _ hb R fun vs ds M1 H1 q1 R1 r1 => ⟨ds, M1, q1, R1, r1⟩)) fun us s1 ⟨vs, H1, I1, r, ds, M1, q1, R1, r1⟩ => ?_) e3 e4
    obtain ⟨κ', k1, R2, k2⟩ := held r1 R1
    refine thn ((cK (X := X) (kws := k :: kws)).run pos pins s1 σ H1 (fun zs H2 => ∃ es M2, ΦA ds es M2 ∧ Rs κ' δ M2 σ H2 ∧ Reps M2.F H2 zs es) I1 (q1 κ' σ H1 _ (fun q hq => k1 q (hb q hq)) R2 fun zs es M2 H2 q2 R3 r3 => ⟨es, M2, q2, R3, r3⟩)) fun ws s2 ⟨zs, H2, I2, rz, es, M2, q2, R3, r3⟩ => ⟨I2.kIn, ?_⟩
    rw [e1]
    exact q us ws s2 vs zs ds es M2 H2 I2 r rz q2 (R3.sub k1) (k2 R3) r3
/-! ### calls of defs that may raise -/
theorem liftE_of {p : DSpE} {sel : Sel} {κ : List (V × D)} {σ : St} {H : Hp} {Q : VK} {vs : List V} {ds us} {all} {Ξ : XPost} {E : XK} (so : SelOk us sel all) (hl : vs.length = us.length) (R : Rs κ δ M σ H) (r : Reps M.F H vs ds) (q : p (selD sel ds) M Φ Ξ)
    (k : ∀ v d M' H', Φ d M' → Rs κ δ M' σ H' → Rep M'.F H' v d → Q v H') (kx : ∀ C ns es M' H' dx, Ξ C ns es M' → Rs κ δ M' σ H' → XRep M'.F H' dx ns es → E (.ref C) dx H') : liftE p (selV sel vs) H Q E :=
  ⟨κ ++ sk σ δ, _, M, Φ, Ξ, R.pack, so.reps hl r, q, fun v d M' H' q' R' r' => k v d M' H' q' (R.unpack R') r', fun C ns es M' H' dx q' R' x => kx C ns es M' H' dx q' (R.unpack R') x⟩
/-- what the def may raise here is wished for -/
def atX (B : Bx) (δ : Env') : XPost := fun C ns ds M => B.ex C ns ds δ M
structure Lets (X : Cx) (B : Bx) (δ : Env') (Ξ : XPost) : Prop where
  ex : ∃ W, Takes X W ∧ ∀ κ σ C ns es M' H' dx, (∀ q ∈ B.ps, q ∈ κ) → Ξ C ns es M' → Rs κ δ M' σ H' → XRep M'.F H' dx ns es → W (.ref C) dx σ H'
theorem lets_at (tk : Tks X B) : Lets X B δ (atX B δ) := ⟨wishX B, tk, fun κ σ C ns es M' H' dx hb e R x => ⟨C, ns, es, δ, M', κ, rfl, e, hb, R, x⟩⟩
theorem lets_no : Lets X B δ noX := ⟨fun _ _ _ _ => False, takes0, fun _ _ _ _ _ _ _ _ _ e _ _ => e⟩
variable {k n m : Nat} {x : Str} {ks : List Str} {sel : Sel} {p : DSpE} {Ξ : XPost} {C : Addr}
theorem de_fE (z : Cz X m) (f : DefEX X k x n ks sel p) (hk : k ≤ m) (hg : Gl X x) (lt : Lets X B δ Ξ)
    (h : DAK B X es kws δ M fun ds zs M' => ds.length = n ∧ zs.length = ks.length ∧ p (selD sel (ds ++ zs)) M' Φ Ξ) (pl : PlA X pos es kws ks) (hdb : (x == ("__debug__" : Str)) = false := by decide) : DE B X (.Call (.Name x pp) es kws pos) δ M Φ := by
  obtain ⟨fa, h1, h2, h3⟩ := f.ex
  obtain ⟨W, tk, hx⟩ := lt
  intro κ σ H Q hb R kk
  unfold tE
  intro pins s I
  refine wpAny_Call_Name_kw (ld_glob I hg h1 ?_ hdb)
  refine dak_run (first := []) h2 pl h I hb R fun us ws s2 vs zs ds es M2 H2 I2 rv rz ⟨l1, l2, q⟩ R2 r1 r2 => ?_
  refine run_E h3 (z.room.mono hk) (passAt tk σ) I2 rv rz (by rw [r1.length]; exact l1) (by rw [r2.length]; exact l2) fun us' all rr so => ?_
  exact liftE_of so rr.length R2 (r1.append r2) q kk fun C ns es M' H' dx e R' x => hx κ σ C ns es M' H' dx hb e R' x
/-- an instance, by data or as a cell -/
inductive IsO (M : Mem) : D → Addr → List Str → List D → Prop
  | val (C : Addr) (ns : List Str) (ds : List D) : IsO M (.obj C ns ds) C ns ds
  | cell {p C : Addr} {ns : List Str} {ds : List D} (j : Nat) (h : M[j]? = some (p, .obj C ns ds)) : IsO M (.raw (.ref p)) C ns ds
  | inm {p C : Addr} {ns : List Str} {ds : List D} (h : InM M p (.obj C ns ds)) : IsO M (.raw (.ref p)) C ns ds
theorem IsO.sq {κ : List (V × D)} {σ : St} {H : Hp} {v : V} {x : D} {C : Addr} {ns : List Str} {ds : List D} (h : IsO M x C ns ds) (R : Rs κ δ M σ H) (r : Rep M.F H v x) : ∃ p dx vs, v = .ref p ∧ H p = some (.ins C dx (ns.zip vs)) ∧ ns.length = vs.length ∧ Reps M.F H vs ds := by
  cases h with
  | val C ns ds => cases r with | obj h1 e1 l1 r1 => exact ⟨_, _, _, rfl, e1, l1, r1⟩
  | cell j h =>
    cases r
    obtain ⟨dx, vs, e1, l1, r1⟩ := R.at h
    exact ⟨_, dx, vs, rfl, e1, l1, r1⟩
  | inm h =>
    cases r
    obtain ⟨dx, vs, e1, l1, r1⟩ := h.ok R
    exact ⟨_, dx, vs, rfl, e1, l1, r1⟩
theorem lookup_zip {β : Type} {f : Str} : ∀ {ns : List Str} {vs : List β}, ns.contains f = false → (ns.zip vs).lookup f = none
  | [], _, _ => by simp
  | _ :: _, [], _ => by simp
  | n :: ns, v :: vs, h => by
    rw [List.contains_cons, Bool.or_eq_false_iff] at h
    rw [List.zip_cons_cons, List.lookup_cons, h.1]
    exact lookup_zip h.2
/-- C(..): a new object as a cell at place j, then __init__ -/
theorem de_kE {x : Str} (j : Nat) (z : Cz X m) (f : MakeEX X k x C n ks sel p) (hk : k + 1 ≤ m) (hg : Gl X x) (lt : Lets X B δ Ξ)
    (h : DAK B X es kws δ M fun ds zs M' => ds.length = n ∧ zs.length = ks.length ∧ ∀ a, p (selD sel (.raw (.ref a) :: ds ++ zs)) (insM j (a, .obj C [] []) M') (fun d M2 => d = .non ∧ Φ (.raw (.ref a)) M2) Ξ) (pl : PlA X pos es kws ks) (hdb : (x == ("__debug__" : Str)) = false := by decide) : DE B X (.Call (.Name x pp) es kws pos) δ M Φ := by
  obtain ⟨fa, h1, mk, h3⟩ := f.ex
  obtain ⟨W, tk, hx⟩ := lt
  intro κ σ H Q hb R kk
  unfold tE
  intro pins s I
  refine wpAny_Call_Name_kw (ld_glob I hg h1 ?_ hdb)
  refine dak_run (first := []) mk.kp pl h I hb R fun us ws s2 vs zs ds es M2 H2 I2 rv rz ⟨l1, l2, q⟩ R2 r1 r2 => ?_
  refine run_makeE mk h3 (z.room.mono hk) (passAt tk σ) I2 rv rz (by rw [r1.length]; exact l1) (by rw [r2.length]; exact l2) fun a dx ha hdx hne us' all rr so => ?_
  have R3 : Rs κ δ M2 σ (upd H2 dx (.own a)) := R2.new hdx
  have R4 : Rs κ δ (insM j (a, .obj C [] []) M2) σ (upd (upd H2 dx (.own a)) a (.ins C dx [])) := (R3.add (p := a) (o := .ins C dx []) (c := .obj C [] []) (by rw [upd_ne (Ne.symm hne)]; exact ha) rfl ⟨dx, [], upd_same, rfl, .nil⟩).perm insM_perm
  have fw : Fwd M2.F H2 (Mem.F (insM j (a, .obj C [] []) M2)) (upd (upd H2 dx (.own a)) a (.ins C dx [])) := by
    intro b o hb e _
    have n1 : b ≠ dx := fun z => by rw [z, hdx] at e; cases e
    have n2 : b ≠ a := fun z => by rw [z, ha] at e; cases e
    refine ⟨fun z => ?_, by rw [upd_ne n2, upd_ne n1]; exact e⟩
    have z2 : b ∈ Mem.F ((a, Cell.obj C [] []) :: M2) := (F_perm insM_perm).mem_iff.mpr z
    rcases List.mem_append.mp (show b ∈ own a (Cell.obj C [] []) ++ Mem.F M2 from z2) with y | y
    · exact n2 (by simpa [own] using y)
    · exact hb y
  have r5 : Reps (Mem.F (insM j (a, .obj C [] []) M2)) (upd (upd H2 dx (.own a)) a (.ins C dx [])) (.ref a :: vs ++ zs) (.raw (.ref a) :: ds ++ es) := (Reps.cons (.raw _) (r1.fwd fw)).append (r2.fwd fw)
  refine liftE_of so rr.length R4 r5 (q a) (fun v d M' H' ⟨e, q'⟩ R' r' => ?_) fun C ns es M' H' dx e R' x => hx κ σ C ns es M' H' dx hb e R' x
  subst e
  cases r'
  exact ⟨rfl, kk _ _ _ _ q' R' (.raw _)⟩
end
/-! ### a def that may raise, from its body -/
structure InDefE (P : Program) (w : World) (K : PySem.W.Frag) (mg : Str → Option Value) (base : Heap) (N : List Str) (sc : Scope) (k : Nat) (X : Cx) (B : Bx) : Prop where
  prog : X.prog = P
  wd : X.w = w
  K : X.K = K
  mg : X.mg = mg
  base : X.base = base
  N : X.N = N
  sc : X.env.scope = sc
  fn : X.fn = fun _ => true
  z : Cz X k
  hp : PassesOwn (model X.prog X.w) X.A X.env X.xe
  tk : Tks X B
  st : X.stack = X.env :: X.outer
  fr : X.env.frame = some X.env.locals
/-- an exception's state may be looked at otherwise -/
def VwX (ns : List Str) (ds : List D) (M : Mem) (ds2 : List D) (M2 : Mem) : Prop := ∀ κ δ σ H dx, Rs κ δ M σ H → XRep M.F H dx ns ds → Rs κ δ M2 σ H ∧ XRep M2.F H dx ns ds2
theorem VwX.refl {ns : List Str} {ds : List D} {M : Mem} : VwX ns ds M ds M := fun _ _ _ _ _ R x => ⟨R, x⟩
theorem VwX.sub {ns : List Str} {ds : List D} {M M2 : Mem} (h : M2.Sublist M) : VwX ns ds M ds M2 := fun _ _ _ _ _ R x => ⟨R.less h, x.fwd (Fwd.less fun x hx => (F_sub h).subset hx)⟩
end Hl
namespace Hl
open PySem L2
open PyProof.Rows hiding St
/-! ### try, the caught exception held -/
section
variable {X : Cx} {pins : List (Addr × Obj)} {σ : St} {H : Hp} {sI s' : Shared} {B : Heap} {a : Addr} {o : HO}
theorem xo_ok {P : Program} {w : World} {H : Hp} {h : Heap} {a : Addr} {cls : Value} {d : Option Addr} {oe : Obj} {vs : Array Value} (e : h.get? a = some oe) (z : Zc cls d oe) (hd : oe.data = .fields vs) : ObjOk P w H h a (XO cls d a) :=
  ⟨⟨oe, vs, e, z, hd⟩, ⟨oe, e⟩, fun _ _ ⟨o, v, q, r⟩ k => ⟨o, v, k o q, r⟩⟩
theorem Inv.landedX (I : Inv X pins σ H sI) (nb : ∀ b o, sI.heap.get? b = some o → b ∉ frs X.stack → B.get? b = some o) (st : B.StaysIn s'.heap) (up : sI.heap.UpToSlots s'.heap) (os : s'.os = sI.os) (ag : AllBare s'.gens)
    (na : H a = none) (n0 : sI.heap.get? a = none) (ok : ObjOk X.prog X.w (upd H a o) s'.heap a o) : Inv X pins σ (upd H a o) s' := by
  have nf : ∀ b ∈ frs X.stack, ∀ o, sI.heap.get? b = some o → ∃ sl, s'.heap.get? b = some { o with slots := sl } := fun b hb o e => by
    obtain ⟨_, o', e', hd⟩ := I.stack.mem hb
    rw [e] at e'; cases e'
    exact up b o e hd
  have J := I.call (ch := []) (h' := s'.heap) (g' := s'.gens) (t' := s'.toks) (d' := s'.drawn) (H' := upd H a o)
    ⟨fun b o e _ hb _ => st b o (nb b o e hb), fun b o e _ hb _ => nf b hb o e, fun b o e n _ => by rw [upd_ne (fun z => by rw [z, n0] at e; cases e)]; exact n, fun b o e _ => by
      by_cases hb : b ∈ frs X.stack
      · obtain ⟨sl, q⟩ := nf b hb o e
        exact ⟨_, q⟩
      · exact ⟨o, st b o (nb b o e hb)⟩, fun b xs e => by rw [upd_ne (ne_of_none e na)]; exact e, fun b o u e => by rw [upd_ne (ne_of_none e na)]; exact e, fun b ps e => ⟨#[], by rw [upd_ne (ne_of_none e na), e]; simp⟩⟩
    (HOk.laidN ((I.inGround nb).kept st) (fun _ _ q => q) na ok) ag (fun _ z => nomatch z)
  obtain ⟨a1, a2, a3, a4, a5⟩ := s'
  have e5 : a5 = sI.os := os
  subst e5
  exact J
end
end Hl
namespace Hl
open PySem L2
open PyProof.Rows hiding St
section
variable {B : Bx} {X : Cx} {e a b c o : Expr} {es rest : List Expr} {kw : Keyword} {kws : List Keyword} {st : Stmt} {sts body suite : List Stmt} {δ δ' : Env'} {M : Mem} {Φ : D → Mem → Prop} {Ψ : DEnds} {pos pos' apos pp np : Pos} {d x y : D} {ΦL : List D → Mem → Prop}
/-! ### try, by data -/
/-- a handler, by data: its class, its slot, its suite -/
abbrev HdD := Addr × Option Nat × List Stmt
def endsD (oi : Option Nat) (Ψ : DEnds) : DEnds := match oi with
  | none => Ψ
  | some i => { nx := fun δ M => Ψ.nx (δ.set i none) M, rt := Ψ.rt, bk := fun δ M => Ψ.bk (δ.set i none) M, ct := fun δ M => Ψ.ct (δ.set i none) M }
def envD (oi : Option Nat) (δ : Env') (d : D) : Env' := match oi with
  | none => δ
  | some i => δ.set i (some d)
def exH (B : Bx) (X : Cx) (Ψ : DEnds) : List HdD → Addr → List Str → List D → Env' → Mem → Prop
  | [] => B.ex
  | (c0, oi, suite) :: r => fun C ns ds δ M => ∃ b, PySem.W.exmOne X.K (.ref C) (.ref c0) = some b ∧ (b = true → ∀ a pn kp, DSs ⟨kp, fun _ _ _ _ _ => False⟩ (X.suite a pn) suite (envD oi δ (.exn C ns ds)) M (endsD oi Ψ)) ∧ (b = false → exH B X Ψ r C ns ds δ M)
/-! ### raise -/
/-- an own exception class without an own __init__ -/
structure Ex0 (K : PySem.W.Frag) (mg : Str → Option Value) (x : Str) (C : Addr) : Prop where
  gC : mg x = some (.ref C)
  q : PySem.W.excIn K C [.type "ValueError", .type "Exception", .type "BaseException", .type "object"] "ValueError.__new__" = true
  kC : PySem.W.keepIn K (.ref C) = true
  sub : PySem.W.subIn K (.ref C) (.type "BaseException") = some true
  ty : PySem.W.typeIn K (.ref C) = some (.type "type")
theorem pmk_own0 {C : Addr} {x : Str} {p : Pos} (T : Ex0 X.K X.mg x C) (hg : Gl X x) (hdb : (x == ("__debug__" : Str)) = false := by decide) : PMk X (.Call (.Name x p) [] [] pos) (fun σ H Q => Q (.ref C) none H) := by
  intro pins s σ H Q I h
  refine wpAny_Call_Name_kw (ld_glob I hg T.gC ?_ hdb)
  refine PySem.W.callWith_K0 I.kIn T.kC ?_
  show wpAny _ _ (call (.ref C) []) _ _ _
  obtain ⟨bm, N, nm, qn, bs, hdct, sn, sub, ab, col, dd, k0, k1, k2, k3, k5, mN, hC, hN, hni, T'⟩ := exc_obj I.kIn T.q
  refine wpAny_call_exc_subT PySem.F.excBase_ValueError T' hC hN hni (fun h' e hm => ?_) (by show 0 ≤ sizeLine; exact Nat.zero_le _)
  exact mk_of I hm (raises_own T.sub T.ty) h (I.hok.gone hm.new)
theorem ds_raise0 {C : Addr} {x : Str} {p : Pos} {n : Nat} (z : Cz X n) (tk : Tks X B) (T : Ex0 X.K X.mg x C) (hg : Gl X x) (h : B.ex C [] [] δ M) (hdb : (x == ("__debug__" : Str)) = false := by decide) : DS B X (.Raise (some (.Call (.Name x p) [] [] pos)) none pos') δ M Ψ :=
  .of (ps_raise z.calm tk (pmk_own0 T hg hdb)) fun κ σ H E hb R k => ⟨C, [], [], δ, M, κ, rfl, h, hb, R, .inl ⟨rfl, rfl, rfl⟩⟩
theorem ds_raise {C : Addr} {x : Str} {p : Pos} {n : Nat} (z : Cz X n) (tk : Tks X B) (T : Ex0 X.K X.mg x C) (hg : Gl X x) (h : DA B X (e :: es) δ M fun ds M' => ds.length ≤ sizeLine ∧ B.ex C [] [] δ M')
    (hdb : (x == ("__debug__" : Str)) = false := by decide) (he : starEach (e :: es) X.env = (false, eval e X.env) :: starEach es X.env := by rfl) (hpl : (backTo pos (starEach es X.env)).any (·.1) = false := by rfl) : DS B X (.Raise (some (.Call (.Name x p) (e :: es) [] pos)) none pos') δ M Ψ :=
  .of (ps_raise z.calm tk (pmk_ownA PySem.F.excBase_ValueError T.q T.gC T.kC (raises_own T.sub T.ty) hg cA hdb he hpl)) fun κ σ H E hb R k => h κ σ H _ hb R fun vs ds M1 H1 ⟨hl, q⟩ R1 r1 =>
    ⟨by rw [r1.length]; exact hl, C, [], [], δ, M1, κ, rfl, q, hb, R1, .inl ⟨rfl, rfl, rfl⟩⟩
/-- the promise of an exception's __init__: the fields are set, one by one -/
def spXI (C : Addr) (ns : List Str) : Sp := fun vs H Q _ => ∃ a args, vs = .ref a :: args ∧ args.length = ns.length ∧ H a = some (exo a C none) ∧
  ∀ dx H', H dx = none → dx ≠ a → H' a = some (exo a C (some dx)) → H' dx = some (exd dx (ns.reverse.zip args.reverse)) → (∀ b, b ≠ a → b ≠ dx → H' b = H b) → Q .non H'
/-- an own exception class whose __init__ keeps its arguments -/
structure ExI (P : Program) (w : World) (K : PySem.W.Frag) (mg : Str → Option Value) (base : Heap) (x : Str) (C : Addr) (ns : List Str) : Prop where
  gC : mg x = some (.ref C)
  T : OexC K C
  ex : ∃ fI fd ps, PySem.W.findIn K (.ref C) "__init__" = some (some (.ref fI)) ∧ PySem.W.typeIn K (.ref fI) = some (.type "function") ∧ Binds K fd ps [] ∧ FnOk P w K mg base CX0 1 fI fd ps (spXI C ns)
theorem Reps.reverse {F : List Addr} {H : Hp} : ∀ {vs : List V} {ds : List D}, Reps F H vs ds → Reps F H vs.reverse ds.reverse
  | _, _, .nil => .nil
  | _, _, .cons r t => by
    rw [List.reverse_cons, List.reverse_cons]
    exact (Reps.reverse t).append (.cons r .nil)
theorem ds_raiseI {C : Addr} {x : Str} {p : Pos} {n : Nat} {ns : List Str} (z : Cz X n) (hn : 2 ≤ n) (tk : Tks X B) (T : ExI X.prog X.w X.K X.mg X.base x C ns) (hg : Gl X x) (h : DA B X (e :: es) δ M fun ds M' => ds.length = ns.length ∧ ds.length ≤ 1000 ∧ B.ex C ns.reverse ds.reverse δ M')
    (hdb : (x == ("__debug__" : Str)) = false := by decide) (he : starEach (e :: es) X.env = (false, eval e X.env) :: starEach es X.env := by rfl) (hpl : (backTo pos (starEach es X.env)).any (·.1) = false := by rfl) : DS B X (.Raise (some (.Call (.Name x p) (e :: es) [] pos)) none pos') δ M Ψ := by
  obtain ⟨fI, fd, ps, h1, h2, h3, h4⟩ := T.ex
  refine .of (ps_raise z.calm tk (pmk_oex T.T h1 h2 h4 (z.room.mono hn) h3 .nil pass0 hg T.gC cA hdb he hpl)) fun κ σ H E hb R k => h κ σ H _ hb R fun vs ds M1 H1 ⟨hl, hl2, q⟩ R1 r1 => ?_
  refine ⟨by rw [r1.length]; exact hl2, fun a na => ⟨a, vs, by rw [List.append_nil], by rw [r1.length]; exact hl, upd_same, fun dx H' n1 n2 e1 e2 e3 => ?_⟩⟩
  have ndx : H1 dx = none := by rw [upd_ne n2] at n1; exact n1
  refine ⟨rfl, dx, _, e1, e2, ndx, ?_⟩
  have eq : upd (del H' a) dx (.xd (ns.reverse.zip vs.reverse)) = upd H1 dx (.xd (ns.reverse.zip vs.reverse)) := by
    funext b
    by_cases hb : b = dx
    · subst hb; rw [upd_same, upd_same]
    · rw [upd_ne hb, upd_ne hb]
      by_cases ha : b = a
      · subst ha; rw [del_same, na]
      · rw [del_ne ha, e3 b ha hb, upd_ne ha]
  rw [eq]
  exact ⟨C, ns.reverse, ds.reverse, δ, M1, κ, rfl, q, hb, R1.new ndx, .inr ⟨dx, vs.reverse, rfl, R1.fresh ndx, upd_same, by rw [List.length_reverse, List.length_reverse, r1.length, hl], (Reps.reverse r1).fwd (Fwd.new ndx)⟩⟩
/-! ### fields -/
structure FldP (K : PySem.W.Frag) (C : Addr) (f : Str) : Prop where
  c : Cls K C
  n : NoAttr K C f
structure XfP (K : PySem.W.Frag) (C : Addr) (f : Str) : Prop where
  ga : PySem.W.findIn K (.ref C) "__getattribute__" = some (some (.builtin "BaseException.__getattribute__"))
  gg : PySem.W.findIn K (.ref C) "__getattr__" = some none
  exC : PySem.W.subIn K (.ref C) (.type "BaseException") = some true
  hdC : PySem.W.hasDictIn K C = true
  no : PySem.W.findIn K (.ref C) f = some none
def tFldU (K : PySem.W.Frag) (ta : TE) (f : Str) : TE := fun σ H Q => ta σ H fun x H1 => (∃ a C dx fs v, x = .ref a ∧ H1 a = some (.ins C dx fs) ∧ FldP K C f ∧ fs.lookup f = some v ∧ Q v H1) ∨
  ∃ a C d fs v, x = .ref a ∧ H1 a = some (XO (.ref C) (some d) a) ∧ H1 d = some (.xd fs) ∧ XfP K C f ∧ fs.lookup f = some v ∧ Q v H1
theorem pe_fldU {f : Str} {ta : TE} (he : PE X e ta) (hb : attributeBase e f X.env (eval e X.env) = eval e X.env) : PE X (.Attribute e f pos) (tFldU X.K ta f) := by
  refine ⟨fun pins s σ H Q I h => ?_⟩
  refine attr_of hb (thn (he.run pins s σ H _ I h) fun u s1 ⟨x, H1, I1, rx, q⟩ => ?_)
  rcases q with ⟨a, C, dx, fs, v, ex, ea, ff, l, q⟩ | ⟨a, C, dd, fs, v, ex, ea, ed, T, l, q⟩
  · subst ex
    obtain rfl : u = Value.ref a := rx
    exact getattr_ok I1 ea ff.c ff.n l fun u' s2 I2 ru => ⟨v, H1, I2, ru, q⟩
  · subst ex
    obtain rfl : u = Value.ref a := rx
    obtain ⟨⟨oe, vs, ha, hz, hd⟩, _, _⟩ := I1.hok a _ ea
    have hx : ObjOk X.prog X.w H1 s1.heap dd (.xd fs) := I1.hok dd _ ed
    obtain ⟨mA, hns, hr⟩ := hx
    obtain ⟨od, ho, hl⟩ := lookIn_ns hns
    obtain ⟨u, hu, ru⟩ := RelO.some_of (v := v) (o := mA f) (by rw [← l]; exact hr f)
    have J : PySem.W.InstAt s1.heap a oe C (some od) := ⟨ha, hz.1, by unfold PySem.W.notCls; rw [hd] <;> rfl, by rw [hz.2]; exact ho⟩
    exact HandSPX.exc_get I1.kIn J T.ga T.gg T.exC (PySem.W.findObj_own T.hdC T.no rfl (by rw [hl, hu])) (handed_of ru) ⟨v, H1, I1.tok _, ru, q⟩
theorem reps_lookup {F : List Addr} {H : Hp} {f : Str} : ∀ {ns : List Str} {vs : List V} {ds : List D} {d : D}, Reps F H vs ds → (ns.zip ds).lookup f = some d → ∃ v, (ns.zip vs).lookup f = some v ∧ Rep F H v d
  | [], _, _, _, _, h => by simp at h
  | _ :: _, _, _, _, .nil, h => by simp at h
  | n :: ns, v :: vs, d0 :: ds, d, .cons r t, h => by
    rw [List.zip_cons_cons, List.lookup_cons] at h
    rw [List.zip_cons_cons, List.lookup_cons]
    cases e : f == n with
    | true => rw [e] at h; cases h; exact ⟨v, rfl, r⟩
    | false => rw [e] at h; exact reps_lookup t h
/-- a field of data -/
def FldD (K : PySem.W.Frag) (f : Str) (x : D) (M : Mem) (Φ : D → Mem → Prop) : Prop := (∃ C ns fs d, IsO M x C ns fs ∧ FldP K C f ∧ (ns.zip fs).lookup f = some d ∧ Φ d M) ∨ ∃ C ns fs d, x = .exn C ns fs ∧ XfP K C f ∧ (ns.zip fs).lookup f = some d ∧ Φ d M
theorem de_fld {f : Str} (h : DE B X o δ M fun x M1 => FldD X.K f x M1 Φ) (hb : attributeBase o f X.env (eval o X.env) = eval o X.env := by rfl) : DE B X (.Attribute o f pos) δ M Φ :=
  .of (pe_fldU cE hb) fun κ σ H Q hb R k => h κ σ H _ hb R fun v x M1 H1 q R1 r1 => by
    rcases q with ⟨C, ns, fs, d, io, ff, l, q⟩ | ⟨C, ns, fs, d, ex, T, l, q⟩
    · obtain ⟨a, dx, vs, rfl, ea, hl, rr⟩ := io.sq R1 r1
      obtain ⟨v, l2, rv⟩ := reps_lookup rr l
      exact .inl ⟨a, C, dx, _, v, rfl, ea, ff, l2, k _ _ _ _ q R1 rv⟩
    · subst ex
      cases r1 with
      | exn0 h1 e1 => simp at l
      | exn h1 e1 h2 e2 hl rr =>
        obtain ⟨v, l2, rv⟩ := reps_lookup rr l
        exact .inr ⟨_, C, _, _, v, rfl, e1, e2, T, l2, k _ _ _ _ q R1 rv⟩
theorem fld_v {K : PySem.W.Frag} {f : Str} {C : Addr} {ns : List Str} {fs : List D} (ff : FldP K C f) (l : (ns.zip fs).lookup f = some d) (k : Φ d M) : FldD K f (.obj C ns fs) M Φ := .inl ⟨C, ns, fs, d, .val _ _ _, ff, l, k⟩
theorem fld_c {K : PySem.W.Frag} {f : Str} {C p : Addr} {ns : List Str} {fs : List D} (j : Nat) (hm : M[j]? = some (p, .obj C ns fs)) (ff : FldP K C f) (l : (ns.zip fs).lookup f = some d) (k : Φ d M) : FldD K f (.raw (.ref p)) M Φ := .inl ⟨C, ns, fs, d, .cell j hm, ff, l, k⟩
theorem fld_x {K : PySem.W.Frag} {f : Str} {C : Addr} {ns : List Str} {fs : List D} (T : XfP K C f) (l : (ns.zip fs).lookup f = some d) (k : Φ d M) : FldD K f (.exn C ns fs) M Φ := .inr ⟨C, ns, fs, d, rfl, T, l, k⟩
/-- a field is set -/
def putN (f : Str) (d : D) : List Str → List D → List Str × List D
  | n :: ns, x :: ds => if n = f then (n :: ns, d :: ds) else (n :: (putN f d ns ds).1, x :: (putN f d ns ds).2)
  | _, _ => ([f], [d])
theorem putN_rep {F : List Addr} {H : Hp} {f : Str} {v : V} {d : D} (rv : Rep F H v d) : ∀ {ns : List Str} {vs : List V} {ds : List D}, ns.length = vs.length → Reps F H vs ds → ∃ vs', putF f v (ns.zip vs) = (putN f d ns ds).1.zip vs' ∧ (putN f d ns ds).1.length = vs'.length ∧ Reps F H vs' (putN f d ns ds).2
  | [], [], _, _, .nil => ⟨[v], rfl, rfl, .cons rv .nil⟩
  | [], _ :: _, _, h, _ => by cases h
  | _ :: _, [], _, h, _ => by cases h
  | n :: ns, w :: vs, x :: ds, h, .cons r t => by
    unfold putN
    rw [List.zip_cons_cons]
    unfold putF
    by_cases e : n = f
    · rw [if_pos e, if_pos e]
      exact ⟨v :: vs, rfl, h, .cons rv t⟩
    · rw [if_neg e, if_neg e]
      obtain ⟨vs', h1, h2, h3⟩ := putN_rep (f := f) rv (ns := ns) (vs := vs) (ds := ds) (by simpa using h) t
      exact ⟨w :: vs', by rw [h1]; rfl, by simp [h2], .cons r h3⟩
theorem ds_fld {f : Str} (h : DE B X e δ M fun d M1 => DE B X o δ M1 fun x M2 => ∃ p C ns fs M3, x = .raw (.ref p) ∧ Rpl p (.obj C ns fs) (.obj C (putN f d ns fs).1 (putN f d ns fs).2) M2 M3 ∧ FldP X.K C f ∧ ns.length < 1000 ∧ Ψ.nx δ M3)
    (hs : swapsWith e (some (.Attribute o f pos')) pos.line X.env = pure false := by rfl) : DS B X (.Assign [.Attribute o f pos'] e pos) δ M Ψ :=
  .of (ps_fld cE cE hs) fun κ σ H E hb R k => h κ σ H _ hb R fun v d M1 H1 q1 R1 r1 => q1 ((v, d) :: κ) σ H1 _ (fun q hq => List.mem_cons_of_mem _ (hb q hq)) (R1.push r1) fun w x M2 H2 ⟨p, C, ns, fs, M3, ex, hr, ff, hl, q⟩ R2 r2 => by
    subst ex
    cases r2
    obtain ⟨dx, vs, e1, l1, rr⟩ := hr.inM.ok R2
    obtain ⟨vs', h1, h2, h3⟩ := putN_rep (f := f) R2.top l1 rr
    refine ⟨p, C, dx, _, rfl, e1, ff.c, ff.n, by simp [l1]; omega, k.nx _ _ _ _ q ?_⟩
    have hp : ∀ x, x ∉ M2.F → upd H2 p (.ins C dx (putF f v (ns.zip vs))) x = H2 x := fun x hx => upd_ne fun z => hx (z ▸ hr.inM.mem)
    exact R2.pop.rpl hr (fun x hx => upd_ne hx) ⟨dx, vs', by rw [upd_same, h1], h2, h3.fwd (Fwd.same hp)⟩
/-! ### isinstance of exceptions and own things -/
structure ExcP (K : PySem.W.Frag) (C : Addr) : Prop where
  cl : (PySem.W.clsIn K C).isSome = true
  ga : PySem.W.findIn K (.ref C) "__getattribute__" = some (some (.builtin "BaseException.__getattribute__"))
  gg : PySem.W.findIn K (.ref C) "__getattr__" = some none
  hs : PySem.W.subIn K (.ref C) (.type "BaseException") = some true
  ha : PySem.W.findIn K (.ref C) "__class__" = some (some (.builtin "object.__class__"))
  hn : PySem.W.specialIn K (.builtin "object.__class__") "__get__" = some (some (.builtin "getset_descriptor.__get__"))
  ht : PySem.W.takesIn K (.builtin "object.__class__") = some true
  hm : PySem.W.mroIn K C (.type "object") = some true
structure InsP (K : PySem.W.Frag) (C : Addr) : Prop where
  cl : Cls K C
  ha : PySem.W.findIn K (.ref C) "__class__" = some (some (.builtin "object.__class__"))
  hn : PySem.W.specialIn K (.builtin "object.__class__") "__get__" = some (some (.builtin "getset_descriptor.__get__"))
  ht : PySem.W.takesIn K (.builtin "object.__class__") = some true
  hm : PySem.W.mroIn K C (.type "object") = some true
def rIsX (K : PySem.W.Frag) : List V → Hp → VK → Prop := fun xs H Q => ∃ (a C : Addr) (dx : Option Addr) (c : V) (u : Value) (b : Bool), xs = [.ref a, c] ∧ ClsV c u ∧ H a = some (XO (.ref C) dx a) ∧ (dx = none ∨ ∃ d fs, dx = some d ∧ H d = some (.xd fs)) ∧ ExcP K C ∧ PySem.W.kitOne K (.ref C) u = some b ∧ Q (.bl b) H
def rIsiU (K : PySem.W.Frag) : List V → Hp → VK → Prop := fun xs H Q => rIsi K xs H Q ∨ rIsX K xs H Q
theorem call_isX : CallR X (.builtin "isinstance") (rIsX X.K) := by
  intro pins s σ H xs us Q I r h
  obtain ⟨a, C, dx, c, u, b, rfl, k, ea, hd, T, e, q⟩ := h
  cases r with
  | cons rx rr =>
    cases rr with
    | cons rt rr =>
      cases rr
      cases rx
      have ec := k.eq rt
      subst ec
      obtain ⟨⟨oe, vs, ha, hz, hdt⟩, _, _⟩ := I.hok a _ ea
      have J : ∃ od, PySem.W.InstAt s.heap a oe C od := by
        rcases hd with rfl | ⟨d, fs, rfl, ed⟩
        · exact ⟨none, ha, hz.1, by unfold PySem.W.notCls; rw [hdt] <;> rfl, by rw [hz.2]; trivial⟩
        · have hx : ObjOk X.prog X.w H s.heap d (.xd fs) := I.hok d _ ed
          obtain ⟨mA, hns, hr⟩ := hx
          obtain ⟨od, ho, hl⟩ := lookIn_ns hns
          exact ⟨some od, ha, hz.1, by unfold PySem.W.notCls; rw [hdt] <;> rfl, by rw [hz.2]; exact ho⟩
      obtain ⟨od, J⟩ := J
      exact PySem.W.kia_one (PySem.W.kitx_exc T.cl T.ga T.gg T.hs T.ha T.hn T.ht T.hm) I.kIn J e (fun z => nomatch z) fun tk => ⟨.bl b, H, I.kept (t' := tk) fun _ _ z => z, rfl, q⟩
theorem ClsD {c : V} {F : List Addr} {H : Hp} {v : V} (r : Rep F H v (.raw c)) : v = c := by cases r; rfl
theorem isx_x {K : PySem.W.Frag} {C : Addr} {ns : List Str} {fs : List D} {c : V} {u : Value} {b : Bool} (T : ExcP K C) (hc : ClsV c u) (hk : PySem.W.kitOne K (.ref C) u = some b) (k : Φ (.bl b) M) : CallD (rIsiU K) [.exn C ns fs, .raw c] M Φ := .inr fun κ δ σ H vs Q R rs f => by
  cases rs with
  | cons r1 r2 =>
    cases r2 with
    | cons r2 r3 =>
      cases r3
      have := ClsD r2
      subst this
      cases r1 with
      | exn0 h1 e1 => exact ⟨_, C, none, _, u, b, rfl, hc, e1, .inl rfl, T, hk, f _ _ _ _ k R (.bl _)⟩
      | exn h1 e1 h2 e2 hl rr => exact ⟨_, C, _, _, u, b, rfl, hc, e1, .inr ⟨_, _, rfl, e2⟩, T, hk, f _ _ _ _ k R (.bl _)⟩
theorem isx_o {K : PySem.W.Frag} {C : Addr} {ns : List Str} {fs : List D} {c : V} {u : Value} {b : Bool} (h : IsO M x C ns fs) (T : InsP K C) (hc : ClsV c u) (hk : PySem.W.kitOne K (.ref C) u = some b) (k : Φ (.bl b) M) : CallD (rIsiU K) [x, .raw c] M Φ := .inl fun κ δ σ H vs Q R rs f => by
  cases rs with
  | cons r1 r2 =>
    cases r2 with
    | cons r2 r3 =>
      cases r3
      have := ClsD r2
      subst this
      obtain ⟨p, dx, vs, rfl, ea, hl, rr⟩ := h.sq R r1
      exact ⟨_, _, .ref C, u, b, rfl, hc, .base (.ins ea T.cl T.ha T.hn T.ht T.hm), hk, f _ _ _ _ k R (.bl _)⟩
/-- a plain thing and an own class -/
theorem isx_b {K : PySem.W.Frag} {S : String} {c : V} {u : Value} {b : Bool} (hx : tyD x = some S) (hc : ClsV c u) (hk : PySem.W.kitOne K (.type S) u = some b) (k : Φ (.bl b) M) : CallD (rIsiU K) [x, .raw c] M Φ := .inl fun κ δ σ H vs Q R rs f => by
  cases rs with
  | cons r1 r2 =>
    cases r2 with
    | cons r2 r3 =>
      cases r3
      have := ClsD r2
      subst this
      refine ⟨_, _, .type S, u, b, rfl, hc, ?_, hk, f _ _ _ _ k R (.bl _)⟩
      cases r1 with
      | non => cases hx; exact .base .non
      | bl b => cases hx; exact .base (.bl b)
      | int i => cases hx; exact .base (.int i)
      | str i => cases hx; exact .base (.str i)
      | lst h1 e1 _ => cases hx; exact .base (.lst e1)
      | tup h1 e1 _ => cases hx; exact .base (.tup e1)
      | obj _ _ _ _ => cases hx
      | raw _ => cases hx
      | scrH _ _ => cases hx
      | scrK _ => cases hx
      | exn0 _ _ => cases hx
      | exn _ _ _ _ _ _ => cases hx
      | fd _ _ _ _ _ => cases hx
      | hp _ _ _ => cases hx
      | fn _ _ _ _ _ _ _ _ _ => cases hx
/-- an own class as a value -/
theorem de_gcls {x : Str} {C : Addr} (hg : Gl X x) (hm : X.mg x = some (.ref C)) (k : Φ (.raw (.ref C)) M) (hd : (x == ("__debug__" : Str)) = false := by decide) : DE B X (.Name x pos) δ M Φ := de_glob (v := .ref C) ⟨hg, ⟨_, hm, rfl⟩, hd⟩ (fun _ _ => .raw _) k
end
end Hl
namespace Hl
open PySem L2
open PyProof.Rows hiding St
/-! ### a def as it stands, with or without defaults -/
structure FunG (K : PySem.W.Frag) (x qual : Str) (st : Stmt) (f : Addr) (fd : FuncData) : Prop where
  ex : ∃ (oc : Value) (od : Option Addr) (dV kV doc pm : Value) (an : Option Addr) (cdv ct : Value) (osl : Array (Option Value)),
    fd = PySem.W.fnOf x qual (defArgs st) (defBody st) (defScope st) dV kV doc pm an cdv ct ∧ K.lookup f = some ⟨oc, od, .func fd, osl⟩ ∧ PySem.W.codeIn K cdv qual = true
theorem fung_mk {K : PySem.W.Frag} {x qual : Str} {st : Stmt} {f : Addr} {oc : Value} {od an : Option Addr} {osl : Array (Option Value)} {dV kV doc pm cdv ct : Value} (l : K.lookup f = some ⟨oc, od, .func (PySem.W.fnOf x qual (defArgs st) (defBody st) (defScope st) dV kV doc pm an cdv ct), osl⟩)
    (c : PySem.W.codeIn K cdv qual = true) : FunG K x qual st f (PySem.W.fnOf x qual (defArgs st) (defBody st) (defScope st) dV kV doc pm an cdv ct) := ⟨oc, od, dV, kV, doc, pm, an, cdv, ct, osl, rfl, l, c⟩
theorem fnokG_of {P : Program} {w : World} {K : PySem.W.Frag} {mg : Str → Option Value} {base : Heap} {x qual : Str} {st : Stmt} {f : Addr} {fd : FuncData} {N ps : List Str} {k : Nat} {p : DSpE} (F : FunG K x qual st f fd) (S : FnScope N ps (defScope st))
    (len : ∀ ds M Φ Ξ, p ds M Φ Ξ → ds.length = ps.length)
    (h : ∀ X kp ds M Φ Ξ, p ds M Φ Ξ → InDefE P w K mg base N (defScope st) k X ⟨kp, fun C ns es _ M' => ∃ es2 M2, VwX ns es M' es2 M2 ∧ Ξ C ns es2 M2⟩ → DSs ⟨kp, fun C ns es _ M' => ∃ es2 M2, VwX ns es M' es2 M2 ∧ Ξ C ns es2 M2⟩ X (defBody st) (startD N.length ds) M { nx := fun _ M' => ∃ d2 M2, Vw .non M' d2 M2 ∧ Φ d2 M2, rt := fun d M' => ∃ d2 M2, Vw d M' d2 M2 ∧ Φ d2 M2 }) : FnOk P w K mg base (L2.CX P w) (k + 1) f fd ps (liftE p) := by
  obtain ⟨oc, od, dV, kV, doc, pm, an, cdv, ct, osl, rfl, lk, hcd⟩ := F.ex
  refine fn_of lk hcd S (fun vs H Q E hl => ?_) fun A outer s H vs Q E hr hl => ?_
  · obtain ⟨κ, ds, M, Φ, Ξ, R, r, q, _⟩ := hl
    rw [r.length]; exact len ds M Φ Ξ q
  · obtain ⟨κ, ds, M, Φ, Ξ, R, r, q, kk, kx⟩ := hl
    refine ⟨_, cSs, ?_⟩
    refine h _ κ ds M Φ Ξ q ⟨rfl, rfl, rfl, rfl, rfl, rfl, rfl, rfl, ⟨S.nd, rfl, hr⟩, PassesOwn.leaving, ?_, rfl, rfl⟩ κ _ H _ (fun _ h => h) (start_rs R r) ⟨fun δ M' σ H' ⟨d2, M2, h1, h2⟩ R' => ?_, fun v d M' δ σ H' ⟨d2, M2, h1, h2⟩ R' r' => ?_, fun _ _ _ _ z => z.elim, fun _ _ _ _ z => z.elim⟩
    · refine Takes.imp (takes_of (E := E) rfl rfl rfl rfl) fun cls dx σ H' hw => ?_
      obtain ⟨C, ns, es, δ, M', κ', rfl, ⟨es2, M2, hv, hX⟩, hb, R', x'⟩ := hw
      obtain ⟨R2, x2⟩ := hv κ' δ σ H' dx R' x'
      exact kx C ns es2 M2 H' dx hX ⟨fun q hq => R2.kp q (hb q hq), .nil, R2.cl, R2.nd⟩ x2
    · obtain ⟨R2, r2⟩ := h1 _ _ _ _ _ R' .non
      exact kk .non d2 M2 H' h2 ⟨R2.kp, .nil, R2.cl, R2.nd⟩ r2
    · obtain ⟨R2, r2⟩ := h1 _ _ _ _ _ R' r'
      exact kk v d2 M2 H' h2 ⟨R2.kp, .nil, R2.cl, R2.nd⟩ r2
/-! facts within a comprehension's block -/
/-! ### loops and joins by the slots that change -/
def putAll (δ : Env') : List Nat → List (Option D) → Env'
  | i :: is, v :: vs => putAll (δ.set i v) is vs
  | _, _ => δ
theorem set_self {α : Type} {l : List (Option α)} {i : Nat} : l.set i (l.getD i none) = l := by
  apply List.ext_getElem?
  intro n
  by_cases hn : i = n
  · subst hn
    by_cases hl : i < l.length
    · rw [List.getElem?_set_self hl, List.getD_eq_getElem?_getD, List.getElem?_eq_getElem hl]; rfl
    · rw [List.getElem?_eq_none (by simpa using hl), List.getElem?_eq_none (by simpa using hl)]
  · rw [List.getElem?_set_ne hn]
theorem putAll_self {δ : Env'} : ∀ {cs : List Nat}, putAll δ cs (cs.map fun i => δ.getD i none) = δ
  | [] => rfl
  | c :: cs => by
    show putAll (δ.set c (δ.getD c none)) cs _ = δ
    rw [set_self]; exact putAll_self
section
variable {B : Bx} {X : Cx} {tg iter c : Expr} {st : Stmt} {sts body : List Stmt} {δ : Env'} {M : Mem} {Ψ : DEnds} {pos : Pos}
theorem ds_forC {n : Nat} (cs : List Nat) (z : Cz X n) (hp : PassesOwn (model X.prog X.w) X.A X.env X.xe)
    (h : DI B X tg iter δ M fun xs M' => ∃ Iv : Nat → List (Option D) → Mem → Prop, Iv 0 (cs.map fun i => δ.getD i none) M' ∧
      (∀ i x vs δ1 M1, xs[i]? = some x → Iv i vs M1 → δ1 = putAll δ cs vs → DG B X tg x δ1 M1 fun δ' M' => DSs B X body δ' M' { Ψ with nx := fun δ' M' => ∃ vs', δ' = putAll δ cs vs' ∧ Iv (i + 1) vs' M', ct := fun δ' M' => ∃ vs', δ' = putAll δ cs vs' ∧ Iv (i + 1) vs' M', bk := Ψ.nx }) ∧
      ∀ vs δ1 M1, Iv xs.length vs M1 → δ1 = putAll δ cs vs → Ψ.nx δ1 M1)
    (hs : ∀ x, foldedSetIterable iter X.env x = pure x := by intro _; rfl) : DS B X (.For tg iter body [] pos) δ M Ψ := by
  refine ds_for z hp ?_ hs
  obtain ⟨wi, pi, w⟩ := h
  refine ⟨wi, pi, fun κ σ H R hb Rr k => w κ σ H R hb Rr fun xs M' H' J κ' ⟨Iv, h0, h1, h2⟩ hk R' W => k xs M' H' J κ' ⟨fun i δ1 M1 => ∃ vs, δ1 = putAll δ cs vs ∧ Iv i vs M1, ⟨_, putAll_self.symm, h0⟩, fun i x δ1 M1 hx ⟨vs, e, hv⟩ => h1 i x vs δ1 M1 hx hv e, fun δ1 M1 ⟨vs, e, hv⟩ => h2 vs δ1 M1 hv e⟩ hk R' W⟩
theorem ds_whileC (cs : List Nat) (hp : PassesOwn (model X.prog X.w) X.A X.env X.xe) (Iv : Nat → List (Option D) → Mem → Prop) (h0 : ∃ m, Iv m (cs.map fun i => δ.getD i none) M)
    (h : ∀ m vs δ1 M1, Iv m vs M1 → δ1 = putAll δ cs vs → DT B X c δ1 M1 fun t M2 => Br t (DSs B X body δ1 M2 { Ψ with nx := fun δ' M' => ∃ vs', δ' = putAll δ cs vs' ∧ ∃ m', m' < m ∧ Iv m' vs' M', ct := fun δ' M' => ∃ vs', δ' = putAll δ cs vs' ∧ ∃ m', m' < m ∧ Iv m' vs' M', bk := Ψ.nx }) (Ψ.nx δ1 M2)) : DS B X (.While c body [] pos) δ M Ψ := by
  refine ds_while hp (fun m δ1 M1 => ∃ vs, δ1 = putAll δ cs vs ∧ Iv m vs M1) ?_ fun m δ1 M1 ⟨vs, e, hv⟩ => ?_
  · obtain ⟨m, h0⟩ := h0
    exact ⟨m, _, putAll_self.symm, h0⟩
  · refine (h m vs δ1 M1 hv e).mono fun t M2 q => ⟨fun et => ?_, fun et => q.2 et⟩
    exact (q.1 et).mono (fun δ' M' ⟨vs', e', m', hm, hv'⟩ => ⟨m', hm, vs', e', hv'⟩) (fun _ _ q => q) (fun _ _ q => q) fun δ' M' ⟨vs', e', m', hm, hv'⟩ => ⟨m', hm, vs', e', hv'⟩
end
/-! ### items of typed lists -/
section
variable {K : PySem.W.Frag} {M : Mem} {Φ : D → Mem → Prop} {α : Type} {l : List α} {f : α → D} {i : Int}
theorem od_ixE (h : 0 ≤ i ∧ i < l.length) (k : ∀ y, l[i.toNat]? = some y → Φ (f y) M) : OpD (rIxU K) (.lst (l.map f)) (.int i) M Φ := by
  obtain ⟨y, h1, h2⟩ := at_map (f := f) h.1 h.2
  exact od_ixL h2 (k y h1)
end
end Hl
namespace Hl
open PySem L2
open PyProof.Rows hiding St
section
variable {B : Bx} {X : Cx} {e a b c o : Expr} {es rest : List Expr} {kw : Keyword} {kws : List Keyword} {st : Stmt} {sts body suite : List Stmt} {δ δ' : Env'} {M : Mem} {Φ : D → Mem → Prop} {Ψ : DEnds} {pos pos' apos pp np : Pos} {d x y : D} {ΦL : List D → Mem → Prop}
def selN (n : Nat) : Sel := (List.range n).map .inl
theorem selN_eq {ds : List D} {n : Nat} (h : ds.length = n) : selD (selN n) ds = ds := by
  subst h
  unfold selD selN
  rw [List.map_map]
  apply List.ext_getElem
  · simp
  · intro i h1 h2
    simp [List.getD, h2]
theorem ar_id {k : Nat} {p : DSpE} {ds : List D} {Ξ : XPost} (h : ds.length = k) (q : p ds M Φ Ξ) : ds.length = k ∧ ([] : List D).length = ([] : List Str).length ∧ p (selD (selN k) (ds ++ [])) M Φ Ξ := ⟨h, rfl, by rw [List.append_nil, selN_eq h]; exact q⟩
theorem ar_idM {k : Nat} {p : DSpE} {ds : List D} {Ξ : XPost} (h : ds.length = k) (q : p (x :: ds) M Φ Ξ) : ds.length = k ∧ ([] : List D).length = ([] : List Str).length ∧ p (selD (selN (k + 1)) (x :: ds ++ [])) M Φ Ξ := ⟨h, rfl, by rw [List.append_nil, selN_eq (by simp [h])]; exact q⟩
theorem ar_idN {k : Nat} {p : DSpE} {ds : List D} {Ξ : XPost} {Φ' : Addr → D → Mem → Prop} {Mm : Addr → Mem} (h : ds.length = k) (q : ∀ a, p (.raw (.ref a) :: ds) (Mm a) (Φ' a) Ξ) : ds.length = k ∧ ([] : List D).length = ([] : List Str).length ∧ ∀ a, p (selD (selN (k + 1)) (.raw (.ref a) :: ds ++ [])) (Mm a) (Φ' a) Ξ := ⟨h, rfl, fun a => by rw [List.append_nil, selN_eq (by simp [h])]; exact q a⟩
theorem ar_g {k : Nat} {p : DSpE} {ds zs : List D} {ks : List Str} {sel : Sel} {Ξ : XPost} (h : ds.length = k) (h2 : zs.length = ks.length) (q : p (selD sel (ds ++ zs)) M Φ Ξ) : ds.length = k ∧ zs.length = ks.length ∧ p (selD sel (ds ++ zs)) M Φ Ξ := ⟨h, h2, q⟩
theorem ar_gM {k : Nat} {p : DSpE} {ds zs : List D} {ks : List Str} {sel : Sel} {Ξ : XPost} (h : ds.length = k) (h2 : zs.length = ks.length) (q : p (selD sel (x :: ds ++ zs)) M Φ Ξ) : ds.length = k ∧ zs.length = ks.length ∧ p (selD sel (x :: ds ++ zs)) M Φ Ξ := ⟨h, h2, q⟩
theorem ar_gN {k : Nat} {p : DSpE} {ds zs : List D} {ks : List Str} {sel : Sel} {Ξ : XPost} {Φ' : Addr → D → Mem → Prop} {Mm : Addr → Mem} (h : ds.length = k) (h2 : zs.length = ks.length) (q : ∀ a, p (selD sel (.raw (.ref a) :: ds ++ zs)) (Mm a) (Φ' a) Ξ) : ds.length = k ∧ zs.length = ks.length ∧ ∀ a, p (selD sel (.raw (.ref a) :: ds ++ zs)) (Mm a) (Φ' a) Ξ := ⟨h, h2, q⟩
/-! methods, the class by the thing -/
def MtE (B : Bx) (X : Cx) (m : Nat) (pos : Pos) (es : List Expr) (kws : List Keyword) (mn : Str) (δ : Env') (x : D) (M1 : Mem) (Φ : D → Mem → Prop) : Prop := ∃ C k n ks sel p Ξ, MethEX X k C mn n ks sel p ∧ k ≤ m ∧ Lets X B δ Ξ ∧ PlA X pos es kws ks ∧ (∃ ns fs, IsO M1 x C ns fs ∧ ns.contains mn = false) ∧
  DAK B X es kws δ M1 fun ds zs M' => ds.length = n ∧ zs.length = ks.length ∧ p (selD sel (x :: ds ++ zs)) M' Φ Ξ
theorem de_mU {pl_ : Sem Bool} {m : Nat} {mn : Str} (z : Cz X m) (h : DE B X o δ M fun x M1 => MtE B X m pos es kws mn δ x M1 Φ)
    (ht : eval (.Call (.Attribute o mn apos) es kws pos) X.env = (do
      let ov ← eval o X.env
      standAt apos.atName
      let (f, first) ← holding [ov] (getMethod ov mn pl_)
      callWith pos f first (backTo pos (starEach es X.env)) (backToKw pos (keywordEach kws X.env))) := by rfl) : DE B X (.Call (.Attribute o mn apos) es kws pos) δ M Φ := by
  intro κ σ H Q hb R kk
  unfold tE
  intro pins s I
  refine PySem.W.methodCall_KW (pl := pl_) (thn ((cE (X := X) (e := o)).run pins s σ H (fun v H1 => ∃ x M1, MtE B X m pos es kws mn δ x M1 Φ ∧ Rs κ δ M1 σ H1 ∧ Rep M1.F H1 v x) I (h κ σ H _ hb R fun v x M1 H1 q R1 r1 => ⟨x, M1, q, R1, r1⟩)) fun u s1 ⟨v, H1, I1, rv, x, M1, hm, R1, r1⟩ => ?_) ht
  obtain ⟨C, k, n, ks, sel, p, Ξ, f, hk, lt, pl, ⟨ns, fs, io, hn⟩, hd⟩ := hm
  obtain ⟨fa, c, hm, h3⟩ := f.ex
  obtain ⟨W, tk, hx⟩ := lt
  obtain ⟨a, dx, vs0, rfl, ea, hl, rr⟩ := io.sq R1 r1
  obtain rfl : u = Value.ref a := rv
  refine getmeth_ok I1 ea c hm (lookup_zip hn) ?_
  refine dak_run (κ := (.ref a, x) :: κ) (first := [.ref a]) hm.kp pl hd I1 (fun q hq => List.mem_cons_of_mem _ (hb q hq)) (R1.push r1) fun us ws s2 vs zs ds es M2 H2 I2 rv rz ⟨l1, l2, q⟩ R2 r3 r4 => ?_
  have rs : Vals (V.ref a :: vs) (Value.ref a :: us) := .cons rfl rv
  refine run_E h3 (z.room.mono hk) (passAt tk σ) I2 rs rz (by rw [List.length_cons, r3.length, l1]) (by rw [r4.length]; exact l2) fun us' all rr so => ?_
  exact liftE_of so rr.length R2.pop ((Reps.cons R2.top r3).append r4) q kk fun C ns es M' H' dx e R' x => hx κ σ C ns es M' H' dx hb e R' x
theorem mt_v {m k n : Nat} {mn : Str} {C : Addr} {ns ks : List Str} {fs : List D} {sel : Sel} {p : DSpE} {Ξ : XPost} (f : MethEX X k C mn n ks sel p) (hk : k ≤ m) (lt : Lets X B δ Ξ) (pl : PlA X pos es kws ks) (hn : ns.contains mn = false)
    (h : DAK B X es kws δ M fun ds zs M' => ds.length = n ∧ zs.length = ks.length ∧ p (selD sel (.obj C ns fs :: ds ++ zs)) M' Φ Ξ) : MtE B X m pos es kws mn δ (.obj C ns fs) M Φ := ⟨C, k, n, ks, sel, p, Ξ, f, hk, lt, pl, ⟨ns, fs, .val _ _ _, hn⟩, h⟩
theorem mt_c {m k n : Nat} {mn : Str} {C q : Addr} {ns ks : List Str} {fs : List D} {sel : Sel} {p : DSpE} {Ξ : XPost} (j : Nat) (hm : M[j]? = some (q, .obj C ns fs)) (f : MethEX X k C mn n ks sel p) (hk : k ≤ m) (lt : Lets X B δ Ξ) (pl : PlA X pos es kws ks) (hn : ns.contains mn = false)
    (h : DAK B X es kws δ M fun ds zs M' => ds.length = n ∧ zs.length = ks.length ∧ p (selD sel (.raw (.ref q) :: ds ++ zs)) M' Φ Ξ) : MtE B X m pos es kws mn δ (.raw (.ref q)) M Φ := ⟨C, k, n, ks, sel, p, Ξ, f, hk, lt, pl, ⟨ns, fs, .cell j hm, hn⟩, h⟩
/-! an exception reaches a handler -/
theorem exh_yes {c0 C : Addr} {oi : Option Nat} {ns : List Str} {ds : List D} {r : List HdD} (hm : PySem.W.exmOne X.K (.ref C) (.ref c0) = some true) (h : ∀ a pn kp, DSs ⟨kp, fun _ _ _ _ _ => False⟩ (X.suite a pn) suite (envD oi δ (.exn C ns ds)) M (endsD oi Ψ)) : exH B X Ψ ((c0, oi, suite) :: r) C ns ds δ M := ⟨true, hm, (fun _ => h), (fun z => nomatch z)⟩
theorem exh_no {c0 C : Addr} {oi : Option Nat} {ns : List Str} {ds : List D} {r : List HdD} (hm : PySem.W.exmOne X.K (.ref C) (.ref c0) = some false) (h : exH B X Ψ r C ns ds δ M) : exH B X Ψ ((c0, oi, suite) :: r) C ns ds δ M := ⟨false, hm, (fun z => nomatch z), fun _ => h⟩
theorem kind_of {sc : Scope} {x : Str} (hs : X.env.scope = sc) (h : sc.names.lookup x = some .local) : X.env.kindOf x = some .local := by unfold Env.kindOf; rw [hs]; exact h
theorem len_andI {ds : List D} {ns : List Str} {P : Prop} (h1 : ds.length = ns.length) (h2 : ds.length ≤ 1000) (k : P) : ds.length = ns.length ∧ ds.length ≤ 1000 ∧ P := ⟨h1, h2, k⟩
/-- a store without calm -/
theorem ds_setN {i : Nat} {x : Str} (nd : X.N.Nodup) (l : Lo X i x) (h : DE B X e δ M fun d M' => Sets δ i d fun δ' => Ψ.nx δ' M') (hs : swapsWith e (some (.Name x pos')) pos.line X.env = pure false := by rfl) : DS B X (.Assign [.Name x pos'] e pos) δ M Ψ :=
  .of (ps_set nd l.at_ l.loc cE hs l.fn) fun κ σ H E hb R k => h κ σ H _ hb R fun v d M' H' q R' r => k.nx _ _ _ _ q.get (R'.put i r)
/-! a field is set, the class by the thing -/
def StF (K : PySem.W.Frag) (f : Str) (d x : D) (M : Mem) (Φ : Mem → Prop) : Prop := ∃ p C ns fs ns' fs' M', x = .raw (.ref p) ∧ Rpl p (.obj C ns fs) (.obj C ns' fs') M M' ∧ FldP K C f ∧ ns.length < 1000 ∧ putN f d ns fs = (ns', fs') ∧ Φ M'
theorem ds_fldU {f : Str} (h : DE B X e δ M fun d M1 => DE B X o δ M1 fun x M2 => StF X.K f d x M2 fun M3 => Ψ.nx δ M3)
    (hs : swapsWith e (some (.Attribute o f pos')) pos.line X.env = pure false := by rfl) : DS B X (.Assign [.Attribute o f pos'] e pos) δ M Ψ := ds_fld (h.mono fun d M1 h1 => h1.mono fun x M2 ⟨p, C, ns, fs, ns', fs', M3, e1, e2, ff, hl, hp, k⟩ => ⟨p, C, ns, fs, M3, e1, by rw [hp]; exact e2, ff, hl, k⟩) hs
theorem sf_n0 {K : PySem.W.Frag} {f : Str} {p C : Addr}   {ΦM : Mem → Prop} (j : Nat) (hm : M[j]? = some (p, .obj C [] [])) (ff : FldP K C f)  (k : ΦM (M.set j (p, .obj C [f] [d]))) : StF K f d (.raw (.ref p)) M ΦM := ⟨p, C, _, _, _, _, _, rfl, .cell j hm, ff, (by show 0 < 1000; decide), by simp [putN], k⟩
theorem sf_n1 {K : PySem.W.Frag} {f : Str} {p C : Addr} {n0 : Str} {x0 : D} {ΦM : Mem → Prop} (j : Nat) (hm : M[j]? = some (p, .obj C [n0] [x0])) (ff : FldP K C f) (h0 : (n0 = f) = False) (k : ΦM (M.set j (p, .obj C [n0, f] [x0, d]))) : StF K f d (.raw (.ref p)) M ΦM := ⟨p, C, _, _, _, _, _, rfl, .cell j hm, ff, (by show 1 < 1000; decide), by simp [putN, h0], k⟩
theorem sf_n2 {K : PySem.W.Frag} {f : Str} {p C : Addr} {n0 n1 : Str} {x0 x1 : D} {ΦM : Mem → Prop} (j : Nat) (hm : M[j]? = some (p, .obj C [n0, n1] [x0, x1])) (ff : FldP K C f) (h0 : (n0 = f) = False) (h1 : (n1 = f) = False) (k : ΦM (M.set j (p, .obj C [n0, n1, f] [x0, x1, d]))) : StF K f d (.raw (.ref p)) M ΦM := ⟨p, C, _, _, _, _, _, rfl, .cell j hm, ff, (by show 2 < 1000; decide), by simp [putN, h0, h1], k⟩
theorem sf_n3 {K : PySem.W.Frag} {f : Str} {p C : Addr} {n0 n1 n2 : Str} {x0 x1 x2 : D} {ΦM : Mem → Prop} (j : Nat) (hm : M[j]? = some (p, .obj C [n0, n1, n2] [x0, x1, x2])) (ff : FldP K C f) (h0 : (n0 = f) = False) (h1 : (n1 = f) = False) (h2 : (n2 = f) = False) (k : ΦM (M.set j (p, .obj C [n0, n1, n2, f] [x0, x1, x2, d]))) : StF K f d (.raw (.ref p)) M ΦM := ⟨p, C, _, _, _, _, _, rfl, .cell j hm, ff, (by show 3 < 1000; decide), by simp [putN, h0, h1, h2], k⟩
theorem sf_n4 {K : PySem.W.Frag} {f : Str} {p C : Addr} {n0 n1 n2 n3 : Str} {x0 x1 x2 x3 : D} {ΦM : Mem → Prop} (j : Nat) (hm : M[j]? = some (p, .obj C [n0, n1, n2, n3] [x0, x1, x2, x3])) (ff : FldP K C f) (h0 : (n0 = f) = False) (h1 : (n1 = f) = False) (h2 : (n2 = f) = False) (h3 : (n3 = f) = False) (k : ΦM (M.set j (p, .obj C [n0, n1, n2, n3, f] [x0, x1, x2, x3, d]))) : StF K f d (.raw (.ref p)) M ΦM := ⟨p, C, _, _, _, _, _, rfl, .cell j hm, ff, (by show 4 < 1000; decide), by simp [putN, h0, h1, h2, h3], k⟩
theorem sf_n5 {K : PySem.W.Frag} {f : Str} {p C : Addr} {n0 n1 n2 n3 n4 : Str} {x0 x1 x2 x3 x4 : D} {ΦM : Mem → Prop} (j : Nat) (hm : M[j]? = some (p, .obj C [n0, n1, n2, n3, n4] [x0, x1, x2, x3, x4])) (ff : FldP K C f) (h0 : (n0 = f) = False) (h1 : (n1 = f) = False) (h2 : (n2 = f) = False) (h3 : (n3 = f) = False) (h4 : (n4 = f) = False) (k : ΦM (M.set j (p, .obj C [n0, n1, n2, n3, n4, f] [x0, x1, x2, x3, x4, d]))) : StF K f d (.raw (.ref p)) M ΦM := ⟨p, C, _, _, _, _, _, rfl, .cell j hm, ff, (by show 5 < 1000; decide), by simp [putN, h0, h1, h2, h3, h4], k⟩
theorem isl_c {p : Addr} {ds : List D} {P : Prop} (j : Nat) (hm : M[j]? = some (p, .lst ds)) (k : P) : (∃ ds, IsL M (.raw (.ref p)) ds) ∧ P := ⟨⟨ds, .cell j hm⟩, k⟩
theorem idApp {K : PySem.W.Frag} {ds : List D} {r : V → List V → Hp → VK → Prop} (h : MtD K "list" r x ds M Φ) : MtD K "list" r x ds M Φ := h
theorem len_lt {n : Nat} (h : n ≤ 100000) : n < sizeLine := Nat.lt_of_le_of_lt h (by decide)
theorem idFld {f : Str} {K : PySem.W.Frag} (h : FldD K f x M Φ) : FldD K f x M Φ := h
theorem idMt {m : Nat} {mn : Str} (h : MtE B X m pos es kws mn δ x M Φ) : MtE B X m pos es kws mn δ x M Φ := h
theorem idStF {f : Str} {K : PySem.W.Frag} {ΦM : Mem → Prop} (h : StF K f d x M ΦM) : StF K f d x M ΦM := h
theorem idDAK {ΦA : List D → List D → Mem → Prop} (h : DAK B X es kws δ M ΦA) : DAK B X es kws δ M ΦA := h
theorem idAttr {f : Str} (h : DE B X (.Attribute o f pos) δ M Φ) : DE B X (.Attribute o f pos) δ M Φ := h
theorem idRaise {e' : Option Expr} {e2 : Option Expr} (h : DS B X (.Raise e' e2 pos) δ M Ψ) : DS B X (.Raise e' e2 pos) δ M Ψ := h
end
theorem law_out {P : Program} {w : World} {outer : List Env} {H : Hp} {s : Shared} {u : Value} {s' : Shared} (h : L2.CX P w outer H s (fun _ _ _ => False) u s') : False := by
  obtain ⟨_, _, _, _, _, _, _, _, _, _, _, _, z⟩ := h
  exact z
end Hl
namespace Hl
open PySem L2
open PyProof.Rows hiding St
section
variable {B : Bx} {X : Cx} {e a b c o : Expr} {es rest : List Expr} {δ δ' : Env'} {M : Mem} {Φ : D → Mem → Prop} {Ψ : DEnds} {pos pos' apos pp np : Pos} {d x y : D}
/-! isinstance(e, (A, B)), e an exception that is held -/
def rIsXT (K : PySem.W.Frag) : List V → Hp → VK → Prop := fun xs H Q => ∃ (a C tp : Addr) (dx : Option Addr) (cs : List V) (us : List Value) (b : Bool), xs = [.ref a, .ref tp] ∧ H tp = some (.tup cs) ∧ Paired ClsV cs us ∧ H a = some (XO (.ref C) dx a) ∧ (dx = none ∨ ∃ d fs, dx = some d ∧ H d = some (.xd fs)) ∧ ExcP K C ∧ PySem.W.kitAny K (.ref C) us = some b ∧ Q (.bl b) H
theorem call_isXT : CallR X (.builtin "isinstance") (rIsXT X.K) := by
  intro pins s σ H xs us Q I r h
  obtain ⟨a, C, tp, dx, cs, ws, b, rfl, hT, k, ea, hd, T, e, q⟩ := h
  obtain ⟨u1, u2, rfl, r1, r2⟩ := vals2 r
  cases (show u2 = Value.ref tp from r2)
  cases (show u1 = Value.ref a from r1)
  obtain ⟨⟨oe, vs, ha, hz, hdt⟩, _, _⟩ := I.hok a _ ea
  have J : ∃ od, PySem.W.InstAt s.heap a oe C od := by
    rcases hd with rfl | ⟨d, fs, rfl, ed⟩
    · exact ⟨none, ha, hz.1, by unfold PySem.W.notCls; rw [hdt] <;> rfl, by rw [hz.2]; trivial⟩
    · have hx : ObjOk X.prog X.w H s.heap d (.xd fs) := I.hok d _ ed
      obtain ⟨mA, hns, hr⟩ := hx
      obtain ⟨od, ho, hl⟩ := lookIn_ns hns
      exact ⟨some od, ha, hz.1, by unfold PySem.W.notCls; rw [hdt] <;> rfl, by rw [hz.2]; exact ho⟩
  obtain ⟨od, J⟩ := J
  obtain ⟨_, its, rv, o, h1, h2, n, h3⟩ := (show ObjOk X.prog X.w H s.heap tp (.tup cs) from I.hok tp _ hT)
  have e3 := ClsV.all k rv
  subst e3
  obtain ⟨oc, od2, dt, sl⟩ := o
  simp only at h2 h3
  subst h2 h3
  exact PySem.W.kia_tup (PySem.W.kitx_exc T.cl T.ga T.gg T.hs T.ha T.hn T.ht T.hm) I.kIn J h1 e (fun z => nomatch z) fun tk => ⟨.bl b, H, I.tok tk, rfl, q⟩
def rIsiV (K : PySem.W.Frag) : List V → Hp → VK → Prop := fun xs H Q => rIsiU K xs H Q ∨ rIsXT K xs H Q
theorem de_isiV {p : Pos} (g : Gn X "isinstance") (h : DA B X [a, b] δ M fun ds M1 => CallD (rIsiV X.K) ds M1 Φ) (he : starEach [a, b] X.env = (false, eval a X.env) :: starEach [b] X.env := by rfl) (hpl : (backTo pos (starEach [b] X.env)).any (·.1) = false := by rfl) : DE B X (.Call (.Name "isinstance" p) [a, b] [] pos) δ M Φ := de_blt ((call_isi.or call_isX).or call_isXT) g boot_isinstance h (by decide) (by decide) he hpl
/-- a held exception and two own classes -/
theorem isx_t2 {K : PySem.W.Frag} {C : Addr} {ns : List Str} {fs : List D} {c1 c2 : V} {u1 u2 : Value} {b1 b2 : Bool} (T : ExcP K C) (h1 : ClsV c1 u1) (h2 : ClsV c2 u2) (k1 : PySem.W.kitOne K (.ref C) u1 = some b1) (k2 : PySem.W.kitOne K (.ref C) u2 = some b2) (k : Φ (.bl (b1 || b2)) M) : CallD (rIsiV K) [.exn C ns fs, .tup [.raw c1, .raw c2]] M Φ := .inr fun κ δ σ H vs Q R rs f => by
  cases rs with
  | cons r1 r2 =>
    cases r2 with
    | cons r2 r3 =>
      cases r3
      have kk : PySem.W.kitAny K (.ref C) [u1, u2] = some (b1 || b2) := by
        refine kitAny_cons k1 (fun e => ?_) fun e => by rw [e]; rfl
        rw [e]
        refine kitAny_cons k2 (fun e => ?_) fun e => by rw [e]; rfl
        rw [e]; exact kitAny_nil
      cases r2 with
      | tup hn e2 rr =>
        cases rr with
        | cons q1 rr =>
          cases rr with
          | cons q2 rr =>
            cases rr
            have := ClsD q1
            subst this
            have := ClsD q2
            subst this
            cases r1 with
            | exn0 h3 e1 => exact ⟨_, C, _, none, _, _, _, rfl, e2, .cons h1 (.cons h2 .nil), e1, .inl rfl, T, kk, f _ _ _ _ k R (.bl _)⟩
            | exn h3 e1 h4 e4 hl rr => exact ⟨_, C, _, _, _, _, _, rfl, e2, .cons h1 (.cons h2 .nil), e1, .inr ⟨_, _, rfl, e4⟩, T, kk, f _ _ _ _ k R (.bl _)⟩
end
/-! the name of a handler goes -/
def Uns (δ : Env') (i : Nat) (P : Env' → Prop) : Prop := P (δ.set i none)
theorem ua0 {P : Env' → Prop} {x0 : Option D} {r : Env'} (h : P (none :: r)) : Uns (x0 :: r) 0 P := h
theorem ua1 {P : Env' → Prop} {x0 x1 : Option D} {r : Env'} (h : P (x0 :: none :: r)) : Uns (x0 :: x1 :: r) 1 P := h
theorem ua2 {P : Env' → Prop} {x0 x1 x2 : Option D} {r : Env'} (h : P (x0 :: x1 :: none :: r)) : Uns (x0 :: x1 :: x2 :: r) 2 P := h
theorem ua3 {P : Env' → Prop} {x0 x1 x2 x3 : Option D} {r : Env'} (h : P (x0 :: x1 :: x2 :: none :: r)) : Uns (x0 :: x1 :: x2 :: x3 :: r) 3 P := h
theorem ua4 {P : Env' → Prop} {x0 x1 x2 x3 x4 : Option D} {r : Env'} (h : P (x0 :: x1 :: x2 :: x3 :: none :: r)) : Uns (x0 :: x1 :: x2 :: x3 :: x4 :: r) 4 P := h
theorem ua5 {P : Env' → Prop} {x0 x1 x2 x3 x4 x5 : Option D} {r : Env'} (h : P (x0 :: x1 :: x2 :: x3 :: x4 :: none :: r)) : Uns (x0 :: x1 :: x2 :: x3 :: x4 :: x5 :: r) 5 P := h
theorem ua6 {P : Env' → Prop} {x0 x1 x2 x3 x4 x5 x6 : Option D} {r : Env'} (h : P (x0 :: x1 :: x2 :: x3 :: x4 :: x5 :: none :: r)) : Uns (x0 :: x1 :: x2 :: x3 :: x4 :: x5 :: x6 :: r) 6 P := h
theorem ua7 {P : Env' → Prop} {x0 x1 x2 x3 x4 x5 x6 x7 : Option D} {r : Env'} (h : P (x0 :: x1 :: x2 :: x3 :: x4 :: x5 :: x6 :: none :: r)) : Uns (x0 :: x1 :: x2 :: x3 :: x4 :: x5 :: x6 :: x7 :: r) 7 P := h
theorem ua8 {P : Env' → Prop} {x0 x1 x2 x3 x4 x5 x6 x7 x8 : Option D} {r : Env'} (h : P (x0 :: x1 :: x2 :: x3 :: x4 :: x5 :: x6 :: x7 :: none :: r)) : Uns (x0 :: x1 :: x2 :: x3 :: x4 :: x5 :: x6 :: x7 :: x8 :: r) 8 P := h
theorem ua9 {P : Env' → Prop} {x0 x1 x2 x3 x4 x5 x6 x7 x8 x9 : Option D} {r : Env'} (h : P (x0 :: x1 :: x2 :: x3 :: x4 :: x5 :: x6 :: x7 :: x8 :: none :: r)) : Uns (x0 :: x1 :: x2 :: x3 :: x4 :: x5 :: x6 :: x7 :: x8 :: x9 :: r) 9 P := h
theorem ua10 {P : Env' → Prop} {x0 x1 x2 x3 x4 x5 x6 x7 x8 x9 x10 : Option D} {r : Env'} (h : P (x0 :: x1 :: x2 :: x3 :: x4 :: x5 :: x6 :: x7 :: x8 :: x9 :: none :: r)) : Uns (x0 :: x1 :: x2 :: x3 :: x4 :: x5 :: x6 :: x7 :: x8 :: x9 :: x10 :: r) 10 P := h
theorem ua11 {P : Env' → Prop} {x0 x1 x2 x3 x4 x5 x6 x7 x8 x9 x10 x11 : Option D} {r : Env'} (h : P (x0 :: x1 :: x2 :: x3 :: x4 :: x5 :: x6 :: x7 :: x8 :: x9 :: x10 :: none :: r)) : Uns (x0 :: x1 :: x2 :: x3 :: x4 :: x5 :: x6 :: x7 :: x8 :: x9 :: x10 :: x11 :: r) 11 P := h
theorem ua12 {P : Env' → Prop} {x0 x1 x2 x3 x4 x5 x6 x7 x8 x9 x10 x11 x12 : Option D} {r : Env'} (h : P (x0 :: x1 :: x2 :: x3 :: x4 :: x5 :: x6 :: x7 :: x8 :: x9 :: x10 :: x11 :: none :: r)) : Uns (x0 :: x1 :: x2 :: x3 :: x4 :: x5 :: x6 :: x7 :: x8 :: x9 :: x10 :: x11 :: x12 :: r) 12 P := h
theorem ua13 {P : Env' → Prop} {x0 x1 x2 x3 x4 x5 x6 x7 x8 x9 x10 x11 x12 x13 : Option D} {r : Env'} (h : P (x0 :: x1 :: x2 :: x3 :: x4 :: x5 :: x6 :: x7 :: x8 :: x9 :: x10 :: x11 :: x12 :: none :: r)) : Uns (x0 :: x1 :: x2 :: x3 :: x4 :: x5 :: x6 :: x7 :: x8 :: x9 :: x10 :: x11 :: x12 :: x13 :: r) 13 P := h
theorem ua14 {P : Env' → Prop} {x0 x1 x2 x3 x4 x5 x6 x7 x8 x9 x10 x11 x12 x13 x14 : Option D} {r : Env'} (h : P (x0 :: x1 :: x2 :: x3 :: x4 :: x5 :: x6 :: x7 :: x8 :: x9 :: x10 :: x11 :: x12 :: x13 :: none :: r)) : Uns (x0 :: x1 :: x2 :: x3 :: x4 :: x5 :: x6 :: x7 :: x8 :: x9 :: x10 :: x11 :: x12 :: x13 :: x14 :: r) 14 P := h
theorem ua15 {P : Env' → Prop} {x0 x1 x2 x3 x4 x5 x6 x7 x8 x9 x10 x11 x12 x13 x14 x15 : Option D} {r : Env'} (h : P (x0 :: x1 :: x2 :: x3 :: x4 :: x5 :: x6 :: x7 :: x8 :: x9 :: x10 :: x11 :: x12 :: x13 :: x14 :: none :: r)) : Uns (x0 :: x1 :: x2 :: x3 :: x4 :: x5 :: x6 :: x7 :: x8 :: x9 :: x10 :: x11 :: x12 :: x13 :: x14 :: x15 :: r) 15 P := h
theorem ua16 {P : Env' → Prop} {x0 x1 x2 x3 x4 x5 x6 x7 x8 x9 x10 x11 x12 x13 x14 x15 x16 : Option D} {r : Env'} (h : P (x0 :: x1 :: x2 :: x3 :: x4 :: x5 :: x6 :: x7 :: x8 :: x9 :: x10 :: x11 :: x12 :: x13 :: x14 :: x15 :: none :: r)) : Uns (x0 :: x1 :: x2 :: x3 :: x4 :: x5 :: x6 :: x7 :: x8 :: x9 :: x10 :: x11 :: x12 :: x13 :: x14 :: x15 :: x16 :: r) 16 P := h
theorem ua17 {P : Env' → Prop} {x0 x1 x2 x3 x4 x5 x6 x7 x8 x9 x10 x11 x12 x13 x14 x15 x16 x17 : Option D} {r : Env'} (h : P (x0 :: x1 :: x2 :: x3 :: x4 :: x5 :: x6 :: x7 :: x8 :: x9 :: x10 :: x11 :: x12 :: x13 :: x14 :: x15 :: x16 :: none :: r)) : Uns (x0 :: x1 :: x2 :: x3 :: x4 :: x5 :: x6 :: x7 :: x8 :: x9 :: x10 :: x11 :: x12 :: x13 :: x14 :: x15 :: x16 :: x17 :: r) 17 P := h
theorem ua18 {P : Env' → Prop} {x0 x1 x2 x3 x4 x5 x6 x7 x8 x9 x10 x11 x12 x13 x14 x15 x16 x17 x18 : Option D} {r : Env'} (h : P (x0 :: x1 :: x2 :: x3 :: x4 :: x5 :: x6 :: x7 :: x8 :: x9 :: x10 :: x11 :: x12 :: x13 :: x14 :: x15 :: x16 :: x17 :: none :: r)) : Uns (x0 :: x1 :: x2 :: x3 :: x4 :: x5 :: x6 :: x7 :: x8 :: x9 :: x10 :: x11 :: x12 :: x13 :: x14 :: x15 :: x16 :: x17 :: x18 :: r) 18 P := h
theorem ua19 {P : Env' → Prop} {x0 x1 x2 x3 x4 x5 x6 x7 x8 x9 x10 x11 x12 x13 x14 x15 x16 x17 x18 x19 : Option D} {r : Env'} (h : P (x0 :: x1 :: x2 :: x3 :: x4 :: x5 :: x6 :: x7 :: x8 :: x9 :: x10 :: x11 :: x12 :: x13 :: x14 :: x15 :: x16 :: x17 :: x18 :: none :: r)) : Uns (x0 :: x1 :: x2 :: x3 :: x4 :: x5 :: x6 :: x7 :: x8 :: x9 :: x10 :: x11 :: x12 :: x13 :: x14 :: x15 :: x16 :: x17 :: x18 :: x19 :: r) 19 P := h
theorem ua20 {P : Env' → Prop} {x0 x1 x2 x3 x4 x5 x6 x7 x8 x9 x10 x11 x12 x13 x14 x15 x16 x17 x18 x19 x20 : Option D} {r : Env'} (h : P (x0 :: x1 :: x2 :: x3 :: x4 :: x5 :: x6 :: x7 :: x8 :: x9 :: x10 :: x11 :: x12 :: x13 :: x14 :: x15 :: x16 :: x17 :: x18 :: x19 :: none :: r)) : Uns (x0 :: x1 :: x2 :: x3 :: x4 :: x5 :: x6 :: x7 :: x8 :: x9 :: x10 :: x11 :: x12 :: x13 :: x14 :: x15 :: x16 :: x17 :: x18 :: x19 :: x20 :: r) 20 P := h
theorem ua21 {P : Env' → Prop} {x0 x1 x2 x3 x4 x5 x6 x7 x8 x9 x10 x11 x12 x13 x14 x15 x16 x17 x18 x19 x20 x21 : Option D} {r : Env'} (h : P (x0 :: x1 :: x2 :: x3 :: x4 :: x5 :: x6 :: x7 :: x8 :: x9 :: x10 :: x11 :: x12 :: x13 :: x14 :: x15 :: x16 :: x17 :: x18 :: x19 :: x20 :: none :: r)) : Uns (x0 :: x1 :: x2 :: x3 :: x4 :: x5 :: x6 :: x7 :: x8 :: x9 :: x10 :: x11 :: x12 :: x13 :: x14 :: x15 :: x16 :: x17 :: x18 :: x19 :: x20 :: x21 :: r) 21 P := h
theorem ua22 {P : Env' → Prop} {x0 x1 x2 x3 x4 x5 x6 x7 x8 x9 x10 x11 x12 x13 x14 x15 x16 x17 x18 x19 x20 x21 x22 : Option D} {r : Env'} (h : P (x0 :: x1 :: x2 :: x3 :: x4 :: x5 :: x6 :: x7 :: x8 :: x9 :: x10 :: x11 :: x12 :: x13 :: x14 :: x15 :: x16 :: x17 :: x18 :: x19 :: x20 :: x21 :: none :: r)) : Uns (x0 :: x1 :: x2 :: x3 :: x4 :: x5 :: x6 :: x7 :: x8 :: x9 :: x10 :: x11 :: x12 :: x13 :: x14 :: x15 :: x16 :: x17 :: x18 :: x19 :: x20 :: x21 :: x22 :: r) 22 P := h
theorem ua23 {P : Env' → Prop} {x0 x1 x2 x3 x4 x5 x6 x7 x8 x9 x10 x11 x12 x13 x14 x15 x16 x17 x18 x19 x20 x21 x22 x23 : Option D} {r : Env'} (h : P (x0 :: x1 :: x2 :: x3 :: x4 :: x5 :: x6 :: x7 :: x8 :: x9 :: x10 :: x11 :: x12 :: x13 :: x14 :: x15 :: x16 :: x17 :: x18 :: x19 :: x20 :: x21 :: x22 :: none :: r)) : Uns (x0 :: x1 :: x2 :: x3 :: x4 :: x5 :: x6 :: x7 :: x8 :: x9 :: x10 :: x11 :: x12 :: x13 :: x14 :: x15 :: x16 :: x17 :: x18 :: x19 :: x20 :: x21 :: x22 :: x23 :: r) 23 P := h
theorem endA {Ψ : DEnds} {i : Nat} {δ : Env'} {M : Mem} (h : Uns δ i fun δ' => Ψ.nx δ' M) : (endsD (some i) Ψ).nx δ M := h
theorem idUns {δ : Env'} {i : Nat} {P : Env' → Prop} (h : Uns δ i P) : Uns δ i P := h
/-! x in xs, a list of ints -/
section
variable {M : Mem} {Φ : D → Mem → Prop} {y : D}
theorem inV_ints (z : Int) : ∀ zs : List Int, inV (.int z) (zs.map .int) = decide (z ∈ zs)
  | [] => by simp [inV]
  | w :: zs => by
    have ih := inV_ints z zs
    unfold inV at ih ⊢
    rw [List.map_cons, List.any_cons, ih]
    show ((w == z) || _) = _
    by_cases h : w = z
    · subst h; simp
    · simp [h, Ne.symm h, beq_eq_false_iff_ne.mpr h]
theorem flat_ints : ∀ zs : List Int, (zs.map V.int).all flatV = true
  | [] => rfl
  | _ :: zs => flat_ints zs
theorem od_inN {K : PySem.W.Frag} {z : Int} {zs : List Int} (h : IsL M y (zs.map .int)) (k : Φ (.bl (decide (z ∈ zs))) M) : OpD (rInU K) (.int z) y M Φ := .inr (OpD.inl (fun κ δ σ H v w Q R rv rw' f => by
  cases rv
  obtain ⟨p, us, rfl, e1, rr⟩ := h.sq R rw'
  have := rr.ints
  subst this
  refine ⟨p, _, rfl, .inl (SqL.of e1), rfl, flat_ints zs, ?_⟩
  show Q (.bl (inV _ _)) H
  rw [inV_ints]
  exact f _ _ M H k R (.bl _)))
theorem od_notinN {K : PySem.W.Frag} {z : Int} {zs : List Int} (h : IsL M y (zs.map .int)) (k : Φ (.bl (!decide (z ∈ zs))) M) : OpD (rNotInU K) (.int z) y M Φ := .inr (OpD.inl (fun κ δ σ H v w Q R rv rw' f => by
  cases rv
  obtain ⟨p, us, rfl, e1, rr⟩ := h.sq R rw'
  have := rr.ints
  subst this
  refine ⟨p, _, rfl, .inl (SqL.of e1), rfl, flat_ints zs, ?_⟩
  show Q (.bl (!inV _ _)) H
  rw [inV_ints]
  exact f _ _ M H k R (.bl _)))
end
end Hl
namespace Hl
open PySem L2
end Hl
namespace Hl
open PySem L2
open PyProof.Rows hiding St
section
variable {B : Bx} {X : Cx} {e a b c o : Expr} {es rest : List Expr} {st : Stmt} {sts : List Stmt} {δ δ' : Env'} {M : Mem} {Φ : D → Mem → Prop} {Ψ : DEnds} {pos pos' apos cpos pp np : Pos} {d x y : D} {ΦB : Bool → Mem → Prop}
/-! ### dicts -/
theorem look_none {k : Key} : ∀ {ws : List (Key × V)} {kvs : List (Key × D)}, ws.map (·.1) = kvs.map (·.1) → lookD kvs k = none → valV ws k = none
  | [], [], _, _ => rfl
  | [], _ :: _, h, _ => by cases h
  | _ :: _, [], h, _ => by cases h
  | (k1, v) :: ws, (k2, d') :: kvs, h, e => by
    have h1 : k1 = k2 := (List.cons.inj h).1
    have h2 : ws.map (·.1) = kvs.map (·.1) := (List.cons.inj h).2
    subst h1
    unfold lookD at e
    unfold valV
    by_cases hk : k1 = k
    · rw [List.find?_cons_of_pos (by simpa using hk)] at e
      cases e
    · rw [List.find?_cons_of_neg (by simpa using hk)] at e ⊢
      exact look_none h2 e
/-- a dict, by its cell -/
inductive IsDc (M : Mem) : D → List (Key × D) → Prop
  | cell {p : Addr} {kvs : List (Key × D)} (j : Nat) (h : M[j]? = some (p, .dct kvs)) : IsDc M (.raw (.ref p)) kvs
  | lock {p : Addr} {o : Obj} {ws : List (Key × V)} {kvs : List (Key × D)} (j : Nat) (h : M[j]? = some (p, .fdc o ws kvs)) : IsDc M (.raw (.ref p)) kvs
  | inm {p : Addr} {kvs : List (Key × D)} (h : InM M p (.dct kvs)) : IsDc M (.raw (.ref p)) kvs
  | inmL {p : Addr} {o : Obj} {ws : List (Key × V)} {kvs : List (Key × D)} (h : InM M p (.fdc o ws kvs)) : IsDc M (.raw (.ref p)) kvs
  | val (kvs : List (Key × D)) : IsDc M (.fd (kvs.map (·.1)) (kvs.map (·.2))) kvs
theorem IsDc.sq {κ : List (V × D)} {σ : St} {H : Hp} {v : V} {x : D} {kvs : List (Key × D)} (h : IsDc M x kvs) (R : Rs κ δ M σ H) (r : Rep M.F H v x) : ∃ p ws, v = .ref p ∧ Rd H p (.dK ws) ∧ ws.map (·.1) = kvs.map (·.1) ∧ Reps M.F H (ws.map (·.2)) (kvs.map (·.2)) := by
  cases h with
  | cell j h =>
    cases r
    obtain ⟨ws, e1, e2, r1⟩ := R.at h
    exact ⟨_, ws, rfl, .inl e1, e2, r1⟩
  | lock j h =>
    cases r
    obtain ⟨e1, e2, r1⟩ := R.at h
    exact ⟨_, _, rfl, .inr ⟨_, e1⟩, e2, r1⟩
  | inm h =>
    cases r
    obtain ⟨ws, e1, e2, r1⟩ := h.ok R
    exact ⟨_, ws, rfl, .inl e1, e2, r1⟩
  | inmL h =>
    cases r
    obtain ⟨e1, e2, r1⟩ := h.ok R
    exact ⟨_, _, rfl, .inr ⟨_, e1⟩, e2, r1⟩
  | val kvs =>
    cases r with
    | fd h e e1 e2 r1 => subst e2; exact ⟨_, _, rfl, .inr ⟨_, e⟩, e1, r1⟩
theorem val_rep {F : List Addr} {H : Hp} {k : Key} {ws : List (Key × V)} {kvs : List (Key × D)} (h : ws.map (·.1) = kvs.map (·.1)) (r : Reps F H (ws.map (·.2)) (kvs.map (·.2))) : (lookD kvs k = none ∧ valV ws k = none) ∨ ∃ v d, valV ws k = some v ∧ lookD kvs k = some d ∧ Rep F H v d := by
  cases e : lookD kvs k with
  | none => exact .inl ⟨rfl, look_none h e⟩
  | some d =>
    obtain ⟨v, e1, r1⟩ := look_rep h r e
    exact .inr ⟨v, d, e1, rfl, r1⟩
def GtD (x y w : D) (M : Mem) (Φ : D → Mem → Prop) : Prop := ∃ kvs k, IsDc M x kvs ∧ y = kD k ∧ Φ ((lookD kvs k).getD w) M
/-- d.get(k, x) -/
theorem de_dget2 {n : Nat} (z : Cz X n) (h : DE B X o δ M fun x M1 => (∃ kvs, IsDc M1 x kvs) ∧ DE B X a δ M1 fun y M2 => DE B X b δ M2 fun w M3 => GtD x y w M3 Φ)
    (hbase : attributeBase o "get" X.env (eval o X.env) = eval o X.env := by rfl)
    (hfew : ((backTo cpos (starEach [a, b] X.env)).all (fun x => !x.1) && (backToKw cpos (keywordEach [] X.env)).all (fun x => x.1.isSome)
      && decide (([a, b] : List Expr).length + ([] : List Keyword).length + (if ([] : List Keyword).isEmpty then 0 else 1) < 30)) = true := by rfl)
    (hline : (apos.endLine == cpos.line) = true := by rfl) (htr : backTo cpos (starEach [a, b] X.env) = [(false, eval a X.env), (false, eval b X.env)] := by rfl) : DE B X (.Call (.Attribute o "get" apos) [a, b] [] cpos) δ M Φ :=
  .of (pe_dget2 (un1 z) cE cE cE ⟨hbase, hfew, hline, htr⟩) fun κ σ H Q hb R kk => h κ σ H _ hb R fun v x M1 H1 ⟨⟨kvs0, d0⟩, q1⟩ R1 r1 => by
    obtain ⟨p, ws0, rfl, e0, _⟩ := d0.sq R1 r1
    refine ⟨p, rfl, .inl ⟨ws0, e0⟩, q1 ((.ref p, x) :: κ) σ H1 _ (fun q hq => List.mem_cons_of_mem _ (hb q hq)) (R1.push r1) fun vy y M2 H2 q2 R2 r2 => ?_⟩
    refine q2 ((vy, y) :: (.ref p, x) :: κ) σ H2 _ (fun q hq => List.mem_cons_of_mem _ (List.mem_cons_of_mem _ (hb q hq))) (R2.push r2) fun vw w M3 H3 ⟨kvs, k, hd, ey, q3⟩ R3 r3 => ?_
    obtain ⟨p', ws, ep, e1, e2, rr⟩ := hd.sq R3 R3.pop.top
    cases ep
    have hy := R3.top
    subst ey
    have := rep_k hy
    subst this
    refine ⟨_, .inl ⟨ws, k, e1, rfl, rfl⟩, ?_⟩
    rcases val_rep (k := k) e2 rr with ⟨n1, n2⟩ | ⟨v, d, s1, s2, rv⟩
    · rw [n1] at q3; rw [n2]; exact kk _ _ _ _ q3 R3.pop.pop r3
    · rw [s2] at q3; rw [s1]; exact kk _ _ _ _ q3 R3.pop.pop rv
theorem isd_c {p : Addr} {kvs : List (Key × D)} {P : Prop} (j : Nat) (hm : M[j]? = some (p, .dct kvs)) (k : P) : (∃ kvs, IsDc M (.raw (.ref p)) kvs) ∧ P := ⟨⟨kvs, .cell j hm⟩, k⟩
theorem dg_i {p : Addr} {kvs : List (Key × D)} {i : Int} (j : Nat) (hm : M[j]? = some (p, .dct kvs)) (k : Φ ((lookD kvs (.inl i)).getD d) M) : GtD (.raw (.ref p)) (.int i) d M Φ := ⟨kvs, .inl i, .cell j hm, rfl, k⟩
theorem dg_s {p : Addr} {kvs : List (Key × D)} {i : Str} (j : Nat) (hm : M[j]? = some (p, .dct kvs)) (k : Φ ((lookD kvs (.inr i)).getD d) M) : GtD (.raw (.ref p)) (.str i) d M Φ := ⟨kvs, .inr i, .cell j hm, rfl, k⟩
end
end Hl
namespace Hl
open PySem L2
section
variable {M : Mem} {Φ : D → Mem → Prop} {ΦM : Mem → Prop} {x d : D} {α : Type} {l : List α} {f : α → D} {i : Int} {p : Addr} {K : PySem.W.Frag}
theorem od_ixEC (j : Nat) (hm : M[j]? = some (p, .lst (l.map f))) (h : 0 ≤ i ∧ i < l.length) (k : ∀ y, l[i.toNat]? = some y → Φ (f y) M) : OpD (rIxU K) (.raw (.ref p)) (.int i) M Φ := by
  obtain ⟨y, h1, h2⟩ := at_map (f := f) h.1 h.2
  exact od_ixC hm h2 (k y h1)
theorem cd_lenLM (h : IsL M x (l.map f)) (k : Φ (.int (l.length : Nat)) M) : CallD (rLenU K) [x] M Φ := cd_lenL h (by rw [List.length_map]; exact k)
theorem sd_listE {y : α} (j : Nat) (hm : M[j]? = some (p, .lst (l.map f))) (h : 0 ≤ i ∧ i < l.length) (hd : d = f y) (k : ΦM (M.set j (p, .lst ((l.set i.toNat y).map f)))) : SetD (.raw (.ref p)) (.int i) d M ΦM := by
  refine sd_list (m := i.toNat) hm ?_ (by rw [hd, ← List.map_set]; exact k)
  rw [List.length_map]
  obtain ⟨n, rfl⟩ : ∃ n : Nat, i = (n : Int) := ⟨i.toNat, by omega⟩
  exact ixN_nat' (by omega)
theorem sd_dictI {kvs : List (Key × D)} (j : Nat) (hm : M[j]? = some (p, .dct kvs)) (hl : kvs.length < sizeLine) (k : ΦM (M.set j (p, .dct (putD kvs (.inl i) d)))) : SetD (.raw (.ref p)) (.int i) d M ΦM := sd_dict (k := .inl i) j hm rfl hl k
theorem sd_dictS {kvs : List (Key × D)} {z : Str} (j : Nat) (hm : M[j]? = some (p, .dct kvs)) (hl : kvs.length < sizeLine) (k : ΦM (M.set j (p, .dct (putD kvs (.inr z) d)))) : SetD (.raw (.ref p)) (.str z) d M ΦM := sd_dict (k := .inr z) j hm rfl hl k
end
end Hl
namespace Hl
open PySem L2
open PyProof.Rows hiding St
/-! ### a op b op c .. of ints -/
def relOf : CmpOp → R2
  | .Lt => rLtU
  | .LtE => rLeU
  | .Gt => rGtU
  | .GtE => rGeU
  | _ => fun _ _ _ _ => False
theorem op_rel {X : Cx} : ∀ op : CmpOp, OpR X (compareOp op) (relOf op)
  | .Lt => op_lt
  | .LtE => op_le
  | .Gt => op_gt
  | .GtE => op_ge
  | .Eq => fun _ _ _ _ _ _ _ _ _ _ _ _ h => h.elim
  | .NotEq => fun _ _ _ _ _ _ _ _ _ _ _ _ h => h.elim
  | .Is => fun _ _ _ _ _ _ _ _ _ _ _ _ h => h.elim
  | .IsNot => fun _ _ _ _ _ _ _ _ _ _ _ _ h => h.elim
  | .In => fun _ _ _ _ _ _ _ _ _ _ _ _ h => h.elim
  | .NotIn => fun _ _ _ _ _ _ _ _ _ _ _ _ h => h.elim
def DLk (B : Bx) (X : Cx) : List CmpOp → List Expr → D → Env' → Mem → (Bool → Mem → Prop) → Prop
  | [op], [b], x, δ, M, Φ => DE B X b δ M fun y M1 => OpD (relOf op) x y M1 (toB Φ)
  | op :: op' :: ops, b :: b' :: bs, x, δ, M, Φ => DE B X b δ M fun y M1 => OpD (relOf op) x y M1 (toB fun t M2 => Br t (DLk B X (op' :: ops) (b' :: bs) y δ M2 Φ) (Φ false M2))
  | _, _, _, _, _, _ => False
section
variable {B : Bx} {X : Cx} {a b b' : Expr} {bs : List Expr} {op op' : CmpOp} {ops : List CmpOp} {δ : Env'} {M : Mem} {Φ : D → Mem → Prop} {ΦB : Bool → Mem → Prop} {pos : Pos} {x : D}
theorem lk_test : ∀ {ops : List CmpOp} {bs : List Expr} {x : D} {v : V} {u : Value} {M : Mem} {κ : List (V × D)} {σ : St} {H : Hp} {s : Shared} {pins : List (Addr × Obj)} {Q : Bool → Hp → Prop}, DLk B X ops bs x δ M ΦB → Inv X pins σ H s → RelV v u → (∀ q ∈ B.ps, q ∈ κ) → Rs κ δ M σ H → Rep M.F H v x → (∀ t M' H', ΦB t M' → Rs κ δ M' σ H' → Q t H') →
    wpAny (model X.prog X.w) X.A (testChain pos u ops (evalEach bs X.env)) (TP X pins σ Q) X.xe s
  | [op], [b], x, v, u, M, κ, σ, H, s, pins, Q, h, I, rv, hb, R, r, k => by
    refine test_last (thn ((cE (X := X) (e := b)).run pins s σ H (fun w H1 => ∃ y M1, OpD (relOf op) x y M1 (toB ΦB) ∧ Rs ((v, x) :: κ) δ M1 σ H1 ∧ Rep M1.F H1 w y) I (h ((v, x) :: κ) σ H _ (fun q hq => List.mem_cons_of_mem _ (hb q hq)) (R.push r) fun w y M1 H1 q R1 r1 => ⟨y, M1, q, R1, r1⟩)) fun u' s1 ⟨w, H1, I1, rw', y, M1, q, R1, r1⟩ => ?_)
    refine thn (op_rel op pins s1 σ H1 v w u u' (fun z H2 => ∃ t, z = .bl t ∧ Q t H2) I1 rv rw' (q κ δ σ H1 v w _ R1.pop R1.top r1 fun z d M2 H2 ⟨t, ed, q2⟩ R2 r2 => by subst ed; cases r2; exact ⟨t, rfl, k t M2 H2 q2 R2⟩)) fun c s2 ⟨z, H2, I2, r2, t, e, q2⟩ => ?_
    subst e
    cases r2
    exact wpAny_truthy_bool ⟨H2, I2, q2⟩
  | op :: op' :: ops, b :: b' :: bs, x, v, u, M, κ, σ, H, s, pins, Q, h, I, rv, hb, R, r, k => by
    refine test_link (thn ((cE (X := X) (e := b)).run pins s σ H (fun w H1 => ∃ y M1, OpD (relOf op) x y M1 (toB fun t M2 => Br t (DLk B X (op' :: ops) (b' :: bs) y δ M2 ΦB) (ΦB false M2)) ∧ Rs ((v, x) :: κ) δ M1 σ H1 ∧ Rep M1.F H1 w y) I (h ((v, x) :: κ) σ H _ (fun q hq => List.mem_cons_of_mem _ (hb q hq)) (R.push r) fun w y M1 H1 q R1 r1 => ⟨y, M1, q, R1, r1⟩)) fun u' s1 ⟨w, H1, I1, rw', y, M1, q, R1, r1⟩ => ?_)
    refine thn (op_rel op pins s1 σ H1 v w u u' (fun z H2 => ∃ t M2, z = .bl t ∧ Br t (DLk B X (op' :: ops) (b' :: bs) y δ M2 ΦB) (ΦB false M2) ∧ Rs ((w, y) :: κ) δ M2 σ H2) I1 rv rw' (q ((w, y) :: κ) δ σ H1 v w _ (R1.pop.push r1) R1.top r1 fun z d M2 H2 ⟨t, ed, q2⟩ R2 r2 => by subst ed; cases r2; exact ⟨t, M2, rfl, q2, R2⟩)) fun c s2 ⟨z, H2, I2, r2, t, M2, e, q2, R2⟩ => ?_
    subst e
    cases r2
    refine wpAny_truthy_bool ?_
    cases t with
    | false => exact ite_ff ⟨H2, I2, k _ _ _ (q2.2 rfl) R2.pop⟩
    | true => exact ite_tt (lk_test (q2.1 rfl) I2 rw' hb R2.pop R2.top k)
  | [], _, _, _, _, _, _, _, _, _, _, _, h, _, _, _, _, _, _ => h.elim
  | [_], [], _, _, _, _, _, _, _, _, _, _, h, _, _, _, _, _, _ => h.elim
  | [_], _ :: _ :: _, _, _, _, _, _, _, _, _, _, _, h, _, _, _, _, _, _ => h.elim
  | _ :: _ :: _, [], _, _, _, _, _, _, _, _, _, _, h, _, _, _, _, _, _ => h.elim
  | _ :: _ :: _, [_], _, _, _, _, _, _, _, _, _, _, h, _, _, _, _, _, _ => h.elim
theorem lk_val : ∀ {ops : List CmpOp} {bs : List Expr} {x : D} {v : V} {u : Value} {M : Mem} {κ : List (V × D)} {σ : St} {H : Hp} {s : Shared} {pins : List (Addr × Obj)} {Q : VK}, DLk B X ops bs x δ M ΦB → Inv X pins σ H s → RelV v u → (∀ q ∈ B.ps, q ∈ κ) → Rs κ δ M σ H → Rep M.F H v x → (∀ t M' H', ΦB t M' → Rs κ δ M' σ H' → Q (.bl t) H') →
    wpAny (model X.prog X.w) X.A (compareChain pos u ops (evalEach bs X.env)) (EP X pins σ Q) X.xe s
  | [op], [b], x, v, u, M, κ, σ, H, s, pins, Q, h, I, rv, hb, R, r, k => by
    refine chain_last (thn ((cE (X := X) (e := b)).run pins s σ H (fun w H1 => ∃ y M1, OpD (relOf op) x y M1 (toB ΦB) ∧ Rs ((v, x) :: κ) δ M1 σ H1 ∧ Rep M1.F H1 w y) I (h ((v, x) :: κ) σ H _ (fun q hq => List.mem_cons_of_mem _ (hb q hq)) (R.push r) fun w y M1 H1 q R1 r1 => ⟨y, M1, q, R1, r1⟩)) fun u' s1 ⟨w, H1, I1, rw', y, M1, q, R1, r1⟩ => ?_)
    exact op_rel op pins s1 σ H1 v w u u' Q I1 rv rw' (q κ δ σ H1 v w _ R1.pop R1.top r1 fun z d M2 H2 ⟨t, ed, q2⟩ R2 r2 => by subst ed; cases r2; exact k t M2 H2 q2 R2)
  | op :: op' :: ops, b :: b' :: bs, x, v, u, M, κ, σ, H, s, pins, Q, h, I, rv, hb, R, r, k => by
    refine chain_link (thn ((cE (X := X) (e := b)).run pins s σ H (fun w H1 => ∃ y M1, OpD (relOf op) x y M1 (toB fun t M2 => Br t (DLk B X (op' :: ops) (b' :: bs) y δ M2 ΦB) (ΦB false M2)) ∧ Rs ((v, x) :: κ) δ M1 σ H1 ∧ Rep M1.F H1 w y) I (h ((v, x) :: κ) σ H _ (fun q hq => List.mem_cons_of_mem _ (hb q hq)) (R.push r) fun w y M1 H1 q R1 r1 => ⟨y, M1, q, R1, r1⟩)) fun u' s1 ⟨w, H1, I1, rw', y, M1, q, R1, r1⟩ => ?_)
    refine thn (op_rel op pins s1 σ H1 v w u u' (fun z H2 => ∃ t M2, z = .bl t ∧ Br t (DLk B X (op' :: ops) (b' :: bs) y δ M2 ΦB) (ΦB false M2) ∧ Rs ((w, y) :: κ) δ M2 σ H2) I1 rv rw' (q ((w, y) :: κ) δ σ H1 v w _ (R1.pop.push r1) R1.top r1 fun z d M2 H2 ⟨t, ed, q2⟩ R2 r2 => by subst ed; cases r2; exact ⟨t, M2, rfl, q2, R2⟩)) fun c s2 ⟨z, H2, I2, r2, t, M2, e, q2, R2⟩ => ?_
    subst e
    cases r2
    refine wpAny_truthy_bool ?_
    cases t with
    | false => exact ite_ff ⟨.bl false, H2, I2, rfl, k _ _ _ (q2.2 rfl) R2.pop⟩
    | true => exact ite_tt (lk_val (q2.1 rfl) I2 rw' hb R2.pop R2.top k)
  | [], _, _, _, _, _, _, _, _, _, _, _, h, _, _, _, _, _, _ => h.elim
  | [_], [], _, _, _, _, _, _, _, _, _, _, h, _, _, _, _, _, _ => h.elim
  | [_], _ :: _ :: _, _, _, _, _, _, _, _, _, _, _, h, _, _, _, _, _, _ => h.elim
  | _ :: _ :: _, [], _, _, _, _, _, _, _, _, _, _, h, _, _, _, _, _, _ => h.elim
  | _ :: _ :: _, [_], _, _, _, _, _, _, _, _, _, _, h, _, _, _, _, _, _ => h.elim
theorem dt_chn (h : DE B X a δ M fun x M1 => DLk B X (op :: op' :: ops) (b :: b' :: bs) x δ M1 ΦB) (hm : lastMarks (op :: op' :: ops) (b :: b' :: bs) = false := by with_unfolding_all rfl) : DT B X (.Compare a (op :: op' :: ops) (b :: b' :: bs) pos) δ M ΦB := by
  intro κ σ H Q hb R k
  unfold tT
  intro pins s I
  refine isTrue_chain (thn ((cE (X := X) (e := a)).run pins s σ H (fun v H1 => ∃ x M1, DLk B X (op :: op' :: ops) (b :: b' :: bs) x δ M1 ΦB ∧ Rs κ δ M1 σ H1 ∧ Rep M1.F H1 v x) I (h κ σ H _ hb R fun v x M1 H1 q R1 r1 => ⟨x, M1, q, R1, r1⟩)) fun u s1 ⟨v, H1, I1, rv, x, M1, q, R1, r1⟩ => ?_) hm
  exact lk_test q I1 rv hb R1 r1 fun t M' H' q' R' => k t M' H' q' R'
theorem de_chn (h : DE B X a δ M fun x M1 => DLk B X (op :: op' :: ops) (b :: b' :: bs) x δ M1 fun t M2 => Φ (.bl t) M2) (hm : lastMarks (op :: op' :: ops) (b :: b' :: bs) = false := by with_unfolding_all rfl) : DE B X (.Compare a (op :: op' :: ops) (b :: b' :: bs) pos) δ M Φ := by
  intro κ σ H Q hb R k
  unfold tE
  intro pins s I
  refine Compare_chain (thn ((cE (X := X) (e := a)).run pins s σ H (fun v H1 => ∃ x M1, (DLk B X (op :: op' :: ops) (b :: b' :: bs) x δ M1 fun t M2 => Φ (.bl t) M2) ∧ Rs κ δ M1 σ H1 ∧ Rep M1.F H1 v x) I (h κ σ H _ hb R fun v x M1 H1 q R1 r1 => ⟨x, M1, q, R1, r1⟩)) fun u s1 ⟨v, H1, I1, rv, x, M1, q, R1, r1⟩ => ?_) hm
  exact lk_val q I1 rv hb R1 r1 fun t M' H' q' R' => k _ _ M' H' q' R' (.bl _)
theorem lk1le {i : Int} (h : DE B X b δ M fun y M1 => OpD rLeU (.int i) y M1 (toB ΦB)) : DLk B X [.LtE] [b] (.int i) δ M ΦB := h
theorem lk1lt {i : Int} (h : DE B X b δ M fun y M1 => OpD rLtU (.int i) y M1 (toB ΦB)) : DLk B X [.Lt] [b] (.int i) δ M ΦB := h
theorem lk1gt {i : Int} (h : DE B X b δ M fun y M1 => OpD rGtU (.int i) y M1 (toB ΦB)) : DLk B X [.Gt] [b] (.int i) δ M ΦB := h
theorem lk1ge {i : Int} (h : DE B X b δ M fun y M1 => OpD rGeU (.int i) y M1 (toB ΦB)) : DLk B X [.GtE] [b] (.int i) δ M ΦB := h
theorem lkle (h : DE B X b δ M fun y M1 => OpD rLeU x y M1 (toB fun t M2 => Br t (DLk B X (op' :: ops) (b' :: bs) y δ M2 ΦB) (ΦB false M2))) : DLk B X (.LtE :: op' :: ops) (b :: b' :: bs) x δ M ΦB := h
theorem lklt (h : DE B X b δ M fun y M1 => OpD rLtU x y M1 (toB fun t M2 => Br t (DLk B X (op' :: ops) (b' :: bs) y δ M2 ΦB) (ΦB false M2))) : DLk B X (.Lt :: op' :: ops) (b :: b' :: bs) x δ M ΦB := h
theorem lkgt (h : DE B X b δ M fun y M1 => OpD rGtU x y M1 (toB fun t M2 => Br t (DLk B X (op' :: ops) (b' :: bs) y δ M2 ΦB) (ΦB false M2))) : DLk B X (.Gt :: op' :: ops) (b :: b' :: bs) x δ M ΦB := h
theorem lkge (h : DE B X b δ M fun y M1 => OpD rGeU x y M1 (toB fun t M2 => Br t (DLk B X (op' :: ops) (b' :: bs) y δ M2 ΦB) (ΦB false M2))) : DLk B X (.GtE :: op' :: ops) (b :: b' :: bs) x δ M ΦB := h
theorem idLk (h : DLk B X ops bs x δ M ΦB) : DLk B X ops bs x δ M ΦB := h
end
end Hl
namespace Hl
open PySem L2
open PyProof.Rows hiding St
section
variable {B : Bx} {X : Cx} {e a b c o : Expr} {es rest : List Expr} {kw : Keyword} {kws : List Keyword} {st : Stmt} {sts body suite : List Stmt} {δ δ' : Env'} {M : Mem} {Φ : D → Mem → Prop} {Ψ : DEnds} {pos pos' apos pp np : Pos} {d x y : D} {ΦL : List D → Mem → Prop}
theorem fld_o {K : PySem.W.Frag} {f : Str} {C : Addr} {ns : List Str} {fs : List D} (io : IsO M x C ns fs) (ff : FldP K C f) (l : (ns.zip fs).lookup f = some d) (k : Φ d M) : FldD K f x M Φ := .inl ⟨C, ns, fs, d, io, ff, l, k⟩
theorem mt_o {m k n : Nat} {mn : Str} {C : Addr} {ns ks : List Str} {fs : List D} {sel : Sel} {p : DSpE} {Ξ : XPost} (io : IsO M x C ns fs) (f : MethEX X k C mn n ks sel p) (hk : k ≤ m) (lt : Lets X B δ Ξ) (pl : PlA X pos es kws ks) (hn : ns.contains mn = false)
    (h : DAK B X es kws δ M fun ds zs M' => ds.length = n ∧ zs.length = ks.length ∧ p (selD sel (x :: ds ++ zs)) M' Φ Ξ) : MtE B X m pos es kws mn δ x M Φ := ⟨C, k, n, ks, sel, p, Ξ, f, hk, lt, pl, ⟨ns, fs, io, hn⟩, h⟩
/-- behind an expression the state may be looked at otherwise -/
theorem DE.vw (h : DE B X e δ M fun d M' => ∃ d2 M2, Vw d M' d2 M2 ∧ Φ d2 M2) : DE B X e δ M Φ := fun κ σ H Q hb R k => h κ σ H Q hb R fun v d M' H' ⟨d2, M2, hv, q⟩ R' r' => let ⟨R2, r2⟩ := hv κ δ σ H' v R' r'; k v d2 M2 H' q R2 r2
/-- what becomes of a new object: kept as a cell, or frozen -/
def Made (a : Addr) (Φ : D → Mem → Prop) : D → Mem → Prop := fun d M2 => d = .non ∧ ∃ d2 M3, Vw (.raw (.ref a)) M2 d2 M3 ∧ Φ d2 M3
theorem de_kU {k m n : Nat} {x : Str} {ks : List Str} {sel : Sel} {p : DSpE} {Ξ : XPost} {C : Addr} (j : Nat) (z : Cz X m) (f : MakeEX X k x C n ks sel p) (hk : k + 1 ≤ m) (hg : Gl X x) (lt : Lets X B δ Ξ)
    (h : DAK B X es kws δ M fun ds zs M' => ds.length = n ∧ zs.length = ks.length ∧ ∀ a, p (selD sel (.raw (.ref a) :: ds ++ zs)) (insM j (a, .obj C [] []) M') (Made a Φ) Ξ) (pl : PlA X pos es kws ks) (hdb : (x == ("__debug__" : Str)) = false := by decide) : DE B X (.Call (.Name x pp) es kws pos) δ M Φ :=
  .vw (de_kE j z f hk hg lt h pl hdb)
theorem Made.cell {a : Addr} (k : Φ (.raw (.ref a)) M) : Made a Φ .non M := ⟨rfl, _, _, .refl, k⟩
theorem Made.val {a C : Addr} {ns : List Str} {ds : List D} (j : Nat) (hm : M[j]? = some (a, .obj C ns ds)) (k : Φ (.obj C ns ds) (M.eraseIdx j)) : Made a Φ .non M := ⟨rfl, _, _, .frzO j hm, k⟩
end
end Hl
namespace Hl
open PySem L2
open PyProof.Rows hiding St
section
variable {B : Bx} {X : Cx} {e a b c o : Expr} {es rest : List Expr} {st : Stmt} {sts body suite : List Stmt} {δ δ' : Env'} {M : Mem} {Φ : D → Mem → Prop} {Ψ : DEnds} {pos pos' apos pp np px py pz pt pt2 : Pos} {d : D} {x y w : Str} {kt k2 : Nat}
theorem sws2 (hx : X.env.kindOf x = some .local) (hy : X.env.kindOf y = some .local) (hk : X.env.blockKind = .function) (hne : (x == y) = false) (hl : (py.line == px.line) = true) (h1 : ([a, b].any fun | .Starred .. => true | _ => false) = false) (h2 : [a, b].all (foldedForSure 8) = false) (h3 : [a, b].all (constantsAlone 8) = false) :
    swappedStores [.Tuple [.Name x px, .Name y py] kt pt] (.Tuple [a, b] k2 pt2) X.env = pure (some [x, y]) := by
  have hyx : (y == x) = false := by
    rw [Bool.eq_false_iff] at hne ⊢
    intro h; exact hne (by rw [beq_iff_eq] at h ⊢; exact h.symm)
  unfold swappedStores
  simp only [bind_pure_comp, pure_bind]
  rw [if_neg (by simp [hk])]
  rw [if_neg (by intro h; exact absurd (h1.symm.trans h) (by decide))]
  have hn : ([Expr.Name x px, Expr.Name y py].filterMap fun
    | .Name id pos => if X.env.kindOf id == some .local && pos.line == (([Expr.Name x px, Expr.Name y py].head?.map (·.pos.line)).getD 0) then some id else none
    | _ => none) = [x, y] := by
    have e2 : (([Expr.Name x px, Expr.Name y py].head?.map (·.pos.line)).getD 0) = px.line := rfl
    rw [e2]
    simp [hx, hy, beq_iff_eq.mp hl]
  generalize hg : List.filterMap _ _ = L
  have hL : L = [x, y] := hg.symm.trans hn
  subst hL
  rw [if_neg (by simp [List.eraseDups_cons, hyx]), if_neg (by rw [h2]; decide), if_neg (by rw [h3]; decide)]
theorem sws3 (hx : X.env.kindOf x = some .local) (hy : X.env.kindOf y = some .local) (hw : X.env.kindOf w = some .local) (hk : X.env.blockKind = .function) (h12 : (y == x) = false) (h13 : (w == x) = false) (h23 : (w == y) = false) (hl : (py.line == px.line) = true) (hl2 : (pz.line == px.line) = true) (h1 : ([a, b, c].any fun | .Starred .. => true | _ => false) = false) (h2 : [a, b, c].all (foldedForSure 8) = false) (h3 : [a, b, c].all (constantsAlone 8) = false) :
    swappedStores [.Tuple [.Name x px, .Name y py, .Name w pz] kt pt] (.Tuple [a, b, c] k2 pt2) X.env = pure (some [x, y, w]) := by
  unfold swappedStores
  simp only [bind_pure_comp, pure_bind]
  rw [if_neg (by simp [hk])]
  rw [if_neg (by intro h; exact absurd (h1.symm.trans h) (by decide))]
  have hn : ([Expr.Name x px, Expr.Name y py, Expr.Name w pz].filterMap fun
    | .Name id pos => if X.env.kindOf id == some .local && pos.line == (([Expr.Name x px, Expr.Name y py, Expr.Name w pz].head?.map (·.pos.line)).getD 0) then some id else none
    | _ => none) = [x, y, w] := by
    have e2 : (([Expr.Name x px, Expr.Name y py, Expr.Name w pz].head?.map (·.pos.line)).getD 0) = px.line := rfl
    rw [e2]
    simp [hx, hy, hw, beq_iff_eq.mp hl, beq_iff_eq.mp hl2]
  generalize hg : List.filterMap _ _ = L
  have hL : L = [x, y, w] := hg.symm.trans hn
  subst hL
  rw [if_neg (by simp [List.eraseDups_cons, h12, h13, h23]), if_neg (by rw [h2]; decide), if_neg (by rw [h3]; decide)]
/-- a tuple of constants: no names are swapped -/
theorem swsC {ts vs : List Expr} (h2 : vs.all (foldedForSure 8) = true) (h1 : (vs.any fun | .Starred .. => true | _ => false) = false) : swappedStores [.Tuple ts kt pt] (.Tuple vs k2 pt2) X.env = pure none := by
  unfold swappedStores
  simp only [bind_pure_comp, pure_bind]
  split
  · rfl
  · split
    · rfl
    · split
      · rfl
      · rfl
theorem blk_of {sc : Scope} (hs : X.env.scope = sc) (h : sc.kind = .function) : X.env.blockKind = .function := by
  unfold Env.blockKind
  rw [hs, h]; rfl
theorem ds_par2 {n i j : Nat} (z : Cz X n) (li : Lo X i x) (lj : Lo X j y) (hij : i ≠ j) (hx : X.env.kindOf x = some .local) (hy : X.env.kindOf y = some .local) (hk : X.env.blockKind = .function) (hne : (x == y) = false)
    (h : DA B X [a, b] δ M fun ds M1 => ∃ d1 d2, ds = [d1, d2] ∧ Sets δ i d1 fun δ1 => Sets δ1 j d2 fun δ2 => Ψ.nx δ2 M1)
    (hl : (py.line == px.line) = true := by rfl) (h1 : ([a, b].any fun | .Starred .. => true | _ => false) = false := by rfl) (h2 : [a, b].all (foldedForSure 8) = false := by rfl) (h3 : [a, b].all (constantsAlone 8) = false := by rfl)
    (hs : swapsWithSole [.Tuple [.Name x px, .Name y py] kt pt] (.Tuple [a, b] k2 pt2) pos.line X.env = pure false := by rfl) : DS B X (.Assign [.Tuple [.Name x px, .Name y py] kt pt] (.Tuple [a, b] k2 pt2) pos) δ M Ψ :=
  .of (ps_par z.calm z.nd li.at_ lj.at_ hij hx hy cA (sws2 hx hy hk hne hl h1 h2 h3) hs) fun κ σ H E hb R k => h κ σ H _ hb R fun vs ds M1 H1 ⟨d1, d2, e, q⟩ R1 r1 => by
    subst e
    cases r1 with
    | cons r1 r2 =>
      cases r2 with
      | cons r2 r3 =>
        cases r3
        exact ⟨_, _, rfl, k.nx _ _ _ _ q.get.get ((R1.put i r1).put j r2)⟩
theorem ds_par3 {n i j l : Nat} (z : Cz X n) (li : Lo X i x) (lj : Lo X j y) (ll : Lo X l w) (hij : i ≠ j) (hil : i ≠ l) (hjl : j ≠ l) (hx : X.env.kindOf x = some .local) (hy : X.env.kindOf y = some .local) (hw : X.env.kindOf w = some .local) (hk : X.env.blockKind = .function) (h12 : (y == x) = false) (h13 : (w == x) = false) (h23 : (w == y) = false)
    (h : DA B X [a, b, c] δ M fun ds M1 => ∃ d1 d2 d3, ds = [d1, d2, d3] ∧ Sets δ i d1 fun δ1 => Sets δ1 j d2 fun δ2 => Sets δ2 l d3 fun δ3 => Ψ.nx δ3 M1)
    (hl : (py.line == px.line) = true := by rfl) (hl2 : (pz.line == px.line) = true := by rfl) (h1 : ([a, b, c].any fun | .Starred .. => true | _ => false) = false := by rfl) (h2 : [a, b, c].all (foldedForSure 8) = false := by rfl) (h3 : [a, b, c].all (constantsAlone 8) = false := by rfl)
    (hs : swapsWithSole [.Tuple [.Name x px, .Name y py, .Name w pz] kt pt] (.Tuple [a, b, c] k2 pt2) pos.line X.env = pure false := by rfl) : DS B X (.Assign [.Tuple [.Name x px, .Name y py, .Name w pz] kt pt] (.Tuple [a, b, c] k2 pt2) pos) δ M Ψ :=
  .of (ps_par3 z.calm z.nd li.at_ lj.at_ ll.at_ hij hil hjl hx hy hw cA (sws3 hx hy hw hk h12 h13 h23 hl hl2 h1 h2 h3) hs) fun κ σ H E hb R k => h κ σ H _ hb R fun vs ds M1 H1 ⟨d1, d2, d3, e, q⟩ R1 r1 => by
    subst e
    cases r1 with
    | cons r1 r2 =>
      cases r2 with
      | cons r2 r3 =>
        cases r3 with
        | cons r3 r4 =>
          cases r4
          exact ⟨_, _, _, rfl, k.nx _ _ _ _ q.get.get.get (((R1.put i r1).put j r2).put l r3)⟩
theorem ex_2 {d1 d2 : D} {P : D → D → Prop} (h : P d1 d2) : ∃ a b, [d1, d2] = [a, b] ∧ P a b := ⟨d1, d2, rfl, h⟩
theorem ex_3 {d1 d2 d3 : D} {P : D → D → D → Prop} (h : P d1 d2 d3) : ∃ a b c, [d1, d2, d3] = [a, b, c] ∧ P a b c := ⟨d1, d2, d3, rfl, h⟩
/-- a, b = constants -/
theorem ds_asgC {ts vs : List Expr} {kt k2 : Nat} (h : DE B X (.Tuple vs k2 pt2) δ M fun d M' => DG B X (.Tuple ts kt pt) d δ M' Ψ.nx) (h2 : vs.all (foldedForSure 8) = true := by rfl) (h1 : (vs.any fun | .Starred .. => true | _ => false) = false := by rfl) (hs : swapsWithSole [.Tuple ts kt pt] (.Tuple vs k2 pt2) pos.line X.env = pure false := by rfl) (h3 : (assignEach [.Tuple ts kt pt] X.env).map (·.2) = [assign (.Tuple ts kt pt) X.env] := by rfl) : DS B X (.Assign [.Tuple ts kt pt] (.Tuple vs k2 pt2) pos) δ M Ψ := ds_asg h hs (swsC h2 h1) h3
end
end Hl
namespace Hl
open PySem L2
open PyProof.Rows hiding St
section
variable {B : Bx} {X : Cx} {e a b c o : Expr} {es rest : List Expr} {kw : Keyword} {kws : List Keyword} {st : Stmt} {sts body suite : List Stmt} {δ δ' : Env'} {M : Mem} {Φ : D → Mem → Prop} {Ψ : DEnds} {pos pos' apos pp np : Pos} {d x y : D} {ΦL : List D → Mem → Prop}
/-- the names of keywords -/
def kwN : List Keyword → List Str
  | [] => []
  | ⟨some n, _, _⟩ :: ks => n :: kwN ks
  | ⟨none, _, _⟩ :: ks => kwN ks
/-! calls, the fact chosen by the call's shape -/
theorem de_fS {k m : Nat} {x : Str} {sel : Sel} {p : DSpE} {Ξ : XPost} (z : Cz X m) (f : DefEX X k x es.length (kwN kws) sel p) (hk : k ≤ m) (hg : Gl X x) (lt : Lets X B δ Ξ)
    (h : DAK B X es kws δ M fun ds zs M' => ds.length = es.length ∧ zs.length = (kwN kws).length ∧ p (selD sel (ds ++ zs)) M' Φ Ξ) (pl : PlA X pos es kws (kwN kws)) (hdb : (x == ("__debug__" : Str)) = false := by decide) : DE B X (.Call (.Name x pp) es kws pos) δ M Φ := de_fE z f hk hg lt h pl hdb
theorem de_kS {k m : Nat} {x : Str} {sel : Sel} {p : DSpE} {Ξ : XPost} {C : Addr} (j : Nat) (z : Cz X m) (f : MakeEX X k x C es.length (kwN kws) sel p) (hk : k + 1 ≤ m) (hg : Gl X x) (lt : Lets X B δ Ξ)
    (h : DAK B X es kws δ M fun ds zs M' => ds.length = es.length ∧ zs.length = (kwN kws).length ∧ ∀ a, p (selD sel (.raw (.ref a) :: ds ++ zs)) (insM j (a, .obj C [] []) M') (Made a Φ) Ξ) (pl : PlA X pos es kws (kwN kws)) (hdb : (x == ("__debug__" : Str)) = false := by decide) : DE B X (.Call (.Name x pp) es kws pos) δ M Φ := de_kU j z f hk hg lt h pl hdb
theorem mt_vS {m k : Nat} {mn : Str} {C : Addr} {ns : List Str} {fs : List D} {sel : Sel} {p : DSpE} {Ξ : XPost} (f : MethEX X k C mn es.length (kwN kws) sel p) (hk : k ≤ m) (lt : Lets X B δ Ξ) (pl : PlA X pos es kws (kwN kws)) (hn : ns.contains mn = false)
    (h : DAK B X es kws δ M fun ds zs M' => ds.length = es.length ∧ zs.length = (kwN kws).length ∧ p (selD sel (.obj C ns fs :: ds ++ zs)) M' Φ Ξ) : MtE B X m pos es kws mn δ (.obj C ns fs) M Φ := mt_v f hk lt pl hn h
theorem mt_cS {m k : Nat} {mn : Str} {C q : Addr} {ns : List Str} {fs : List D} {sel : Sel} {p : DSpE} {Ξ : XPost} (j : Nat) (hm : M[j]? = some (q, .obj C ns fs)) (f : MethEX X k C mn es.length (kwN kws) sel p) (hk : k ≤ m) (lt : Lets X B δ Ξ) (pl : PlA X pos es kws (kwN kws)) (hn : ns.contains mn = false)
    (h : DAK B X es kws δ M fun ds zs M' => ds.length = es.length ∧ zs.length = (kwN kws).length ∧ p (selD sel (.raw (.ref q) :: ds ++ zs)) M' Φ Ξ) : MtE B X m pos es kws mn δ (.raw (.ref q)) M Φ := mt_c j hm f hk lt pl hn h
theorem mt_oS {m k : Nat} {mn : Str} {C : Addr} {ns : List Str} {fs : List D} {sel : Sel} {p : DSpE} {Ξ : XPost} (io : IsO M x C ns fs) (f : MethEX X k C mn es.length (kwN kws) sel p) (hk : k ≤ m) (lt : Lets X B δ Ξ) (pl : PlA X pos es kws (kwN kws)) (hn : ns.contains mn = false)
    (h : DAK B X es kws δ M fun ds zs M' => ds.length = es.length ∧ zs.length = (kwN kws).length ∧ p (selD sel (x :: ds ++ zs)) M' Φ Ξ) : MtE B X m pos es kws mn δ x M Φ := mt_o io f hk lt pl hn h
end
end Hl
namespace Hl
open PySem L2
open PyProof.Rows hiding St
section
variable {B : Bx} {X : Cx} {e a b c o : Expr} {es rest : List Expr} {kw : Keyword} {kws : List Keyword} {st : Stmt} {sts body suite : List Stmt} {δ δ' : Env'} {M : Mem} {Φ : D → Mem → Prop} {Ψ : DEnds} {pos pos' apos pp np : Pos} {d x y : D} {ΦL : List D → Mem → Prop}
theorem Reps.rev {F : List Addr} {H : Hp} {vs : List V} {ds : List D} (r : Reps F H vs ds) : Reps F H vs.reverse ds.reverse := by
  induction ds generalizing vs with
  | nil => cases r; exact .nil
  | cons d ds ih =>
    cases r with
    | cons r1 r2 =>
      rw [List.reverse_cons, List.reverse_cons]
      exact (ih r2).append (.cons r1 .nil)
/-- xs[::-1] -/
theorem de_rev {k : Nat} {p1 p2 p3 : Pos} (h : DE B X a δ M fun x M1 => ∃ ds, IsL M1 x ds ∧ Φ (.lst ds.reverse) M1) : DE B X (.Subscript a (.Slice none none (some (.UnaryOp .USub (.Constant (.int 1) k p1) p2)) p3) pos) δ M Φ :=
  .of (pe_revL cE) fun κ σ H Q hb R k => h κ σ H _ hb R fun v x M1 H1 ⟨ds, il, q⟩ R1 r1 => by
    obtain ⟨a, us, rfl, e1, rr⟩ := il.sq R1 r1
    refine ⟨a, us, rfl, SqL.of e1, fun p hp => ?_⟩
    obtain ⟨R', r'⟩ := R1.lstV rr.rev hp
    exact k _ _ _ _ q R' r'
/-- min of three -/
theorem de_min3 {n : Nat} (z : Cz X n) {p : Pos} (g : Gn X "min") (h : DA B X [a, b, c] δ M fun ds M1 => CallD (rNuC3 nuMin3) ds M1 Φ) (he : starEach [a, b, c] X.env = (false, eval a X.env) :: starEach [b, c] X.env := by rfl) (hpl : (backTo pos (starEach [b, c] X.env)).any (·.1) = false := by rfl) : DE B X (.Call (.Name "min" p) [a, b, c] [] pos) δ M Φ := de_blt (call_min3Nu z.calm) g boot_min h (by decide) (by decide) he hpl
theorem cd_min3 {i j l : Int} (k : Φ (.int (min (min i j) l)) M) : CallD (rNuC3 nuMin3) [.int i, .int j, .int l] M Φ := fun κ δ σ H vs Q R rs f => by
  cases rs with
  | cons r1 r2 =>
    cases r1
    cases r2 with
    | cons r2 r3 =>
      cases r2
      cases r3 with
      | cons r3 r4 =>
        cases r3
        cases r4
        refine ⟨_, _, _, .int (min (min i j) l), rfl, ?_, f _ _ _ _ k R (.int _)⟩
        have h2 : ∀ a b : Int, nuMin2 (.int a) (.int b) = some (.int (min a b)) := fun a b => by
          show some (if decide (b < a) = true then V.int b else V.int a) = _
          by_cases h : b < a
          · rw [if_pos (by simpa using h), Int.min_eq_right (by omega)]
          · rw [if_neg (by simpa using h), Int.min_eq_left (by omega)]
        unfold nuMin3
        rw [h2]
        exact h2 _ _
theorem de_repD {p : Pos} (h : DE B X (.List es p) δ M fun x M1 => DE B X b δ M1 fun y M2 => OpD rRep x y M2 Φ) : DE B X (.BinOp (.List es p) .Mult b pos) δ M Φ := de_bin op_rep h
end
end Hl
namespace Hl
open PySem L2
open PyProof.Rows hiding St
section
variable {B : Bx} {X : Cx} {e a b c o : Expr} {es rest : List Expr} {kw : Keyword} {kws : List Keyword} {st : Stmt} {sts body suite : List Stmt} {δ δ' : Env'} {M : Mem} {Φ : D → Mem → Prop} {ΦB : Bool → Mem → Prop} {Ψ : DEnds} {pos pos' apos pp np : Pos} {d x y : D} {ΦL : List D → Mem → Prop}
/-! ### is True, is not True, is False, is not False -/
def rIsBl : R2 := fun x y H Q => ∃ a b, x = .bl a ∧ y = .bl b ∧ Q (.bl (decide (a = b))) H
def rNotBl : R2 := fun x y H Q => ∃ a b, x = .bl a ∧ y = .bl b ∧ Q (.bl (!decide (a = b))) H
theorem od_isB {i j : Bool} (k : Φ (.bl (decide (i = j))) M) : OpD rIsBl (.bl i) (.bl j) M Φ := fun κ δ σ H v w Q R rv rw' h => by
  cases rv; cases rw'
  exact ⟨i, j, rfl, rfl, h _ _ M H k R (.bl _)⟩
theorem od_notB {i j : Bool} (k : Φ (.bl (!decide (i = j))) M) : OpD rNotBl (.bl i) (.bl j) M Φ := fun κ δ σ H v w Q R rv rw' h => by
  cases rv; cases rw'
  exact ⟨i, j, rfl, rfl, h _ _ M H k R (.bl _)⟩
theorem de_isB {t : Bool} {n : Nat} {p : Pos} (h : DE B X a δ M fun x M1 => OpD rIsBl x (.bl t) M1 Φ) : DE B X (.Compare a [.Is] [.Constant (.bool t) n p] pos) δ M Φ := de_cmp op_is_bl (nomark _) (h.mono fun _ _ q => de_bl q)
theorem de_isnotB {t : Bool} {n : Nat} {p : Pos} (h : DE B X a δ M fun x M1 => OpD rNotBl x (.bl t) M1 Φ) : DE B X (.Compare a [.IsNot] [.Constant (.bool t) n p] pos) δ M Φ := de_cmp op_isnot_bl (nomark _) (h.mono fun _ _ q => de_bl q)
theorem dt_isB {t : Bool} {n : Nat} {p : Pos} (h : DE B X a δ M fun x M1 => OpD rIsBl x (.bl t) M1 (toB ΦB)) : DT B X (.Compare a [.Is] [.Constant (.bool t) n p] pos) δ M ΦB := dt_cmp op_is_bl (nomark _) (h.mono fun _ _ q => de_bl q)
theorem dt_isnotB {t : Bool} {n : Nat} {p : Pos} (h : DE B X a δ M fun x M1 => OpD rNotBl x (.bl t) M1 (toB ΦB)) : DT B X (.Compare a [.IsNot] [.Constant (.bool t) n p] pos) δ M ΦB := dt_cmp op_isnot_bl (nomark _) (h.mono fun _ _ q => de_bl q)
end
end Hl
namespace Hl
open PySem L2
end Hl
namespace Hl
open PySem L2
open PyProof.Rows hiding St
section
variable {B : Bx} {X : Cx} {e a b c o : Expr} {es rest : List Expr} {kw : Keyword} {kws : List Keyword} {st : Stmt} {sts body suite : List Stmt} {δ δ' : Env'} {M : Mem} {Φ : D → Mem → Prop} {ΦB : Bool → Mem → Prop} {Ψ : DEnds} {pos pos' apos pp np : Pos} {d x y : D} {ΦL : List D → Mem → Prop}
/-! ### insert -/
def rIns : V → List V → Hp → VK → Prop := fun x vs H Q => ∃ (l : Addr) (xs : List V) (i : Int) (y : V), x = .ref l ∧ vs = [.int i, y] ∧ H l = some (.lst xs) ∧ xs.length < sizeLine ∧ 0 ≤ i ∧ i < 2 ^ 63 ∧
    Q .non (upd H l (.lst (xs.take i.toNat ++ [y] ++ xs.drop i.toNat)))
theorem de_insert {cpos : Pos} (h : DE B X o δ M fun x M1 => (∃ ds, IsL M1 x ds) ∧ DA B X [a, b] δ M1 fun ys M2 => MtD X.K "list" rIns x ys M2 Φ)
    (hbase : attributeBase o "insert" X.env (eval o X.env) = eval o X.env := by rfl)
    (hfew : ((backTo cpos (starEach [a, b] X.env)).all (fun x => !x.1) && (backToKw cpos (keywordEach [] X.env)).all (fun x => x.1.isSome)
      && decide (([a, b] : List Expr).length + ([] : List Keyword).length + (if ([] : List Keyword).isEmpty then 0 else 1) < 30)) = true := by rfl)
    (hline : (apos.endLine == cpos.line) = true := by rfl) (hs : starEach [a, b] X.env = (false, eval a X.env) :: starEach [b] X.env := by rfl) (hplain : (backTo cpos (starEach [b] X.env)).any (·.1) = false := by rfl) :
    DE B X (.Call (.Attribute o "insert" apos) [a, b] [] cpos) δ M Φ := de_bml PySem.F.slot_list_insert PySem.F.type_list_insert mt_insert h hbase hfew hline hs hplain
end
end Hl
namespace Hl
open PySem L2
open PyProof.Rows hiding St
end Hl
namespace Hl
open PySem L2
open PyProof.Rows hiding St
end Hl
namespace Hl
open PySem L2
end Hl
namespace Hl
open PySem L2
open PyProof.Rows hiding St
section
variable {B : Bx} {X : Cx} {e a b c o : Expr} {es rest : List Expr} {kw : Keyword} {kws : List Keyword} {st : Stmt} {sts body suite : List Stmt} {δ δ' : Env'} {M : Mem} {Φ : D → Mem → Prop} {ΦB : Bool → Mem → Prop} {Ψ : DEnds} {pos pos' apos pp np : Pos} {d x y : D} {ΦL : List D → Mem → Prop}
/-! ### lists put together, as a new one -/
/-! ### extend -/
theorem Reps.put {F : List Addr} {H : Hp} {d : D} : ∀ {vs : List V} {ds : List D} {i : Nat} {v : V}, Reps F H vs ds → vs[i]? = some v → Rep F H v d → Reps F H vs (ds.set i d)
  | _, _, _, _, .nil, _, _ => .nil
  | _, _, 0, _, .cons _ t, e, r => by simp at e; subst e; exact .cons r t
  | _, _, i + 1, _, .cons q t, e, r => .cons q (Reps.put (i := i) t (by simpa using e) r)
end
end Hl
namespace Hl
open PySem L2
open PyProof.Rows hiding St
end Hl
namespace Hl
open PySem L2
open PyProof.Rows hiding St
/-! ### a cell that is not changed any more: a plain list from here on, wherever it stands -/
mutual
inductive Up (q : Addr) (es : List D) : D → D → Prop
  | here : Up q es (.raw (.ref q)) (.lst es)
  | tup {ds ds' : List D} : Ups q es ds ds' → Up q es (.tup ds) (.tup ds')
  | same (d : D) : Up q es d d
inductive Ups (q : Addr) (es : List D) : List D → List D → Prop
  | nil : Ups q es [] []
  | cons {d d' : D} {ds ds' : List D} : Up q es d d' → Ups q es ds ds' → Ups q es (d :: ds) (d' :: ds')
end
inductive UpO (q : Addr) (es : List D) : List (Option D) → List (Option D) → Prop
  | nil : UpO q es [] []
  | some {d d' : D} {ds ds' : List (Option D)} : Up q es d d' → UpO q es ds ds' → UpO q es (some d :: ds) (some d' :: ds')
  | none {ds ds' : List (Option D)} : UpO q es ds ds' → UpO q es (none :: ds) (none :: ds')
  | any {o : Option D} {ds ds' : List (Option D)} : UpO q es ds ds' → UpO q es (o :: ds) (o :: ds')
section
variable {F F' : List Addr} {H : Hp} {q : Addr} {es : List D}
mutual
theorem Rep.up (k : Fwd F H F' H) (r0 : Rep F' H (.ref q) (.lst es)) : ∀ {d d' : D} {v : V}, Up q es d d' → Rep F H v d → Rep F' H v d'
  | _, _, _, .here, r => by cases r; exact r0
  | _, _, _, .tup u, r => by
    cases r with
    | tup h e rs => exact .tup (k _ _ h e (fun _ z => nomatch z)).1 e (Reps.ups k r0 u rs)
  | _, _, _, .same _, r => r.fwd k
theorem Reps.ups (k : Fwd F H F' H) (r0 : Rep F' H (.ref q) (.lst es)) : ∀ {ds ds' : List D} {vs : List V}, Ups q es ds ds' → Reps F H vs ds → Reps F' H vs ds'
  | _, _, _, .nil, r => by cases r; exact .nil
  | _, _, _, .cons u us, r => by
    cases r with
    | cons r1 rs => exact .cons (Rep.up k r0 u r1) (Reps.ups k r0 us rs)
end
theorem slots_up (k : Fwd F H F' H) (r0 : Rep F' H (.ref q) (.lst es)) : ∀ {δ δ' : List (Option D)} {σ : St}, UpO q es δ δ' → Paired (SlotOk F H) σ δ → Paired (SlotOk F' H) σ δ'
  | _, _, _, .nil, p => by cases p; exact .nil
  | _, _, _, .some u us, p => by
    cases p with
    | cons h t => exact .cons (fun d e => by cases e; obtain ⟨v, ev, r⟩ := h _ rfl; exact ⟨v, ev, Rep.up k r0 u r⟩) (slots_up k r0 us t)
  | _, _, _, .none us, p => by
    cases p with
    | cons h t => exact .cons (fun d e => by cases e) (slots_up k r0 us t)
  | _, _, _, .any us, p => by
    cases p with
    | cons h t => exact .cons (h.fwd k) (slots_up k r0 us t)
end
section
variable {B : Bx} {X : Cx} {δ δ' : Env'} {M : Mem} {Ψ : DEnds} {d x y : D}
theorem ws_up {ts : TS} {q : Addr} {es : List D} (j : Nat) (e : M[j]? = some (q, .lst es)) (hu : UpO q es δ δ') (h : WS B ts δ' (M.eraseIdx j) Ψ) : WS B ts δ M Ψ := fun κ σ H E hb R k => by
  obtain ⟨R2, r2⟩ := R.frz e
  refine h κ σ H E hb ?_ k
  exact R2.slots (slots_up (Fwd.less fun x hx => (F_sub erase_sub).subset hx) r2 hu R.sl)
theorem ws_upE {ts : TS} {q : Addr} {es : List D} (j : Nat) (e : M[j]? = some (q, .lst es)) (h : ∃ δ', UpO q es δ δ' ∧ WS B ts δ' (M.eraseIdx j) Ψ) : WS B ts δ M Ψ := let ⟨_, hu, h⟩ := h; ws_up j e hu h
theorem Vw.up {q : Addr} {es : List D} (j : Nat) (e : M[j]? = some (q, .lst es)) (hu : Up q es d x) : Vw d M x (M.eraseIdx j) := fun _ _ _ H _ R r => by
  obtain ⟨R2, r2⟩ := R.frz e
  exact ⟨R2, Rep.up (Fwd.less fun x hx => (F_sub erase_sub).subset hx) r2 hu r⟩
end
/-! ### data within data, some of them cells -/
mutual
inductive IsD (M : Mem) : D → D → Prop
  | val (d : D) : IsD M d d
  | cell {p : Addr} {ds ds' : List D} (j : Nat) (h : M[j]? = some (p, .lst ds)) : IsDs M ds ds' → IsD M (.raw (.ref p)) (.lst ds')
  | lst {ds ds' : List D} : IsDs M ds ds' → IsD M (.lst ds) (.lst ds')
  | tup {ds ds' : List D} : IsDs M ds ds' → IsD M (.tup ds) (.tup ds')
inductive IsDs (M : Mem) : List D → List D → Prop
  | nil : IsDs M [] []
  | cons {d d' : D} {ds ds' : List D} : IsD M d d' → IsDs M ds ds' → IsDs M (d :: ds) (d' :: ds')
end
theorem IsDs.refl {M : Mem} : ∀ ds : List D, IsDs M ds ds
  | [] => .nil
  | d :: ds => .cons (.val d) (IsDs.refl ds)
theorem IsDs.map {M : Mem} {α : Type} {f g : α → D} : ∀ {l : List α}, (∀ x ∈ l, IsD M (f x) (g x)) → IsDs M (l.map f) (l.map g)
  | [], _ => .nil
  | x :: l, h => .cons (h x List.mem_cons_self) (IsDs.map fun y hy => h y (List.mem_cons_of_mem _ hy))
section
variable {M : Mem} {δ : Env'} {κ : List (V × D)} {σ : St} {H : Hp} {K : PySem.W.Frag}
mutual
theorem IsD.dp (R : Rs κ δ M σ H) : ∀ {x d : D} {v : V}, IsD M x d → Rep M.F H v x → okD d = true → Dp K H v (toPy d)
  | _, _, _, .val _, r, k => rep_dp r k
  | _, _, _, .cell j h hs, r, k => by
    cases r
    obtain ⟨vs, e, rs⟩ := R.at h
    exact .lst (SqL.of e) (IsDs.dp R hs rs k)
  | _, _, _, .lst hs, r, k => by
    cases r with
    | lst h e rs => exact .lst (SqL.of e) (IsDs.dp R hs rs k)
  | _, _, _, .tup hs, r, k => by
    cases r with
    | tup h e rs => exact .tup (SqT.of e) (IsDs.dp R hs rs k)
theorem IsDs.dp (R : Rs κ δ M σ H) : ∀ {xs ds : List D} {vs : List V}, IsDs M xs ds → Reps M.F H vs xs → okDs ds = true → DpAll K H vs (toPys ds)
  | _, _, _, .nil, r, _ => by cases r; exact .nil
  | _, _, _, .cons h hs, r, k => by
    cases r with
    | cons r rs =>
      have k := Bool.and_eq_true_iff.mp (show (_ && _) = true from k)
      exact .cons (IsD.dp R h r k.1) (IsDs.dp R hs rs k.2)
end
end
end Hl
namespace Hl
open PySem L2
open PyProof.Rows hiding St
end Hl
namespace Hl
open PySem L2
/-! ### a thing with its parts, opened and closed -/
end Hl
namespace Hl
open PySem L2
end Hl
namespace Hl
open PySem L2
section
variable {B : Bx} {X : Cx} {e a b c o : Expr} {es rest : List Expr} {st : Stmt} {sts body : List Stmt} {δ δ' : Env'} {M : Mem} {Φ : D → Mem → Prop} {Ψ : DEnds} {te ta tb : TE} {tt : TT} {pos pos' apos : Pos} {d x y : D} {ΦB : Bool → Mem → Prop} {ΦL : List D → Mem → Prop}
variable {tg iter : Expr}
/-- a fact of a memory that stays where cells come in -/
def Anc (P : Mem → Prop) : Prop := ∀ M M' : Mem, (∀ x ∈ M, x ∈ M') → P M → P M'
/-! ### walking a list that is a cell (and stays so) -/
end
end Hl
namespace Hl
open PySem L2
/-! ### data with a reference seen otherwise -/
mutual
inductive UpV (q : Addr) (y : D) : D → D → Prop
  | here : UpV q y (.raw (.ref q)) y
  | tup {ds ds' : List D} : UpVs q y ds ds' → UpV q y (.tup ds) (.tup ds')
  | same (d : D) : UpV q y d d
inductive UpVs (q : Addr) (y : D) : List D → List D → Prop
  | nil : UpVs q y [] []
  | cons {d d' : D} {ds ds' : List D} : UpV q y d d' → UpVs q y ds ds' → UpVs q y (d :: ds) (d' :: ds')
end
inductive UpVO (q : Addr) (y : D) : List (Option D) → List (Option D) → Prop
  | nil : UpVO q y [] []
  | some {d d' : D} {ds ds' : List (Option D)} : UpV q y d d' → UpVO q y ds ds' → UpVO q y (some d :: ds) (some d' :: ds')
  | none {ds ds' : List (Option D)} : UpVO q y ds ds' → UpVO q y (none :: ds) (none :: ds')
  | any {o : Option D} {ds ds' : List (Option D)} : UpVO q y ds ds' → UpVO q y (o :: ds) (o :: ds')
section
variable {B : Bx} {X : Cx} {e a b c o : Expr} {es rest : List Expr} {st : Stmt} {sts body : List Stmt} {δ δ' : Env'} {M : Mem} {Φ : D → Mem → Prop} {Ψ : DEnds} {te ta tb : TE} {tt : TT} {pos pos' apos : Pos} {d x y : D} {ΦB : Bool → Mem → Prop} {ΦL : List D → Mem → Prop} {kvs : List (Key × D)} {k : Key}
variable {tg iter : Expr}
/-! ### a dict in the slots is frozen -/
/-! ### a dict is locked while a statement, or an expression, runs -/
theorem Rpl.F {p : Addr} {c c' : SC} {M' : Mem} (r : Rpl p c c' M M') : M'.F = M.F := by
  cases r with
  | cell j h => exact F_set h (by rw [own_up, own_up])
  | head j h => exact F_set h rfl
  | @part N b c0 j i h h2 => exact F_set h (by show b :: _ = b :: _; rw [map_set_fst h2])
/-! ### fields of things with parts -/
theorem fld_h {K : PySem.W.Frag} {f : Str} {C p : Addr} {ns : List Str} {fs : List D} {N : List (Addr × SC)} (j : Nat) (hm : M[j]? = some (p, .grp (.obj C ns fs) N)) (ff : FldP K C f) (l : (ns.zip fs).lookup f = some d) (k : Φ d M) : FldD K f (.raw (.ref p)) M Φ := fld_o (.inm (.inr (.inl ⟨_, List.mem_of_getElem? hm⟩))) ff l k
theorem fld_p {K : PySem.W.Frag} {f : Str} {C p b : Addr} {ns : List Str} {fs : List D} {c0 : SC} {N : List (Addr × SC)} (j : Nat) (hm : M[j]? = some (b, .grp c0 N)) (hp : (p, SC.obj C ns fs) ∈ N) (ff : FldP K C f) (l : (ns.zip fs).lookup f = some d) (k : Φ d M) : FldD K f (.raw (.ref p)) M Φ := fld_o (.inm (.inr (.inr ⟨_, _, _, List.mem_of_getElem? hm, hp⟩))) ff l k
/-! ### o.f += e -/
end
end Hl
namespace Hl
open PySem L2
section
variable {B : Bx} {X : Cx} {e a b c o : Expr} {es rest : List Expr} {kws : List Keyword} {st : Stmt} {sts body : List Stmt} {δ δ' : Env'} {M : Mem} {Φ : D → Mem → Prop} {Ψ : DEnds} {te ta tb : TE} {tt : TT} {pos pos' apos : Pos} {d x y : D} {ΦB : Bool → Mem → Prop} {ΦL : List D → Mem → Prop} {kvs : List (Key × D)} {k : Key}
/-! ### methods of things with parts, and of their parts -/
theorem mt_hS {m k : Nat} {mn : Str} {C q : Addr} {ns : List Str} {fs : List D} {N : List (Addr × SC)} {sel : Sel} {p : DSpE} {Ξ : XPost} (j : Nat) (hm : M[j]? = some (q, .grp (.obj C ns fs) N)) (f : MethEX X k C mn es.length (kwN kws) sel p) (hk : k ≤ m) (lt : Lets X B δ Ξ) (pl : PlA X pos es kws (kwN kws)) (hn : ns.contains mn = false)
    (h : DAK B X es kws δ M fun ds zs M' => ds.length = es.length ∧ zs.length = (kwN kws).length ∧ p (selD sel (.raw (.ref q) :: ds ++ zs)) M' Φ Ξ) : MtE B X m pos es kws mn δ (.raw (.ref q)) M Φ := mt_o (.inm (.inr (.inl ⟨_, List.mem_of_getElem? hm⟩))) f hk lt pl hn h
theorem mt_pS {m k : Nat} {mn : Str} {C q b : Addr} {ns : List Str} {fs : List D} {c0 : SC} {N : List (Addr × SC)} {sel : Sel} {p : DSpE} {Ξ : XPost} (j : Nat) (hm : M[j]? = some (b, .grp c0 N)) (hp : (q, SC.obj C ns fs) ∈ N) (f : MethEX X k C mn es.length (kwN kws) sel p) (hk : k ≤ m) (lt : Lets X B δ Ξ) (pl : PlA X pos es kws (kwN kws)) (hn : ns.contains mn = false)
    (h : DAK B X es kws δ M fun ds zs M' => ds.length = es.length ∧ zs.length = (kwN kws).length ∧ p (selD sel (.raw (.ref q) :: ds ++ zs)) M' Φ Ξ) : MtE B X m pos es kws mn δ (.raw (.ref q)) M Φ := mt_o (.inm (.inr (.inr ⟨_, _, _, List.mem_of_getElem? hm, hp⟩))) f hk lt pl hn h
end
/-! ### a promise about the first cells, with other cells ahead of them -/
end Hl
namespace Hl
open PySem L2
section
variable {B : Bx} {X : Cx} {e a b c o : Expr} {es rest : List Expr} {kws : List Keyword} {st : Stmt} {sts body : List Stmt} {δ δ' : Env'} {M : Mem} {Φ : D → Mem → Prop} {Ψ : DEnds} {te ta tb : TE} {tt : TT} {pos pos' apos cpos : Pos} {d x y : D} {ΦB : Bool → Mem → Prop} {ΦL : List D → Mem → Prop} {kvs : List (Key × D)} {k : Key}
/-! ### xs.count(y), xs.index(y) of truths -/
def rCountV (K : PySem.W.Frag) : V → List V → Hp → VK → Prop := fun x xs H Q => ∃ (a : Addr) (ys : List V) (y : V), x = V.ref a ∧ xs = [y] ∧ SqL K H a ys ∧ flatV y = true ∧ ys.all flatV = true ∧ Q (.int (ys.countP (fun z => eqV z y) : Nat)) H
theorem count_vals {y : V} : ∀ {ys : List V} {us : List Value}, Vals ys us → ys.all flatV = true → us.countP (eqU y) = ys.countP fun z => eqV z y
  | _, _, .nil, _ => rfl
  | z :: ys, u :: us, .cons r rs, f => by
    have f2 := Bool.and_eq_true_iff.mp (show (_ && _) = true from f)
    rw [List.countP_cons, List.countP_cons, count_vals rs f2.2, eqU_of r f2.1]
theorem mt_countV : MtR X "list.count" (rCountV X.K) := by
  intro pins s σ H x xs v us Q I rx rxs h
  obtain ⟨a, ys, y, rfl, rfl, hs, fy, fys, q⟩ := h
  cases rx
  cases rxs with
  | cons ry rt =>
    rename_i uy ut
    cases rt
    obtain ⟨its, rv, ⟨⟨cls, dd, data, sl⟩, n, ho, hc, hdn, hd⟩, hlen⟩ := I.list hs
    simp only at hc hd
    subst hc hd
    refine call_meets PySem.F.slot_list_count ⟨_, ho, rfl⟩ PySem.F.entry_list_count (PySem.F.args_list_count_2 _ _)
      (SeqAt.list_countAt a its.toArray n dd sl uy (eqU y)) ⟨ho, fun u' hu' => mem_eqAt ry fy rv fys u' (by simpa using hu'), ?_⟩
    refine ⟨.int _, H, I.tok _, ⟨s.toks, ?_⟩, q⟩
    show Value.int ((its.toArray.toList.countP (eqU y) : Nat) : Int) s.toks = _
    rw [List.toList_toArray, count_vals rv fys]
theorem de_count (h : DE B X o δ M fun x M1 => (∃ ds, IsL M1 x ds) ∧ DA B X [a] δ M1 fun ys M2 => MtD X.K "list" (rCountV X.K) x ys M2 Φ)
    (hbase : attributeBase o "count" X.env (eval o X.env) = eval o X.env := by rfl)
    (hfew : ((backTo cpos (starEach [a] X.env)).all (fun x => !x.1) && (backToKw cpos (keywordEach [] X.env)).all (fun x => x.1.isSome)
      && decide (([a] : List Expr).length + ([] : List Keyword).length + (if ([] : List Keyword).isEmpty then 0 else 1) < 30)) = true := by rfl)
    (hline : (apos.endLine == cpos.line) = true := by rfl) (hs : starEach [a] X.env = (false, eval a X.env) :: starEach [] X.env := by rfl) (hplain : (backTo cpos (starEach [] X.env)).any (·.1) = false := by rfl) :
    DE B X (.Call (.Attribute o "count" apos) [a] [] cpos) δ M Φ := de_bml PySem.F.slot_list_count PySem.F.type_list_count mt_countV h hbase hfew hline hs hplain
theorem de_index (h : DE B X o δ M fun x M1 => (∃ ds, IsL M1 x ds) ∧ DA B X [a] δ M1 fun ys M2 => MtD X.K "list" (rIndex X.K) x ys M2 Φ)
    (hbase : attributeBase o "index" X.env (eval o X.env) = eval o X.env := by rfl)
    (hfew : ((backTo cpos (starEach [a] X.env)).all (fun x => !x.1) && (backToKw cpos (keywordEach [] X.env)).all (fun x => x.1.isSome)
      && decide (([a] : List Expr).length + ([] : List Keyword).length + (if ([] : List Keyword).isEmpty then 0 else 1) < 30)) = true := by rfl)
    (hline : (apos.endLine == cpos.line) = true := by rfl) (hs : starEach [a] X.env = (false, eval a X.env) :: starEach [] X.env := by rfl) (hplain : (backTo cpos (starEach [] X.env)).any (·.1) = false := by rfl) :
    DE B X (.Call (.Attribute o "index" apos) [a] [] cpos) δ M Φ := de_bml PySem.F.slot_list_index PySem.F.type_list_index mt_index h hbase hfew hline hs hplain
/-! ### sep.join(texts) -/
theorem de_join (h : DE B X o δ M fun x M1 => ∃ z, x = .str z ∧ DE B X a δ M1 fun y M2 => ∃ ys : List Str, IsL M2 y (ys.map .str) ∧ (ys.map (·.length)).sum + ys.length * z.length ≤ 16777216 ∧ Φ (.str (Txt.join z ys)) M2)
    (hs : starEach [a] X.env = [(false, eval a X.env)] := by rfl) (hbase : attributeBase o "join" X.env (eval o X.env) = eval o X.env := by rfl) (hline : (apos.endLine == pos.line) = true := by rfl) : DE B X (.Call (.Attribute o "join" apos) [a] [] pos) δ M Φ :=
  .of (pe_join cE cE hs hbase hline) fun κ σ H Q hb R k => h κ σ H _ hb R fun v x M1 H1 ⟨z, ez, q1⟩ R1 r1 => by
    subst ez
    cases r1
    refine ⟨⟨z, rfl⟩, q1 κ σ H1 _ hb R1 fun vy y M2 H2 ⟨ys, il, hl, q2⟩ R2 r2 => ?_⟩
    obtain ⟨p, us, rfl, e1, rr⟩ := il.sq R2 r2
    have := rr.strs
    subst this
    exact ⟨z, p, ys, rfl, rfl, .inl (SqL.of e1), hl, k _ _ _ _ q2 R2 (.str _)⟩
end
/-! signs of a joined text -/
end Hl
namespace Hl
open PySem L2
/-! ### facts of classes, not to be looked into -/
structure KitP (K : PySem.W.Frag) (t u : Value) (b : Bool) : Prop where
  is : PySem.W.kitOne K t u = some b
structure ExmP (K : PySem.W.Frag) (t u : Value) (b : Bool) : Prop where
  is : PySem.W.exmOne K t u = some b
structure MgP (mg : Str → Option Value) (x : Str) (C : Addr) : Prop where
  is : mg x = some (.ref C)
section
variable {B : Bx} {X X' : Cx} {δ : Env'} {M : Mem} {Φ : D → Mem → Prop} {Ψ : DEnds} {d x y : D} {scope : Scope} {suite : List Stmt} {pos : Pos}
theorem isx_xP {K : PySem.W.Frag} {C : Addr} {ns : List Str} {fs : List D} {c : V} {u : Value} {b : Bool} (T : ExcP K C) (hc : ClsV c u) (hk : KitP K (.ref C) u b) (k : Φ (.bl b) M) : CallD (rIsiU K) [.exn C ns fs, .raw c] M Φ := isx_x T hc hk.is k
theorem isx_oP {K : PySem.W.Frag} {C : Addr} {ns : List Str} {fs : List D} {c : V} {u : Value} {b : Bool} (h : IsO M x C ns fs) (T : InsP K C) (hc : ClsV c u) (hk : KitP K (.ref C) u b) (k : Φ (.bl b) M) : CallD (rIsiU K) [x, .raw c] M Φ := isx_o h T hc hk.is k
theorem isx_bP {K : PySem.W.Frag} {S : String} {c : V} {u : Value} {b : Bool} (hx : tyD x = some S) (hc : ClsV c u) (hk : KitP K (.type S) u b) (k : Φ (.bl b) M) : CallD (rIsiU K) [x, .raw c] M Φ := isx_b hx hc hk.is k
theorem isx_t2P {K : PySem.W.Frag} {C : Addr} {ns : List Str} {fs : List D} {c1 c2 : V} {u1 u2 : Value} {b1 b2 : Bool} (T : ExcP K C) (h1 : ClsV c1 u1) (h2 : ClsV c2 u2) (k1 : KitP K (.ref C) u1 b1) (k2 : KitP K (.ref C) u2 b2) (k : Φ (.bl (b1 || b2)) M) : CallD (rIsiV K) [.exn C ns fs, .tup [.raw c1, .raw c2]] M Φ := isx_t2 T h1 h2 k1.is k2.is k
theorem exh_yesP {c0 C : Addr} {oi : Option Nat} {ns : List Str} {ds : List D} {r : List HdD} (hm : ExmP X.K (.ref C) (.ref c0) true) (h : ∀ a pn kp, DSs ⟨kp, fun _ _ _ _ _ => False⟩ (X.suite a pn) suite (envD oi δ (.exn C ns ds)) M (endsD oi Ψ)) : exH B X Ψ ((c0, oi, suite) :: r) C ns ds δ M := exh_yes hm.is h
theorem exh_noP {c0 C : Addr} {oi : Option Nat} {ns : List Str} {ds : List D} {r : List HdD} (hm : ExmP X.K (.ref C) (.ref c0) false) (h : exH B X Ψ r C ns ds δ M) : exH B X Ψ ((c0, oi, suite) :: r) C ns ds δ M := exh_no hm.is h
theorem de_gclsP {x : Str} {C : Addr} (hg : Gl X x) (hm : MgP X.mg x C) (k : Φ (.raw (.ref C)) M) (hd : (x == ("__debug__" : Str)) = false := by decide) : DE B X (.Name x pos) δ M Φ := de_gcls hg hm.is k hd
end
end Hl
namespace Hl
open PySem L2
/-! ### zip of two lists of one length -/
end Hl
namespace Hl
open PySem L2
open PyProof.Rows hiding St
/-! ### a list, a tuple, or a list that is a cell -/
inductive IsSq (M : Mem) : D → List D → Prop
  | lst (ds : List D) : IsSq M (.lst ds) ds
  | tup (ds : List D) : IsSq M (.tup ds) ds
  | cell {p : Addr} {ds : List D} (h : InM M p (.lst ds)) : IsSq M (.raw (.ref p)) ds
theorem anc_sq {y : D} {ds : List D} : Anc fun M => IsSq M y ds := fun M M' h k => by
  cases k with
  | lst => exact .lst _
  | tup => exact .tup _
  | cell h' => exact .cell (h'.mono h)
theorem IsSq.sq {κ : List (V × D)} {δ : Env'} {M : Mem} {σ : St} {H : Hp} {v : V} {x : D} {ds : List D} (h : IsSq M x ds) (R : Rs κ δ M σ H) (r : Rep M.F H v x) : ∃ p vs, v = .ref p ∧ (H p = some (.lst vs) ∨ H p = some (.tup vs)) ∧ Reps M.F H vs ds := by
  cases h with
  | lst => cases r with | lst h1 e1 r1 => exact ⟨_, _, rfl, .inl e1, r1⟩
  | tup => cases r with | tup h1 e1 r1 => exact ⟨_, _, rfl, .inr e1, r1⟩
  | cell h =>
    cases r
    obtain ⟨vs, e1, r1⟩ := h.ok R
    exact ⟨_, _, rfl, .inl e1, r1⟩
end Hl
namespace Hl
open PySem L2
section
variable {B : Bx} {X : Cx} {δ δ' : Env'} {M : Mem} {Φ : D → Mem → Prop} {d x y : D} {α : Type} {l : List α} {f : α → D} {i : Int}
theorem od_ixTE {K : PySem.W.Frag} (h : 0 ≤ i ∧ i < l.length) (k : ∀ y, l[i.toNat]? = some y → Φ (f y) M) : OpD (rIxU K) (.tup (l.map f)) (.int i) M Φ := by
  have hi : i.toNat < l.length := by omega
  obtain ⟨n, rfl⟩ : ∃ n : Nat, i = (n : Int) := ⟨i.toNat, by omega⟩
  have hn : n < l.length := by omega
  exact od_ixT (d := f l[n]) (at_mapN (by simp [hn])) (k _ (by simp [hn]))
end
end Hl
namespace Hl
open PySem L2
end Hl
namespace Hl
open PySem L2
open PyProof.Rows hiding St
section
variable {B : Bx} {X : Cx} {e a b c o : Expr} {es rest : List Expr} {δ δ' : Env'} {M M' : Mem} {Φ : D → Mem → Prop} {Ψ : DEnds} {pos pos' apos cpos : Pos} {d x y : D} {ΦL : List D → Mem → Prop}
/-! ### xs.clear() -/
def rClear : V → List V → Hp → VK → Prop := fun x vs H Q => ∃ l xs, x = .ref l ∧ vs = [] ∧ H l = some (.lst xs) ∧ Q .non (upd H l (.lst []))
theorem mt_clear : MtR X "list.clear" rClear := by
  intro pins s σ H x vs v us Q I rx rv h
  obtain ⟨l, xs, rfl, rfl, hH, q⟩ := h
  cases rx
  have hus := rv.zero
  subst hus
  obtain ⟨z, its, n, r, hl, e⟩ := I.lstM hH
  refine call_meets F.slot_list_clear ⟨_, e, rfl⟩ F.entry_list_clear (F.args_list_clear_1 _) (AutoSeq1.list_clear_list_0 l its.toArray n (by rw [List.size_toArray]; omega)) ⟨e, ?_⟩
  exact ⟨.non, _, I.lset (its' := []) hH e (by simp) .nil (Nat.zero_le _), rfl, q⟩
theorem de_bml0 {name : Str} {id : String} {r : V → List V → Hp → VK → Prop} (slot : Slot "list" name id) (hty : typeOf (.builtin id) = pure (.type "method_descriptor")) (hm : MtR X id r)
    (h : DE B X o δ M fun x M1 => (∃ ds, IsL M1 x ds) ∧ MtD X.K "list" r x [] M1 Φ)
    (hbase : attributeBase o name X.env (eval o X.env) = eval o X.env := by rfl) (hline : (apos.endLine == cpos.line) = true := by rfl) :
    DE B X (.Call (.Attribute o name apos) [] [] cpos) δ M Φ := .of (pe_bm0 PySem.F.plainAttrs_list slot hty hm cE hbase hline) fun κ σ H Q hb R k =>
  h κ σ H _ hb R fun v x M1 H1 ⟨⟨ds, il⟩, q⟩ R1 r1 => by
    obtain ⟨p, vs, ev, e1, rr⟩ := il.sq R1 r1
    refine ⟨by subst ev; exact .inl ⟨rfl, vs, SqL.of e1⟩, ?_⟩
    exact q κ δ σ H1 v [] Q R1 r1 .nil k
theorem de_clear (h : DE B X o δ M fun x M1 => (∃ ds, IsL M1 x ds) ∧ MtD X.K "list" rClear x [] M1 Φ)
    (hbase : attributeBase o "clear" X.env (eval o X.env) = eval o X.env := by rfl) (hline : (apos.endLine == cpos.line) = true := by rfl) :
    DE B X (.Call (.Attribute o "clear" apos) [] [] cpos) δ M Φ := de_bml0 PySem.F.slot_list_clear PySem.F.type_list_clear mt_clear h hbase hline
/-! ### a comprehension whose items are new cells, put behind all others -/
end
theorem IsO.mono {M M' : Mem} {x : D} {C : Addr} {ns : List Str} {ds : List D} (h : IsO M x C ns ds) (k : ∀ c ∈ M, c ∈ M') : IsO M' x C ns ds := by
  cases h with
  | val => exact .val _ _ _
  | cell j h => exact .inm ((InM.mono (M := M) (.inl (List.mem_of_getElem? h))) k)
  | inm h => exact .inm (h.mono k)
theorem IsSq.mono {M M' : Mem} {x : D} {ds : List D} (h : IsSq M x ds) (k : ∀ c ∈ M, c ∈ M') : IsSq M' x ds := anc_sq M M' k h
end Hl
namespace PySem.W
open PySem PySem.Calls PyProof.Rows Builtin
end PySem.W
namespace Hl
open PySem L2
open PyProof.Rows hiding St
end Hl
namespace Hl
open PySem L2
open PyProof.Rows hiding St
section
variable {B : Bx} {X : Cx} {e a b c o : Expr} {es rest : List Expr} {δ δ' : Env'} {M M' : Mem} {Φ : D → Mem → Prop} {pos pos' apos cpos : Pos} {d x y : D} {ΦL : List D → Mem → Prop}
/-! ### xs.pop() -/
theorem de_pop0 (h : DE B X o δ M fun x M1 => (∃ ds, IsL M1 x ds) ∧ MtD X.K "list" rPop x [] M1 Φ)
    (hbase : attributeBase o "pop" X.env (eval o X.env) = eval o X.env := by rfl) (hline : (apos.endLine == cpos.line) = true := by rfl) :
    DE B X (.Call (.Attribute o "pop" apos) [] [] cpos) δ M Φ := de_bml0 PySem.F.slot_list_pop PySem.F.type_list_pop mt_pop h hbase hline
/-! ### max of three -/
theorem de_max3 {n : Nat} (z : Cz X n) {p : Pos} (g : Gn X "max") (h : DA B X [a, b, c] δ M fun ds M1 => CallD (rNuC3 nuMax3) ds M1 Φ) (he : starEach [a, b, c] X.env = (false, eval a X.env) :: starEach [b, c] X.env := by rfl) (hpl : (backTo pos (starEach [b, c] X.env)).any (·.1) = false := by rfl) : DE B X (.Call (.Name "max" p) [a, b, c] [] pos) δ M Φ := de_blt (call_max3Nu z.calm) g boot_max h (by decide) (by decide) he hpl
theorem cd_max3 {i j l : Int} (k : Φ (.int (max (max i j) l)) M) : CallD (rNuC3 nuMax3) [.int i, .int j, .int l] M Φ := fun κ δ σ H vs Q R rs f => by
  cases rs with
  | cons r1 r2 =>
    cases r1
    cases r2 with
    | cons r2 r3 =>
      cases r2
      cases r3 with
      | cons r3 r4 =>
        cases r3
        cases r4
        refine ⟨_, _, _, .int (max (max i j) l), rfl, ?_, f _ _ _ _ k R (.int _)⟩
        have h2 : ∀ a b : Int, nuMax2 (.int a) (.int b) = some (.int (max a b)) := fun a b => by
          show some (if decide (a < b) = true then V.int b else V.int a) = _
          by_cases h : a < b
          · rw [if_pos (by simpa using h), Int.max_eq_right (by omega)]
          · rw [if_neg (by simpa using h), Int.max_eq_left (by omega)]
        unfold nuMax3
        rw [h2]
        exact h2 _ _
end
end Hl
namespace Hl
open PySem L2
open PyProof.Rows hiding St
/-! ### an exception made as a value -/
section
variable {X : Cx} {pins : List (Addr × Obj)} {σ : St} {H : Hp} {s s' : Shared}
theorem ep_mk {Q : XK} {Q' : VK} {u : Value} (m : MkP X pins σ Q u s') (q : ∀ cls d H' a, Q cls d H' → H' a = none → Q' (.ref a) (upd H' a (XO cls d a))) : EP X pins σ Q' u s' := by
  obtain ⟨a, oe, vs, sI, H', cls, d, rfl, J, k, hne, ha, hz, hd, h1, na, os, ag, r, q0⟩ := m
  refine ⟨.ref a, upd H' a (XO cls d a), ?_, rfl, q _ _ _ _ q0 na⟩
  exact Inv.landedX (B := PySem.W.hideAll sI.heap (frs X.stack)) J (fun b o e hb => PySem.W.hideAll_get _ e hb) (fun b o e => k b o (PySem.W.of_hideAll _ e)) (Heap.UpToSlots.of_keeps k) os ag na hne (xo_ok ha hz hd)
end
section
variable {X : Cx} {B : Bx} {δ : Env'} {M : Mem} {Φ : D → Mem → Prop} {e : Expr} {es : List Expr} {kws : List Keyword} {pos pp : Pos} {m : Nat}
theorem de_ofMk {t : St → Hp → XK → Prop} (hm : PMk X e t) (h : ∀ κ σ H, (∀ q ∈ B.ps, q ∈ κ) → Rs κ δ M σ H → t σ H fun cls d H' => ∃ C ns ds M', cls = .ref C ∧ Rs κ δ M' σ H' ∧ XRep M'.F H' d ns ds ∧ Φ (.exn C ns ds) M') : DE B X e δ M Φ := by
  intro κ σ H Q hb R k
  unfold tE
  intro pins s I
  refine wpAny_mono (hm pins s σ H _ I (h κ σ H hb R)) (fun u s1 mk => ep_mk mk fun cls d H' a ⟨C, ns, ds, M', e1, R1, x1, q⟩ na => ?_) fun _ _ x => x
  subst e1
  exact k _ _ M' _ q (R1.new na) (x1.held (R1.fresh na) na)
theorem de_exn0 {C : Addr} {x : Str} (T : Ex0 X.K X.mg x C) (hg : Gl X x) (h : Φ (.exn C [] []) M) (hdb : (x == ("__debug__" : Str)) = false := by decide) : DE B X (.Call (.Name x pp) [] [] pos) δ M Φ :=
  de_ofMk (pmk_own0 T hg hdb) fun κ σ H hb R => ⟨C, [], [], M, rfl, R, .inl ⟨rfl, rfl, rfl⟩, h⟩
end
/-! ### with keywords: type.__call__ on a class of exceptions -/
section
open PySem.W PySem.Calls PySem.HandSPX PyProof
variable {prog : Program} {w : World} {A : Around} {E : Value → Shared → Prop} {R : Result → Shared → Prop} {h : Heap} {g : Array GenState} {d : Drawn} {t : Nat} {os : OsState}
variable {nm q : Str} {C N : Addr} {bs bm bmB : List Value} {hdct : Bool} {sn : List Str} {sub : List Value} {ab : Bool} {col : Option Bool} {dd : Option Addr} {k0 k1 k2 k3 k5 : Option Value} {B newId initId : String} {kw : List (Str × Value)}
theorem check_newK {M : Model} (F : ExcBaseFacts B newId initId bmB) (hT : ∀ X : String, bm.contains (.type X) = bmB.contains (.type X)) {rest : List Value} {Q : Unit → Shared → Prop}
    (hC : h.get? C = some (excClassObj nm q C N bs bm hdct sn sub ab col dd k0 k1 k2 k3 k5 newId)) (hq : Q () ⟨h, g, d, t, os⟩) : wpAny M A (checkBuiltinCall newId ⟨.ref C :: rest, kw⟩) Q E ⟨h, g, d, t, os⟩ := by
  have hcont : (Value.ref C :: bm).contains (.type B) = true := by rw [List.contains_cons, hT, F.hasB, Bool.or_true]
  have hstar := F.noStar
  simp only [checkBuiltinCall, F.newKind, F.newSplit, F.newRow]
  repeat (first | refine wpAny_loadPart_at hC ?_ | (refine wpAny_isSubtype_exc hC ?_; rw [hcont]) | refine wpAny_staticBase_exc hC ?_ | refine wpAny_madeBy_exc hC ?_ | simp only [bne_self_eq_false, Bool.false_eq_true, if_false] | wp_step)
  exact hq
theorem newK (F : ExcBaseFacts B newId initId bmB) (hT : ∀ X : String, bm.contains (.type X) = bmB.contains (.type X)) {rest : List Value}
    (hC : h.get? C = some (excClassObj nm q C N bs bm hdct sn sub ab col dd k0 k1 k2 k3 k5 newId))
    (hq : R (.ok (.ret (.ref (h.objs.size + 1)))) ⟨(h.push { cls := .type "tuple", data := .seq rest.toArray }).push
      { cls := .ref C, data := .fields #[.ref h.objs.size, .none, .none, .none, .bool false, .none] }, g, d, t, os⟩) (hrest : rest.length ≤ sizeLine) :
    codeAny (model prog w) A (.builtin newId ⟨.ref C :: rest, kw⟩) R ⟨h, g, d, t, os⟩ := by
  have hends := F.ends
  have hcB : (Value.ref C :: bm).contains (.type B) = true := by rw [List.contains_cons, hT, F.hasB, Bool.or_true]
  have hcA : (Value.ref C :: bm).contains (.type "AttributeError") = false := by rw [List.contains_cons, hT, F.noAttr]; rfl
  have hcN : (Value.ref C :: bm).contains (.type "NameError") = false := by rw [List.contains_cons, hT, F.noName]; rfl
  refine codeAny_builtinAt F.entry ?_
  unfold Builtin.«BaseException.__new__»
  refine PySem.wpAt_bind ?_
  show PySem.wpAt _ _ _ (stack >>= _) _ _ _
  refine PySem.wpAt_bind (PySem.wpAt_stack fun p below => PySem.wpAt_of_wpAny ?_)
  wp_walk
  refine PySem.wpAt_of_wpAny ?_
  rw [F.owner]
  repeat (first | with_reducible refine wpAny_madeHere_exc F.canon hC ?_ | with_reducible refine wpAny_loadPart_at hC ?_ | (with_reducible refine wpAny_isSubtype_exc hC ?_; first | rw [hcB] | rw [hcA] | rw [hcN]) | wp_step)
  show R _ _
  rw [Heap.size_push]
  exact hq
theorem type_callK (F : ExcBaseFacts B newId initId bmB) (hT : ∀ X : String, bm.contains (.type X) = bmB.contains (.type X)) {rest : List Value} {fI : Addr} {Q : Fin → Shared → Prop}
    (hC : h.get? C = some (excClassObj nm q C N bs bm hdct sn sub ab col dd k0 k1 k2 k3 k5 newId))
    (hi : W.Looks (model prog w) h (typeLookup (.ref C) "__init__") (some (.ref fI))) (hb : ∀ self, W.Looks (model prog w) h (bindSpecial (.ref fI) self) (.ref fI, [self])) (hrest : rest.length ≤ sizeLine)
    (hq : codeAny (model prog w) A (.call (.ref fI) ⟨.ref (h.objs.size + 1) :: rest, kw⟩)
      (fun r s' => match r with | .ok (.ret v) => v = .none ∧ Q (.done (.ret (.ref (h.objs.size + 1)))) s' | .ok _ => False | .error e => E e s')
      ⟨(h.push (W.kdv_tup rest)).push (excO C h.objs.size), g, d, t, os⟩) :
    wpAny (model prog w) A (Builtin.«type.__call__» ⟨.ref C :: rest, kw⟩) Q E ⟨h, g, d, t, os⟩ := by
  repeat (first | with_reducible refine wpAny_loadPart_at hC ?_ | with_reducible refine wpAny_madeBy_exc hC ?_ | wp_step)
  refine codeAny_call_builtin_code (Code.quiet_builtin _ F.quiet) (check_newK F hT hC ?_)
  refine newK F hT hC ?_ hrest
  show wpAny _ _ _ _ _ _
  have k : ∀ b o, h.get? b = some o → ((h.push (W.kdv_tup rest)).push (excO C h.objs.size)).get? b = some o := fun b o e => Heap.get?_push_of_some _ (Heap.get?_push_of_some _ e)
  have hC₁ := k _ _ hC
  have hget : ((h.push (W.kdv_tup rest)).push (excO C h.objs.size)).get? (h.objs.size + 1) = some (excO C h.objs.size) := by heap_get
  have hcC : (Value.ref C :: bm).contains (.ref C) = true := by simp
  have i1 := hi.keeps k
  have b1 := (hb (.ref (h.objs.size + 1))).keeps k
  unfold isInstance
  repeat (first | with_reducible refine wpAny_loadPart_at hget ?_ | (with_reducible refine wpAny_isSubtype_exc hC₁ ?_; rw [hcC]) | wp_step)
  show wpAny _ _ (typeLookup (.ref C) _) _ _ _
  refine i1.at ?_
  refine wpAny_holding (wpAny_bind (b1.at ?_))
  refine wpAny_bind (wpAny_call (codeAny_mono hq fun r s' z => ?_))
  rcases r with e | (v | _ | _ | _) <;> first | exact z | exact z.elim | skip
  obtain ⟨rfl, z⟩ := z
  first
    | exact wpAny_pure (wpAny_pure z)
    | (wp_walk; exact z)
theorem check_tcK {M : Model} {rest : List Value} {Q : Unit → Shared → Prop} (hC : h.get? C = some (excClassObj nm q C N bs bm hdct sn sub ab col dd k0 k1 k2 k3 k5 newId))
    (hq : Q () ⟨h, g, d, t, os⟩) : wpAny M A (checkBuiltinCall "type.__call__" ⟨.ref C :: rest, kw⟩) Q E ⟨h, g, d, t, os⟩ := by
  have f3 := tc_sub
  have hT : (⟨h, g, d, t, os⟩ : Shared).TypeIs (.ref C) "type" := ⟨_, hC, rfl⟩
  simp only [checkBuiltinCall, tc_kind, tc_split]
  repeat (any_goals (first | assumption | with_reducible refine wpAny_loadPart_at hC ?_ | with_reducible refine wpAny_onRaise ?_ | with_reducible refine wpAny_map ?_ | wp_step))
theorem call_ownK (F : ExcBaseFacts B newId initId bmB) (hT : ∀ X : String, bm.contains (.type X) = bmB.contains (.type X)) {rest : List Value} {fI : Addr}
    (hC : h.get? C = some (excClassObj nm q C N bs bm hdct sn sub ab col dd k0 k1 k2 k3 k5 newId))
    (hi : W.Looks (model prog w) h (typeLookup (.ref C) "__init__") (some (.ref fI))) (hb : ∀ self, W.Looks (model prog w) h (bindSpecial (.ref fI) self) (.ref fI, [self])) (hrest : rest.length ≤ sizeLine)
    (hq : codeAny (model prog w) (A.under (.builtin "type.__call__" ⟨.ref C :: rest, kw⟩)) (.call (.ref fI) ⟨.ref (h.objs.size + 1) :: rest, kw⟩) (W.InitBack (h.objs.size + 1) R)
      ⟨(h.push (W.kdv_tup rest)).push (excO C h.objs.size), g, d, t, os⟩) :
    codeAny (model prog w) A (.call (.ref C) ⟨rest, kw⟩) R ⟨h, g, d, t, os⟩ := by
  have f1 := tc_lookup
  have f2 := tc_bind (.ref C)
  have hTy : (⟨h, g, d, t, os⟩ : Shared).TypeIs (.ref C) "type" := ⟨_, hC, rfl⟩
  refine codeAny_of_tree ?_
  show wpAny _ _ (callAny (.ref C) _) _ _ _
  repeat (any_goals (first | assumption | with_reducible refine wpAny_loadPart_at hC ?_ | wp_step))
  refine ⟨rfl, ?_⟩
  refine codeAny_call_builtin_at (Code.quiet_builtin _ (by decide +kernel)) entry_typeCall (check_tcK hC (type_callK F hT hC hi hb hrest ?_))
  refine codeAny_mono hq fun r s' z => ?_
  rcases r with e | (v | _ | _ | _) <;> exact z
end
/-- an own exception class whose __init__ keeps its arguments, called with arguments by place and by name -/
structure ExN (P : Program) (w : World) (K : PySem.W.Frag) (mg : Str → Option Value) (base : Heap) (x : Str) (C : Addr) (ns : List Str) (n : Nat) (ks : List Str) (sel : Sel) : Prop where
  gC : mg x = some (.ref C)
  T : OexC K C
  ex : ∃ fI fd ps, PySem.W.findIn K (.ref C) "__init__" = some (some (.ref fI)) ∧ PySem.W.typeIn K (.ref fI) = some (.type "function") ∧ CallB K fd ps (n + 1) ks (.inl 0 :: sel) ∧ FnOk P w K mg base CX0 1 fI fd ps (spXI C ns)
section
open PySem.W PySem.Calls PySem.HandSPX
variable {X : Cx} {B : Bx} {δ : Env'} {M : Mem} {Φ : D → Mem → Prop} {e : Expr} {es : List Expr} {kws : List Keyword} {pos pp : Pos} {m : Nat}
theorem de_exnN {C : Addr} {x : Str} {n : Nat} {ns ks : List Str} {sel : Sel} (z : Cz X m) (hn : 2 ≤ m) (T : ExN X.prog X.w X.K X.mg X.base x C ns n ks sel) (hg : Gl X x)
    (h : DAK B X es kws δ M fun ds zs M' => ds.length = n ∧ n ≤ 1000 ∧ zs.length = ks.length ∧ sel.length = ns.length ∧ ∀ x, Φ (.exn C ns.reverse (selD sel (x :: (ds ++ zs))).reverse) M') (pl : PlA X pos es kws ks)
    (hdb : (x == ("__debug__" : Str)) = false := by decide) : DE B X (.Call (.Name x pp) es kws pos) δ M Φ := by
  obtain ⟨fI, fd, ps, iC, tI, cb, F1⟩ := T.ex
  obtain ⟨nm, q, N, bs, bm, sn, sub, ab, col, dd, k0, k1, k2, k3, k5, hC, hbm⟩ := T.T.cls
  intro κ σ H Q hb R kk
  unfold tE
  intro pins s I
  refine wpAny_Call_Name_kw (ld_glob I hg T.gC ?_ hdb)
  refine dak_run (first := []) T.T.kC pl h I hb R fun us ws s2 vs zs ds zd M2 H2 I2 rv rz ⟨l1, l0, l2, l3, q⟩ R2 r1 r2 => ?_
  show wpAny _ _ (call (.ref C) us (ks.zip ws)) _ _ _
  obtain ⟨hp, g, dr, tk, os⟩ := s2
  have hsz : hp.objs.size ≤ hp.objs.size + 1 := Nat.le_succ _
  have na : H2 (hp.objs.size + 1) = none := I2.hok.fresh hsz
  have k2 : ∀ b o, hp.get? b = some o → ((hp.push (PySem.W.kdv_tup us)).push (PySem.HandSPX.excO C hp.objs.size)).get? b = some o := fun b o e => Heap.get?_push_of_some _ (Heap.get?_push_of_some _ e)
  have hget : ((hp.push (PySem.W.kdv_tup us)).push (PySem.HandSPX.excO C hp.objs.size)).get? (hp.objs.size + 1) = some (PySem.HandSPX.excO C hp.objs.size) := by heap_get
  have I3 : Inv X pins σ (upd H2 (hp.objs.size + 1) (exo (hp.objs.size + 1) C none)) ⟨(hp.push (PySem.W.kdv_tup us)).push (PySem.HandSPX.excO C hp.objs.size), g, dr, tk, os⟩ :=
    I2.laid (t' := tk) (a := hp.objs.size + 1) (o := exo (hp.objs.size + 1) C none) (h' := (hp.push (PySem.W.kdv_tup us)).push (PySem.HandSPX.excO C hp.objs.size)) k2 hsz (exo_ok hget)
  obtain ⟨a, ea0⟩ : ∃ a, a = hp.objs.size + 1 := ⟨_, rfl⟩
  rw [← ea0] at hsz na hget I3
  obtain ⟨all, so, b⟩ := cb.to ⟨_, g, dr, tk, os⟩ (.ref a :: us) ws I3.kIn (by rw [List.length_cons, ← rv.length, r1.length, l1]) (by rw [← rz.length, r2.length, l2])
  have rr : Vals (V.ref a :: (vs ++ zs)) (Value.ref a :: (us ++ ws)) := .cons rfl (rv.append rz)
  have r3 := so.vals rr
  obtain ⟨u0, all', rfl, so'⟩ : ∃ u0 all', all = u0 :: all' ∧ SelOk (.ref a :: (us ++ ws)) sel all' := by cases so; exact ⟨_, _, rfl, by assumption⟩
  have hR3 : Rs κ δ M2 σ (upd H2 a (exo a C none)) := R2.new na
  let QX : XK := fun cls d H' => ∃ C' ns' ds' M', cls = .ref C' ∧ Rs κ δ M' σ H' ∧ XRep M'.F H' d ns' ds' ∧ Φ (.exn C' ns' ds') M'
  have hl3 : (selV sel (V.ref a :: (vs ++ zs))).length = ns.length := by rw [← l3]; exact List.length_map ..
  have rp : Reps M2.F H2 (selV sel (V.ref a :: (vs ++ zs))) (selD sel (.raw (.ref a) :: (ds ++ zd))) :=
    SelOk.reps (us := .ref a :: (us ++ ws)) rr.length (.cons (.raw _) (r1.append r2)) so'
  have hq : spXI C ns (selV (.inl 0 :: sel) (V.ref a :: (vs ++ zs))) (upd H2 a (exo a C none)) (fun v H' => v = .non ∧ ∃ (d : Addr) (fs : List (Str × V)), H' a = some (exo a C (some d)) ∧ H' d = some (exd d fs) ∧ H2 d = none ∧ QX (.ref C) (some d) (upd (del H' a) d (.xd fs))) (fun _ _ _ => False) := by
    refine ⟨a, selV sel (V.ref a :: (vs ++ zs)), rfl, hl3, upd_same, fun dx H' n1 n2 e1 e2 e3 => ?_⟩
    have ndx : H2 dx = none := by rw [upd_ne n2] at n1; exact n1
    refine ⟨rfl, dx, _, e1, e2, ndx, ?_⟩
    have eq : upd (del H' a) dx (.xd (ns.reverse.zip (selV sel (V.ref a :: (vs ++ zs))).reverse)) = upd H2 dx (.xd (ns.reverse.zip (selV sel (V.ref a :: (vs ++ zs))).reverse)) := by
      funext b
      by_cases hb : b = dx
      · subst hb; rw [upd_same, upd_same]
      · rw [upd_ne hb, upd_ne hb]
        by_cases ha : b = a
        · subst ha; rw [del_same, na]
        · rw [del_ne ha, e3 b ha hb, upd_ne ha]
    rw [eq]
    exact ⟨C, ns.reverse, _, M2, rfl, R2.new ndx, .inr ⟨dx, _, rfl, R2.fresh ndx, upd_same, by rw [List.length_reverse, List.length_reverse, hl3], (Reps.reverse rp).fwd (Fwd.new ndx)⟩, q _⟩
  have hus : us.length ≤ sizeLine := by
    rw [← rv.length, r1.length, l1, sizeLine_eq]
    omega
  subst ea0
  refine wpAny_call (call_ownK F.excBase_ValueError (fun Y => PySem.HandSPX.refsVE_contains Y bm hbm) (I2.kIn _ _ hC) (PySem.W.looks_findIn I2.kIn iC) (fun self => PySem.W.bind_fn I2.kIn self tI) hus
    (codeAny_mono (F1.run _ X.stack _ _ ⟨Value.ref (hp.objs.size + 1) :: us, ks.zip ws⟩ _ _ _ (fun _ _ _ => False) ((z.room.mono hn).make C us (ks.zip ws)) (I3.env0.make C us (ks.zip ws)) b r3 hq) fun r s' hq' => ?_))
  cases r with
  | error er => exact hq'.elim
  | ok fl =>
    cases fl with
    | ret u =>
      obtain ⟨v, H3, os2, bare2, un2, hok2, rv', ev, d, fs, ea, ed, hd1, q2⟩ := hq'
      subst ev
      obtain ⟨h2, g2, d2, t2, os'⟩ := s'
      refine ⟨rv', ep_mk (mk_end (raises_own T.T.exC T.T.tyC) I2 (Nat.le_succ _) k2 un2 hok2 os2 bare2 ea ed hd1 q2) fun cls d' H' a' ⟨C', ns', ds', M', e1, R1', x1, q'⟩ na' => ?_⟩
      subst e1
      exact kk _ _ M' _ q' (R1'.new na') (x1.held (R1'.fresh na') na')
    | next => exact False.elim hq'
    | brk => exact False.elim hq'
    | cont => exact False.elim hq'
/-- an exception laid, by the call's shape -/
@[irreducible] def XnP (C : Addr) (ns : List Str) (sel : Sel) (n m : Nat) (Φ : D → Mem → Prop) (ds zs : List D) (M : Mem) : Prop := ds.length = n ∧ zs.length = m ∧ ∀ x, Φ (.exn C ns.reverse (selD sel (x :: (ds ++ zs))).reverse) M
theorem XnP.out {C : Addr} {ns : List Str} {sel : Sel} {n k : Nat} {ds zs : List D} (h : XnP C ns sel n k Φ ds zs M) : ds.length = n ∧ zs.length = k ∧ ∀ x, Φ (.exn C ns.reverse (selD sel (x :: (ds ++ zs))).reverse) M := by unfold XnP at h; exact h
theorem XnP.of {C : Addr} {ns : List Str} {sel : Sel} {n k : Nat} {ds zs : List D} (h : ds.length = n ∧ zs.length = k ∧ ∀ x, Φ (.exn C ns.reverse (selD sel (x :: (ds ++ zs))).reverse) M) : XnP C ns sel n k Φ ds zs M := by unfold XnP; exact h
theorem de_exnS {C : Addr} {x : Str} {ns : List Str} {sel : Sel} (z : Cz X m) (T : ExN X.prog X.w X.K X.mg X.base x C ns es.length (kwN kws) sel) (hn : 2 ≤ m) (h0 : es.length ≤ 1000) (h1 : sel.length = ns.length) (hg : Gl X x)
    (h : DAK B X es kws δ M fun ds zs M' => XnP C ns sel es.length (kwN kws).length Φ ds zs M') (pl : PlA X pos es kws (kwN kws))
    (hdb : (x == ("__debug__" : Str)) = false := by decide) : DE B X (.Call (.Name x pp) es kws pos) δ M Φ := by
  refine de_exnN z hn T hg ?_ pl hdb
  cases es <;> cases kws
  · have h := XnP.out h
    exact ⟨h.1, by simp, h.2.1, h1, h.2.2⟩
  · exact fun κ σ H Q hb R k => h κ σ H Q hb R fun vs ds M' H' q => k vs ds M' H' ⟨(XnP.out q).1, h0, (XnP.out q).2.1, h1, (XnP.out q).2.2⟩
  · exact fun κ σ H Q hb R k => h κ σ H Q hb R fun vs ds M' H' q => k vs ds M' H' ⟨(XnP.out q).1, h0, (XnP.out q).2.1, h1, (XnP.out q).2.2⟩
  · exact fun κ σ H Q hb R k => h κ σ H Q hb R fun vs ds M' H' q => k vs ds M' H' fun κ2 σ2 H2 Q2 hb2 R2 k2 => q κ2 σ2 H2 Q2 hb2 R2 fun vs2 ds2 M2 H2' q2 => k2 vs2 ds2 M2 H2' ⟨(XnP.out q2).1, h0, (XnP.out q2).2.1, h1, (XnP.out q2).2.2⟩
theorem xn_10 {C : Addr} {f : Str} {d : D} (h : Φ (.exn C [f] [d]) M) : XnP C [f] [.inl 1] 1 0 Φ [d] [] M := .of ⟨rfl, rfl, fun _ => h⟩
theorem xn_01 {C : Addr} {f : Str} {d : D} (h : Φ (.exn C [f] [d]) M) : XnP C [f] [.inl 1] 0 1 Φ [] [d] M := .of ⟨rfl, rfl, fun _ => h⟩
theorem xn_02 {C : Addr} {f g : Str} {d e : D} (h : Φ (.exn C [g, f] [d, e]) M) : XnP C [f, g] [.inl 2, .inl 1] 0 2 Φ [] [d, e] M := .of ⟨rfl, rfl, fun _ => h⟩
theorem xn_04 {C : Addr} {f g i j : Str} {d e a b : D} (h : Φ (.exn C [j, i, g, f] [e, d, b, a]) M) : XnP C [f, g, i, j] [.inl 3, .inl 4, .inl 1, .inl 2] 0 4 Φ [] [d, e, a, b] M := .of ⟨rfl, rfl, fun _ => h⟩
theorem idXn {C : Addr} {ns : List Str} {sel : Sel} {n k : Nat} {ds zs : List D} (h : XnP C ns sel n k Φ ds zs M) : XnP C ns sel n k Φ ds zs M := h
end
end Hl
namespace Hl
open PySem L2
open PyProof.Rows hiding St
/-! ### a, b, c = x, y, z where a name is a cell: no names are swapped -/
end Hl
namespace Hl
open PySem L2
open PyProof.Rows hiding St
/-! ### f-strings -/
section
variable {B : Bx} {X : Cx} {e a b c o : Expr} {es rest : List Expr} {δ δ' : Env'} {M : Mem} {Φ : D → Mem → Prop} {Ψ : DEnds} {pos pos' : Pos} {d x y : D}
def FmD (x : D) (M : Mem) (Φ : D → Mem → Prop) : Prop := (∃ y : Str, x = .str y ∧ y.length ≤ sizeLine ∧ Φ (.str y) M) ∨ ∃ i : Int, x = .int i ∧ i.natAbs.log2 < 1920 ∧ Φ (.str (toString i)) M
theorem fm_s {z : Str} (h : z.length ≤ sizeLine) (k : Φ (.str z) M) : FmD (.str z) M Φ := .inl ⟨z, rfl, h, k⟩
theorem fm_i {i : Int} (h : i.natAbs.log2 < 1920) (k : Φ (.str (toString i)) M) : FmD (.int i) M Φ := .inr ⟨i, rfl, h, k⟩
theorem de_fmt (h : DE B X e δ M fun x M' => FmD x M' Φ) : DE B X (.FormattedValue e (-1) none pos) δ M Φ := DE.of (pe_fmt cE) fun κ σ H Q hb R k => h κ σ H _ hb R fun v x M1 H1 q R1 r1 => by
  rcases q with ⟨z, rfl, hz, q⟩ | ⟨i, rfl, hz, q⟩
  · cases r1
    exact .inl ⟨z, rfl, hz, k _ _ M1 _ q R1 (.str _)⟩
  · cases r1
    exact .inr ⟨i, rfl, hz, k _ _ M1 _ q R1 (.str _)⟩
@[irreducible] def JnD (x : D) (acc : Str) (Φ : Str → Prop) : Prop := ∃ z : Str, x = .str z ∧ (acc ++ z).length ≤ sizeLine ∧ Φ (acc ++ z)
theorem jn_mk {z acc : Str} {Φ : Str → Prop} (h : (acc ++ z).length ≤ sizeLine) (k : Φ (acc ++ z)) : JnD (.str z) acc Φ := by unfold JnD; exact ⟨z, rfl, h, k⟩
theorem JnD.out {acc : Str} {Φ : Str → Prop} (h : JnD x acc Φ) : ∃ z : Str, x = .str z ∧ (acc ++ z).length ≤ sizeLine ∧ Φ (acc ++ z) := by unfold JnD at h; exact h
def DJr (B : Bx) (X : Cx) (δ : Env') (Φ : Str → Mem → Prop) : List Expr → Str → Mem → Prop
  | [], acc, M => Φ acc M
  | e :: es, acc, M => DE B X e δ M fun x M' => JnD x acc fun out => DJr B X δ Φ es out M'
@[irreducible] def DJ (B : Bx) (X : Cx) (δ : Env') (Φ : Str → Mem → Prop) (es : List Expr) (acc : Str) (M : Mem) : Prop := DJr B X δ Φ es acc M
theorem DJ_eq : @DJ = @DJr := by
  funext B X δ Φ es acc M
  unfold DJ
  rfl
theorem dj_nil {Φ : Str → Mem → Prop} {acc : Str} (h : Φ acc M) : DJ B X δ Φ [] acc M := by rw [DJ_eq] at *; exact h
theorem dj_cons {Φ : Str → Mem → Prop} {acc : Str} (h : DE B X e δ M fun x M' => JnD x acc fun out => DJ B X δ Φ es out M') : DJ B X δ Φ (e :: es) acc M := by rw [DJ_eq] at *; exact h
theorem pj_c : ∀ es : List Expr, PJ X es (es.map fun e => tE X e)
  | [] => .nil
  | e :: es => .cons cE (pj_c es)
theorem dj_run {Φ : Str → Mem → Prop} {κ : List (V × D)} {σ : St} (hb : ∀ q ∈ B.ps, q ∈ κ) : ∀ (es : List Expr) (acc : Str) (M : Mem) (H : Hp) (Q : Str → Hp → Prop), DJ B X δ Φ es acc M → Rs κ δ M σ H → (∀ out M1 H1, Φ out M1 → Rs κ δ M1 σ H1 → Q out H1) → tJs (es.map fun e => tE X e) acc σ H Q
  | [], acc, M, H, Q, h, R, k => by rw [DJ_eq] at h; exact k _ _ _ h R
  | e :: es, acc, M, H, Q, h, R, k => by
    rw [DJ_eq] at h
    refine h κ σ H _ hb R fun v x M1 H1 jq R1 r1 => ?_
    obtain ⟨z, ex, hz, q⟩ := JnD.out jq
    subst ex
    cases r1
    exact ⟨z, rfl, hz, dj_run hb es _ M1 H1 Q (by rw [DJ_eq]; exact q) R1 k⟩
theorem de_joined {v1 v2 : Expr} (h : DJ B X δ (fun out M' => Φ (.str out) M') (v1 :: v2 :: rest) Str.empty M) : DE B X (.JoinedStr (v1 :: v2 :: rest) pos) δ M Φ := DE.of (pe_joined (pj_c _)) fun κ σ H Q hb R k => dj_run hb _ _ M H _ h R fun out M1 H1 q R1 => k _ _ M1 H1 q R1 (.str _)
theorem de_joined1 (h : DE B X e δ M Φ) : DE B X (.JoinedStr [e] pos) δ M Φ := DE.of (pe_joined1 cE) h
end
end Hl
namespace Hl
open PySem L2
open PyProof.Rows hiding St
/-! ### str(x), repr(x) by the own __str__, __repr__ -/
end Hl
namespace Hl
open PySem L2
open PyProof.Rows hiding St
/-! ### o[i] op= e, o a list -/
end Hl
namespace Hl
open PySem L2
open PyProof.Rows hiding St
/-! ### f"{x}" by the own __str__; a, b, c = a list; lists in a thing's fields as values -/
end Hl
namespace Hl
open PySem L2
open PyProof.Rows hiding St
/-! ### a def of the top as a value: called by a local name -/
/-- the def at fa, as a value -/
structure FunV (P : Program) (w : World) (K : PySem.W.Frag) (mg : Str → Option Value) (base : Heap) (k : Nat) (fa : Addr) (n : Nat) (ks : List Str) (sel : Sel) (p : DSpE) : Prop where
  kp : PySem.W.keepIn K (.ref fa) = true
  fn : FnD P w K mg base k fa n ks sel p
abbrev FunVX (X : Cx) := FunV X.prog X.w X.K X.mg X.base
section
variable {B : Bx} {X : Cx} {es : List Expr} {kws : List Keyword} {δ : Env'} {M : Mem} {Φ : D → Mem → Prop} {pos pp : Pos} {k n m i : Nat} {x : Str} {ks : List Str} {sel : Sel} {p : DSpE} {Ξ : XPost} {fa : Addr}
theorem de_callL (z : Cz X m) (l : Nm X i x) (hd : δ[i]? = some (some (.raw (.ref fa)))) (f : FunVX X k fa n ks sel p) (hk : k ≤ m) (lt : Lets X B δ Ξ)
    (h : DAK B X es kws δ M fun ds zs M' => ds.length = n ∧ zs.length = ks.length ∧ p (selD sel (ds ++ zs)) M' Φ Ξ) (pl : PlA X pos es kws ks) : DE B X (.Call (.Name x pp) es kws pos) δ M Φ := by
  obtain ⟨h2, h3⟩ := f
  obtain ⟨W, tk, hx⟩ := lt
  intro κ σ H Q hb R kk
  unfold tE
  intro pins s I
  obtain ⟨v, ev, rv⟩ := R.get hd
  cases rv
  refine wpAny_Call_Name_kw (thn ((pe_var (pos := pp) l.at_ l.vis l.dbg l.cdc).run pins s σ H (fun v H1 => v = .ref fa ∧ H1 = H) I ⟨.ref fa, ev, rfl, rfl⟩) fun u s1 hv => ?_)
  obtain ⟨v, H1, I1, r1, e1, e2⟩ := hv
  subst e1
  rw [e2] at I1
  cases r1
  refine dak_run (first := []) h2 pl h I1 hb R fun us ws s2 vs zs ds es M2 H2 I2 rv rz q2 R2 r1 r2 => ?_
  obtain ⟨l1, l2, q⟩ := q2
  refine run_E h3 (z.room.mono hk) (passAt tk σ) I2 rv rz (by rw [r1.length]; exact l1) (by rw [r2.length]; exact l2) fun us' all rr so => ?_
  exact liftE_of so rr.length R2 (r1.append r2) q kk fun C ns es M' H' dx e R' x => hx κ σ C ns es M' H' dx hb e R' x
end
end Hl
namespace Hl
open PySem L2
open PyProof.Rows hiding St
/-! ### int(text), text.split(sep) -/
section
variable {B : Bx} {X : Cx} {a e o : Expr} {δ : Env'} {M : Mem} {Φ : D → Mem → Prop} {ΦL : List D → Mem → Prop} {pos apos p' : Pos}
/-! ### None in a list of numbers and None -/
def optI : Option Int → D
  | none => .non
  | some i => .int i
end
end Hl
namespace Hl
open PySem L2
open PyProof.Rows hiding St
/-! ### xs[a::2] -/
def ixs2 (a n : Nat) : List Nat := sliceRange ((min a n : Nat) : Int) (n : Int) 2
def step2 {α : Type} (a : Nat) (xs : List α) : List α := (ixs2 a xs.length).filterMap (xs[·]?)
theorem bounds2 (a n : Nat) : sliceBounds (some (a : Int)) none (some 2) n = (((min a n : Nat) : Int), (n : Int), 2) := by
  have h : ¬ ((a : Int) < 0) := by omega
  show ((max 0 (min (if (a : Int) < 0 then (a : Int) + n else (a : Int)) (n : Int)) : Int), (n : Int), (2 : Int)) = _
  rw [if_neg h]
  congr 1
  omega
theorem vals_pick {xs : List V} {its : List Value} (r : Vals xs its) : ∀ ix : List Nat, Vals (ix.filterMap (xs[·]?)) (ix.filterMap (its[·]?))
  | [] => .nil
  | i :: ix => by
    have hl := r.length
    by_cases h : i < xs.length
    · obtain ⟨u, hu, ru⟩ := r.get (List.getElem?_eq_getElem h)
      rw [List.filterMap_cons_some (List.getElem?_eq_getElem h), List.filterMap_cons_some hu]
      exact .cons ru (vals_pick r ix)
    · rw [List.filterMap_cons_none (List.getElem?_eq_none (by omega)), List.filterMap_cons_none (List.getElem?_eq_none (by omega))]
      exact vals_pick r ix
theorem reps_pick {F : List Addr} {H : Hp} : ∀ {vs : List V} {ds : List D}, Reps F H vs ds → ∀ i : Nat, (vs[i]? = none ∧ ds[i]? = none) ∨ ∃ v d, vs[i]? = some v ∧ ds[i]? = some d ∧ Rep F H v d
  | _, _, .nil, i => .inl ⟨by simp, by simp⟩
  | _, _, .cons r rs, 0 => .inr ⟨_, _, rfl, rfl, r⟩
  | _, _, .cons r rs, i + 1 => by
    simpa using reps_pick rs i
theorem reps_picks {F : List Addr} {H : Hp} {vs : List V} {ds : List D} (r : Reps F H vs ds) : ∀ ix : List Nat, Reps F H (ix.filterMap (vs[·]?)) (ix.filterMap (ds[·]?))
  | [] => .nil
  | i :: ix => by
    rcases reps_pick r i with ⟨h1, h2⟩ | ⟨v, d, h1, h2, h3⟩
    · rw [List.filterMap_cons_none h1, List.filterMap_cons_none h2]
      exact reps_picks r ix
    · rw [List.filterMap_cons_some h1, List.filterMap_cons_some h2]
      exact .cons h3 (reps_picks r ix)
def tStep2 (K : PySem.W.Frag) (a : Nat) (te : TE) : TE := fun σ H Q => te σ H fun x H1 => ∃ p xs, x = .ref p ∧ SqL K H1 p xs ∧ ∀ l, H1 l = none → Q (.ref l) (upd H1 l (.lst (step2 a xs)))
section
variable {B : Bx} {X : Cx} {e o : Expr} {δ : Env'} {M : Mem} {Φ : D → Mem → Prop} {ΦL : List D → Mem → Prop} {pos : Pos}
theorem pick_len {α : Type} (xs : List α) : ∀ ix : List Nat, (ix.filterMap (xs[·]?)).length ≤ ix.length := fun ix => List.length_filterMap_le _ _
theorem ixs2_len (a n : Nat) : (ixs2 a n).length ≤ n := by
  unfold ixs2 sliceRange
  rw [List.length_map, List.length_range]
  have : (2 : Int) > 0 := by decide
  simp only [this, if_true]
  split
  · omega
  · omega
theorem pe_step2 {te : TE} {a k0 k : Nat} {p0 p1 p3 : Pos} (he : PE X e te) : PE X (.Subscript e (.Slice (some (.Constant (.int (a : Int)) k0 p0)) none (some (.Constant (.int 2) k p1)) p3) pos) (tStep2 X.K a te) := by
  refine ⟨fun pins s σ H Q I h => ?_⟩
  refine Subscript_ (thn (he.run pins s σ H _ I h) fun v s1 ⟨x, H1, I1, r1, q1⟩ => ?_)
  obtain ⟨b, xs, ex, hx, q⟩ := q1
  subst ex
  cases r1
  have hlo : PO X (some (.Constant (.int (a : Int)) k0 p0)) (tPart (tC (.int (a : Int)))) := po_some pe_int
  have hst : PO X (some (.Constant (.int 2) k p1)) (tPart (tC (.int 2))) := po_some pe_int
  refine wpAny_Slice (thn (hlo.run pins s1 σ H1 (fun o H2 => o = some (a : Int) ∧ H2 = H1) I1 ⟨(a : Int), rfl, rfl, rfl⟩) fun vl s2 ⟨l, H2, I2, pl, el, e2⟩ => ?_)
  subst el e2
  refine thn (po_none.run pins s2 σ H2 (fun o H3 => o = none ∧ H3 = H2) I2 ⟨rfl, rfl⟩) fun vu s3 ⟨u, H3, I3, pu, eu, e3⟩ => ?_
  subst eu e3
  refine thn (hst.run pins s3 σ H3 (fun o H4 => o = some 2 ∧ H4 = H3) I3 ⟨2, rfl, rfl, rfl⟩) fun vs s4 ⟨o, H4, I4, ps, eo, e4⟩ => ?_
  subst eo e4
  have I5 : Inv X pins σ H4 { s4 with heap := s4.heap.push { cls := .type "slice", data := .fields #[vl, vu, vs] } } := I4.kept (t' := s4.toks) fun b ob q => Heap.get?_push_of_some _ q
  obtain ⟨its, r, ht, hz⟩ := I5.list hx
  have hlen := r.length
  show wpAny (model X.prog X.w) X.A (subscriptTail e (.Slice (some (.Constant (.int (a : Int)) k0 p0)) none (some (.Constant (.int 2) k p1)) p3) (.ref b) (.ref s4.heap.objs.size)) (EP X pins σ Q) X.xe { s4 with heap := s4.heap.push { cls := .type "slice", data := .fields #[vl, vu, vs] } }
  refine tail_any (ops := [.ref b, .ref s4.heap.objs.size]) ht.isList.typeIs (PySem.slot_list_getitem.lookup) ?_ (by with_unfolding_all rfl)
  refine wpAny_getItem_list_slice ht.isList (Heap.IsSliceOf.new _ vl vu vs) pl pu ps (by decide) ?_ (by rw [List.size_toArray]; omega)
  have ep : slicePick its.toArray (some (a : Int)) none (some 2) = ((ixs2 a its.length).filterMap (its[·]?)).toArray := by
    unfold slicePick
    rw [bounds2, List.size_toArray]
    show ((ixs2 a its.length).filterMap fun i => its.toArray[i]?).toArray = _
    simp
  rw [ep]
  have rv := vals_pick r (ixs2 a its.length)
  rw [← hlen] at rv ⊢
  refine ⟨.ref _, _, I5.laid (t' := s4.toks) (o := .lst (step2 a xs)) (fun b ob q => Heap.get?_push_of_some _ q) (Nat.le_refl _) ?_, rfl, q _ (I5.hok.fresh (Nat.le_refl _))⟩
  exact ⟨Nat.le_trans (Nat.le_trans (pick_len xs _) (ixs2_len _ _)) hz, _, 0, rv, Heap.get?_push_size _ rfl⟩
theorem df_step2 {a k0 k : Nat} {p0 p1 p3 : Pos} (h : DE B X e δ M fun x M1 => ∃ ds, IsL M1 x ds ∧ ΦL (step2 a ds) M1) : DF B X (.Subscript e (.Slice (some (.Constant (.int (a : Int)) k0 p0)) none (some (.Constant (.int 2) k p1)) p3) pos) δ M ΦL :=
  .of (pe_step2 cE) fun κ σ H Q hb R kk => h κ σ H _ hb R fun v x M1 H1 ⟨ds, il, q⟩ R1 r1 => by
    obtain ⟨p, us, rfl, e1, rr⟩ := il.sq R1 r1
    refine ⟨p, us, rfl, SqL.of e1, fun l hl => kk l _ M1 _ q (R1.lst ?_ hl)⟩
    have := reps_picks rr (ixs2 a us.length)
    unfold step2
    rw [← rr.length]
    exact this
end
end Hl
namespace Hl
open PySem L2
open PyProof.Rows hiding St
/-! ### sorted(range(n), key=lambda x: xs[x][0]) -/
end Hl
namespace Hl
open PySem L2
open PyProof.Rows hiding St
/-! ### functions are made -/
section
variable {κ : List (V × D)} {δ : Env'} {M : Mem} {σ : L2.St} {H H1 : Hp}
theorem sok_kind {F : List Addr} {a : Addr} {c : SC} (h : SOk F H a c) : ∃ o, H a = some o ∧ (∀ φ, o ≠ .ext φ) ∧ Nt o := by
  cases c with
  | lst ds => obtain ⟨vs, e, _⟩ := h; exact ⟨_, e, (fun _ z => nomatch z), fun _ z => nomatch z⟩
  | obj C ns ds => obtain ⟨dx, vs, e, _⟩ := h; exact ⟨_, e, (fun _ z => nomatch z), fun _ z => nomatch z⟩
  | dct kvs => obtain ⟨ws, e, _⟩ := h; exact ⟨_, e, (fun _ z => nomatch z), fun _ z => nomatch z⟩
  | fdc o ws kvs => exact ⟨_, h.1, (fun _ z => nomatch z), fun _ z => nomatch z⟩
theorem cok_kind {F : List Addr} {a x : Addr} {c : Cell} (h : CellOk F H a c) (hx : x ∈ own a c) : ∃ o, H x = some o ∧ (∀ φ, o ≠ .ext φ) ∧ ((∀ q : Str, c ≠ Cell.tab q) → Nt o) := by
  have one : ∀ c : SC, SOk F H a c → x = a → ∃ o, H x = some o ∧ (∀ φ, o ≠ .ext φ) ∧ Nt o := fun c h e => by rw [e]; exact sok_kind h
  cases c with
  | lst ds => obtain ⟨o, h1, h2, h3⟩ := one (.lst ds) h (by simpa [own] using hx); exact ⟨o, h1, h2, fun _ => h3⟩
  | obj C ns ds => obtain ⟨o, h1, h2, h3⟩ := one (.obj C ns ds) h (by simpa [own] using hx); exact ⟨o, h1, h2, fun _ => h3⟩
  | dct kvs => obtain ⟨o, h1, h2, h3⟩ := one (.dct kvs) h (by simpa [own] using hx); exact ⟨o, h1, h2, fun _ => h3⟩
  | fdc o ws kvs => obtain ⟨o, h1, h2, h3⟩ := one (.fdc o ws kvs) h (by simpa [own] using hx); exact ⟨o, h1, h2, fun _ => h3⟩
  | fnc W fr as ds =>
    obtain ⟨c, od, sl, doc, pm, ctv, vs, e, _, _, _, _, hv, hc, _⟩ := h
    rcases List.mem_cons.mp hx with rfl | hx
    · exact ⟨_, e, (fun _ z => nomatch z), fun _ _ z => nomatch z⟩
    · obtain ⟨i, hi⟩ := List.mem_iff_getElem?.mp hx
      have hl : i < vs.length := by rw [hv]; exact (List.getElem?_eq_some_iff.mp hi).1
      obtain ⟨o, u, e2, _⟩ := hc (x, vs[i]) (List.mem_of_getElem? (i := i) (by rw [List.getElem?_zip_eq_some]; exact ⟨hi, by simp [hl]⟩))
      exact ⟨_, e2, (fun _ z => nomatch z), fun _ _ z => nomatch z⟩
  | tab q =>
    obtain ⟨ps, e, _⟩ := h
    have : x = a := by simpa [own] using hx
    subst this
    exact ⟨_, e, (fun _ z => nomatch z), fun z => absurd rfl (z q)⟩
  | grp c N =>
    rcases List.mem_cons.mp hx with rfl | hx
    · obtain ⟨o, h1, h2, h3⟩ := sok_kind h.1; exact ⟨o, h1, h2, fun _ => h3⟩
    · obtain ⟨p, hp, rfl⟩ := List.mem_map.mp hx
      obtain ⟨o, h1, h2, h3⟩ := sok_kind (h.2 p hp); exact ⟨o, h1, h2, fun _ => h3⟩
  | st g b =>
    obtain ⟨c, r, t, e, gs, cs, _, h1, h2, _⟩ := h
    simp [own] at hx
    rcases hx with rfl | rfl
    · exact ⟨_, h1, (fun _ z => nomatch z), fun _ _ z => nomatch z⟩
    · exact ⟨_, h2, (fun _ z => nomatch z), fun _ _ z => nomatch z⟩
theorem rs_noext (R : Rs κ δ M σ H) {x : Addr} {φ : Heap → Prop} (e : H x = some (.ext φ)) : x ∉ M.F := fun hx => by
  obtain ⟨q, hq, hx⟩ := List.mem_flatMap.mp hx
  obtain ⟨o, h1, h2, _⟩ := cok_kind (R.cl q hq) hx
  rw [e] at h1
  exact h2 φ (Option.some.inj h1).symm
/-- the tables of a memory -/
def tabs (M : Mem) : List (Addr × Str) := M.filterMap fun p => match p.2 with | .tab q => some (p.1, q) | _ => none
theorem tabs_mem {a : Addr} {q : Str} : (a, q) ∈ tabs M ↔ (a, Cell.tab q) ∈ M := by
  unfold tabs
  rw [List.mem_filterMap]
  constructor
  · rintro ⟨⟨b, c⟩, hp, e⟩
    cases c <;> simp at e
    obtain ⟨rfl, rfl⟩ := e
    exact hp
  · intro h; exact ⟨_, h, rfl⟩
theorem rs_tabs (R : Rs κ δ M σ H) : LamX.Tabs (tabs M) H := fun p hp => by
  obtain ⟨a, q⟩ := p
  obtain ⟨ps, h1, h2, h3⟩ := R.cl _ (tabs_mem.mp hp)
  exact ⟨ps, h1, h2, fun pos cv hc => let ⟨c, e1, _, e2⟩ := h3 pos cv hc; ⟨c, e1, e2⟩⟩
theorem rs_tab1 (R : Rs κ δ M σ H) {P : Addr} {q : Str} (h : (P, Cell.tab q) ∈ M) : ∀ p ∈ tabs M, p.1 = P → p.2 = q := fun p hp e => by
  obtain ⟨a, q'⟩ := p
  have e : a = P := e
  subst e
  have h2 := tabs_mem.mp hp
  obtain ⟨i, hi⟩ := List.mem_iff_getElem?.mp h
  obtain ⟨j, hj⟩ := List.mem_iff_getElem?.mp h2
  by_cases hij : i = j
  · subst hij
    rw [hi] at hj
    cases hj; rfl
  · exact absurd (by simp [own]) (F_apart R.nd hi hj hij a (by simp [own]))
theorem rs_extN (R : Rs κ δ M σ H) (e : LamX.ExtN H H1) (t : LamX.Tabs (tabs M) H1) : Rs κ δ M σ H1 := by
  have k : Fwd M.F H M.F H1 := fun a o ha ho n => ⟨ha, e a o ho n⟩
  refine ⟨fun q hq => (R.kp q hq).fwd k, Paired.mono (fun _ _ h => h.fwd k) R.sl, fun p hp => ?_, R.nd⟩
  obtain ⟨a, c⟩ := p
  by_cases hc : ∃ q, c = .tab q
  · obtain ⟨q, rfl⟩ := hc
    obtain ⟨ps, h1, h2, h3⟩ := t (a, q) (tabs_mem.mpr hp)
    refine ⟨ps, h1, h2, fun pos cv hcv => ?_⟩
    obtain ⟨c, e1, e2⟩ := h3 pos cv hcv
    refine ⟨c, e1, fun hx => ?_, e2⟩
    obtain ⟨⟨b, c'⟩, hb, hx⟩ := List.mem_flatMap.mp hx
    obtain ⟨o, k1, k2, k3⟩ := cok_kind (R.cl _ hb) hx
    by_cases hc' : ∃ q, c' = .tab q
    · obtain ⟨q', rfl⟩ := hc'
      obtain ⟨ps', z, _⟩ := t (b, q') (tabs_mem.mpr hb)
      have : c = b := by simpa [own] using hx
      rw [this] at e2
      rw [show H1 b = _ from z] at e2
      unfold LamX.CodeO at e2
      cases e2
    · have := e c o k1 (k3 fun q z => hc' ⟨q, z⟩)
      rw [e2] at this
      exact k2 _ (Option.some.inj this).symm
  · refine (R.cl _ hp).fwd k fun x hx => ?_
    obtain ⟨o, k1, _, k3⟩ := cok_kind (R.cl _ hp) hx
    rw [k1]
    exact e x o k1 (k3 fun q z => hc ⟨q, z⟩)
end
end Hl
namespace Hl
open PySem L2
open PyProof.Rows hiding St
/-! ### defs that make functions; laws with tables -/
/-- the facts of a def that makes functions -/
abbrev TbF (base : Heap) (mg : Str → Option Value) (fd : FuncData) (P : Addr) : Prop := ∃ c, LamX.TabB base mg c P ∧ fd.code = .ref c
/-- the tables' cells at the law's start -/
def tbM (ts : List (Addr × Str)) : Mem := ts.map fun p => (p.1, .tab p.2)
theorem tbM_F : ∀ ts : List (Addr × Str), Mem.F (tbM ts) = ts.map (·.1)
  | [] => rfl
  | p :: ts => by
    show [p.1] ++ Mem.F (tbM ts) = p.1 :: _
    rw [tbM_F ts]; rfl
/-- the law, with tables -/
def pLawT (ts : List (Addr × Str)) (K : PySem.W.Frag) : DSpE := fun ds M Φ Ξ => ∃ ns, ds = [.scr K ns] ∧ M = tbM ts ∧ ns.length ≤ 63 ∧ Φ (.bl true) M
theorem law_startT {K : PySem.W.Frag} {H : Hp} {a : Addr} {ns : List Int} {ts : List (Addr × Str)} (nd : (ts.map (·.1)).Nodup) (hT : ∀ p ∈ ts, H p.1 = some (.tbl #[])) (hl : ns.length ≤ 63) (hS : SqL K H a (ns.map V.int)) : liftE (pLawT ts K) [.ref a] H (fun v _ => v = .bl true) (fun _ _ _ => False) := by
  have hF : Mem.F (tbM ts) = ts.map (·.1) := tbM_F ts
  refine ⟨[], [.scr K ns], tbM ts, fun d _ => d = .bl true, fun _ _ _ _ => False, ⟨by simp, .nil, fun p hp => ?_, by rw [hF]; exact nd⟩, .cons ?_ .nil, ⟨ns, rfl, rfl, hl, rfl⟩, fun v d M' H' e R r => by subst e; cases r; rfl, fun _ _ _ _ _ _ z => z.elim⟩
  · obtain ⟨q, hq, rfl⟩ := List.mem_map.mp hp
    exact ⟨#[], hT q hq, True.intro, fun pos cv hc => by
      have z : codeAmong pos [] = some cv := hc
      simp [codeAmong] at z⟩
  · have na : ∀ o, H a = some o → Nt o → a ∉ Mem.F (tbM ts) := fun o e n hx => by
      rw [hF] at hx
      obtain ⟨q, hq, e2⟩ := List.mem_map.mp hx
      have := hT q hq
      rw [e2, e] at this
      exact n _ (Option.some.inj this)
    rcases hS with h | h
    · refine .scrH ?_ h
      rcases h with h | ⟨o, h⟩
      · exact na _ h fun _ z => nomatch z
      · exact na _ h fun _ z => nomatch z
    · exact .scrK fun _ => .inr h
end Hl
namespace Hl
open PySem L2
open PyProof.Rows hiding St
end Hl
namespace Hl
open PySem L2
open PyProof.Rows hiding St
/-! ### int(truth) -/
/-! ### len of a dict -/
/-! ### x = [.. for .. in a list that is a cell] -/
end Hl
namespace Hl
open PySem L2
open PyProof.Rows hiding St
/-! ### functions made in a def: a function with its captured cells as one cell; calls -/
/-- without the addresses l -/
def les (H : Hp) (l : List Addr) : Hp := fun b => if b ∈ l then none else H b
/-- H at l, H' elsewhere -/
def mix (H H' : Hp) (l : List Addr) : Hp := fun b => if b ∈ l then H b else H' b
section
variable {κ : List (V × D)} {δ : Env'} {M M0 M' : Mem} {σ : L2.St} {H H' : Hp} {l : List Addr} {a f : Addr} {o : HO} {W : FW} {fr : List Str} {as : List Addr} {cs : List D}
theorem les_in (h : a ∈ l) : les H l a = none := by unfold les; rw [if_pos h]
theorem les_out (h : a ∉ l) : les H l a = H a := by unfold les; rw [if_neg h]
theorem les_some (h : les H l a = some o) : a ∉ l ∧ H a = some o := by
  unfold les at h
  split at h
  · cases h
  · rename_i n; exact ⟨n, h⟩
theorem mix_in (h : a ∈ l) : mix H H' l a = H a := by unfold mix; rw [if_pos h]
theorem mix_out (h : a ∉ l) : mix H H' l a = H' a := by unfold mix; rw [if_neg h]
theorem fwd_les {F : List Addr} : Fwd (l ++ F) H F (les H l) := fun a o ha e _ => by
  rw [List.mem_append, not_or] at ha
  exact ⟨ha.2, by rw [les_out ha.1]; exact e⟩
theorem fwd_mix {F : List Addr} (hn : ∀ a ∈ l, H' a = none) : Fwd F H' (l ++ F) (mix H H' l) := fun a o ha e _ => by
  have : a ∉ l := fun z => by rw [hn a z] at e; cases e
  exact ⟨by rw [List.mem_append, not_or]; exact ⟨this, ha⟩, by rw [mix_out this]; exact e⟩
theorem rs_out (R : Rs κ δ ((f, .fnc W fr as cs) :: M0) σ H) : Rs κ δ M0 σ (les H (f :: as)) := by
  have nd : ((f :: as) ++ Mem.F M0).Nodup := R.nd
  have k : Fwd ((f :: as) ++ Mem.F M0) H (Mem.F M0) (les H (f :: as)) := fwd_les
  refine ⟨fun q hq => (R.kp q hq).fwd k, Paired.mono (fun _ _ h => h.fwd k) R.sl, fun q hq => (R.cl q (List.mem_cons_of_mem _ hq)).fwd k fun x hx => les_out fun z => ?_, (List.nodup_append.mp nd).2.1⟩
  exact (List.nodup_append.mp nd).2.2 x z x (List.mem_flatMap.mpr ⟨q, hq, hx⟩) rfl
/-- what is known of such a cell -/
structure FncAt (H : Hp) (f : Addr) (W : FW) (as : List Addr) (fr : List Str) (c : Addr) (vs : List V) (od : Option Addr) (sl : Array (Option Value)) (doc pm ctv : Value) : Prop where
  fn : H f = some (Exact f (⟨.type "function", od, .func (W.fd (fr.zip as) c doc pm ctv), sl⟩ : Obj))
  len : fr.length = as.length
  nd : fr.Nodup
  vl : vs.length = as.length
  ce : ∀ p ∈ as.zip vs, ∃ (o : Obj) (u : Value), H p.1 = some (Exact p.1 o) ∧ o.data = .cell (some u) ∧ RelV p.2 u
theorem FncAt.ex {c : Addr} {vs : List V} {od : Option Addr} {sl : Array (Option Value)} {doc pm ctv : Value} (h : FncAt H f W as fr c vs od sl doc pm ctv) : ∀ a ∈ f :: as, ∃ o, H a = some (Exact a o) := fun a ha => by
  rcases List.mem_cons.mp ha with rfl | ha
  · exact ⟨_, h.fn⟩
  · obtain ⟨i, hi⟩ := List.mem_iff_getElem?.mp ha
    have hl : i < vs.length := by rw [h.vl]; exact (List.getElem?_eq_some_iff.mp hi).1
    obtain ⟨o, u, e2, _⟩ := h.ce (a, vs[i]) (List.mem_of_getElem? (i := i) (by rw [List.getElem?_zip_eq_some]; exact ⟨hi, by simp [hl]⟩))
    exact ⟨_, e2⟩
theorem rs_fnc (R : Rs κ δ ((f, .fnc W fr as cs) :: M0) σ H) : ∃ c vs od sl doc pm ctv, FncAt H f W as fr c vs od sl doc pm ctv ∧ c ∉ f :: as ∧ c ∉ M0.F ∧ H c = some (LamX.CodeO c W.qual) ∧ Reps (Mem.F M0) (les H (f :: as)) vs cs := by
  obtain ⟨c, od, sl, doc, pm, ctv, vs, h1, h2, h3, h4, h5, h6, h7, h8⟩ := R.cl _ List.mem_cons_self
  have h2 : c ∉ (f :: as) ++ Mem.F M0 := h2
  rw [List.mem_append, not_or] at h2
  exact ⟨c, vs, od, sl, doc, pm, ctv, ⟨h1, h4, h5, h6, h7⟩, h2.1, h2.2, h3, h8.fwd fwd_les⟩
theorem rs_back {c : Addr} {vs : List V} {od : Option Addr} {sl : Array (Option Value)} {doc pm ctv : Value} (A : FncAt H f W as fr c vs od sl doc pm ctv) (nd : (f :: as).Nodup) (hn : ∀ a ∈ f :: as, H' a = none) (hc : Rep M'.F H' (.ref c) (.hp c (LamX.CodeO c W.qual))) (hr : Reps M'.F H' vs cs) (R : Rs κ δ M' σ H') : Rs κ δ ((f, .fnc W fr as cs) :: M') σ (mix H H' (f :: as)) := by
  have k : Fwd M'.F H' ((f :: as) ++ Mem.F M') (mix H H' (f :: as)) := fwd_mix hn
  have nin : ∀ x ∈ Mem.F M', x ∉ f :: as := fun x hx z => by
    obtain ⟨o, e⟩ := R.inF hx
    rw [hn x z] at e; cases e
  refine ⟨fun q hq => (R.kp q hq).fwd k, Paired.mono (fun _ _ h => h.fwd k) R.sl, fun q hq => ?_, ?_⟩
  · rcases List.mem_cons.mp hq with rfl | hq
    · cases hc with
      | hp h1 h2 h3 =>
        refine ⟨c, od, sl, doc, pm, ctv, vs, (mix_in List.mem_cons_self).trans A.fn, (k _ _ h1 h2 h3).1, (k _ _ h1 h2 h3).2, A.len, A.nd, A.vl, fun p hp => ?_, hr.fwd k⟩
        obtain ⟨o, u, e, q⟩ := A.ce p hp
        exact ⟨o, u, (mix_in (List.mem_cons_of_mem _ (List.of_mem_zip (show (p.1, p.2) ∈ as.zip vs from hp)).1)).trans e, q⟩
    · exact (R.cl q hq).fwd k fun x hx => mix_out (nin x (List.mem_flatMap.mpr ⟨q, hq, hx⟩))
  · show ((f :: as) ++ Mem.F M').Nodup
    exact List.nodup_append.mpr ⟨nd, R.nd, fun x hx y hy e => nin y hy (e ▸ hx)⟩
end
/-- the heap behind a call that did not track l: l is tracked again -/
theorem ce_mix {P : Program} {w : World} {outer : List Env} {H H' : Hp} {h h' : Heap} {l : List Addr} (hx : ∀ a ∈ l, ∃ o, H a = some (Exact a o)) (hok : HOk P w H h) (hfr : ∀ b ∈ frs outer, H b = none) (un : Un (frs outer) [] (les H l) H' h h') (hok' : HOk P w H' h') :
    Un (frs outer) [] H (mix H H' l) h h' ∧ HOk P w (mix H H' l) h' ∧ ∀ a ∈ l, H' a = none := by
  have at_ : ∀ a ∈ l, ∃ o, H a = some (Exact a o) ∧ h.get? a = some o := fun a ha => by
    obtain ⟨o, e⟩ := hx a ha
    exact ⟨o, e, (hok a _ e).1⟩
  have gone : ∀ a ∈ l, H' a = none := fun a ha => by
    obtain ⟨o, e, q⟩ := at_ a ha
    exact un.free a o q (les_in ha) (by simp)
  have nol : ∀ {b : Addr}, H b = none → b ∉ l := fun {b} n z => by
    obtain ⟨o, e⟩ := hx b z
    rw [n] at e; cases e
  have nol' : ∀ {b : Addr} {o : HO}, H' b = some o → b ∉ l := fun {b o} e z => by rw [gone b z] at e; cases e
  refine ⟨⟨fun b o e n hb hxx => un.keep b o e ((les_out (nol n)).trans n) hb hxx, fun b o e n hb hxx => un.slot b o e ((les_out (nol n)).trans n) hb hxx, fun b o e n hxx => (mix_out (nol n)).trans (un.free b o e ((les_out (nol n)).trans n) hxx), un.there, fun b xs e => ?_, fun b o u e => ?_, fun b ps e => ?_⟩, fun b o e => ?_, gone⟩
  · have nb : b ∉ l := fun z => by
      obtain ⟨o, q⟩ := hx b z
      rw [e] at q; cases q
    exact (mix_out nb).trans (un.tups b xs ((les_out nb).trans e))
  · by_cases hb : b ∈ l
    · exact (mix_in hb).trans e
    · exact (mix_out hb).trans (un.frzs b o u ((les_out hb).trans e))
  · have nb : b ∉ l := fun z => by
      obtain ⟨o, q⟩ := hx b z
      rw [e] at q; cases q
    obtain ⟨m, q⟩ := un.tbls b ps ((les_out nb).trans e)
    exact ⟨m, (mix_out nb).trans q⟩
  · by_cases hb : b ∈ l
    · rw [mix_in hb] at e
      obtain ⟨ob, q, hq⟩ := at_ b hb
      rw [q] at e
      cases e
      have nf : b ∉ frs outer := fun z => by rw [hfr b z] at q; cases q
      have e' := un.keep b ob hq (les_in hb) nf (by simp)
      exact ⟨e', e', ⟨ob, e'⟩, fun h1 h2 p st => st _ p⟩
    · rw [mix_out hb] at e
      exact (hok' b o e).stay (fun _ _ _ q => q) (fun c q => (mix_out (nol' q)).trans q) fun c xs q => (mix_out (nol' q)).trans q
theorem env0_les {P : Program} {w : World} {K : PySem.W.Frag} {mg : Str → Option Value} {base : Heap} {A : Around} {outer : List Env} {s : Shared} {H : Hp} {l : List Addr} (hx : ∀ a ∈ l, ∃ o, H a = some (Exact a o)) (e : Env0 P w K mg base A outer s H) : Env0 P w K mg base A outer s (les H l) := by
  have no : ∀ {b : Addr} {u : HO}, H b = some u → (∀ o, u ≠ Exact b o) → b ∉ l := fun {b u} q n z => by
    obtain ⟨o, q'⟩ := hx b z
    rw [q] at q'
    exact n o (Option.some.inj q')
  refine ⟨e.frames, e.mod, fun b o q => ⟨(e.bs b o q).1, ?_⟩, e.bsz, e.funs, fun b hb => ?_, fun b o q => ?_, e.bare⟩
  · unfold les; split
    · rfl
    · exact (e.bs b o q).2
  · unfold les; split
    · rfl
    · exact e.frf b hb
  · obtain ⟨_, q⟩ := les_some q
    exact (e.hok b o q).stay (fun _ _ _ z => z) (fun c z => (les_out (no z fun _ y => nomatch y)).trans z) fun c xs z => (les_out (no z fun _ y => nomatch y)).trans z
theorem zip_lk : ∀ {fr : List Str} {as : List Addr} {i : Nat} {y : Str} {a : Addr}, fr.Nodup → fr[i]? = some y → as[i]? = some a → (fr.zip as).lookup y = some a
  | [], _, _, _, _, _, h, _ => by simp at h
  | _ :: _, [], _, _, _, _, _, h => by simp at h
  | p :: ps, v :: us, 0, x, u, nd, h1, h2 => by
    simp at h1 h2
    subst h1; subst h2
    simp [List.lookup]
  | p :: ps, v :: us, i + 1, x, u, nd, h1, h2 => by
    have hx : x ∈ ps := List.mem_of_getElem? (show ps[i]? = some x by simpa using h1)
    have : (x == p) = false := by
      rw [beq_eq_false_iff_ne]
      rintro rfl
      exact (List.nodup_cons.mp nd).1 hx
    rw [List.zip_cons_cons, List.lookup_cons, this]
    exact zip_lk (List.nodup_cons.mp nd).2 (by simpa using h1) (by simpa using h2)
theorem zip_lk' {fr : List Str} {as : List Addr} {y : Str} {a : Addr} (h : (fr.zip as).lookup y = some a) : ∃ i : Nat, fr[i]? = some y ∧ as[i]? = some a := by
  obtain ⟨i, hi⟩ := List.mem_iff_getElem?.mp (PySem.mem_of_lookup h)
  rw [List.getElem?_zip_eq_some] at hi
  exact ⟨i, hi⟩
theorem cells_at {P : Program} {w : World} {H : Hp} {h : Heap} {f c : Addr} {W : FW} {as : List Addr} {fr : List Str} {vs : List V} {od : Option Addr} {sl : Array (Option Value)} {doc pm ctv : Value} (A : FncAt H f W as fr c vs od sl doc pm ctv) (nd : (f :: as).Nodup) (hok : HOk P w H h) :
    NdefX.CellsAt (fr.zip as) fr (vs.map some) h (les H (f :: as)) := by
  have at_ : ∀ (i : Nat) (a : Addr), as[i]? = some a → ∃ v u, vs[i]? = some v ∧ RelV v u ∧ h.IsCell a (some u) := fun i a hi => by
    have hl : i < vs.length := by rw [A.vl]; exact (List.getElem?_eq_some_iff.mp hi).1
    obtain ⟨o, u, e, hd, r⟩ := A.ce (a, vs[i]) (List.mem_of_getElem? (i := i) (by rw [List.getElem?_zip_eq_some]; exact ⟨hi, by simp [hl]⟩))
    exact ⟨vs[i], u, by simp [hl], r, o, (hok a _ e).1, hd⟩
  refine ⟨by rw [List.length_map, A.vl, A.len], fun y a e => ?_, fun x y a e1 e2 => ?_, fun i y e => ?_⟩
  · obtain ⟨i, h1, h2⟩ := zip_lk' e
    obtain ⟨v, u, _, _, z⟩ := at_ i a h2
    exact ⟨les_in (List.mem_cons_of_mem _ (List.mem_of_getElem? h2)), _, z⟩
  · obtain ⟨i, h1, h2⟩ := zip_lk' e1
    obtain ⟨j, h3, h4⟩ := zip_lk' e2
    have : i = j := by
      obtain ⟨l1, q1⟩ := List.getElem?_eq_some_iff.mp h2
      obtain ⟨l2, q2⟩ := List.getElem?_eq_some_iff.mp h4
      exact (List.getElem_inj (List.nodup_cons.mp nd).2).mp (q1.trans q2.symm)
    subst this
    rw [h1] at h3; exact Option.some.inj h3
  · have hl : i < as.length := by rw [← A.len]; exact (List.getElem?_eq_some_iff.mp e).1
    obtain ⟨v, u, h1, r, z⟩ := at_ i as[i] (by simp [hl])
    refine ⟨as[i], zip_lk A.nd e (by simp [hl]), fun v' hv => ?_⟩
    rw [List.getElem?_map, h1] at hv
    cases hv
    exact ⟨u, r, z⟩
/-! ### the promise of a function that is made -/
structure FunN (P : Program) (w : World) (K : PySem.W.Frag) (mg : Str → Option Value) (base : Heap) (W : FW) (fr : List Str) (k n : Nat) (p : List D → DSp) : Prop where
  run : ∀ (A : Around) (outer : List Env) (s : Shared) (H : Hp) (f c : Addr) (od : Option Addr) (sl : Array (Option Value)) (doc pm ctv : Value) (as : List Addr) (us : List Value) (vs cvs : List V) (cs ds : List D) (κ : List (V × D)) (M : Mem) (Φ : D → Mem → Prop),
    Room k A → Env0 P w K mg base A outer s H → s.heap.get? f = some (⟨.type "function", od, .func (W.fd (fr.zip as) c doc pm ctv), sl⟩ : Obj) → s.heap.CodeRec (.ref c) W.qual → NdefX.CellsAt (fr.zip as) fr (cvs.map some) s.heap H → Vals vs us → us.length = n →
    Rs κ [] M [] H → Reps M.F H cvs cs → Reps M.F H vs ds → p cs ds M Φ → codeAny (model P w) A (.call (.ref f) ⟨us, []⟩) (CR (L2.CX P w) outer P w H s (fun v H' => ∃ d M', Φ d M' ∧ Rs κ [] M' [] H' ∧ Rep M'.F H' v d) (fun _ _ _ => False)) s
abbrev FunNX (X : Cx) := FunN X.prog X.w X.K X.mg X.base
theorem FunN.mono {P : Program} {w : World} {K : PySem.W.Frag} {mg : Str → Option Value} {base : Heap} {W : FW} {fr : List Str} {j k n : Nat} {p : List D → DSp} (F : FunN P w K mg base W fr j n p) (h : j ≤ k) : FunN P w K mg base W fr k n p :=
  ⟨fun A outer s H f c od sl doc pm ctv as us vs cvs cs ds κ M Φ hr => F.run A outer s H f c od sl doc pm ctv as us vs cvs cs ds κ M Φ (hr.mono h)⟩
/-- the context of its body -/
structure InNest (P : Program) (w : World) (K : PySem.W.Frag) (mg : Str → Option Value) (base : Heap) (N : List Str) (sc : Scope) (k : Nat) (X : Cx) (B : Bx) : Prop where
  prog : X.prog = P
  wd : X.w = w
  K : X.K = K
  mg : X.mg = mg
  base : X.base = base
  N : X.N = N
  sc : X.env.scope = sc
  fn : X.fn = fun _ => false
  z : Cz X k
  hp : PassesOwn (model X.prog X.w) X.A X.env X.xe
  tk : Tks X B
  st : X.stack = X.env :: X.outer
  fr : X.env.frame = some X.env.locals
/-- the slots at its entry: parameters, captured names, its own names -/
def startC (n : Nat) (ds cs : List D) : Env' := ds.map some ++ (cs.map some ++ List.replicate (n - ds.length - cs.length) none)
theorem paired_app {α β : Type} {G : α → β → Prop} : ∀ {a : List α} {b : List β} {c : List α} {d : List β}, Paired G a b → Paired G c d → Paired G (a ++ c) (b ++ d)
  | _, _, _, _, .nil, h => h
  | _, _, _, _, .cons r t, h => .cons r (paired_app t h)
theorem paired_reps {F : List Addr} {H : Hp} : ∀ {vs : List V} {ds : List D}, Reps F H vs ds → Paired (SlotOk F H) (vs.map some) (ds.map some)
  | _, _, .nil => .nil
  | _, _, .cons r t => .cons (fun d e => by cases e; exact ⟨_, rfl, r⟩) (paired_reps t)
theorem paired_none {F : List Addr} {H : Hp} : ∀ n : Nat, Paired (SlotOk F H) (List.replicate n none) (List.replicate n none)
  | 0 => .nil
  | n + 1 => .cons (fun d e => by cases e) (paired_none n)
theorem start_rsC {κ : List (V × D)} {M : Mem} {H : Hp} {N : List Str} {vs cvs : List V} {ds cs : List D} (R : Rs κ [] M [] H) (r : Reps M.F H vs ds) (q : Reps M.F H cvs cs) : Rs κ (startC N.length ds cs) M (NdefX.startF N vs (cvs.map some)) H := by
  refine ⟨R.kp, ?_, R.cl, R.nd⟩
  unfold NdefX.startF startC
  rw [List.length_map, r.length, q.length]
  exact paired_app (paired_reps r) (paired_app (paired_reps q) (paired_none _))
section
variable {P : Program} {w : World} {K : PySem.W.Frag} {mg : Str → Option Value} {base : Heap} {W : FW} {N ps fr : List Str} {k : Nat} {p : List D → DSp}
theorem funN_of {b : List Stmt} (hW : W.body = .stmts b) (S : NdefX.NScope N ps fr W.scope) (hb : ∀ (cl : List (Str × Addr)) (c : Addr) (doc pm ctv : Value) (us : List Value), us.length = ps.length → bindArgs (W.fd cl c doc pm ctv) ⟨us, []⟩ = pure (ps.zip us))
    (h : ∀ X kp cs ds M Φ, p cs ds M Φ → InNest P w K mg base N W.scope k X ⟨kp, fun _ _ _ _ _ => False⟩ → DSs ⟨kp, fun _ _ _ _ _ => False⟩ X b (startC N.length ds cs) M { nx := fun _ M' => Φ .non M', rt := fun d M' => Φ d M' }) : FunN P w K mg base W fr (k + 1) ps.length p := by
  refine ⟨fun A outer s H f c od sl doc pm ctv as us vs cvs cs ds κ M Φ hr e0 ho hcd C rv hul R rc rd hp => ?_⟩
  have hl : vs.length = ps.length := by rw [rv.length]; exact hul
  have lim : s.heap.NoLimit := e0.mod.nolimit.keeps fun b o e => (e0.bs b o e).1
  obtain ⟨F, hF⟩ : ∃ F : NdefX.NF, F = ⟨W.name, W.qual, W.params, b, W.scope, fr.zip as, c⟩ := ⟨_, rfl⟩
  have SF : NdefX.NScope N ps fr F.scope := by subst hF; exact S
  have CF : NdefX.CellsAt F.cl fr (cvs.map some) s.heap H := by subst hF; exact C
  refine codeAny_call_function (fd := W.fd (fr.zip as) c doc pm ctv) (body := b) hr.depth ho rfl S.co S.gen hW hcd ?_
  rw [hb _ _ doc pm ctv us hul]
  refine wpAny_pure (wpAny_newFunctionEnv S.nocell (fun ⟨n, _⟩ hy => S.par n (List.of_mem_zip hy).1) (fun h₁ hns hsb => ⟨lim.fresh _ hsb, ?_⟩) S.kind)
  have henv : newEnv (W.fd (fr.zip as) c doc pm ctv).scope s.heap.objs.size (W.fd (fr.zip as) c doc pm ctv).globals (W.fd (fr.zip as) c doc pm ctv).closure ((W.fd (fr.zip as) c doc pm ctv).qualname ++ ".<locals>.") (some f) (W.fd (fr.zip as) c doc pm ctv).code none (W.fd (fr.zip as) c doc pm ctv).builtins = NdefX.envF F f s.heap.objs.size := by subst hF; rfl
  rw [henv]
  refine codeAny_func ?_
  have kp : ∀ b o, s.heap.get? b = some o → h₁.get? b = some o := fun b o e => hsb.extBut b o (Nat.ne_of_lt (Heap.lt_size e)) (Heap.get?_push_of_some _ e)
  have I : Inv (NdefX.ncx (L2.CX P w) P w K mg base N F f A outer s H (fun _ _ _ => False)) [] (NdefX.startF N vs (cvs.map some)) H { s with heap := h₁, toks := s.toks + (ps.zip us).length } := NdefX.inv_startN SF hr.hd e0 hl rv CF hns kp
  obtain ⟨Qv, hQv⟩ : ∃ Qv : VK, Qv = fun v H' => ∃ d M', Φ d M' ∧ Rs κ [] M' [] H' ∧ Rep M'.F H' v d := ⟨_, rfl⟩
  have body := h (NdefX.ncx (L2.CX P w) P w K mg base N F f A outer s H (fun _ _ _ => False)) κ cs ds M Φ hp ⟨rfl, rfl, rfl, rfl, rfl, rfl, by subst hF; rfl, rfl, ⟨S.nd, rfl, hr.deeper _⟩, PassesOwn.leaving, Takes.imp (takes_of (E := fun _ _ _ => False) rfl rfl rfl rfl) (fun cls dx σ H' hw => by
    obtain ⟨C, ns, es, δ, M', κ', _, hX, _⟩ := hw
    exact hX.elim), rfl, rfl⟩ κ _ H { nx := fun _ H' => Qv .non H', rt := Qv } (fun _ h => h) (start_rsC (N := N) R rd rc) ⟨fun δ M' σ H' q R' => by rw [hQv]; exact ⟨_, M', q, ⟨R'.kp, .nil, R'.cl, R'.nd⟩, .non⟩, fun v d M' δ σ H' q R' r' => by rw [hQv]; exact ⟨d, M', q, ⟨R'.kp, .nil, R'.cl, R'.nd⟩, r'⟩, fun _ _ _ _ z => z.elim, fun _ _ _ _ z => z.elim⟩
  rw [← hQv]
  refine wpAny_mono ((cSs (X := NdefX.ncx (L2.CX P w) P w K mg base N F f A outer s H (fun _ _ _ => False)) (sts := b)).run [] _ _ H _ I body) (fun fl s' hs => ?_) fun e s' hs => hs
  have fin : ∀ {σ' : L2.St} {H' : Hp} {v : V} {u : Value}, Inv (NdefX.ncx (L2.CX P w) P w K mg base N F f A outer s H (fun _ _ _ => False)) [] σ' H' s' → RelV v u → Qv v H' → CE outer P w H s Qv u s' :=
    fun {σ' H' v u} J rv q => ⟨v, H', J.os, J.bare, J.base, J.hok, rv, q⟩
  cases fl with
  | ret u =>
    obtain ⟨v, σ', H', J, rv, q⟩ := hs
    exact fin J rv q
  | next =>
    obtain ⟨σ', H', J, q⟩ := hs
    exact fin (v := V.non) (u := Value.none) J rfl q
  | brk =>
    obtain ⟨_, _, _, q⟩ := hs
    exact False.elim q
  | cont =>
    obtain ⟨_, _, _, q⟩ := hs
    exact False.elim q
end
/-! ### calls -/
section
variable {B : Bx} {X : Cx} {e : Expr} {es : List Expr} {δ : Env'} {M : Mem} {Φ : D → Mem → Prop} {pos pp : Pos} {k n m i : Nat} {x : Str} {W : FW} {fr : List Str} {p : List D → DSp}
theorem hp_code {F : List Addr} {H : Hp} {c : Addr} {q : Str} (h : c ∉ F) (e : H c = some (LamX.CodeO c q)) : Rep F H (.ref c) (.hp c (LamX.CodeO c q)) := .hp h e fun _ z => by unfold LamX.CodeO at z; cases z
theorem reps_zip {F F' : List Addr} {H H' : Hp} : ∀ {vs : List V} {ds : List D}, Reps F H vs ds → (∀ q ∈ vs.zip ds, Rep F' H' q.1 q.2) → Reps F' H' vs ds
  | _, _, .nil, _ => .nil
  | _, _, .cons r t, h => .cons (h _ List.mem_cons_self) (reps_zip t fun q hq => h q (List.mem_cons_of_mem _ hq))
theorem reps_mem {F : List Addr} {H : Hp} : ∀ {vs : List V} {ds : List D}, Reps F H vs ds → ∀ q ∈ vs.zip ds, Rep F H q.1 q.2
  | _, _, .nil => fun q hq => by simp at hq
  | _, _, .cons r t => fun q hq => by
    rcases List.mem_cons.mp (show q ∈ _ :: _ from hq) with rfl | hq
    · exact r
    · exact reps_mem t q hq
/-- f(..), f a name that holds a function made in a def -/
theorem de_callC {f : Addr} {as0 : List Addr} {cs0 : List D} (z : Cz X m) (l : Nm X i x) (hd : δ[i]? = some (some (.raw (.ref f)))) (hm : (f, Cell.fnc W fr as0 cs0) ∈ M) (hk : k ≤ m) (Fn : FunNX X W fr k n p)
    (h : DA B X (e :: es) δ M fun ds M1 => ∃ as cs M0, M1 = (f, .fnc W fr as cs) :: M0 ∧ ds.length = n ∧ p cs ds M0 fun d M' => Φ d ((f, .fnc W fr as cs) :: M'))
    (he : starEach (e :: es) X.env = (false, eval e X.env) :: starEach es X.env := by rfl) (hpl : (backTo pos (starEach es X.env)).any (·.1) = false := by rfl) : DE B X (.Call (.Name x pp) (e :: es) [] pos) δ M Φ := by
  intro κ σ H Q hb R kk
  unfold tE
  intro pins s I
  obtain ⟨v, ev, rv⟩ := R.get hd
  cases rv
  refine wpAny_Call_Name_kw (thn ((pe_var (pos := pp) l.at_ l.vis l.dbg l.cdc).run pins s σ H (fun v H1 => v = .ref f ∧ H1 = H) I ⟨.ref f, ev, rfl, rfl⟩) fun u s1 hv => ?_)
  obtain ⟨v, H1, I1, r1, e1, e2⟩ := hv
  subst e1
  rw [e2] at I1
  obtain rfl : u = Value.ref f := r1
  have fa : ∀ {M : Mem} {H : Hp} {s : Shared} {σ : L2.St} {δ : Env'} {as0 : List Addr} {cs0 : List D}, Rs κ δ M σ H → Inv X pins σ H s → (f, Cell.fnc W fr as0 cs0) ∈ M → PySem.W.FnAt f s.heap := fun {M H s σ δ as0 cs0} R I hm => by
    obtain ⟨c, od, sl, doc, pm, ctv, vs, h1, _⟩ := R.cl _ hm
    exact ⟨_, od, _, sl, (I.hok f _ h1).1⟩
  refine PySem.W.callWith_F (first := []) (fa R I1 hm) (thn (cA.run pos pins s1 σ H _ I1 (h κ σ H _ hb R fun vs ds M' H' q R' r' => (show ∃ ds M', _ ∧ Rs κ δ M' σ H' ∧ Reps M'.F H' vs ds from ⟨ds, M', q, R', r'⟩))) fun us s2 hv2 => ?_) he hpl
  obtain ⟨vs, H2, I2, rvs, ds, M1, ⟨as, cs, M0, rfl, hn, hp⟩, R2, r2⟩ := hv2
  refine ⟨fa R2 I2 List.mem_cons_self, ?_⟩
  show wpAny _ _ (call (.ref f) us) _ _ _
  obtain ⟨c, vs', od, sl, doc, pm, ctv, A, hcl, hcM, hc, hr⟩ := rs_fnc R2
  have nd : (f :: as).Nodup := (List.nodup_append.mp (show ((f :: as) ++ Mem.F M0).Nodup from R2.nd)).1
  have R3 := rs_out R2.pack
  have R4 : Rs ((.ref c, .hp c (LamX.CodeO c W.qual)) :: (vs'.zip cs ++ (κ ++ sk σ δ))) [] M0 [] (les H2 (f :: as)) := ⟨fun q hq => by
    rcases List.mem_cons.mp hq with rfl | hq
    · exact hp_code hcM ((les_out hcl).trans hc)
    · rcases List.mem_append.mp hq with hq | hq
      · exact reps_mem hr q hq
      · exact R3.kp q hq, .nil, R3.cl, R3.nd⟩
  refine wpAny_call (codeAny_mono (Fn.run X.A X.stack s2 (les H2 (f :: as)) f c od sl doc pm ctv as us vs vs' cs ds _ M0 _ (z.room.mono hk) (env0_les A.ex I2.env0) (I2.hok f _ A.fn).1 (NdefX.codeO_at I2.hok hc) (cells_at A nd I2.hok) rvs (by rw [← rvs.length, r2.length]; exact hn) R4 hr (r2.fwd fwd_les) hp) fun r s' hq => ?_)
  cases r with
  | error e =>
    obtain ⟨a, B, H', cls, d, _, _, _, _, _, _, _, hE⟩ := hq
    exact hE.elim
  | ok fl =>
    cases fl with
    | ret u =>
      obtain ⟨v, H', os, bare, un, hok', rv, d, M', hΦ, R5, r5⟩ := hq
      obtain ⟨un2, hok2, gone⟩ := ce_mix A.ex I2.hok I2.stkFree un hok'
      obtain ⟨v', H3, I3, rv3, q3, q4⟩ := I2.after (Q := fun v' H'' => v' = v ∧ H'' = mix H2 H' (f :: as)) ⟨v, _, os, bare, un2, hok2, rv, rfl, rfl⟩
      subst q3
      subst q4
      have R6 := rs_back (κ := κ ++ sk σ δ) (cs := cs) A nd gone (R5.kp _ List.mem_cons_self) (reps_zip hr fun q hq => R5.kp q (List.mem_cons_of_mem _ (List.mem_append_left _ hq))) (R5.sub fun q hq => List.mem_cons_of_mem _ (List.mem_append_right _ hq))
      exact ⟨v', _, I3, rv, kk v' d _ _ hΦ (R2.unpack R6) (r5.fwd (fwd_mix gone))⟩
    | next => exact False.elim hq
    | brk => exact False.elim hq
    | cont => exact False.elim hq
end
/-! ### the def that makes the function and returns it -/
/-- the names that a function captures, in its closure's order -/
def frOf (names : List (Str × NameKind)) : List Str := ((names.filter fun y => y.2 == .free).map (·.1)).reverse
theorem clo_eq {cells : List (Str × Addr)} : ∀ (names : List (Str × NameKind)) (acc : List (Str × Addr)), cloFrom cells names acc = ((frOf names).map fun n => (n, (cells.lookup n).getD 0)) ++ acc
  | [], acc => rfl
  | (n, k) :: r, acc => by
    unfold cloFrom frOf
    by_cases h : k == .free
    · rw [if_pos h, clo_eq r, List.filter_cons_of_pos (by exact h)]
      simp [frOf]
    · rw [if_neg h, clo_eq r, List.filter_cons_of_neg (by exact h)]
      rfl
theorem zip_map_self {g : Str → Addr} : ∀ fr : List Str, fr.zip (fr.map g) = fr.map fun n => (n, g n)
  | [] => rfl
  | x :: r => by rw [List.map_cons, List.zip_cons_cons, zip_map_self r]; rfl
/-- the maker's promise: the new function with its captured cells -/
def pMaker (PT : Addr) (W : FW) (fr : List Str) (js : List Nat) (n : Nat) : DSpE := fun ds M Φ _ => ds.length = n ∧ (PT, Cell.tab W.qual) ∈ M ∧ ∀ f as, Φ (.raw (.ref f)) ((f, .fnc W fr as (js.map fun j => ds.getD j .non)) :: M)
theorem reps_pickC {F : List Addr} {H : Hp} {vs : List V} {ds : List D} (r : Reps F H vs ds) : ∀ js : List Nat, (∀ j ∈ js, j < ds.length) → Reps F H (js.map fun j => vs.getD j .non) (js.map fun j => ds.getD j .non)
  | [], _ => .nil
  | j :: js, h => by
    have hj := h j List.mem_cons_self
    have hv : j < vs.length := by rw [r.length]; exact hj
    refine .cons ?_ (reps_pickC r js fun k hk => h k (List.mem_cons_of_mem _ hk))
    obtain ⟨d, e1, r1⟩ := r.get (i := j) (v := vs[j]) (by simp [hv])
    have a1 : vs.getD j .non = vs[j] := by simp [List.getD, hv]
    have a2 : ds.getD j .non = d := by simp [List.getD, e1]
    show Rep F H (vs.getD j .non) (ds.getD j .non)
    rw [a1, a2]; exact r1
section
variable {κ : List (V × D)} {δ : Env'} {M : Mem} {σ : L2.St} {H H1 : Hp} {l : List Addr}
theorem rs_extL (R : Rs κ δ M σ H) (e : LamX.ExtN H H1) (t : LamX.Tabs (tabs M) H1) (hl : ∀ a ∈ l, H a = none) (hc : ∀ c q, H1 c = some (LamX.CodeO c q) → c ∉ l) :
    (∀ q ∈ κ, Rep (l ++ M.F) H1 q.1 q.2) ∧ Paired (SlotOk (l ++ M.F) H1) σ δ ∧ (∀ p ∈ M, CellOk (l ++ M.F) H1 p.1 p.2) ∧ Fwd M.F H (l ++ M.F) H1 := by
  have k : Fwd M.F H (l ++ M.F) H1 := fun a o ha ho n => ⟨by
    rw [List.mem_append, not_or]
    refine ⟨fun z => ?_, ha⟩
    rw [hl a z] at ho
    exact (nomatch ho), e a o ho n⟩
  have R1 := rs_extN R e t
  refine ⟨fun q hq => (R.kp q hq).fwd k, Paired.mono (fun _ _ h => h.fwd k) R.sl, fun p hp => ?_, k⟩
  obtain ⟨a, c⟩ := p
  by_cases hcc : ∃ q, c = .tab q
  · obtain ⟨q, rfl⟩ := hcc
    obtain ⟨ps, h1, h2, h3⟩ := R1.cl _ hp
    refine ⟨ps, h1, h2, fun pos cv hcv => ?_⟩
    obtain ⟨c, e1, hx, e2⟩ := h3 pos cv hcv
    exact ⟨c, e1, by rw [List.mem_append, not_or]; exact ⟨hc c _ e2, hx⟩, e2⟩
  · refine (R.cl _ hp).fwd k fun x hx => ?_
    obtain ⟨o, k1, _, k3⟩ := cok_kind (R.cl _ hp) hx
    rw [k1]
    exact e x o k1 (k3 fun q z => hcc ⟨q, z⟩)
end
theorem code_not_fn {P : Program} {w : World} {H : Hp} {h : Heap} {c f : Addr} {q : Str} {o : Obj} {fd : FuncData} (hok : HOk P w H h) (e : H c = some (LamX.CodeO c q)) (ho : h.get? f = some o) (hd : o.data = .func fd) : c ≠ f := fun z => by
  obtain ⟨⟨oc, vs, t, h1, h2, _⟩, _⟩ := hok c _ e
  rw [z, ho] at h1
  cases h1
  rw [hd] at h2; cases h2
theorem code_not_cell {P : Program} {w : World} {H : Hp} {h : Heap} {c f : Addr} {q : Str} {v : Option Value} (hok : HOk P w H h) (e : H c = some (LamX.CodeO c q)) (ho : h.IsCell f v) : c ≠ f := fun z => by
  obtain ⟨⟨oc, vs, t, h1, h2, _⟩, _⟩ := hok c _ e
  obtain ⟨o, h3, h4⟩ := ho
  rw [z, h3] at h1
  cases h1
  rw [h4] at h2; cases h2
theorem fnokM_of {P : Program} {w : World} {K : PySem.W.Frag} {mg : Str → Option Value} {base : Heap} {x qual : Str} {st : Stmt} {f PT : Addr} {fd : FuncData} {N ps : List Str} {k : Nat} {W : FW} {js : List Nat} {b : List Stmt} {name : Str} {pos p1 p2 : Pos} {i : Nat}
    (F : FunG K x qual st f fd) (S : FnScope N ps (defScope st)) (T : TbF base mg fd PT)
    (hst : defBody st = [.FunctionDef name W.params b [] none [] W.scope none name pos, .Return (some (.Name name p1)) p2]) (hW : W.body = .stmts b) (hn : W.name = name) (hq : W.qual = (qual ++ ".<locals>.") ++ name)
    (hd0 : W.params.defaults = []) (hk0 : W.params.kw_defaults = []) (ha : ∀ env, annTrees W.params none env = []) (hfree : ∀ y ∈ W.scope.names, y.2 = .free → (defScope st).names.lookup y.1 = some .cell)
    (hjs : js.map (fun j => N[j]?) = (frOf W.scope.names).map some) (hjl : ∀ j ∈ js, j < ps.length) (hfd : (frOf W.scope.names).Nodup) (hi : N[i]? = some name) (hil : ps.length ≤ i) (hloc : (defScope st).names.lookup name = some .local)
    (hdb : (name == ("__debug__" : Str)) = false := by decide) (hcdb : (name == ("__classdict__" : Str)) = false := by decide) :
    FnOk P w K mg base (L2.CX P w) (k + 1) f fd ps (liftE (pMaker PT W (frOf W.scope.names) js ps.length)) := by
  obtain ⟨oc, od, dV, kV, doc, pm, an, cdv, ct, osl, rfl, lk, hcd⟩ := F.ex
  refine ⟨fun vs H Q E hl => ?_, fun A outer s H args us vs Q E hr e0 hb r hsp => ?_⟩
  · obtain ⟨κ, ds, M, Φ, Ξ, R, r, ⟨q, _⟩, _⟩ := hl
    rw [r.length]; exact q
  obtain ⟨κ, ds, M, Φ, Ξ, R, rr, ⟨hdl, hM, hΦ⟩, kk, _⟩ := hsp
  have hl : vs.length = ps.length := by rw [rr.length]; exact hdl
  have KX : K.In s.heap := e0.mod.kin.keeps fun b o e => (e0.bs b o e).1
  have lim : s.heap.NoLimit := e0.mod.nolimit.keeps fun b o e => (e0.bs b o e).1
  have hkind : ∀ y ∈ ps.zip us, (defScope st).names.lookup y.1 = some .local ∨ ((defScope st).names.lookup y.1 = some .cell ∧ ((cellsFrom (s.heap.objs.size + 1) (defScope st).names []).lookup y.1).isSome = true) := fun ⟨n, v⟩ hy => by
    rcases S.par n (List.of_mem_zip hy).1 with q | q
    · exact .inl q
    · exact .inr ⟨q, PySem.W.cellsFrom_some _ _ _ (.inl q)⟩
  refine codeAny_call_function hr.depth (KX _ _ lk) rfl S.co S.gen rfl (PySem.W.codeRec_of KX hcd) (hb _ _ _ _ ?_)
  refine wpAny_newFunctionEnv_cells S.kind hkind fun env he s1 xx => ?_
  subst he
  refine ⟨lim.keeps xx.toInCall.keep, codeAny_func ?_⟩
  obtain ⟨X, hX⟩ : ∃ X, X = cxOf (L2.CX P w) P w K mg base N qual (defScope st) f cdv A outer s H E := ⟨_, rfl⟩
  have I : Inv X [] (start N vs) H s1 := by rw [hX]; exact inv_start S hr.hd e0 hl r xx
  obtain ⟨cc, TB, hcc⟩ := T
  have hcc : cdv = .ref cc := hcc
  have eq : X.env.qual = qual ++ ".<locals>." := by rw [hX]; rfl
  have hqX : X.env.qual ++ name = W.qual := by rw [eq, hq]
  have hqn : qualnameIn X.env name name = X.env.qual ++ name := by
    have hk : X.env.kindOf name = some .local := by rw [hX]; exact hloc
    unfold qualnameIn
    rw [hk] <;> rfl
  have hcode : X.env.code = .ref cc := by rw [hX]; exact hcc
  have TB' : LamX.TabB X.base X.mg cc PT := by rw [hX]; exact TB
  have hsc : X.env.scope = defScope st := by rw [hX]; rfl
  have hfree' : ∀ y ∈ W.scope.names, y.2 = .free → ∃ c, X.env.cells.lookup y.1 = some c := fun y hy e => I.ok.has _ (.inl (show X.env.scope.names.lookup y.1 = some .cell by rw [hsc]; exact hfree y hy e))
  have hfX : X.fn = fun _ => true := by rw [hX]; rfl
  have hs0 : X.s_0 = s := by rw [hX]; rfl
  have hH0 : X.H_0 = H := by rw [hX]; rfl
  have hN : X.N = N := by rw [hX]; rfl
  have goal : ∀ s' f' c' H1, Inv X [] ((start N vs).set i (some (.ref f'))) H1 s' → LamX.ExtN H H1 → LamX.Tabs (tabs M) H1 → H f' = none → H1 f' = some (NdefX.FnO f' ⟨name, W.qual, W.params, b, W.scope, cloFrom X.env.cells W.scope.names [], c'⟩) → H1 c' = some (LamX.CodeO c' W.qual) → CE outer P w H s Q (.ref f') s' := by
    intro s' f' c' H1 J eN tN f0 f1 c1
    have hokJ : HOk P w H1 s'.heap := by have := J.hok; rw [hX] at this; exact this
    obtain ⟨odf, slf, docf, pmf, ctvf, hof⟩ := NdefX.fnO_at hokJ f1
    obtain ⟨g, hg⟩ : ∃ g : Str → Addr, g = fun n => (X.env.cells.lookup n).getD 0 := ⟨_, rfl⟩
    obtain ⟨as, has⟩ : ∃ as, as = (frOf W.scope.names).map g := ⟨_, rfl⟩
    have hclo : cloFrom X.env.cells W.scope.names [] = (frOf W.scope.names).zip as := by rw [clo_eq, List.append_nil, has, zip_map_self, hg]
    have hmem : ∀ y ∈ frOf W.scope.names, (y, NameKind.free) ∈ W.scope.names := fun y hy => by
      unfold frOf at hy
      rw [List.mem_reverse, List.mem_map] at hy
      obtain ⟨⟨y', kd⟩, h1, rfl⟩ := hy
      rw [List.mem_filter] at h1
      have : kd = .free := by simpa using h1.2
      rw [← this]; exact h1.1
    have cellOf : ∀ y ∈ frOf W.scope.names, ∃ c, X.env.cells.lookup y = some c ∧ g y = c ∧ s.heap.objs.size ≤ c := fun y hy => by
      obtain ⟨c, hc⟩ := hfree' (y, .free) (hmem y hy) rfl
      have hc : X.env.cells.lookup y = some c := hc
      refine ⟨c, hc, by rw [hg]; simp [hc], ?_⟩
      have := I.ok.cab y c (by rw [hfX]) hc
      rw [hs0] at this; exact this
    have nA : ∀ a ∈ as, ∃ y ∈ frOf W.scope.names, X.env.cells.lookup y = some a := fun a h => by
      rw [has, List.mem_map] at h
      obtain ⟨y, hy, rfl⟩ := h
      obtain ⟨c, h1, h2, _⟩ := cellOf y hy
      exact ⟨y, hy, by rw [h2]; exact h1⟩
    have sA : ∀ a ∈ as, s.heap.objs.size ≤ a := fun a h => by
      rw [has, List.mem_map] at h
      obtain ⟨y, hy, rfl⟩ := h
      obtain ⟨c, h1, h2, h3⟩ := cellOf y hy
      rw [h2]; exact h3
    have hA1 : ∀ a ∈ as, H1 a = none := fun a h => by
      obtain ⟨y, _, e⟩ := nA a h
      exact J.freeC y a e
    have hl0 : ∀ a ∈ f' :: as, H a = none := fun a h => by
      rcases List.mem_cons.mp h with rfl | h
      · exact f0
      · exact e0.hok.fresh (sA a h)
    have fnA : f' ∉ as := fun z => by rw [hA1 f' z] at f1; cases f1
    have ndA : as.Nodup := by
      rw [has, List.nodup_iff_pairwise_ne, List.pairwise_map]
      refine (List.nodup_iff_pairwise_ne.mp hfd).imp_of_mem fun {a b} ha hb ne e => ne ?_
      obtain ⟨c, h1, h2, _⟩ := cellOf a ha
      obtain ⟨d, h3, h4, _⟩ := cellOf b hb
      have : c = d := by rw [← h2, ← h4]; exact e
      subst this
      exact I.ok.inj a b c h1 h3
    have ndl : (f' :: as).Nodup := List.nodup_cons.mpr ⟨fnA, ndA⟩
    obtain ⟨Hx, hHx⟩ : ∃ Hx : Hp, Hx = fun b => (s'.heap.get? b).map (Exact b) := ⟨_, rfl⟩
    have hHxe : ∀ {b o}, s'.heap.get? b = some o → Hx b = some (Exact b o) := fun {b o} e => by rw [hHx]; show (s'.heap.get? b).map _ = _; rw [e]; rfl
    have cellA : ∀ a ∈ as, ∃ v, s'.heap.IsCell a v := fun a h => by
      obtain ⟨y, _, e⟩ := nA a h
      exact J.cell y a e
    have nl : ∀ {b : Addr} {o : HO}, H1 b = some o → (∀ F : NdefX.NF, o ≠ NdefX.FnO f' F) → b ∉ f' :: as := fun {b o} e n z => by
      rcases List.mem_cons.mp z with rfl | z
      · rw [f1] at e; exact n _ (Option.some.inj e).symm
      · rw [hA1 b z] at e; cases e
    have ncode : ∀ (H9 : Hp) c q, H9 c = some (LamX.CodeO c q) → HOk P w H9 s'.heap → c ∉ f' :: as := fun H9 c q e hok z => by
      rcases List.mem_cons.mp z with rfl | z
      · exact code_not_fn hok e hof rfl rfl
      · obtain ⟨v, hv⟩ := cellA c z
        exact code_not_cell hok e hv rfl
    obtain ⟨H2, hH2⟩ : ∃ H2, H2 = mix Hx H1 (f' :: as) := ⟨_, rfl⟩
    have i2 : ∀ {b}, b ∈ f' :: as → H2 b = Hx b := fun {b} h => by rw [hH2, mix_in h]
    have o2 : ∀ {b}, b ∉ f' :: as → H2 b = H1 b := fun {b} h => by rw [hH2, mix_out h]
    have hok2 : HOk P w H2 s'.heap := fun b o e => by
      by_cases hb : b ∈ f' :: as
      · rw [i2 hb, hHx] at e
        have e : (s'.heap.get? b).map (Exact b) = some o := e
        cases e3 : s'.heap.get? b with
        | none => rw [e3] at e; cases e
        | some ob =>
          rw [e3] at e; cases e
          exact ⟨e3, e3, ⟨ob, e3⟩, fun h1 h2 p st => st _ p⟩
      · rw [o2 hb] at e
        exact (hokJ b o e).stay (fun _ _ _ q => q) (fun c q => (o2 (nl q fun _ z => by unfold NdefX.FnO at z; cases z)).trans q) fun c xs q => (o2 (nl q fun _ z => by unfold NdefX.FnO at z; cases z)).trans q
    have hbase : Un (frs outer) [] H H1 s.heap s'.heap := by have := J.base; rw [hX] at this; exact this
    have un2 : Un (frs outer) [] H H2 s.heap s'.heap := by
      have nb : ∀ {b o}, s.heap.get? b = some o → b ∉ f' :: as := fun {b o} e z => by
        rcases List.mem_cons.mp z with rfl | z
        · have := hbase.free b o e f0 (by simp)
          rw [f1] at this; cases this
        · exact absurd (Heap.lt_size e) (Nat.not_lt.mpr (sA b z))
      have nh : ∀ {b o}, H b = some o → b ∉ f' :: as := fun {b o} e z => by rw [hl0 b z] at e; cases e
      exact ⟨hbase.keep, hbase.slot, fun b o e n hx => (o2 (nb e)).trans (hbase.free b o e n hx), hbase.there, fun b xs e => (o2 (nh e)).trans (hbase.tups b xs e), fun b o u e => (o2 (nh e)).trans (hbase.frzs b o u e), fun b ps e => let ⟨m, q⟩ := hbase.tbls b ps e; ⟨m, (o2 (nh e)).trans q⟩⟩
    have e2 : LamX.ExtN H H2 := fun a o e n => (o2 (fun z => by rw [hl0 a z] at e; cases e)).trans (eN a o e n)
    have t2 : LamX.Tabs (tabs M) H2 := fun p hp => by
      obtain ⟨ps, a1, a2, a3⟩ := tN p hp
      refine ⟨ps, (o2 (nl a1 fun _ z => by unfold NdefX.FnO at z; cases z)).trans a1, a2, fun p' cv hcv => ?_⟩
      obtain ⟨c, q1, q2⟩ := a3 p' cv hcv
      exact ⟨c, q1, (o2 (ncode H1 c _ q2 hokJ)).trans q2⟩
    obtain ⟨z1, z2, z3, kf⟩ := rs_extL R e2 t2 hl0 fun c q e => ncode H2 c q e hok2
    have hjlen : js.length = (frOf W.scope.names).length := by
      have := congrArg List.length hjs
      rwa [List.length_map, List.length_map] at this
    have c2 : H2 c' = some (LamX.CodeO c' W.qual) := (o2 (ncode H1 c' _ c1 hokJ)).trans c1
    have hcF : c' ∉ (f' :: as) ++ Mem.F M := by
      rw [List.mem_append, not_or]
      refine ⟨ncode H1 c' _ c1 hokJ, ?_⟩
      have := rs_extN R e2 t2
      unfold LamX.CodeO at c2
      exact rs_noext this c2
    refine ⟨.ref f', H2, by rw [← hs0]; exact J.os, J.bare, un2, hok2, rfl, ?_⟩
    refine kk (.ref f') (.raw (.ref f')) _ H2 (hΦ f' as) ⟨z1, .nil, fun q hq => ?_, ?_⟩ (.raw _)
    · rcases List.mem_cons.mp hq with rfl | hq
      · refine ⟨c', odf, slf, docf, pmf, ctvf, js.map fun j => vs.getD j .non, ?_, hcF, c2, by rw [has, List.length_map], hfd, by rw [List.length_map, has, List.length_map, hjlen], fun p hp => ?_, (reps_pickC rr js fun j hj => by rw [hdl]; exact hjl j hj).fwd kf⟩
        · rw [i2 List.mem_cons_self, hHxe hof]
          congr 2
          rw [hclo]
          show _ = (⟨.type "function", odf, .func (W.fd ((frOf W.scope.names).zip as) c' docf pmf ctvf), slf⟩ : Obj)
          rw [show W.fd ((frOf W.scope.names).zip as) c' docf pmf ctvf = PySem.W.fnX name W.qual W.params b W.scope ((frOf W.scope.names).zip as) .none .none docf pmf none (.ref c') ctvf from ?_]
          obtain ⟨W1, W2, W3, W4, W5⟩ := W
          have hW : W4 = .stmts b := hW
          have hn : W1 = name := hn
          subst hW; subst hn
          rfl
        · obtain ⟨ix, hix⟩ := List.mem_iff_getElem?.mp hp
          rw [List.getElem?_zip_eq_some] at hix
          obtain ⟨h1, h2⟩ := hix
          have h1' := h1
          rw [has, List.getElem?_map] at h1
          rw [List.getElem?_map] at h2
          cases ey : (frOf W.scope.names)[ix]? with
          | none => rw [ey] at h1; cases h1
          | some y =>
            cases ej : js[ix]? with
            | none => rw [ej] at h2; cases h2
            | some j =>
              rw [ej] at h2
              have h2 : vs.getD j .non = p.2 := Option.some.inj h2
              have hjm := hjl j (List.mem_of_getElem? ej)
              have hNj : N[j]? = some y := by
                have := congrArg (fun l : List (Option Str) => l[ix]?) hjs
                simp only [List.getElem?_map, ej, ey, Option.map_some] at this
                exact Option.some.inj this
              have hjv : j < vs.length := by omega
              have hv : vs[j]? = some p.2 := by rw [← h2]; simp [List.getD, hjv]
              obtain ⟨m, hns, hlk⟩ := J.loc
              have hsl : ((start N vs).set i (some (.ref f')))[j]? = some (some p.2) := by
                rw [List.getElem?_set_ne (by omega)]
                unfold L2.start
                rw [List.getElem?_append_left (by rw [List.length_map]; exact hjv), List.getElem?_map, hv]; rfl
              have hyc : X.env.scope.names.lookup y = some .cell := by rw [hsc]; exact hfree (y, .free) (hmem y (List.mem_of_getElem? ey)) rfl
              obtain ⟨u, ru, lk⟩ := hlk j y p.2 (by rw [hN]; exact hNj) hsl (.inr (.inl hyc))
              obtain ⟨c, hc, ho⟩ : ∃ c, X.env.cells.lookup y = some c ∧ s'.heap.IsCell c (some u) := by
                rcases lk with ⟨k1, _⟩ | ⟨_, c, e1, e2⟩
                · rw [show X.env.kindOf y = some .cell from hyc] at k1; cases k1
                · exact ⟨c, e1, e2⟩
              have hca : p.1 = c := by
                rw [ey] at h1
                have h1 : g y = p.1 := Option.some.inj h1
                rw [← h1, hg]; simp [hc]
              obtain ⟨oc', ho1, ho2⟩ := ho
              refine ⟨oc', u, ?_, ho2, ru⟩
              have hin : p.1 ∈ f' :: as := List.mem_cons_of_mem _ (List.mem_of_getElem? h1')
              rw [i2 hin, hca, hHxe ho1]
      · exact z3 q hq
    · show ((f' :: as) ++ Mem.F M).Nodup
      refine List.nodup_append.mpr ⟨ndl, R.nd, fun x hx y hy e => ?_⟩
      subst e
      obtain ⟨o, q⟩ := R.inF hy
      rw [hl0 x hx] at q; cases q
  have run : wpAny (model X.prog X.w) X.A (execs (defBody st) X.env) (fun fl s' => match fl with | .ret u => CE outer P w H s Q u s' | _ => False) X.xe s1 := by
    rw [hst]
    refine wpAny_execs_cons (PySem.W.nestDef_K hd0 hk0 (ha _) ?_)
    rw [hqn]
    have hm : (PT, fun (_ _ : Nat) => W.qual) ∈ (tabs M).map fun p => ((p.1, fun (_ _ : Nat) => p.2) : NdefX.NTab) := List.mem_map.mpr ⟨(PT, W.qual), tabs_mem.mpr hM, rfl⟩
    refine NdefX.ndef_make I TB' hcode hm hqX.symm (fun p hp e => ?_) (fun p hp => ?_) hfree' fun f' c' H1 s' I1 eN _ T1 f0 f1 c1 => ?_
    · obtain ⟨q, hq2, rfl⟩ := List.mem_map.mp hp
      have := rs_tab1 R hM q hq2 e
      show (fun (_ _ : Nat) => q.2) = _
      rw [this]
    · obtain ⟨q, hq2, rfl⟩ := List.mem_map.mp hp
      exact NdefX.TabN.of (rs_tabs R q hq2)
    · rw [hqX] at f1 c1
      refine store_ok I1 (by rw [hN]; exact S.nd) (by rw [hN]; exact hi) (.inl (by rw [hsc]; exact hloc)) (v := .ref f') rfl (fun s2 J => ?_) (.inr (by rw [hsc]; exact hloc))
      refine wpAny_execs_cons (wpAny_Return_some (thn ((pe_var (pos := p1) (by rw [hN]; exact hi) (.inl (by rw [hsc]; exact hloc)) hdb hcdb).run [] s2 _ H1 (fun v H' => v = .ref f' ∧ H' = H1) J ⟨.ref f', ?_, rfl, rfl⟩) fun u s3 hv => ?_))
      · have : i < (start N vs).length := by
          have := I.len
          rw [hN] at this
          rw [this]
          exact (List.getElem?_eq_some_iff.mp hi).1
        rw [List.getElem?_set_self this]
      · obtain ⟨v, H2, J3, ru, q1, q2⟩ := hv
        subst q1
        subst q2
        obtain rfl : u = .ref f' := ru
        exact goal s3 f' c' H2 J3 eN (fun p hp => NdefX.TabN.to (T1 (p.1, fun _ _ => p.2) (List.mem_map.mpr ⟨p, hp, rfl⟩))) f0 f1 c1
  rw [hX] at run
  refine wpAny_mono run (fun fl s' hs => ?_) fun e s' hs => hs
  cases fl with
  | ret u => exact hs
  | next => exact hs.elim
  | brk => exact hs.elim
  | cont => exact hs.elim
end Hl
namespace Hc
noncomputable section
open PySem PySem.W PySem.Calls PyProof.Rows HeadRun
/-! the head's one run, cut at statements of the top -/
def goS (st : SharedT → Thread → Option (SharedT × Thread)) (n0 : Nat) (ann : Option Value) : Nat → SharedT → Thread → Option (SharedT × Thread)
  | 0, s, t => some (s, t)
  | m + 1, s, t => match through t with
    | true => none
    | false => match stepOk n0 ann t with
      | false => none
      | true => match st s t with
        | some (s', t') => frS s' fun s' => goS st n0 ann m s' t'
        | none => none
theorem goS_go {st : SharedT → Thread → Option (SharedT × Thread)} {n0 : Nat} {ann : Option Value} {m : Nat} : ∀ {k : Nat} {s s' : SharedT} {t t' : Thread}, goS st n0 ann k s t = some (s', t') → goF st n0 ann (k + m) s t = goF st n0 ann m s' t'
  | 0, s, s', t, t', h => by
    have h1 : some (s, t) = some (s', t') := h
    cases h1
    rw [Nat.zero_add]
  | k + 1, s, s', t, t', h => by
    have h1 : (match through t with
      | true => none
      | false => match stepOk n0 ann t with
        | false => none
        | true => match st s t with
          | some (s', t') => frS s' fun s' => goS st n0 ann k s' t'
          | none => none) = some (s', t') := h
    rw [show k + 1 + m = (k + m) + 1 by omega]
    show (match through t with
      | true => some s
      | false => match stepOk n0 ann t with
        | false => none
        | true => match st s t with
          | some (s', t') => frS s' fun s' => goF st n0 ann (k + m) s' t'
          | none => none) = _
    cases ht : through t with
    | true =>
      rw [ht] at h1
      cases h1
    | false =>
      rw [ht] at h1
      cases hk : stepOk n0 ann t with
      | false =>
        rw [hk] at h1
        cases h1
      | true =>
        rw [hk] at h1
        cases hs : st s t with
        | none =>
          rw [hs] at h1
          cases h1
        | some r =>
          obtain ⟨s2, t2⟩ := r
          rw [hs] at h1
          have h3 : (frS s2 fun s' => goS st n0 ann k s' t2) = some (s', t') := h1
          rw [frS_eq] at h3
          show (frS s2 fun s' => goF st n0 ann (k + m) s' t2) = _
          rw [frS_eq]
          exact goS_go h3
theorem goF_mono {st : SharedT → Thread → Option (SharedT × Thread)} {n0 : Nat} {ann : Option Value} (j : Nat) : ∀ {k : Nat} {s r : SharedT} {t : Thread}, goF st n0 ann k s t = some r → goF st n0 ann (k + j) s t = some r
  | 0, _, _, _, h => by cases h
  | k + 1, s, r, t, h => by
    have h1 : (match through t with
      | true => some s
      | false => match stepOk n0 ann t with
        | false => none
        | true => match st s t with
          | some (s', t') => frS s' fun s' => goF st n0 ann k s' t'
          | none => none) = some r := h
    rw [show k + 1 + j = (k + j) + 1 by omega]
    show (match through t with
      | true => some s
      | false => match stepOk n0 ann t with
        | false => none
        | true => match st s t with
          | some (s', t') => frS s' fun s' => goF st n0 ann (k + j) s' t'
          | none => none) = some r
    cases ht : through t with
    | true =>
      rw [ht] at h1
      exact h1
    | false =>
      rw [ht] at h1
      cases hk : stepOk n0 ann t with
      | false =>
        rw [hk] at h1
        cases h1
      | true =>
        rw [hk] at h1
        cases hs : st s t with
        | none =>
          rw [hs] at h1
          cases h1
        | some q =>
          obtain ⟨s2, t2⟩ := q
          rw [hs] at h1
          have h3 : (frS s2 fun s' => goF st n0 ann k s' t2) = some r := h1
          rw [frS_eq] at h3
          show (frS s2 fun s' => goF st n0 ann (k + j) s' t2) = some r
          rw [frS_eq]
          exact goF_mono j h3
theorem nine {A B C D E F G I J : Type} {a a' : A} {b b' : B} {c c' : C} {d d' : D} {e e' : E} {f f' : F} {g g' : G} {i i' : I} {j j' : J} (ha : a = a') (hb : b = b') (hc : c = c') (hd : d = d') (he : e = e') (hf : f = f') (hg : g = g') (hi : i = i') (hj : j = j') : (a, b, c, d, e, f, g, i, j) = (a', b', c', d', e', f', g', i', j') := by rw [ha, hb, hc, hd, he, hf, hg, hi, hj]
/-- so many steps from the boot -/
def bootS (st : SharedT → Thread → Option (SharedT × Thread)) (k : Nat) (p : Program) (w : World) (os : OsState) : Option (Nat × SharedT × Thread) := match putAll (boot_heap w.params).objs.toList .nil 0 with
  | some (t, n) => frNat n fun n0 => (goS st n0 (bootAnn w) k (bootT w os (t, n0)) (topStub p)).map fun r => (n0, r.1, r.2)
  | none => none
theorem bootS_go {st : SharedT → Thread → Option (SharedT × Thread)} {k m M : Nat} {p : Program} {w : World} {os : OsState} {n0 : Nat} {s : SharedT} {t : Thread} (h : bootS st k p w os = some (n0, s, t)) (e : M = k + m) : endF st M p w os = goF st n0 (bootAnn w) m s t := by
  unfold bootS at h
  unfold endF
  cases q : putAll (boot_heap w.params).objs.toList .nil 0 with
  | none =>
    rw [q] at h
    cases h
  | some r =>
    obtain ⟨T, n⟩ := r
    rw [q] at h
    have h1 : (frNat n fun n0 => (goS st n0 (bootAnn w) k (bootT w os (T, n0)) (topStub p)).map fun r => (n0, r.1, r.2)) = some (n0, s, t) := h
    rw [frNat_eq] at h1
    show (frNat n fun n0 => goF st n0 (bootAnn w) M (bootT w os (T, n0)) (topStub p)) = _
    rw [frNat_eq]
    obtain ⟨⟨s2, t2⟩, h2, h3⟩ := Option.map_eq_some_iff.mp h1
    cases h3
    rw [e]
    exact goS_go h2
/-- what is left of the top at a statement -/
def thrOf (b : List Stmt) (env : Env) (c : Code) (p : Pos) (B : List Frame) : Thread := ⟨PySem.W.R.bindR (PySem.W.R.onRaiseR (PySem.W.Fast.tw12563942051412417395 b env) (PySem.W.Fast.tw9442747609961115081 env)) (fun f => Sem.pure (Fin.done f)), c, p, B⟩
open L2
abbrev s (x : String) : Str := Str.ofString x
abbrev r (a : Nat) : Value := .ref a
abbrev i (a : Nat) : Int := Int.ofNat a
abbrev u (x : String) (a : Nat) : Value := .str (Str.ofString x) a
abbrev e (p : Params) (x : String) (a : Nat) (v : Value) : DictEntry := ⟨PyData.keyHash p (Str.ofString x), .str (Str.ofString x) a, v⟩
abbrev dc (l : List DictEntry) (n : Nat) : Data := .dict l.toArray n
abbrev pg : Program := PySem.Challenge.rw_hourlanes_k60_least_and_greatest.row.prog
def tp (i : Nat) : Stmt := PySem.Challenge.pw_hourlanes_k60_least_and_greatest.main.body.getD i (.Pass ⟨0, 0, 0, 0⟩)
def envT : Env := { scope := pg.main.scope, locals := mainNs, globals := mainNs, cells := [], code := (r 13), frame := (.some 14) }
def codT : Code := Code.body (behindTheImports pg) envT
def frT : List Frame := [topFrame (@PySem.Pos.mk 0 0 0 0)]
def o3_1 (p : Params) : Obj := .mk (.type "dict") .none (dc [(e p "__name__" 165 (u "law_hourlanes_k60_least_and_greatest" 209)), (e p "__doc__" 166 .none), (e p "__package__" 167 .none), (e p "__loader__" 168 (.builtin "__main__.__loader__#opaque")), (e p "__spec__" 169 .none), (e p "__annotations__" 170 (r 6)), (e p "__builtins__" 171 (r 4)), (e p "__file__" 173 (u "/claim/cut.py" 172)), (e p "__cached__" 174 .none), (e p "least" 198 (r 21)), (e p "greatest" 208 (r 28)), (e p "_law_begun" 216 (r 33))] 12) #[]
def o11_1 (p : Params) : Obj := .mk (.type "tuple") .none (@PySem.Data.seq #[] 0) #[]
def o12_1 (p : Params) : Obj := .mk .none .none (@PySem.Data.fields (@List.toArray PySem.Value [(@PySem.Value.int (i 2) 0), (@PySem.Value.int (i 0) 0), (r 20), (@PySem.Value.int (i 12) 0), (@PySem.Value.int (i 0) 0), (r 27), (@PySem.Value.int (i 23) 0), (@PySem.Value.int (i 0) 0), (r 32)])) #[]
def o13_1 (p : Params) : Obj := .mk (.type "code") .none (@PySem.Data.fields (@List.toArray PySem.Value [(u "<module>" 182), (u "<module>" 183), (u "/claim/cut.py" 184), (@PySem.Value.int (i 1) 0), (@PySem.Value.int (i 0) 0), (@PySem.Value.int (i 0) 0), (@PySem.Value.int (i 0) 0), (@PySem.Value.int (i 0) 0), (r 11), (@PySem.Value.bool Bool.false), (@PySem.Value.int (i 181) 0), (r 12), .none, .none, .none, .none, (@PySem.Value.int (i 185) 0), (@PySem.Value.int (i 1) 0), (u "/claim/cut.py" 186)])) #[]
def o14_1 (p : Params) : Obj := .mk (.type "frame") .none PySem.Data.plain (@List.toArray (@Option PySem.Value) [(.some (r 13)), (.some (r 3)), (.some (r 3)), .none, (.some (u "__main__" 164)), .none, (.some (r 0))])
def o15_1 (p : Params) : Obj := .mk (.type "tuple") .none (@PySem.Data.seq #[] 0) #[]
def o16_1 (p : Params) : Obj := .mk .none .none (@PySem.Data.fields #[]) #[]
def o17_1 (p : Params) : Obj := .mk (.type "tuple") .none (@PySem.Data.seq (@List.toArray PySem.Value [(u "low" 192), (u "high" 193), (u "good" 194), (u "middle" 195)]) 0) #[]
def o18_1 (p : Params) : Obj := .mk (.type "tuple") .none (@PySem.Data.seq #[] 0) #[]
def o19_1 (p : Params) : Obj := .mk .none .none (.func (.mk (s "least") (s "least") (defArgs (tp 1)) (.stmts (defBody (tp 1))) (defScope (tp 1)) 0 [] .none .none .none .none .none .none .none 0)) #[]
def o20_1 (p : Params) : Obj := .mk (.type "code") .none (@PySem.Data.fields (@List.toArray PySem.Value [(u "least" 189), (u "least" 190), (u "/claim/cut.py" 191), (@PySem.Value.int (i 2) 0), (@PySem.Value.int (i 3) 0), (@PySem.Value.int (i 0) 0), (@PySem.Value.int (i 0) 0), (@PySem.Value.int (i 3) 0), (r 15), (@PySem.Value.bool Bool.true), (@PySem.Value.int (i 181) 0), (r 16), .none, (r 17), (r 18), (r 19), (@PySem.Value.int (i 196) 0), (@PySem.Value.int (i 2) 0), (u "/claim/cut.py" 197)])) #[]
def o21_1 (p : Params) : Obj := .mk (.type "function") .none (.func (.mk (s "least") (s "least") (defArgs (tp 1)) (.stmts (defBody (tp 1))) (defScope (tp 1)) 3 [] .none .none .none (u "hourlanes.limits" 187) .none (r 20) .none 0)) #[]
def o22_1 (p : Params) : Obj := .mk (.type "tuple") .none (@PySem.Data.seq #[] 0) #[]
def o23_1 (p : Params) : Obj := .mk .none .none (@PySem.Data.fields #[]) #[]
def o24_1 (p : Params) : Obj := .mk (.type "tuple") .none (@PySem.Data.seq (@List.toArray PySem.Value [(u "low" 202), (u "high" 203), (u "good" 204), (u "middle" 205)]) 0) #[]
def o25_1 (p : Params) : Obj := .mk (.type "tuple") .none (@PySem.Data.seq #[] 0) #[]
def o26_1 (p : Params) : Obj := .mk .none .none (.func (.mk (s "greatest") (s "greatest") (defArgs (tp 2)) (.stmts (defBody (tp 2))) (defScope (tp 2)) 0 [] .none .none .none .none .none .none .none 0)) #[]
def o27_1 (p : Params) : Obj := .mk (.type "code") .none (@PySem.Data.fields (@List.toArray PySem.Value [(u "greatest" 199), (u "greatest" 200), (u "/claim/cut.py" 201), (@PySem.Value.int (i 12) 0), (@PySem.Value.int (i 3) 0), (@PySem.Value.int (i 0) 0), (@PySem.Value.int (i 0) 0), (@PySem.Value.int (i 3) 0), (r 22), (@PySem.Value.bool Bool.true), (@PySem.Value.int (i 181) 0), (r 23), .none, (r 24), (r 25), (r 26), (@PySem.Value.int (i 206) 0), (@PySem.Value.int (i 12) 0), (u "/claim/cut.py" 207)])) #[]
def o28_1 (p : Params) : Obj := .mk (.type "function") .none (.func (.mk (s "greatest") (s "greatest") (defArgs (tp 2)) (.stmts (defBody (tp 2))) (defScope (tp 2)) 3 [] .none .none .none (u "hourlanes.limits" 187) .none (r 27) .none 0)) #[]
def o29_1 (p : Params) : Obj := .mk (.type "tuple") .none (@PySem.Data.seq #[] 0) #[]
def o30_1 (p : Params) : Obj := .mk .none .none (@PySem.Data.fields #[]) #[]
def o31_1 (p : Params) : Obj := .mk .none .none (.func (.mk (s "_law_begun") (s "_law_begun") (defArgs (tp 4)) (.stmts (defBody (tp 4))) (defScope (tp 4)) 0 [] .none .none .none .none .none .none .none 0)) #[]
def o32_1 (p : Params) : Obj := .mk (.type "code") .none (@PySem.Data.fields (@List.toArray PySem.Value [(u "_law_begun" 211), (u "_law_begun" 212), (u "/claim/cut.py" 213), (@PySem.Value.int (i 23) 0), (@PySem.Value.int (i 1) 0), (@PySem.Value.int (i 0) 0), (@PySem.Value.int (i 0) 0), (@PySem.Value.int (i 3) 0), (r 29), (@PySem.Value.bool Bool.true), (@PySem.Value.int (i 181) 0), (r 30), .none, .none, .none, (r 31), (@PySem.Value.int (i 214) 0), (@PySem.Value.int (i 23) 0), (u "/claim/cut.py" 215)])) #[]
def o33_1 (p : Params) : Obj := .mk (.type "function") .none (.func (.mk (s "_law_begun") (s "_law_begun") (defArgs (tp 4)) (.stmts (defBody (tp 4))) (defScope (tp 4)) 3 [] .none .none .none (u "law_hourlanes_k60_least_and_greatest" 209) .none (r 32) .none 0)) #[]
def t1_0 (p : Params) : BT := (.node (o15_1 p) (.node (o31_1 p) .nil .nil) .nil)
def t1_1 (p : Params) : BT := (.node (o16_1 p) (.node (o32_1 p) .nil .nil) .nil)
def t1_2 (p : Params) : BT := (.node (o17_1 p) (.node (o33_1 p) .nil .nil) .nil)
def t1_3 (p : Params) : BT := (.node (o18_1 p) .nil .nil)
def t1_4 (p : Params) : BT := (.node (o19_1 p) .nil .nil)
def t1_5 (p : Params) : BT := (.node (o20_1 p) .nil .nil)
def t1_6 (p : Params) : BT := (.node (o21_1 p) .nil .nil)
def t1_7 (p : Params) : BT := (.node (o22_1 p) .nil .nil)
def t1_8 (p : Params) : BT := (.node (o23_1 p) .nil .nil)
def t1_9 (p : Params) : BT := (.node (o24_1 p) .nil .nil)
def t1_10 (p : Params) : BT := (.node (o25_1 p) .nil .nil)
def t1_11 (p : Params) : BT := (.node (o26_1 p) .nil .nil)
def t1_12 (p : Params) : BT := (.node (o27_1 p) .nil .nil)
def t1_13 (p : Params) : BT := (.node (o28_1 p) .nil .nil)
def t1_14 (p : Params) : BT := (.node (o29_1 p) .nil .nil)
def t1_15 (p : Params) : BT := (.node (o30_1 p) .nil .nil)
def tree1 (p : Params) : BT := (.node (boot_o_0 p) (.node (boot_o_1 p) (.node (o3_1 p) (.node (boot_o_7 p) (t1_0 p) (t1_8 p)) (.node (o11_1 p) (t1_4 p) (t1_12 p))) (.node (boot_o_5 p) (.node (boot_o_9 p) (t1_2 p) (t1_10 p)) (.node (o13_1 p) (t1_6 p) (t1_14 p)))) (.node (boot_o_2 p) (.node (boot_o_4 p) (.node (boot_o_8 p) (t1_1 p) (t1_9 p)) (.node (o12_1 p) (t1_5 p) (t1_13 p))) (.node (boot_o_6 p) (.node (boot_o_10 p) (t1_3 p) (t1_11 p)) (.node (o14_1 p) (t1_7 p) (t1_15 p)))))
def st1 (w : World) (os : OsState) : SharedT := ⟨tree1 w.params, 34, (@PySem.Life.mk [] [] [] 0 [] [] Bool.false #[] [] 0 Bool.false Bool.false Bool.false (i 0) [(i 2000), (i 10), (i 10)] Bool.false 0 Bool.true [] [] 0 Bool.false), #[], (@PySem.Drawn.mk 0 0 0 0), 217, os⟩
def th1 : Thread := thrOf (pg.main.body.drop 5) envT codT (@PySem.Pos.mk 23 0 24 191) frT
theorem run1 (w : World) (os : OsState) : bootS (stepQ (denQ tabQ) pg w) 120 pg w os = some (11, st1 w os, th1) := by kernel_rfl
def o3_2 (p : Params) : Obj := .mk (.type "dict") .none (dc [(e p "__name__" 165 (u "law_hourlanes_k60_least_and_greatest" 209)), (e p "__doc__" 166 .none), (e p "__package__" 167 .none), (e p "__loader__" 168 (.builtin "__main__.__loader__#opaque")), (e p "__spec__" 169 .none), (e p "__annotations__" 170 (r 6)), (e p "__builtins__" 171 (r 4)), (e p "__file__" 173 (u "/claim/cut.py" 172)), (e p "__cached__" 174 .none), (e p "least" 198 (r 21)), (e p "greatest" 208 (r 28)), (e p "_law_begun" 216 (r 33)), (e p "_law_take" 229 (r 40)), (e p "_law_pick" 237 (r 47)), (e p "_law_asked" 250 (r 54)), (e p "_law_right" 256 (r 59)), (e p "law" 270 (r 66))] 17) #[]
def o12_2 (p : Params) : Obj := .mk .none .none (@PySem.Data.fields (@List.toArray PySem.Value [(@PySem.Value.int (i 2) 0), (@PySem.Value.int (i 0) 0), (r 20), (@PySem.Value.int (i 12) 0), (@PySem.Value.int (i 0) 0), (r 27), (@PySem.Value.int (i 23) 0), (@PySem.Value.int (i 0) 0), (r 32), (@PySem.Value.int (i 25) 0), (@PySem.Value.int (i 0) 0), (r 39), (@PySem.Value.int (i 39) 0), (@PySem.Value.int (i 0) 0), (r 46), (@PySem.Value.int (i 41) 0), (@PySem.Value.int (i 0) 0), (r 53), (@PySem.Value.int (i 47) 0), (@PySem.Value.int (i 0) 0), (r 58), (@PySem.Value.int (i 59) 0), (@PySem.Value.int (i 0) 0), (r 65)])) #[]
def o34_2 (p : Params) : Obj := .mk (.type "tuple") .none (@PySem.Data.seq #[] 0) #[]
def o35_2 (p : Params) : Obj := .mk .none .none (@PySem.Data.fields #[]) #[]
def o36_2 (p : Params) : Obj := .mk (.type "tuple") .none (@PySem.Data.seq (@List.toArray PySem.Value [(u "_law_state" 220), (u "_law_many" 221), (u "_law_found" 222), (u "_law_turn" 223), (u "_law_cell" 224), (u "_law_seed" 225), (u "_law_mixed" 226)]) 0) #[]
def o37_2 (p : Params) : Obj := .mk (.type "tuple") .none (@PySem.Data.seq #[] 0) #[]
def o38_2 (p : Params) : Obj := .mk .none .none (.func (.mk (s "_law_take") (s "_law_take") (defArgs (tp 5)) (.stmts (defBody (tp 5))) (defScope (tp 5)) 0 [] .none .none .none .none .none .none .none 0)) #[]
def o39_2 (p : Params) : Obj := .mk (.type "code") .none (@PySem.Data.fields (@List.toArray PySem.Value [(u "_law_take" 217), (u "_law_take" 218), (u "/claim/cut.py" 219), (@PySem.Value.int (i 25) 0), (@PySem.Value.int (i 2) 0), (@PySem.Value.int (i 0) 0), (@PySem.Value.int (i 0) 0), (@PySem.Value.int (i 3) 0), (r 34), (@PySem.Value.bool Bool.true), (@PySem.Value.int (i 181) 0), (r 35), .none, (r 36), (r 37), (r 38), (@PySem.Value.int (i 227) 0), (@PySem.Value.int (i 25) 0), (u "/claim/cut.py" 228)])) #[]
def o40_2 (p : Params) : Obj := .mk (.type "function") .none (.func (.mk (s "_law_take") (s "_law_take") (defArgs (tp 5)) (.stmts (defBody (tp 5))) (defScope (tp 5)) 3 [] .none .none .none (u "law_hourlanes_k60_least_and_greatest" 209) .none (r 39) .none 0)) #[]
def o41_2 (p : Params) : Obj := .mk (.type "tuple") .none (@PySem.Data.seq #[] 0) #[]
def o42_2 (p : Params) : Obj := .mk .none .none (@PySem.Data.fields #[]) #[]
def o43_2 (p : Params) : Obj := .mk (.type "tuple") .none (@PySem.Data.seq (@List.toArray PySem.Value [(u "_law_state" 233), (u "_law_some" 234)]) 0) #[]
def o44_2 (p : Params) : Obj := .mk (.type "tuple") .none (@PySem.Data.seq #[] 0) #[]
def o45_2 (p : Params) : Obj := .mk .none .none (.func (.mk (s "_law_pick") (s "_law_pick") (defArgs (tp 6)) (.stmts (defBody (tp 6))) (defScope (tp 6)) 0 [] .none .none .none .none .none .none .none 0)) #[]
def o46_2 (p : Params) : Obj := .mk (.type "code") .none (@PySem.Data.fields (@List.toArray PySem.Value [(u "_law_pick" 230), (u "_law_pick" 231), (u "/claim/cut.py" 232), (@PySem.Value.int (i 39) 0), (@PySem.Value.int (i 2) 0), (@PySem.Value.int (i 0) 0), (@PySem.Value.int (i 0) 0), (@PySem.Value.int (i 3) 0), (r 41), (@PySem.Value.bool Bool.true), (@PySem.Value.int (i 181) 0), (r 42), .none, (r 43), (r 44), (r 45), (@PySem.Value.int (i 235) 0), (@PySem.Value.int (i 39) 0), (u "/claim/cut.py" 236)])) #[]
def o47_2 (p : Params) : Obj := .mk (.type "function") .none (.func (.mk (s "_law_pick") (s "_law_pick") (defArgs (tp 6)) (.stmts (defBody (tp 6))) (defScope (tp 6)) 3 [] .none .none .none (u "law_hourlanes_k60_least_and_greatest" 209) .none (r 46) .none 0)) #[]
def o48_2 (p : Params) : Obj := .mk (.type "tuple") .none (@PySem.Data.seq #[] 0) #[]
def o49_2 (p : Params) : Obj := .mk .none .none (@PySem.Data.fields #[]) #[]
def o50_2 (p : Params) : Obj := .mk (.type "tuple") .none (@PySem.Data.seq (@List.toArray PySem.Value [(u "_law_asked_here" 241), (u "_law_turn" 242), (u "_law_up" 243), (u "_law_good" 244)]) 0) #[]
def o51_2 (p : Params) : Obj := .mk (.type "tuple") .none (@PySem.Data.seq (@List.toArray PySem.Value [(u "_law_asked_here" 245), (u "_law_turn" 246), (u "_law_up" 247)]) 0) #[]
def o52_2 (p : Params) : Obj := .mk .none .none (.func (.mk (s "_law_asked") (s "_law_asked") (defArgs (tp 7)) (.stmts (defBody (tp 7))) (defScope (tp 7)) 0 [] .none .none .none .none .none .none .none 0)) #[]
def o53_2 (p : Params) : Obj := .mk (.type "code") .none (@PySem.Data.fields (@List.toArray PySem.Value [(u "_law_asked" 238), (u "_law_asked" 239), (u "/claim/cut.py" 240), (@PySem.Value.int (i 41) 0), (@PySem.Value.int (i 3) 0), (@PySem.Value.int (i 0) 0), (@PySem.Value.int (i 0) 0), (@PySem.Value.int (i 3) 0), (r 48), (@PySem.Value.bool Bool.true), (@PySem.Value.int (i 181) 0), (r 49), .none, (r 50), (r 51), (r 52), (@PySem.Value.int (i 248) 0), (@PySem.Value.int (i 41) 0), (u "/claim/cut.py" 249)])) #[]
def o54_2 (p : Params) : Obj := .mk (.type "function") .none (.func (.mk (s "_law_asked") (s "_law_asked") (defArgs (tp 7)) (.stmts (defBody (tp 7))) (defScope (tp 7)) 3 [] .none .none .none (u "law_hourlanes_k60_least_and_greatest" 209) .none (r 53) .none 0)) #[]
def o55_2 (p : Params) : Obj := .mk (.type "tuple") .none (@PySem.Data.seq #[] 0) #[]
def o56_2 (p : Params) : Obj := .mk .none .none (@PySem.Data.fields #[]) #[]
def o57_2 (p : Params) : Obj := .mk .none .none (.func (.mk (s "_law_right") (s "_law_right") (defArgs (tp 8)) (.stmts (defBody (tp 8))) (defScope (tp 8)) 0 [] .none .none .none .none .none .none .none 0)) #[]
def o58_2 (p : Params) : Obj := .mk (.type "code") .none (@PySem.Data.fields (@List.toArray PySem.Value [(u "_law_right" 251), (u "_law_right" 252), (u "/claim/cut.py" 253), (@PySem.Value.int (i 47) 0), (@PySem.Value.int (i 3) 0), (@PySem.Value.int (i 0) 0), (@PySem.Value.int (i 0) 0), (@PySem.Value.int (i 3) 0), (r 55), (@PySem.Value.bool Bool.true), (@PySem.Value.int (i 181) 0), (r 56), .none, .none, .none, (r 57), (@PySem.Value.int (i 254) 0), (@PySem.Value.int (i 47) 0), (u "/claim/cut.py" 255)])) #[]
def o59_2 (p : Params) : Obj := .mk (.type "function") .none (.func (.mk (s "_law_right") (s "_law_right") (defArgs (tp 8)) (.stmts (defBody (tp 8))) (defScope (tp 8)) 3 [] .none .none .none (u "law_hourlanes_k60_least_and_greatest" 209) .none (r 58) .none 0)) #[]
def o60_2 (p : Params) : Obj := .mk (.type "tuple") .none (@PySem.Data.seq #[] 0) #[]
def o61_2 (p : Params) : Obj := .mk .none .none (@PySem.Data.fields #[]) #[]
def o62_2 (p : Params) : Obj := .mk (.type "tuple") .none (@PySem.Data.seq (@List.toArray PySem.Value [(u "_law_script" 260), (u "_law_state" 261), (u "_law_turn" 262), (u "_law_wide" 263), (u "_law_low" 264), (u "_law_high" 265), (u "_law_edge" 266), (u "_law_far" 267)]) 0) #[]
def o63_2 (p : Params) : Obj := .mk (.type "tuple") .none (@PySem.Data.seq #[] 0) #[]
def o64_2 (p : Params) : Obj := .mk .none .none (.func (.mk (s "law") (s "law") (defArgs (tp 9)) (.stmts (defBody (tp 9))) (defScope (tp 9)) 0 [] .none .none .none .none .none .none .none 0)) #[]
def o65_2 (p : Params) : Obj := .mk (.type "code") .none (@PySem.Data.fields (@List.toArray PySem.Value [(u "law" 257), (u "law" 258), (u "/claim/cut.py" 259), (@PySem.Value.int (i 59) 0), (@PySem.Value.int (i 1) 0), (@PySem.Value.int (i 0) 0), (@PySem.Value.int (i 0) 0), (@PySem.Value.int (i 3) 0), (r 60), (@PySem.Value.bool Bool.true), (@PySem.Value.int (i 181) 0), (r 61), .none, (r 62), (r 63), (r 64), (@PySem.Value.int (i 268) 0), (@PySem.Value.int (i 59) 0), (u "/claim/cut.py" 269)])) #[]
def o66_2 (p : Params) : Obj := .mk (.type "function") .none (.func (.mk (s "law") (s "law") (defArgs (tp 9)) (.stmts (defBody (tp 9))) (defScope (tp 9)) 3 [] .none .none .none (u "law_hourlanes_k60_least_and_greatest" 209) .none (r 65) .none 0)) #[]
def t2_0 (p : Params) : BT := (.node (o15_1 p) (.node (o31_1 p) (.node (o63_2 p) .nil .nil) .nil) (.node (o47_2 p) .nil .nil))
def t2_1 (p : Params) : BT := (.node (o16_1 p) (.node (o32_1 p) (.node (o64_2 p) .nil .nil) .nil) (.node (o48_2 p) .nil .nil))
def t2_2 (p : Params) : BT := (.node (o17_1 p) (.node (o33_1 p) (.node (o65_2 p) .nil .nil) .nil) (.node (o49_2 p) .nil .nil))
def t2_3 (p : Params) : BT := (.node (o18_1 p) (.node (o34_2 p) (.node (o66_2 p) .nil .nil) .nil) (.node (o50_2 p) .nil .nil))
def t2_4 (p : Params) : BT := (.node (o19_1 p) (.node (o35_2 p) .nil .nil) (.node (o51_2 p) .nil .nil))
def t2_5 (p : Params) : BT := (.node (o20_1 p) (.node (o36_2 p) .nil .nil) (.node (o52_2 p) .nil .nil))
def t2_6 (p : Params) : BT := (.node (o21_1 p) (.node (o37_2 p) .nil .nil) (.node (o53_2 p) .nil .nil))
def t2_7 (p : Params) : BT := (.node (o22_1 p) (.node (o38_2 p) .nil .nil) (.node (o54_2 p) .nil .nil))
def t2_8 (p : Params) : BT := (.node (o23_1 p) (.node (o39_2 p) .nil .nil) (.node (o55_2 p) .nil .nil))
def t2_9 (p : Params) : BT := (.node (o24_1 p) (.node (o40_2 p) .nil .nil) (.node (o56_2 p) .nil .nil))
def t2_10 (p : Params) : BT := (.node (o25_1 p) (.node (o41_2 p) .nil .nil) (.node (o57_2 p) .nil .nil))
def t2_11 (p : Params) : BT := (.node (o26_1 p) (.node (o42_2 p) .nil .nil) (.node (o58_2 p) .nil .nil))
def t2_12 (p : Params) : BT := (.node (o27_1 p) (.node (o43_2 p) .nil .nil) (.node (o59_2 p) .nil .nil))
def t2_13 (p : Params) : BT := (.node (o28_1 p) (.node (o44_2 p) .nil .nil) (.node (o60_2 p) .nil .nil))
def t2_14 (p : Params) : BT := (.node (o29_1 p) (.node (o45_2 p) .nil .nil) (.node (o61_2 p) .nil .nil))
def t2_15 (p : Params) : BT := (.node (o30_1 p) (.node (o46_2 p) .nil .nil) (.node (o62_2 p) .nil .nil))
def tree2 (p : Params) : BT := (.node (boot_o_0 p) (.node (boot_o_1 p) (.node (o3_2 p) (.node (boot_o_7 p) (t2_0 p) (t2_8 p)) (.node (o11_1 p) (t2_4 p) (t2_12 p))) (.node (boot_o_5 p) (.node (boot_o_9 p) (t2_2 p) (t2_10 p)) (.node (o13_1 p) (t2_6 p) (t2_14 p)))) (.node (boot_o_2 p) (.node (boot_o_4 p) (.node (boot_o_8 p) (t2_1 p) (t2_9 p)) (.node (o12_2 p) (t2_5 p) (t2_13 p))) (.node (boot_o_6 p) (.node (boot_o_10 p) (t2_3 p) (t2_11 p)) (.node (o14_1 p) (t2_7 p) (t2_15 p)))))
def st2 (w : World) (os : OsState) : SharedT := ⟨tree2 w.params, 67, (@PySem.Life.mk [] [] [] 0 [] [] Bool.false #[] [] 0 Bool.false Bool.false Bool.false (i 0) [(i 2000), (i 10), (i 10)] Bool.false 0 Bool.true [] [] 0 Bool.false), #[], (@PySem.Drawn.mk 0 0 0 0), 271, os⟩
def ls0 (p : Params) : List Obj := [boot_o_0 p, boot_o_1 p, boot_o_2 p, o3_2 p, boot_o_4 p, boot_o_5 p, boot_o_6 p, boot_o_7 p, boot_o_8 p, boot_o_9 p, boot_o_10 p, o11_1 p, o12_2 p, o13_1 p, o14_1 p, o15_1 p, o16_1 p, o17_1 p, o18_1 p, o19_1 p, o20_1 p, o21_1 p, o22_1 p, o23_1 p, o24_1 p, o25_1 p, o26_1 p, o27_1 p, o28_1 p, o29_1 p, o30_1 p, o31_1 p, o32_1 p, o33_1 p, o34_2 p, o35_2 p, o36_2 p, o37_2 p, o38_2 p, o39_2 p, o40_2 p, o41_2 p, o42_2 p, o43_2 p, o44_2 p, o45_2 p, o46_2 p, o47_2 p, o48_2 p, o49_2 p, o50_2 p, o51_2 p, o52_2 p, o53_2 p, o54_2 p, o55_2 p, o56_2 p, o57_2 p, o58_2 p, o59_2 p]
def ls1 (p : Params) : List Obj := [o60_2 p, o61_2 p, o62_2 p, o63_2 p, o64_2 p, o65_2 p, o66_2 p]
def lstE (p : Params) : List Obj := ls0 p ++ (ls1 p)
def shE (w : World) (os : OsState) : Shared := ⟨⟨(lstE w.params).toArray, (@PySem.Life.mk [] [] [] 0 [] [] Bool.false #[] [] 0 Bool.false Bool.false Bool.false (i 0) [(i 2000), (i 10), (i 10)] Bool.false 0 Bool.true [] [] 0 Bool.false)⟩, #[], (@PySem.Drawn.mk 0 0 0 0), 271, os⟩
theorem absE (w : World) (os : OsState) : (st2 w os).abs = shE w os := by kernel_rfl
theorem runE (w : World) (os : OsState) : goF (stepQ (denQ tabQ) pg w) 11 (bootAnn w) 164 (st1 w os) th1 = some (st2 w os) := by kernel_rfl
theorem chain {M m : Nat} (w : World) (os : OsState) (h : M = 120 + m) : endF (stepQ (denQ tabQ) pg w) M pg w os = goF (stepQ (denQ tabQ) pg w) 11 (bootAnn w) (0 + m) (st1 w os) th1 := (bootS_go (k := 120) (m := 0 + m) (run1 w os) (by omega))
theorem cut {α β γ : Type} {M : Nat} {G1 : Shared → α} {G2 : Shared → β} {G3 : SharedT → γ} {a : α} {b : β} {c : γ} (w : World) (os : OsState) (h : Nat.ble 284 M = true) (z1 : G1 (shE w os) = a) (z2 : G2 (shE w os) = b) (z3 : G3 (st2 w os) = c) : (endF (stepQ (denQ tabQ) pg w) M pg w os).map (fun s => (G1 s.abs, G2 s.abs, G3 s)) = some (a, b, c) := by
  rw [chain (m := (M - 284) + 164) w os (by have := Nat.le_of_ble_eq_true h; omega), show 0 + ((M - 284) + 164) = 164 + (M - 284) by omega, goF_mono (M - 284) (runE w os)]
  show some (G1 (st2 w os).abs, G2 (st2 w os).abs, G3 (st2 w os)) = _
  rw [absE, z1, z2, z3]
end
end Hc
namespace Lw
open PySem L2 Hl
/-! ### the steps of a walk by data -/
local macro_rules | `(tactic| walk_at "lo") => `(tactic| first | assumption | exact LoP.toNmP (by assumption))
local macro_rules | `(tactic| walk_at "e1") => `(tactic| first
  | (refine idName ?_; first | refine de_name (by walk_at "lo") (by rfl) ?_ | refine de_gint (by assumption) ?_ | refine de_gstr (by assumption) ?_ | walk_at "tyn" | refine de_gclsP (by assumption) (by assumption) ?_)
  | (refine idCst ?_; first | refine de_int ?_ | refine de_str ?_ | refine de_bl ?_ | refine de_non ?_)
  | (refine idBin ?_; first | refine de_repD ?_ | refine de_add ?_ | refine de_sub ?_ | refine de_mul ?_ | refine de_div ?_ | refine de_mod ?_ | refine de_pow ?_)
  | (refine idCmp ?_; first | refine de_lt ?_ | refine de_le ?_ | refine de_gt ?_ | refine de_ge ?_ | refine de_eq (by assumption) ?_ | refine de_ne (by assumption) ?_ | refine de_isB ?_ | refine de_is ?_ | refine de_isnotB ?_ | refine de_isnot ?_ | refine de_in (by assumption) ?_ | refine de_notin (by assumption) ?_ | refine de_le2C ?_ | refine de_le2 ?_)
  | refine de_rev ?_ | refine de_slice ?_
  | refine de_ix (by assumption) ?_
  | (refine idCallN ?_; first | walk_at "call" | refine de_len (by assumption) ?_ | refine de_min2 (by assumption) (by assumption) ?_ | refine de_min3 (by assumption) (by assumption) ?_ | refine de_max2 (by assumption) (by assumption) ?_ | refine de_isiV (by assumption) ?_ | refine de_sum (by assumption) (by assumption) ?_ | refine de_list (by assumption) ?_ | refine de_tuple (by assumption) ?_ | refine de_maxDef (by assumption) (by assumption) ?_ (un64 (by assumption)) | refine de_minL (by assumption) (by assumption) ?_ | refine de_maxL (by assumption) (by assumption) ?_ | refine de_all (by assumption) (by assumption) ?_)
  | (refine idAttr ?_; refine de_fld ?_)
  | (refine idCallA ?_; first | refine de_append ?_ | refine de_insert ?_ | refine de_pop ?_ | walk_at "bm" | refine de_mU (by assumption) ?_)
  | refine de_and ?_ | refine de_or ?_ | refine de_not ?_ | refine de_one ?_ | refine de_if ?_ | refine de_neg ?_
  | refine de_tup ?_ | refine de_lst ?_)
open PyProof.Rows in
local macro_rules | `(tactic| walk_at "tyn") => `(tactic| first | refine de_tyN (T := "int") (by assumption) boot_int ?_ | refine de_tyN (T := "ValueError") (by assumption) (by decide +kernel) ?_ | refine de_tyN (T := "str") (by assumption) (by decide +kernel) ?_ | refine de_tyN (T := "bool") (by assumption) boot_bool ?_ | refine de_tyN (T := "list") (by assumption) boot_list ?_ | refine de_tyN (T := "tuple") (by assumption) boot_tuple ?_)
local macro_rules | `(tactic| walk_at "clsv") => `(tactic| first | exact .own _ | exact .ty _)
local macro_rules | `(tactic| walk_at "stf") => `(tactic| fail "no rule")
local macro_rules | `(tactic| walk_at "cl") => `(tactic| fail "no callee")
local macro_rules | `(tactic| walk_at "call") => `(tactic| first | refine de_call (by assumption) (by assumption) (by decide) (by assumption) ?_ | refine de_callK (by assumption) (by assumption) (by decide) (by assumption) ?_ | refine de_fS (by assumption) (by assumption) (by decide) (by assumption) (by walk_at "lets") ?_ (by walk_at "pla") | refine de_kS 0 (by assumption) (by assumption) (by decide) (by assumption) (by walk_at "lets") ?_ (by walk_at "pla"))
local macro_rules | `(tactic| walk_at "lets") => `(tactic| first | exact lets_at (by assumption) | exact lets_no)
local macro_rules | `(tactic| walk_at "pla") => `(tactic| first | exact rfl | exact ⟨rfl, rfl, rfl⟩ | exact ⟨rfl, rfl, rfl, rfl⟩)
local macro_rules | `(tactic| walk_at "bm") => `(tactic| first | refine de_dget2 (by assumption) ?_)
local macro_rules | `(tactic| walk_at "fld") => `(tactic| first | refine fld_v (by assumption) rfl ?_ | refine fld_x (by assumption) rfl ?_ | refine fld_c 0 rfl (by assumption) rfl ?_ | refine fld_c 1 rfl (by assumption) rfl ?_ | refine fld_c 2 rfl (by assumption) rfl ?_ | refine fld_c 3 rfl (by assumption) rfl ?_ | refine fld_c 4 rfl (by assumption) rfl ?_ | refine fld_c 5 rfl (by assumption) rfl ?_ | refine fld_c 6 rfl (by assumption) rfl ?_ | refine fld_c 7 rfl (by assumption) rfl ?_ | refine fld_c 8 rfl (by assumption) rfl ?_ | refine fld_h 0 rfl (by assumption) rfl ?_ | refine fld_h 1 rfl (by assumption) rfl ?_ | refine fld_h 2 rfl (by assumption) rfl ?_ | refine fld_h 3 rfl (by assumption) rfl ?_ | refine fld_h 4 rfl (by assumption) rfl ?_ | refine fld_p 0 rfl (by assumption) (by assumption) rfl ?_ | refine fld_p 1 rfl (by assumption) (by assumption) rfl ?_ | refine fld_p 2 rfl (by assumption) (by assumption) rfl ?_ | refine fld_p 3 rfl (by assumption) (by assumption) rfl ?_)
local macro_rules | `(tactic| walk_at "mt") => `(tactic| first | refine mt_vS (by assumption) (by decide) (by walk_at "lets") (by walk_at "pla") (by rfl) ?_ | refine mt_cS 0 rfl (by assumption) (by decide) (by walk_at "lets") (by walk_at "pla") (by rfl) ?_ | refine mt_cS 1 rfl (by assumption) (by decide) (by walk_at "lets") (by walk_at "pla") (by rfl) ?_ | refine mt_cS 2 rfl (by assumption) (by decide) (by walk_at "lets") (by walk_at "pla") (by rfl) ?_ | refine mt_cS 3 rfl (by assumption) (by decide) (by walk_at "lets") (by walk_at "pla") (by rfl) ?_ | refine mt_cS 4 rfl (by assumption) (by decide) (by walk_at "lets") (by walk_at "pla") (by rfl) ?_ | refine mt_cS 5 rfl (by assumption) (by decide) (by walk_at "lets") (by walk_at "pla") (by rfl) ?_ | refine mt_cS 6 rfl (by assumption) (by decide) (by walk_at "lets") (by walk_at "pla") (by rfl) ?_ | refine mt_cS 7 rfl (by assumption) (by decide) (by walk_at "lets") (by walk_at "pla") (by rfl) ?_ | refine mt_cS 8 rfl (by assumption) (by decide) (by walk_at "lets") (by walk_at "pla") (by rfl) ?_ | refine mt_cS 9 rfl (by assumption) (by decide) (by walk_at "lets") (by walk_at "pla") (by rfl) ?_ | refine mt_cS 10 rfl (by assumption) (by decide) (by walk_at "lets") (by walk_at "pla") (by rfl) ?_ | refine mt_hS 0 rfl (by assumption) (by decide) (by walk_at "lets") (by walk_at "pla") (by rfl) ?_ | refine mt_hS 1 rfl (by assumption) (by decide) (by walk_at "lets") (by walk_at "pla") (by rfl) ?_ | refine mt_hS 2 rfl (by assumption) (by decide) (by walk_at "lets") (by walk_at "pla") (by rfl) ?_ | refine mt_hS 3 rfl (by assumption) (by decide) (by walk_at "lets") (by walk_at "pla") (by rfl) ?_ | refine mt_hS 4 rfl (by assumption) (by decide) (by walk_at "lets") (by walk_at "pla") (by rfl) ?_ | refine mt_pS 0 rfl (by assumption) (by assumption) (by decide) (by walk_at "lets") (by walk_at "pla") (by rfl) ?_ | refine mt_pS 1 rfl (by assumption) (by assumption) (by decide) (by walk_at "lets") (by walk_at "pla") (by rfl) ?_ | refine mt_pS 2 rfl (by assumption) (by assumption) (by decide) (by walk_at "lets") (by walk_at "pla") (by rfl) ?_ | refine mt_pS 3 rfl (by assumption) (by assumption) (by decide) (by walk_at "lets") (by walk_at "pla") (by rfl) ?_)
local macro_rules | `(tactic| walk_at "ar") => `(tactic| first | refine ar_id rfl ?_ | refine ar_idM rfl ?_ | refine ar_idN rfl (fun _ => ?_) | refine ar_gM rfl rfl ?_ | refine ar_gN rfl rfl (fun _ => ?_) | refine ar_g rfl rfl ?_)
local macro_rules | `(tactic| walk_at "nef") => `(tactic| exact eq_false (by decide))
local macro_rules | `(tactic| walk_at "stf0") => `(tactic| first | refine sf_n0 0 rfl (by assumption) ?_ | refine sf_n1 0 rfl (by assumption) (by walk_at "nef") ?_ | refine sf_n2 0 rfl (by assumption) (by walk_at "nef") (by walk_at "nef") ?_ | refine sf_n3 0 rfl (by assumption) (by walk_at "nef") (by walk_at "nef") (by walk_at "nef") ?_ | refine sf_n4 0 rfl (by assumption) (by walk_at "nef") (by walk_at "nef") (by walk_at "nef") (by walk_at "nef") ?_ | refine sf_n5 0 rfl (by assumption) (by walk_at "nef") (by walk_at "nef") (by walk_at "nef") (by walk_at "nef") (by walk_at "nef") ?_)
local macro_rules | `(tactic| walk_at "pow") => `(tactic| first | refine p10_1 ?_ | refine p10_2 ?_ | refine p10_3 ?_ | refine p10_4 ?_ | refine p10_5 ?_ | refine p10_6 ?_ | refine p10_7 ?_ | refine p10_8 ?_ | refine p10_9 ?_ | refine p10_10 ?_ | refine p10_11 ?_ | refine p10_12 ?_ | refine p10_13 ?_ | refine p10_14 ?_ | refine p10_15 ?_ | refine p10_16 ?_ | refine p10_17 ?_ | refine p10_18 ?_ | refine p10_19 ?_ | refine p10_20 ?_ | refine p10_21 ?_ | refine p10_22 ?_ | refine p10_23 ?_ | refine p10_24 ?_ | refine p10_25 ?_ | refine p10_26 ?_ | refine p10_27 ?_ | refine p10_28 ?_ | refine p10_29 ?_ | refine p10_30 ?_ | refine p10_31 ?_ | refine p10_32 ?_ | refine p10_33 ?_ | refine p10_34 ?_ | refine p10_35 ?_ | refine p10_36 ?_ | refine p10_37 ?_ | refine p10_38 ?_ | refine p10_39 ?_ | refine p10_40 ?_ | refine p10_41 ?_ | refine p10_42 ?_ | refine p10_43 ?_ | refine p10_44 ?_ | refine p10_45 ?_)
local macro_rules | `(tactic| walk_at "lenb") => `(tactic| (refine len_lt ?_; first | omega | (simp only [List.length_map, List.length_append, List.length_cons, List.length_nil, List.length_range, List.length_replicate]; omega)))
local macro_rules | `(tactic| walk_at "pos") => `(tactic| first | assumption | omega | (refine ⟨?_, ?_⟩ <;> first | assumption | omega) | (refine ⟨?_, ?_, ?_⟩ <;> first | assumption | omega))
local macro_rules | `(tactic| walk_at "neg") => `(tactic| first | assumption | omega | (intro hh; simp_all; done))
local macro_rules | `(tactic| walk_at "ixauto") => `(tactic| first | refine od_ixT rfl ?_ | refine od_ixTE (by walk_at "rng") (fun _ _ => ?_) | refine od_ixE (by walk_at "rng") (fun _ _ => ?_) | refine od_ixEC 0 rfl (by walk_at "rng") (fun _ _ => ?_) | refine od_ixEC 1 rfl (by walk_at "rng") (fun _ _ => ?_) | refine od_ixEC 2 rfl (by walk_at "rng") (fun _ _ => ?_) | refine od_ixEC 3 rfl (by walk_at "rng") (fun _ _ => ?_))
local macro_rules | `(tactic| walk_at "islauto") => `(tactic| first
  | refine isl_c 0 rfl ?_ | refine isl_c 1 rfl ?_ | refine isl_c 2 rfl ?_ | refine isl_c 3 rfl ?_ | refine isl_c 4 rfl ?_ | refine isl_c 5 rfl ?_ | (refine idSet ?_; first | refine sd_listE 0 rfl (by walk_at "rng") rfl ?_ | refine sd_listE 1 rfl (by walk_at "rng") rfl ?_ | refine sd_listE 2 rfl (by walk_at "rng") rfl ?_ | refine sd_listE 3 rfl (by walk_at "rng") rfl ?_ | refine sd_dictI 0 rfl (by walk_at "lenb") ?_ | refine sd_dictI 1 rfl (by walk_at "lenb") ?_ | refine sd_dictI 2 rfl (by walk_at "lenb") ?_ | refine sd_dictS 0 rfl (by walk_at "lenb") ?_ | refine sd_dictS 1 rfl (by walk_at "lenb") ?_ | refine sd_dictS 2 rfl (by walk_at "lenb") ?_) | refine isd_c 0 rfl ?_ | refine isd_c 1 rfl ?_ | refine isd_c 2 rfl ?_ | refine isd_c 3 rfl ?_ | refine dg_i 0 rfl ?_ | refine dg_i 1 rfl ?_ | refine dg_i 2 rfl ?_ | refine dg_i 3 rfl ?_ | refine dg_s 0 rfl ?_ | refine dg_s 1 rfl ?_ | refine dg_s 2 rfl ?_ | refine dg_s 3 rfl ?_
  | (refine idApp ?_; first | refine mt_app (j := 0) rfl (by walk_at "lenb") ?_ | refine mt_app (j := 1) rfl (by walk_at "lenb") ?_ | refine mt_app (j := 2) rfl (by walk_at "lenb") ?_ | refine mt_app (j := 3) rfl (by walk_at "lenb") ?_ | refine mt_app (j := 4) rfl (by walk_at "lenb") ?_ | refine mt_app (j := 5) rfl (by walk_at "lenb") ?_))
local macro_rules | `(tactic| walk_at "t") => `(tactic| first | (refine idLk ?_; first | refine lkle ?_ | refine lklt ?_ | refine lk1le ?_ | refine lk1lt ?_ | refine lkgt ?_ | refine lkge ?_ | refine lk1gt ?_ | refine lk1ge ?_) | (refine idTC ?_; refine dt_chn ?_) | (refine idCmp ?_; refine de_chn ?_) | (refine idFld ?_; refine fld_o (by assumption) (by assumption) rfl ?_) | (refine idMt ?_; refine mt_oS (by assumption) (by assumption) (by decide) (by walk_at "lets") (by walk_at "pla") (by rfl) ?_) | (refine idC ?_; first | refine cd_lenLM (.val _) ?_ | refine cd_lenLM (.cell 0 rfl) ?_ | refine cd_lenLM (.cell 1 rfl) ?_ | refine cd_lenLM (.cell 2 rfl) ?_) | walk_at "s" | (refine idOx ?_; walk_at "ixauto") | walk_at "islauto")
local macro_rules | `(tactic| walk_at "rng") => `(tactic| first | exact ⟨by omega, by omega⟩ | exact ⟨by simp; omega, by simp; omega⟩)
local macro_rules | `(tactic| walk_at "ox") => `(tactic| fail "no rule")
local macro_rules | `(tactic| walk_at "o1") => `(tactic| first
  | (refine idOx ?_; first | refine st_great ?_ | refine st_rest ?_ | refine st_turn ?_ | refine st_seed ?_ | refine st_cells ?_ | walk_at "ox")
  | refine od_addI ?_ | refine od_sub ?_ | refine od_lt ?_ | refine od_le ?_ | refine od_gt ?_ | refine od_ge ?_ | refine od_eqI ?_ | refine od_neI ?_ | refine od_isN ?_ | refine od_isB ?_ | refine od_notB ?_ | refine od_notN ?_ | refine oi_addI ?_ | refine od_inS ?_ | refine od_notinS ?_ | refine od_inN (.val _) ?_ | refine od_notinN (.val _) ?_ | refine od_mod (by omega) ?_ | refine od_mulS (by omega) ?_ | refine od_divS (by omega) (by omega) ?_ | walk_at "pow" | walk_at "ox")
local macro_rules | `(tactic| walk_at "set") => `(tactic| first | refine se0 ?_ | refine se1 ?_ | refine se2 ?_ | refine se3 ?_ | refine se4 ?_ | refine se5 ?_ | refine se6 ?_ | refine se7 ?_ | refine se8 ?_ | refine se9 ?_ | refine se10 ?_ | refine se11 ?_ | refine se12 ?_ | refine se13 ?_ | refine se14 ?_ | refine se15 ?_ | refine se16 ?_ | refine se17 ?_ | refine se18 ?_ | refine se19 ?_ | refine se20 ?_ | refine se21 ?_ | refine se22 ?_ | refine se23 ?_ | refine se24 ?_ | refine se25 ?_ | refine se26 ?_ | refine se27 ?_ | refine se28 ?_ | refine se29 ?_ | refine se30 ?_ | refine se31 ?_ | refine se32 ?_ | refine se33 ?_ | refine se34 ?_ | refine se35 ?_)
local macro_rules | `(tactic| walk_at "br") => `(tactic| first | refine Br.yes ?_ | refine Br.no ?_ | refine Br.decT (by omega) ?_ | refine Br.decF (by omega) ?_ | refine Br.ndecT (by omega) ?_ | refine Br.ndecF (by omega) ?_ | refine Br.dec (fun _ => ?_) (fun _ => ?_) | refine Br.ndec (fun _ => ?_) (fun _ => ?_) | refine Br.neg ?_ | refine Br.mk (fun _ => ?_) (fun _ => ?_))
local macro_rules | `(tactic| walk_at "s") => `(tactic| first
  | (refine idE ?_; walk_at "e1")
  | (refine idO ?_; walk_at "o1")
  | (refine idA ?_; first | refine da_cons ?_ | refine da_nil ?_)
  | (refine idSs ?_; first | refine ds_cons ?_ | refine ds_nil ?_)
  | (refine idSl ?_; walk_at "set")
  | (refine idFld ?_; walk_at "fld")
  | refine endA ?_
  | (refine idUns ?_; first | refine ua0 ?_ | refine ua1 ?_ | refine ua2 ?_ | refine ua3 ?_ | refine ua4 ?_ | refine ua5 ?_ | refine ua6 ?_ | refine ua7 ?_ | refine ua8 ?_ | refine ua9 ?_ | refine ua10 ?_ | refine ua11 ?_ | refine ua12 ?_ | refine ua13 ?_ | refine ua14 ?_ | refine ua15 ?_ | refine ua16 ?_ | refine ua17 ?_ | refine ua18 ?_ | refine ua19 ?_ | refine ua20 ?_ | refine ua21 ?_ | refine ua22 ?_ | refine ua23 ?_)
  | refine exh_yesP (by assumption) (fun _ _ _ => ?_) | refine exh_noP (by assumption) ?_
  | (refine idMt ?_; walk_at "mt")
  | (refine idStF ?_; first | walk_at "stf0" | walk_at "stf")
  | (refine idDAK ?_; first | refine dak_en ?_ | refine dak_nn ?_ | refine dak_nk ?_ | refine dak_ek ?_)
  | walk_at "ar"
  | (refine idS ?_; first
    | (refine idAsg ?_; first | refine ds_set (by assumption) (by assumption) ?_ | refine ds_setN (by assumption) (by assumption) ?_ | refine ds_fldU ?_ | refine ds_par2 (by assumption) (by assumption) (by assumption) (by decide) (kind_of (by assumption) (by decide +kernel)) (kind_of (by assumption) (by decide +kernel)) (blk_of (by assumption) (by decide +kernel)) (by decide) ?_ | refine ds_par3 (by assumption) (by assumption) (by assumption) (by assumption) (by decide) (by decide) (by decide) (kind_of (by assumption) (by decide +kernel)) (kind_of (by assumption) (by decide +kernel)) (kind_of (by assumption) (by decide +kernel)) (blk_of (by assumption) (by decide +kernel)) (by decide) (by decide) (by decide) ?_ | refine ds_asgC ?_ | refine ds_asg ?_)
    | (refine idRaise ?_; first | refine ds_raise (by assumption) (by assumption) (by assumption) (by assumption) ?_ | refine ds_raiseI (by assumption) (by decide) (by assumption) (by assumption) (by assumption) ?_ | refine ds_raise0 (by assumption) (by assumption) (by assumption) (by assumption) ?_)
    | refine ds_ret ?_ | refine ds_if ?_ | refine ds_expr ?_
    | refine ds_augAdd (by assumption) (by assumption) (by rfl) ?_ | refine ds_augSub (by assumption) (by assumption) (by rfl) ?_
    | refine ds_pass ?_ | refine ds_retN ?_ | refine ds_break ?_ | refine ds_continue ?_)
  | (refine idBr ?_; walk_at "br")
  | refine toB.mk ?_
  | (refine idTC ?_; first | refine dt_lt ?_ | refine dt_le ?_ | refine dt_gt ?_ | refine dt_ge ?_ | refine dt_eq (by assumption) ?_ | refine dt_ne (by assumption) ?_ | refine dt_isB ?_ | refine dt_is ?_ | refine dt_isnotB ?_ | refine dt_isnot ?_ | refine dt_in (by assumption) ?_ | refine dt_notin (by assumption) ?_ | refine dt_val ?_)
  | (refine idT ?_; first | refine dt_not ?_ | refine dt_and ?_ | refine dt_or ?_ | refine dt_val ?_)
  | (refine idW ?_; first | refine dw_and1 ?_ | refine dw_or1 ?_ | refine dw_and ?_ | refine dw_or ?_)
  | (refine idC ?_; first | refine cd_min2 ?_ | refine cd_min3 ?_ | refine cd_max2 ?_ | (refine CallD.inl (CallD.inl ?_); first | refine isi_ii ?_ | refine isi_ib ?_ | refine isi_bb ?_ | refine isi_bi ?_ | refine isi_ll ?_ | refine isi_tt ?_ | refine isi_ni ?_ | refine isi_nb ?_ | refine isi_nt ?_) | refine CallD.inl (isx_xP (by assumption) (by walk_at "clsv") (by assumption) ?_) | refine CallD.inl (isx_oP (.val _ _ _) (by assumption) (by walk_at "clsv") (by assumption) ?_) | refine CallD.inl (isx_bP rfl (by walk_at "clsv") (by assumption) ?_) | refine isx_t2P (by assumption) (by walk_at "clsv") (by walk_at "clsv") (by assumption) (by assumption) ?_ | refine cd_lenL (.val _) ?_ | refine cd_lenT ?_ | refine cd_lenX ?_ | walk_at "ox")
  | (refine idG ?_; first | refine dg_name (by assumption) (by assumption) ?_ | refine dg_sub (by assumption) ?_ | refine dg_tup (by assumption) (by rfl) ?_)
  | (refine idGs ?_; first | refine dgs_cons ?_ | refine dgs_nil ?_)
  | (refine idK ?_; first | refine dk_cons ?_ | refine dk_nil ?_)
  | refine DPt.no ?_ | refine DPt.so ?_
  | refine len_and (Nat.le_of_ble_eq_true rfl) ?_ | refine len_andI rfl (Nat.le_of_ble_eq_true rfl) ?_
  | walk_at "cl"
  | refine ex_i ?_ | refine ex_2 ?_ | refine ex_3 ?_ | refine ex_l ?_ | refine ex_ii ?_ | refine ex_t ?_ | refine ex_s ?_ | refine ex_x ?_
  | (refine idSet ?_; first | refine set_rest ?_ | refine set_turn ?_ | refine set_seed ?_ | walk_at "ox"))
section
variable {B : Bx} {X : Cx} {e c tg it : Expr} {s1 s2 sts : List Stmt} {δ : Env'} {M : Mem} {Ψ : DEnds} {p p' : Pos}
theorem stFor (h : DSs B X (.For tg it s1 s2 p :: sts) δ M Ψ) : DSs B X (.For tg it s1 s2 p :: sts) δ M Ψ := h
theorem stWhile (h : DSs B X (.While c s1 s2 p :: sts) δ M Ψ) : DSs B X (.While c s1 s2 p :: sts) δ M Ψ := h
theorem stSet (x : Str) (h : DSs B X (.Assign [.Name x p'] e p :: sts) δ M Ψ) : DSs B X (.Assign [.Name x p'] e p :: sts) δ M Ψ := h
end
local macro_rules | `(tactic| walk_at "up") => `(tactic| repeat' first | exact UpO.nil | exact Ups.nil | exact Up.here | apply UpO.some | apply UpO.none | apply UpO.any | apply Up.tup | apply Ups.cons | exact Up.same _)
local macro_rules | `(tactic| walk_at "o1") => `(tactic| refine od_addT (Nat.le_of_ble_eq_true rfl) ?_)
local macro_rules | `(tactic| walk_at "bm") => `(tactic| first | refine de_join ?_ | refine de_count ?_ | refine de_index ?_ | refine de_clear ?_ | refine de_pop0 ?_)
local macro_rules | `(tactic| walk_at "call") => `(tactic| first | refine de_callL (by assumption) (by walk_at "lo") (by rfl) (by assumption) (by decide) (by walk_at "lets") ?_ (by walk_at "pla") | refine de_max3 (by assumption) (by assumption) ?_ | refine de_exnS (by assumption) (by assumption) (by decide) (by decide) (by rfl) (by assumption) ?_ (by walk_at "pla") | refine de_exn0 (by assumption) (by assumption) ?_)
local macro_rules | `(tactic| walk_at "t") => `(tactic| (refine idXn ?_; first | refine xn_10 ?_ | refine xn_01 ?_ | refine xn_02 ?_ | refine xn_04 ?_))
local macro_rules | `(tactic| walk_at "cl") => `(tactic| refine cd_max3 ?_)
local macro_rules | `(tactic| walk_at "e1") => `(tactic| first | refine de_joined ?_ | refine de_joined1 ?_ | refine de_fmt ?_ | refine DE.f (df_step2 ?_))
local macro_rules | `(tactic| walk_at "t") => `(tactic| first | refine dj_cons ?_ | refine dj_nil ?_ | refine jn_mk (Nat.le_trans (show _ ≤ 1000 by simp only [PySem.Str.length_append]; omega) (by decide)) ?_ | refine fm_s (by walk_at "lenb") ?_ | refine fm_i (by assumption) ?_)
local macro_rules | `(tactic| walk_at "upv") => `(tactic| repeat' first | exact UpVO.nil | exact UpVs.nil | exact UpV.here | apply UpVO.some | apply UpVO.none | apply UpVO.any | apply UpV.tup | apply UpVs.cons | exact UpV.same _)
local macro_rules | `(tactic| walk_at "memc") => `(tactic| first | exact List.mem_of_getElem? (i := 0) rfl | exact List.mem_of_getElem? (i := 1) rfl | exact List.mem_of_getElem? (i := 2) rfl | exact List.mem_of_getElem? (i := 3) rfl | exact List.mem_of_getElem? (i := 4) rfl | exact List.mem_of_getElem? (i := 5) rfl | exact List.mem_of_getElem? (i := 6) rfl | exact List.mem_of_getElem? (i := 7) rfl | exact List.mem_of_getElem? (i := 8) rfl | exact List.mem_of_getElem? (i := 9) rfl | (simp; done))
def top (i : Nat) : Stmt := PySem.Challenge.pw_hourlanes_k60_least_and_greatest.main.body.getD i (.Pass ⟨0, 0, 0, 0⟩)
local macro_rules | `(tactic| walk_at "cl") => `(tactic| first | refine c_take (by omega) (by omega) (by omega) (fun _ _ _ => ?_) | refine c_begun (by omega) (fun _ _ => ?_))
abbrev s_law_take : Stmt := top 5
def n_law_take : List Str := ["_law_state", "_law_many", "_law_found", "_law_turn", "_law_cell", "_law_seed", "_law_mixed"]
theorem sc_law_take : FnScope n_law_take ["_law_state", "_law_many"] (defScope s_law_take) := ⟨rfl, rfl, rfl, by decide +kernel, rfl, by decide +kernel, by decide +kernel⟩
theorem d_law_take {P : Program} {w : World} {K : PySem.W.Frag} {mg : Str → Option Value} {base : Heap} {f : Addr} {fd : FuncData} (F : Fun K "_law_take" "_law_take" s_law_take f fd)
    (G_len : mg "len" = none) : FnOk P w K mg base CX0 1 f fd ["_law_state", "_law_many"] (lift pTake) := by
  refine fnok_of (N := n_law_take) (k := 0) F sc_law_take (fun ds M Φ h => by obtain ⟨s, g, b, n, M', rfl, rfl, hn, hn2, k⟩ := h; rfl) fun X B I ds M Φ h => ?_
  obtain ⟨s, g, b, n, M', rfl, rfl, hn, hn2, k⟩ := h
  obtain ⟨rfl, rfl, rfl, rfl, rfl, hN, hs, hf, z, xe⟩ := I
  have hp := passes_of xe
  have n0 : Lo X 0 "_law_state" := lo_of hN hs hf (by decide +kernel)
  have n1 : Lo X 1 "_law_many" := lo_of hN hs hf (by decide +kernel)
  have n2 : Lo X 2 "_law_found" := lo_of hN hs hf (by decide +kernel)
  have n3 : Lo X 3 "_law_turn" := lo_of hN hs hf (by decide +kernel)
  have n4 : Lo X 4 "_law_cell" := lo_of hN hs hf (by decide +kernel)
  have n5 : Lo X 5 "_law_seed" := lo_of hN hs hf (by decide +kernel)
  have n6 : Lo X 6 "_law_mixed" := lo_of hN hs hf (by decide +kernel)
  have g_len : Gn X "len" := gn_of hs (by decide +kernel) G_len
  clear F hf
  change DSs _ X (_ :: _) [_, _, _, _, _, _, _] _ _
  refine ws_stOpen fun gs r t e cs ok => ?_
  have hr := ok.hr
  have hn2 : n < 2 ^ 1000 := hn2
  have ht := ok.ht
  have htb := ok.htb
  have he := ok.he
  have he2 := ok.he2
  repeat' walk_at "s"
  · -- rest is 0
    refine od_neNil (.cell 1 rfl) (okE_ints _) ?_
    repeat' walk_at "s"
    · -- no great cells: a number mixed
      rw [List.length_map]
      have hc1 := ok.hc1
      have hc2 := ok.hc2
      repeat' walk_at "s"
      obtain ⟨c, hc, ec⟩ := at_int (cs := cs) (i := t % (cs.length : Nat)) (Int.emod_nonneg _ (by omega)) (Int.emod_lt_of_pos _ (by omega))
      refine od_ixL ec ?_
      obtain ⟨hc0, hc3⟩ := ok.hcs c hc
      have m1 := Int.emod_nonneg (e * 48271 + c * (2 * t + 3) + t ^ (3 : Int).toNat) (show (2147483647 : Int) ≠ 0 by decide)
      have m2 := Int.emod_lt_of_pos (e * 48271 + c * (2 * t + 3) + t ^ (3 : Int).toNat) (show (0 : Int) < 2147483647 by decide)
      have m3 := Int.emod_nonneg (((e * 48271 + c * (2 * t + 3) + t ^ (3 : Int).toNat) % 2147483647) ^ (2 : Int).toNat) (show (2147483629 : Int) ≠ 0 by decide)
      have m4 := Int.emod_lt_of_pos (((e * 48271 + c * (2 * t + 3) + t ^ (3 : Int).toNat) % 2147483647) ^ (2 : Int).toNat) (show (0 : Int) < 2147483629 by decide)
      generalize hS : (e * 48271 + c * (2 * t + 3) + t ^ (3 : Int).toNat) % 2147483647 = S at m1 m2 m3 m4
      generalize hU : S ^ (2 : Int).toNat % 2147483629 = U at m3 m4
      repeat' walk_at "s"
      refine od_pow ⟨by decide, by decide, by omega⟩ ?_
      repeat' walk_at "s"
      rw [hS]
      repeat' walk_at "s"
      refine od_pow ⟨by decide, by decide, by omega⟩ ?_
      repeat' walk_at "s"
      rw [hU]
      repeat' walk_at "s"
      refine od_pow ⟨by decide, by decide, by omega⟩ ?_
      repeat' walk_at "s"
      refine ⟨_, _, .stc (b := b) ⟨ok.hgs, hr, by omega, by omega, m1, m2, ok.hcs, ok.hc1, ok.hc2⟩, k _ (Int.emod_nonneg _ (by omega)) (Int.emod_lt_of_pos _ (by omega))⟩
    · -- the next great cell
      rename_i hg
      cases gs with
      | nil => exact absurd hg (by decide)
      | cons g0 gs =>
        refine ⟨⟨_, .cell 1 rfl⟩, ?_⟩
        repeat' walk_at "s"
        refine mt_popD (j := 1) (m := 0) (d := .int g0) (ds := .int g0 :: gs.map .int) rfl (by decide) (by decide) (seqIndex_of (by decide) (by simp)) rfl ?_
        have h0 : 0 < g0 := ok.hgs g0 List.mem_cons_self
        have ok1 : ∀ r', 0 ≤ r' → StOk b gs r' t e cs := fun r' hr' => ⟨fun x hx => ok.hgs x (List.mem_cons_of_mem _ hx), hr', ok.ht, by omega, ok.he, ok.he2, ok.hcs, ok.hc1, ok.hc2⟩
        repeat' walk_at "s"
        exact ⟨_, _, .stc (ok1 _ (Int.ediv_nonneg (by omega) (by omega))), k _ (Int.emod_nonneg _ (by omega)) (Int.emod_lt_of_pos _ (by omega))⟩
  · exact ⟨_, _, .stc (b := b) ⟨ok.hgs, Int.ediv_nonneg (by omega) (by omega), ht, by omega, he, he2, ok.hcs, ok.hc1, ok.hc2⟩, k _ (Int.emod_nonneg _ (by omega)) (Int.emod_lt_of_pos _ (by omega))⟩
abbrev s_law_begun : Stmt := top 4
def n_law_begun : List Str := ["_law_script", "_law_cell"]
theorem sc_law_begun : FnScope n_law_begun ["_law_script"] (defScope s_law_begun) := ⟨rfl, rfl, rfl, by decide +kernel, rfl, by decide +kernel, by decide +kernel⟩
theorem d_law_begun {P : Program} {w : World} {K : PySem.W.Frag} {mg : Str → Option Value} {base : Heap} {f : Addr} {fd : FuncData} (F : Fun K "_law_begun" "_law_begun" s_law_begun f fd)
     : FnOk P w K mg base CX0 1 f fd ["_law_script"] (lift (pBegun K)) := by
  refine fnok_of (N := n_law_begun) (k := 0) F sc_law_begun (fun ds M Φ h => by obtain ⟨ns, rfl, hl, k⟩ := h; rfl) fun X B I ds M Φ h => ?_
  obtain ⟨ns, rfl, hl, k⟩ := h
  obtain ⟨rfl, rfl, rfl, rfl, rfl, hN, hs, hf, z, xe⟩ := I
  have hp := passes_of xe
  have n0 : Lo X 0 "_law_script" := lo_of hN hs hf (by decide +kernel)
  clear F hf
  change DSs _ X (_ :: _) [_, _] _ _
  refine ds_one (ds_ret (de_disp 0 rfl rfl rfl (by simp) (by decide) fun p => ?_))
  simp only [DPs]
  repeat' walk_at "s"
  refine DE.own 1 (df_lc 0 z hN hs [("_law_cell", 1)] (.one 1) (by decide +kernel) (by decide) (fun X' bk => pg_one bk z (bk.lo hN hs (by decide +kernel))) ?_)
  refine di_scr ?_
  repeat' walk_at "s"
  refine LcH.pure bigF (by rw [List.length_map]; exact Nat.le_trans hl (by decide)) (fun q acc x hx => ?_) ?_
  · obtain ⟨n, hn, rfl⟩ := List.mem_map.mp hx
    refine ⟨_, rfl, fun X' bk => ?_⟩
    have c0 : Lo X' 1 "_law_cell" := bk.lo hN hs (by decide +kernel)
    have z' := bk.z z
    repeat' walk_at "s"
    · rename_i h
      intro X' bk
      have c0 : Lo X' 1 "_law_cell" := bk.lo hN hs (by decide +kernel)
      have z' := bk.z z
      repeat' walk_at "s"
      exact ⟨(if_pos h).symm, rfl⟩
    · rename_i h
      exact ⟨(if_neg h).symm, rfl⟩
  intro g
  rw [big_map]
  repeat' walk_at "s"
  refine DE.f (df_lc 0 z hN hs [("_law_cell", 1)] (.one 1) (by decide +kernel) (by decide) (fun X' bk => pg_one bk z (bk.lo hN hs (by decide +kernel))) ?_)
  refine di_scr ?_
  repeat' walk_at "s"
  refine LcH.pure modF (by rw [List.length_map]; exact Nat.le_trans hl (by decide)) (fun q acc x hx => ?_) ?_
  · obtain ⟨n, hn, rfl⟩ := List.mem_map.mp hx
    refine ⟨_, rfl, fun X' bk => ?_⟩
    have c0 : Lo X' 1 "_law_cell" := bk.lo hN hs (by decide +kernel)
    have z' := bk.z z
    repeat' walk_at "s"
    exact ⟨rfl, rfl⟩
  rw [rest_map]
  repeat' walk_at "s"
  refine od_addL (by simp; exact Nat.le_trans (Nat.succ_le_succ hl) (by decide)) ?_
  refine ⟨0, [(.inr "great", .raw (.ref g)), (.inr "rest", .int 0), (.inr "turn", .int 0), (.inr "seed", .int 7), (.inr "cells", .lst (((ns.map fun n => n % 2147483629) ++ [77]).map .int))], rfl, by rw [List.map_append]; rfl, by show 5 ≤ 15; decide, ?_⟩
  exact ⟨_, _, .stc (begun_ok ns hl), k _ _⟩
def pPick : DSp := fun ds M Φ => ∃ s g b M' x, ds = [.raw (.ref s), x] ∧ M = (s, .st g b) :: M' ∧ 1 ≤ b ∧ ((∃ l : List D, x = .lst l ∧ 0 < l.length ∧ l.length ≤ 1000 ∧ ∀ d ∈ l, Φ d ((s, .st g (b - 1)) :: M')) ∨ (∃ t : Str, x = .str t ∧ 0 < t.length ∧ t.length ≤ 1000 ∧ ∀ c ∈ t.cps.toList, Φ (.str ⟨#[c]⟩) ((s, .st g (b - 1)) :: M')))
theorem c_pickI (ns : List Int) {s g : Addr} {b : Nat} {M : Mem} {Φ : D → Mem → Prop} (hb : 1 ≤ b) (h0 : 0 < ns.length) (h1 : ns.length ≤ 1000) (k : ∀ n ∈ ns, Φ (.int n) ((s, .st g (b - 1)) :: M)) : pPick [.raw (.ref s), .lst (ns.map .int)] ((s, .st g b) :: M) Φ :=
  ⟨s, g, b, M, _, rfl, rfl, hb, .inl ⟨_, rfl, by simpa using h0, by simpa using h1, fun d hd => by obtain ⟨n, hn, rfl⟩ := List.mem_map.mp hd; exact k n hn⟩⟩
abbrev s_law_pick : Stmt := top 6
def n_law_pick : List Str := ["_law_state", "_law_some"]
theorem sc_law_pick : FnScope n_law_pick ["_law_state", "_law_some"] (defScope s_law_pick) := ⟨rfl, rfl, rfl, by decide +kernel, rfl, by decide +kernel, by decide +kernel⟩
theorem d_law_pick {P : Program} {w : World} {K : PySem.W.Frag} {mg : Str → Option Value} {base : Heap} {f : Addr} {fd : FuncData} (F : Fun K "_law_pick" "_law_pick" s_law_pick f fd)
    (D_law_take : Def P w K mg base 1 "_law_take" ["_law_state", "_law_many"] pTake) (G_len : mg "len" = none) : FnOk P w K mg base CX0 2 f fd ["_law_state", "_law_some"] (lift pPick) := by
  refine fnok_of (N := n_law_pick) (k := 1) F sc_law_pick (fun ds M Φ h => by obtain ⟨s, g, b, M', x, rfl, rfl, hb, hx⟩ := h; rfl) fun X B I ds M Φ h => ?_
  obtain ⟨s, g, b, M', x, rfl, rfl, hb, hx⟩ := h
  obtain ⟨rfl, rfl, rfl, rfl, rfl, hN, hs, hf, z, xe⟩ := I
  have hp := passes_of xe
  have n0 : Lo X 0 "_law_state" := lo_of hN hs hf (by decide +kernel)
  have n1 : Lo X 1 "_law_some" := lo_of hN hs hf (by decide +kernel)
  have l_law_take : Gl X "_law_take" := gl_of hs (by decide +kernel)
  have g_len : Gn X "len" := gn_of hs (by decide +kernel) G_len
  clear F hf
  change DSs _ X (_ :: _) [_, _] _ _
  rcases hx with ⟨l, rfl, h0, h1, k⟩ | ⟨t, rfl, h0, h1, k⟩
  · repeat' walk_at "t"
    rename_i r hr0 hr1
    have hl : r.toNat < l.length := by omega
    refine od_ixL (d := l[r.toNat]) ?_ ?_
    · obtain ⟨n, rfl⟩ : ∃ n : Nat, r = (n : Int) := ⟨r.toNat, by omega⟩
      exact atI_nat (by simp)
    · exact ⟨_, _, .refl, k _ (List.getElem_mem hl)⟩
  · repeat' walk_at "t"
    refine cd_lenS (Nat.le_trans h1 (by decide)) ?_
    repeat' walk_at "t"
    rename_i r hr0 hr1
    obtain ⟨c, ec⟩ := at_sign (z := t) (i := r) hr0 hr1
    refine od_ixS (Nat.le_trans h1 (by decide)) ec ?_
    refine ⟨_, _, .refl, k c ?_⟩
    obtain ⟨n, rfl⟩ : ∃ n : Nat, r = (n : Int) := ⟨r.toNat, by omega⟩
    unfold atI at ec
    cases e : ixN t.cps.toList.length (n : Int) with
    | none => rw [e] at ec; cases ec
    | some m => rw [e] at ec; exact List.mem_of_getElem? ec
/-- the function that is handed on -/
def stGood : Stmt := (defBody (top 7)).getD 0 (.Pass ⟨0, 0, 0, 0⟩)
def qGood : Str := (("_law_asked" : Str) ++ ".<locals>.") ++ ("_law_good" : Str)
abbrev WG : FW := ⟨"_law_good", qGood, defArgs stGood, .stmts (defBody stGood), defScope stGood⟩
def nG : List Str := ["_law_number", "_law_up", "_law_turn", "_law_asked_here"]
def frG : List Str := ["_law_up", "_law_turn", "_law_asked_here"]
def pGood : List D → DSp := fun cs ds M Φ => ∃ (L : Addr) (q : List Int) (turn : Int) (up : Bool) (k : Int) (M0 : Mem), cs = [.bl up, .int turn, .raw (.ref L)] ∧ ds = [.int k] ∧ M = (L, .lst (q.map D.int)) :: M0 ∧ q.length ≤ 1000 ∧ Φ (.bl (if up = true then decide (turn ≤ k) else decide (k ≤ turn))) ((L, .lst ((q ++ [k]).map D.int)) :: M0)
theorem good_ok {P : Program} {w : World} {K : PySem.W.Frag} {mg : Str → Option Value} {base : Heap} : FunN P w K mg base WG frG 1 1 pGood := by
  refine funN_of (N := nG) (ps := ["_law_number"]) (b := defBody stGood) (k := 0) rfl ⟨rfl, rfl, rfl, by decide +kernel, rfl, by decide +kernel, by decide +kernel, by decide +kernel, by decide +kernel⟩ (fun cl c doc pm ctv us hl => match us, hl with | [_], _ => rfl) fun X kp cs ds M Φ h I => ?_
  obtain ⟨L, q, turn, up, k, M0, rfl, rfl, rfl, hq, kk⟩ := h
  obtain ⟨rfl, rfl, rfl, rfl, rfl, hN, hs, hf, z, hp, tk, hst, hfr⟩ := I
  have n0 : Nm X 0 "_law_number" := nm_of hN hs (by decide +kernel)
  have n1 : Nm X 1 "_law_up" := nm_of hN hs (by decide +kernel)
  have n2 : Nm X 2 "_law_turn" := nm_of hN hs (by decide +kernel)
  have n3 : Nm X 3 "_law_asked_here" := nm_of hN hs (by decide +kernel)
  change DSs _ X (_ :: _) [_, _, _, _] _ _
  repeat' walk_at "t"
  · rename_i hu
    rw [List.map_append, if_pos hu] at kk
    exact kk
  · rename_i hu
    rw [List.map_append, if_neg (by rw [hu]; decide)] at kk
    exact kk
def LeastOk (lo hi : Int) (t : Int → Bool) : Option Int → Prop
  | none => hi < lo ∨ t hi = false
  | some x => lo ≤ x ∧ x ≤ hi ∧ t x = true ∧ (x = lo ∨ t (x - 1) = false)
def GreatOk (lo hi : Int) (t : Int → Bool) : Option Int → Prop
  | none => hi < lo ∨ t lo = false
  | some x => lo ≤ x ∧ x ≤ hi ∧ t x = true ∧ (x = hi ∨ t (x + 1) = false)
/-- least, greatest: any function that tells truths of numbers -/
def pSearch (R : Int → Int → (Int → Bool) → Option Int → Prop) (P : Program) (w : World) (K : PySem.W.Frag) (mg : Str → Option Value) (base : Heap) (W : FW) (fr : List Str) (kW : Nat) (p : List D → DSp) : DSpE := fun ds M Φ _ => ∃ (lo hi : Int) (f : Addr) (as : List Addr) (cs : List D) (Mi : List Int → Mem) (t : Int → Bool) (q0 : List Int) (n : Nat),
  ds = [.int lo, .int hi, .raw (.ref f)] ∧ M = (f, .fnc W fr as cs) :: Mi q0 ∧ FunN P w K mg base W fr kW 1 p ∧ hi - lo < 2 ^ n ∧ n ≤ 100 ∧ -(2 ^ 61) < lo ∧ lo < 2 ^ 61 ∧ -(2 ^ 61) < hi ∧ hi < 2 ^ 61 ∧
  (∀ (q : List Int) (k : Int) (Φ' : D → Mem → Prop), lo ≤ k → k ≤ hi → q.length ≤ n + 1 → Φ' (.bl (t k)) (Mi (q0 ++ (q ++ [k]))) → p cs [.int k] (Mi (q0 ++ q)) Φ') ∧
  ∀ (q : List Int) (r : Option Int), q.length ≤ n + 1 → (∀ x ∈ q, lo ≤ x ∧ x ≤ hi) → R lo hi t r → Φ (optI r) ((f, .fnc W fr as cs) :: Mi (q0 ++ q))
abbrev s_least : Stmt := top 1
def n_least : List Str := ["low", "high", "good", "middle"]
theorem sc_least : FnScope n_least ["low", "high", "good"] (defScope s_least) := ⟨rfl, rfl, rfl, by decide +kernel, rfl, by decide +kernel, by decide +kernel⟩
theorem d_least {P : Program} {w : World} {K : PySem.W.Frag} {mg : Str → Option Value} {base : Heap} {f : Addr} {fd : FuncData} (F : FunG K "least" "least" s_least f fd)
     : FnOk P w K mg base (L2.CX P w) 2 f fd ["low", "high", "good"] (liftE (pSearch LeastOk P w K mg base WG frG 1 pGood)) := by
  refine fnokG_of (N := n_least) (k := 1) F sc_least (fun ds M Φ Ξ h => by obtain ⟨lo, hi, f, as, cs, Mi, t, q0, n, rfl, rfl, Fn, hd, hn, b1, b2, b3, b4, hc, k⟩ := h; rfl) fun X kp ds M Φ Ξ h I => ?_
  obtain ⟨lo, hi, f, as, cs, Mi, t, q0, n, rfl, rfl, Fn, hd, hn, b1, b2, b3, b4, hc, k⟩ := h
  obtain ⟨rfl, rfl, rfl, rfl, rfl, hN, hs, hf, z, hp, tk, hst, hfr⟩ := I
  have nd := z.nd
  have n0 : Lo X 0 "low" := lo_of hN hs hf (by decide +kernel)
  have n1 : Lo X 1 "high" := lo_of hN hs hf (by decide +kernel)
  have n2 : Lo X 2 "good" := lo_of hN hs hf (by decide +kernel)
  have n3 : Lo X 3 "middle" := lo_of hN hs hf (by decide +kernel)
  clear F hf
  change DSs _ X (_ :: _) [_, _, _, _] _ _
  repeat' walk_at "t"
  · exact ⟨_, _, .refl, by have := k [] none (by simp) (fun _ h => nomatch h) (.inl (by assumption)); rw [List.append_nil] at this; exact this⟩
  · refine de_callC z n2.toNmP rfl List.mem_cons_self (by omega) Fn ?_
    repeat' walk_at "t"
    refine ⟨_, _, _, rfl, rfl, ?_⟩
    have := hc [] hi
    rw [List.append_nil] at this
    refine this _ (by omega) (by omega) (by simp) ?_
    repeat' walk_at "t"
    · repeat' ((fail_if_success refine stWhile ?_); walk_at "t")
      first | refine ds_cons (ds_whileC [0, 1, 3] (by assumption) (fun m vs M1 => (∃ (lo1 hi1 : Int) (q : List Int) (o3 : Option D), [some (.int lo1), some (.int hi1), o3] = vs ∧ (f, .fnc WG frG as cs) :: Mi (q0 ++ q) = M1 ∧ (hi1 - lo1 < 2 ^ m) ∧ (q.length + m ≤ n + 1) ∧ (lo ≤ lo1) ∧ (lo1 ≤ hi1) ∧ (hi1 ≤ hi) ∧ (t hi1 = true) ∧ (lo1 = lo ∨ t (lo1 - 1) = false) ∧ (∀ x ∈ q, lo ≤ x ∧ x ≤ hi))) ⟨n, ⟨lo, hi, [hi], _, rfl, rfl, (hd), (by simp; omega), (by omega), (by omega), (by omega), (by assumption), (.inl rfl), (fun x h => by simp at h; subst h; omega)⟩⟩ ?_) | refine ds_whileC [0, 1, 3] (by assumption) (fun m vs M1 => (∃ (lo1 hi1 : Int) (q : List Int) (o3 : Option D), [some (.int lo1), some (.int hi1), o3] = vs ∧ (f, .fnc WG frG as cs) :: Mi (q0 ++ q) = M1 ∧ (hi1 - lo1 < 2 ^ m) ∧ (q.length + m ≤ n + 1) ∧ (lo ≤ lo1) ∧ (lo1 ≤ hi1) ∧ (hi1 ≤ hi) ∧ (t hi1 = true) ∧ (lo1 = lo ∨ t (lo1 - 1) = false) ∧ (∀ x ∈ q, lo ≤ x ∧ x ≤ hi))) ⟨n, ⟨lo, hi, [hi], _, rfl, rfl, (hd), (by simp; omega), (by omega), (by omega), (by omega), (by assumption), (.inl rfl), (fun x h => by simp at h; subst h; omega)⟩⟩ ?_
      rintro m vs δ M1 ⟨lo1, hi1, q, o3, rfl, rfl, hm, hl, h1, h2, h3, ht, hf, hq⟩ hδ
      obtain rfl : δ = [_, _, _, o3] := hδ
      repeat' walk_at "t"
      · refine de_callC z n2.toNmP rfl List.mem_cons_self (by omega) Fn ?_
        repeat' walk_at "t"
        refine ⟨_, _, _, rfl, rfl, ?_⟩
        obtain ⟨m', rfl⟩ : ∃ m', m = m' + 1 := by
          cases m with
          | zero => rw [Int.pow_zero] at hm; omega
          | succ m => exact ⟨m, rfl⟩
        rw [Int.pow_succ] at hm
        have g1 : lo1 ≤ (lo1 + hi1) / 2 := by omega
        have g2 : (lo1 + hi1) / 2 < hi1 := by omega
        have g3 : (lo1 + hi1) / 2 - lo1 < 2 ^ m' := by omega
        have g4 : hi1 - ((lo1 + hi1) / 2 + 1) < 2 ^ m' := by omega
        generalize (lo1 + hi1) / 2 = md at g1 g2 g3 g4 ⊢
        have hq' : ∀ x ∈ q ++ [md], lo ≤ x ∧ x ≤ hi := fun x hx => by
          rcases List.mem_append.mp hx with hx | hx
          · exact hq x hx
          · simp at hx; subst hx; omega
        refine hc q md _ (by omega) (by omega) (by omega) ?_
        repeat' walk_at "t"
        · rename_i hg
          exact ⟨[_, _, _], rfl, m', (by omega), lo1, md, q ++ [md], _, rfl, rfl, (g3), (by simp; omega), (h1), (g1), (by omega), (hg), (hf), (hq')⟩
        · rename_i hg
          exact ⟨[_, _, _], rfl, m', (by omega), md + 1, hi1, q ++ [md], _, rfl, rfl, (g4), (by simp; omega), (by omega), (by omega), (h3), (ht), (.inr (by rw [Int.add_sub_cancel]; exact hg)), (hq')⟩
      · rename_i hlt
        have hle : lo1 = hi1 := by omega
        exact ⟨_, _, .refl, k q (some lo1) (by omega) hq ⟨h1, by omega, by rw [hle]; exact ht, hf⟩⟩
    · exact ⟨_, _, .refl, k [hi] none (by simp) (fun x h => by simp at h; subst h; omega) (.inr (by assumption))⟩
abbrev s_greatest : Stmt := top 2
def n_greatest : List Str := ["low", "high", "good", "middle"]
theorem sc_greatest : FnScope n_greatest ["low", "high", "good"] (defScope s_greatest) := ⟨rfl, rfl, rfl, by decide +kernel, rfl, by decide +kernel, by decide +kernel⟩
theorem d_greatest {P : Program} {w : World} {K : PySem.W.Frag} {mg : Str → Option Value} {base : Heap} {f : Addr} {fd : FuncData} (F : FunG K "greatest" "greatest" s_greatest f fd)
     : FnOk P w K mg base (L2.CX P w) 2 f fd ["low", "high", "good"] (liftE (pSearch GreatOk P w K mg base WG frG 1 pGood)) := by
  refine fnokG_of (N := n_greatest) (k := 1) F sc_greatest (fun ds M Φ Ξ h => by obtain ⟨lo, hi, f, as, cs, Mi, t, q0, n, rfl, rfl, Fn, hd, hn, b1, b2, b3, b4, hc, k⟩ := h; rfl) fun X kp ds M Φ Ξ h I => ?_
  obtain ⟨lo, hi, f, as, cs, Mi, t, q0, n, rfl, rfl, Fn, hd, hn, b1, b2, b3, b4, hc, k⟩ := h
  obtain ⟨rfl, rfl, rfl, rfl, rfl, hN, hs, hf, z, hp, tk, hst, hfr⟩ := I
  have nd := z.nd
  have n0 : Lo X 0 "low" := lo_of hN hs hf (by decide +kernel)
  have n1 : Lo X 1 "high" := lo_of hN hs hf (by decide +kernel)
  have n2 : Lo X 2 "good" := lo_of hN hs hf (by decide +kernel)
  have n3 : Lo X 3 "middle" := lo_of hN hs hf (by decide +kernel)
  clear F hf
  change DSs _ X (_ :: _) [_, _, _, _] _ _
  repeat' walk_at "t"
  · exact ⟨_, _, .refl, by have := k [] none (by simp) (fun _ h => nomatch h) (.inl (by assumption)); rw [List.append_nil] at this; exact this⟩
  · refine de_callC z n2.toNmP rfl List.mem_cons_self (by omega) Fn ?_
    repeat' walk_at "t"
    refine ⟨_, _, _, rfl, rfl, ?_⟩
    have := hc [] lo
    rw [List.append_nil] at this
    refine this _ (by omega) (by omega) (by simp) ?_
    repeat' walk_at "t"
    · repeat' ((fail_if_success refine stWhile ?_); walk_at "t")
      first | refine ds_cons (ds_whileC [0, 1, 3] (by assumption) (fun m vs M1 => (∃ (lo1 hi1 : Int) (q : List Int) (o3 : Option D), [some (.int lo1), some (.int hi1), o3] = vs ∧ (f, .fnc WG frG as cs) :: Mi (q0 ++ q) = M1 ∧ (hi1 - lo1 < 2 ^ m) ∧ (q.length + m ≤ n + 1) ∧ (lo ≤ lo1) ∧ (lo1 ≤ hi1) ∧ (hi1 ≤ hi) ∧ (t lo1 = true) ∧ (hi1 = hi ∨ t (hi1 + 1) = false) ∧ (∀ x ∈ q, lo ≤ x ∧ x ≤ hi))) ⟨n, ⟨lo, hi, [lo], _, rfl, rfl, (hd), (by simp; omega), (by omega), (by omega), (by omega), (by assumption), (.inl rfl), (fun x h => by simp at h; subst h; omega)⟩⟩ ?_) | refine ds_whileC [0, 1, 3] (by assumption) (fun m vs M1 => (∃ (lo1 hi1 : Int) (q : List Int) (o3 : Option D), [some (.int lo1), some (.int hi1), o3] = vs ∧ (f, .fnc WG frG as cs) :: Mi (q0 ++ q) = M1 ∧ (hi1 - lo1 < 2 ^ m) ∧ (q.length + m ≤ n + 1) ∧ (lo ≤ lo1) ∧ (lo1 ≤ hi1) ∧ (hi1 ≤ hi) ∧ (t lo1 = true) ∧ (hi1 = hi ∨ t (hi1 + 1) = false) ∧ (∀ x ∈ q, lo ≤ x ∧ x ≤ hi))) ⟨n, ⟨lo, hi, [lo], _, rfl, rfl, (hd), (by simp; omega), (by omega), (by omega), (by omega), (by assumption), (.inl rfl), (fun x h => by simp at h; subst h; omega)⟩⟩ ?_
      rintro m vs δ M1 ⟨lo1, hi1, q, o3, rfl, rfl, hm, hl, h1, h2, h3, ht, hf, hq⟩ hδ
      obtain rfl : δ = [_, _, _, o3] := hδ
      repeat' walk_at "t"
      · refine de_callC z n2.toNmP rfl List.mem_cons_self (by omega) Fn ?_
        repeat' walk_at "t"
        refine ⟨_, _, _, rfl, rfl, ?_⟩
        obtain ⟨m', rfl⟩ : ∃ m', m = m' + 1 := by
          cases m with
          | zero => rw [Int.pow_zero] at hm; omega
          | succ m => exact ⟨m, rfl⟩
        rw [Int.pow_succ] at hm
        have g1 : lo1 < (lo1 + hi1 + 1) / 2 := by omega
        have g2 : (lo1 + hi1 + 1) / 2 ≤ hi1 := by omega
        have g3 : hi1 - (lo1 + hi1 + 1) / 2 < 2 ^ m' := by omega
        have g4 : (lo1 + hi1 + 1) / 2 - 1 - lo1 < 2 ^ m' := by omega
        generalize (lo1 + hi1 + 1) / 2 = md at g1 g2 g3 g4 ⊢
        have hq' : ∀ x ∈ q ++ [md], lo ≤ x ∧ x ≤ hi := fun x hx => by
          rcases List.mem_append.mp hx with hx | hx
          · exact hq x hx
          · simp at hx; subst hx; omega
        refine hc q md _ (by omega) (by omega) (by omega) ?_
        repeat' walk_at "t"
        · rename_i hg
          exact ⟨[_, _, _], rfl, m', (by omega), md, hi1, q ++ [md], _, rfl, rfl, (g3), (by simp; omega), (by omega), (by omega), (h3), (hg), (hf), (hq')⟩
        · rename_i hg
          exact ⟨[_, _, _], rfl, m', (by omega), lo1, md - 1, q ++ [md], _, rfl, rfl, (g4), (by simp; omega), (h1), (by omega), (by omega), (ht), (.inr (by rw [Int.sub_add_cancel]; exact hg)), (hq')⟩
      · rename_i hlt
        have hle : lo1 = hi1 := by omega
        exact ⟨_, _, .refl, k q (some lo1) (by omega) hq ⟨h1, by omega, ht, by rw [hle]; exact hf⟩⟩
    · exact ⟨_, _, .refl, k [lo] none (by simp) (fun x h => by simp at h; subst h; omega) (.inr (by assumption))⟩
abbrev s_law_asked : Stmt := top 7
def n_law_asked : List Str := ["_law_asked_here", "_law_turn", "_law_up", "_law_good"]
theorem sc_law_asked : FnScope n_law_asked ["_law_asked_here", "_law_turn", "_law_up"] (defScope s_law_asked) := ⟨rfl, rfl, rfl, by decide +kernel, rfl, by decide +kernel, by decide +kernel⟩
theorem d_law_asked {P : Program} {w : World} {K : PySem.W.Frag} {mg : Str → Option Value} {base : Heap} {tb_law_asked : Addr} {f : Addr} {fd : FuncData} (F : FunG K "_law_asked" "_law_asked" s_law_asked f fd)
    (TB_law_asked : TbF base mg fd tb_law_asked) : FnOk P w K mg base (L2.CX P w) 1 f fd ["_law_asked_here", "_law_turn", "_law_up"] (liftE (pMaker tb_law_asked WG frG [2, 1, 0] 3)) := by
  exact fnokM_of (N := n_law_asked) (W := WG) (js := [2, 1, 0]) (b := defBody stGood) (i := 3) F sc_law_asked TB_law_asked rfl rfl rfl rfl rfl rfl (fun _ => rfl) (by decide +kernel) rfl (by decide) (by decide +kernel) rfl (by decide) (by decide +kernel)
def pRight (tb : Addr) : DSpE := fun ds M Φ _ => ∃ (lo hi turn : Int), ds = [.int lo, .int hi, .int turn] ∧ (tb, Cell.tab qGood) ∈ M ∧ hi - lo < 2 ^ 60 ∧ -(2 ^ 60) < lo ∧ lo < 2 ^ 60 ∧ -(2 ^ 61) < hi ∧ hi < 2 ^ 61 ∧ -(2 ^ 61) < turn ∧ turn < 2 ^ 61 ∧ Φ (.bl true) M
theorem least_due {lo hi turn : Int} {r : Option Int} (h : LeastOk lo hi (fun k => decide (turn ≤ k)) r) : (max lo turn ≤ hi ∧ r = some (max lo turn)) ∨ (¬ max lo turn ≤ hi ∧ r = none) := by
  cases r with
  | none =>
    refine .inr ⟨?_, rfl⟩
    rcases h with h | h
    · omega
    · have := of_decide_eq_false h
      omega
  | some x =>
    obtain ⟨h1, h2, h3, h4⟩ := h
    have h3 := of_decide_eq_true h3
    refine .inl ?_
    have : x = max lo turn := by
      rcases h4 with h4 | h4
      · omega
      · have := of_decide_eq_false h4
        omega
    subst this
    exact ⟨h2, rfl⟩
theorem great_due {lo hi turn : Int} {r : Option Int} (h : GreatOk lo hi (fun k => decide (k ≤ turn)) r) : (lo ≤ min hi turn ∧ r = some (min hi turn)) ∨ (¬ lo ≤ min hi turn ∧ r = none) := by
  cases r with
  | none =>
    refine .inr ⟨?_, rfl⟩
    rcases h with h | h
    · omega
    · have := of_decide_eq_false h
      omega
  | some x =>
    obtain ⟨h1, h2, h3, h4⟩ := h
    have h3 := of_decide_eq_true h3
    refine .inl ?_
    have : x = min hi turn := by
      rcases h4 with h4 | h4
      · omega
      · have := of_decide_eq_false h4
        omega
    subst this
    exact ⟨h1, rfl⟩
abbrev s_law_right : Stmt := top 8
def n_law_right : List Str := ["_law_low", "_law_high", "_law_turn", "_law_asked_here", "_law_found", "_law_due", "_law_k"]
theorem sc_law_right : FnScope n_law_right ["_law_low", "_law_high", "_law_turn"] (defScope s_law_right) := ⟨rfl, rfl, rfl, by decide +kernel, rfl, by decide +kernel, by decide +kernel⟩
theorem d_law_right {P : Program} {w : World} {K : PySem.W.Frag} {mg : Str → Option Value} {base : Heap} {tb_law_asked : Addr} {f : Addr} {fd : FuncData} (F : FunG K "_law_right" "_law_right" s_law_right f fd)
    (E_least_3 : DefE P w K mg base 2 "least" 3 [] (selN 3) (pSearch LeastOk P w K mg base WG frG 1 pGood)) (E_law_asked_3 : DefE P w K mg base 1 "_law_asked" 3 [] (selN 3) (pMaker tb_law_asked WG frG [2, 1, 0] 3)) (G_max : mg "max" = none) (G_isinstance : mg "isinstance" = none) (G_bool : mg "bool" = none) (G_len : mg "len" = none) (E_greatest_3 : DefE P w K mg base 2 "greatest" 3 [] (selN 3) (pSearch GreatOk P w K mg base WG frG 1 pGood)) (G_min : mg "min" = none) : FnOk P w K mg base (L2.CX P w) 3 f fd ["_law_low", "_law_high", "_law_turn"] (liftE (pRight tb_law_asked)) := by
  refine fnokG_of (N := n_law_right) (k := 2) F sc_law_right (fun ds M Φ Ξ h => by obtain ⟨lo, hi, turn, rfl, hM, b0, b1, b2, b3, b4, b5, b6, k⟩ := h; rfl) fun X kp ds M Φ Ξ h I => ?_
  obtain ⟨lo, hi, turn, rfl, hM, b0, b1, b2, b3, b4, b5, b6, k⟩ := h
  obtain ⟨rfl, rfl, rfl, rfl, rfl, hN, hs, hf, z, hp, tk, hst, hfr⟩ := I
  have nd := z.nd
  have n0 : Lo X 0 "_law_low" := lo_of hN hs hf (by decide +kernel)
  have n1 : Lo X 1 "_law_high" := lo_of hN hs hf (by decide +kernel)
  have n2 : Lo X 2 "_law_turn" := lo_of hN hs hf (by decide +kernel)
  have n3 : Lo X 3 "_law_asked_here" := lo_of hN hs hf (by decide +kernel)
  have n4 : Lo X 4 "_law_found" := lo_of hN hs hf (by decide +kernel)
  have n5 : Lo X 5 "_law_due" := lo_of hN hs hf (by decide +kernel)
  have l_least : Gl X "least" := gl_of hs (by decide +kernel)
  have l_law_asked : Gl X "_law_asked" := gl_of hs (by decide +kernel)
  have g_max : Gn X "max" := gn_of hs (by decide +kernel) G_max
  have g_isinstance : Gn X "isinstance" := gn_of hs (by decide +kernel) G_isinstance
  have g_bool : Gn X "bool" := gn_of hs (by decide +kernel) G_bool
  have g_len : Gn X "len" := gn_of hs (by decide +kernel) G_len
  have l_greatest : Gl X "greatest" := gl_of hs (by decide +kernel)
  have g_min : Gn X "min" := gn_of hs (by decide +kernel) G_min
  clear F hf
  change DSs _ X (_ :: _) [_, _, _, _, _, _, _] _ _
  repeat' ((fail_if_success refine (stSet "_law_asked_here") ?_); walk_at "t")
  first | refine ds_cons (ds_own 0 z n3 (df_lst (da_nil ⟨by decide, fun L => ?_⟩))) | refine ds_own 0 z n3 (df_lst (da_nil ⟨by decide, fun L => ?_⟩))
  walk_at "t"
  repeat' walk_at "t"
  refine ⟨rfl, List.mem_cons_of_mem _ hM, fun f as => ?_⟩
  repeat' walk_at "t"
  refine ⟨lo, hi, f, as, _, fun q => (L, .lst (q.map .int)) :: M, fun k => decide (turn ≤ k), [], 60, rfl, rfl, good_ok, b0, by decide, by omega, by omega, b3, b4, fun q k Φ' h1 h2 hl hk => ⟨L, q, turn, true, k, M, rfl, rfl, rfl, by omega, by simpa using hk⟩, fun q r hl hq hr => ?_⟩
  rw [List.nil_append]
  rcases least_due hr with ⟨hmx, rfl⟩ | ⟨hmx, rfl⟩
  · show Sets _ 4 (.int (max lo turn)) _
    repeat' ((fail_if_success refine stSet "_law_due" ?_); walk_at "t")
    refine ws_upE 1 rfl ?_
    apply Exists.intro
    refine ⟨?_, ?_⟩
    · walk_at "up"
    repeat' walk_at "t"
    refine DE.f (df_lc 0 z hN hs [("_law_k", 6)] (.one 6) (by decide +kernel) (by decide) (fun X' bk => pg_one bk z (bk.lo hN hs (by decide +kernel))) (di_list ?_))
    repeat' walk_at "t"
    refine LcH.pureT (q) (.int) (fun a => if ¬ (lo ≤ a ∧ a ≤ hi) then some (a) else none) (.int) (Nat.le_trans (show List.length _ ≤ 1000 by first | omega | (simp; done) | (simp; omega)) (by decide)) (fun q acc a ha => ?_) ?_
    · refine ⟨_, rfl, fun X' bk => ?_⟩
      have c6 : Lo X' 6 "_law_k" := bk.lo hN hs (by decide +kernel)
      have c0 : Nm X' 0 "_law_low" := bk.nm hN hs (by decide +kernel)
      have c1 : Nm X' 1 "_law_high" := bk.nm hN hs (by decide +kernel)
      have z' := bk.z z
      repeat' walk_at "t"
      all_goals first
        | (intro X' bk; (have c6 : Lo X' 6 "_law_k" := bk.lo hN hs (by decide +kernel)); (have c0 : Nm X' 0 "_law_low" := bk.nm hN hs (by decide +kernel)); (have c1 : Nm X' 1 "_law_high" := bk.nm hN hs (by decide +kernel)); (have z' := bk.z z); (repeat' walk_at "t"); exact ⟨by rw [if_pos (by walk_at "pos")]; rfl, rfl⟩)
        | exact ⟨by rw [if_neg (by walk_at "neg")]; rfl, rfl⟩
    rw [show q.filterMap (fun a => if ¬ (lo ≤ a ∧ a ≤ hi) then some a else none) = [] from List.filterMap_eq_nil_iff.mpr fun a ha => if_neg (not_not_intro (hq a ha))]
    repeat' walk_at "t"
    refine od_neNil (.val _) (okE_ints []) ?_
    repeat' ((fail_if_success refine stSet "_law_asked_here" ?_); walk_at "t")
    repeat' ((fail_if_success refine (stSet "_law_asked_here") ?_); walk_at "t")
    first | refine ds_cons (ds_own 0 z n3 (df_lst (da_nil ⟨by decide, fun L2 => ?_⟩))) | refine ds_own 0 z n3 (df_lst (da_nil ⟨by decide, fun L2 => ?_⟩))
    walk_at "t"
    repeat' walk_at "t"
    refine ⟨rfl, List.mem_cons_of_mem _ (List.mem_cons_of_mem _ hM), fun f2 as2 => ?_⟩
    repeat' walk_at "t"
    refine ⟨lo, hi, f2, as2, _, fun q => (L2, .lst (q.map .int)) :: _, fun k => decide (k ≤ turn), [], 60, rfl, rfl, good_ok, b0, by decide, by omega, by omega, b3, b4, fun q k Φ' h1 h2 hl hk => ⟨L2, q, turn, false, k, _, rfl, rfl, rfl, by omega, by simpa using hk⟩, fun q2 r2 hl2 hq2 hr2 => ?_⟩
    rw [List.nil_append]
    rcases great_due hr2 with ⟨hmx2, rfl⟩ | ⟨hmx2, rfl⟩
    · show Sets _ 4 (.int (min hi turn)) _
      repeat' ((fail_if_success refine stSet "_law_due" ?_); walk_at "t")
      refine ws_upE 1 rfl ?_
      apply Exists.intro
      refine ⟨?_, ?_⟩
      · walk_at "up"
      repeat' walk_at "t"
      refine DE.f (df_lc 0 z hN hs [("_law_k", 6)] (.one 6) (by decide +kernel) (by decide) (fun X' bk => pg_one bk z (bk.lo hN hs (by decide +kernel))) (di_list ?_))
      repeat' walk_at "t"
      refine LcH.pureT (q2) (.int) (fun a => if ¬ (lo ≤ a ∧ a ≤ hi) then some (a) else none) (.int) (Nat.le_trans (show List.length _ ≤ 1000 by first | omega | (simp; done) | (simp; omega)) (by decide)) (fun q acc a ha => ?_) ?_
      · refine ⟨_, rfl, fun X' bk => ?_⟩
        have c6 : Lo X' 6 "_law_k" := bk.lo hN hs (by decide +kernel)
        have c0 : Nm X' 0 "_law_low" := bk.nm hN hs (by decide +kernel)
        have c1 : Nm X' 1 "_law_high" := bk.nm hN hs (by decide +kernel)
        have z' := bk.z z
        repeat' walk_at "t"
        all_goals first
          | (intro X' bk; (have c6 : Lo X' 6 "_law_k" := bk.lo hN hs (by decide +kernel)); (have c0 : Nm X' 0 "_law_low" := bk.nm hN hs (by decide +kernel)); (have c1 : Nm X' 1 "_law_high" := bk.nm hN hs (by decide +kernel)); (have z' := bk.z z); (repeat' walk_at "t"); exact ⟨by rw [if_pos (by walk_at "pos")]; rfl, rfl⟩)
          | exact ⟨by rw [if_neg (by walk_at "neg")]; rfl, rfl⟩
      rw [show q2.filterMap (fun a => if ¬ (lo ≤ a ∧ a ≤ hi) then some a else none) = [] from List.filterMap_eq_nil_iff.mpr fun a ha => if_neg (not_not_intro (hq2 a ha))]
      repeat' walk_at "t"
      refine od_eqNil (.val _) (okE_ints []) ?_
      repeat' walk_at "t"
      exact ⟨.bl true, M, .sub (.cons _ (.cons _ (.refl _))), k⟩
    · show Sets _ 4 .non _
      repeat' ((fail_if_success refine stSet "_law_due" ?_); walk_at "t")
      refine ws_upE 1 rfl ?_
      apply Exists.intro
      refine ⟨?_, ?_⟩
      · walk_at "up"
      repeat' walk_at "t"
      refine od_neSame (.val _) (.val _) rfl ?_
      repeat' walk_at "t"
      refine DE.f (df_lc 0 z hN hs [("_law_k", 6)] (.one 6) (by decide +kernel) (by decide) (fun X' bk => pg_one bk z (bk.lo hN hs (by decide +kernel))) (di_list ?_))
      repeat' walk_at "t"
      refine LcH.pureT (q2) (.int) (fun a => if ¬ (lo ≤ a ∧ a ≤ hi) then some (a) else none) (.int) (Nat.le_trans (show List.length _ ≤ 1000 by first | omega | (simp; done) | (simp; omega)) (by decide)) (fun q acc a ha => ?_) ?_
      · refine ⟨_, rfl, fun X' bk => ?_⟩
        have c6 : Lo X' 6 "_law_k" := bk.lo hN hs (by decide +kernel)
        have c0 : Nm X' 0 "_law_low" := bk.nm hN hs (by decide +kernel)
        have c1 : Nm X' 1 "_law_high" := bk.nm hN hs (by decide +kernel)
        have z' := bk.z z
        repeat' walk_at "t"
        all_goals first
          | (intro X' bk; (have c6 : Lo X' 6 "_law_k" := bk.lo hN hs (by decide +kernel)); (have c0 : Nm X' 0 "_law_low" := bk.nm hN hs (by decide +kernel)); (have c1 : Nm X' 1 "_law_high" := bk.nm hN hs (by decide +kernel)); (have z' := bk.z z); (repeat' walk_at "t"); exact ⟨by rw [if_pos (by walk_at "pos")]; rfl, rfl⟩)
          | exact ⟨by rw [if_neg (by walk_at "neg")]; rfl, rfl⟩
      rw [show q2.filterMap (fun a => if ¬ (lo ≤ a ∧ a ≤ hi) then some a else none) = [] from List.filterMap_eq_nil_iff.mpr fun a ha => if_neg (not_not_intro (hq2 a ha))]
      repeat' walk_at "t"
      refine od_eqNil (.val _) (okE_ints []) ?_
      repeat' walk_at "t"
      exact ⟨.bl true, M, .sub (.cons _ (.cons _ (.refl _))), k⟩
  · show Sets _ 4 .non _
    repeat' ((fail_if_success refine stSet "_law_due" ?_); walk_at "t")
    refine ws_upE 1 rfl ?_
    apply Exists.intro
    refine ⟨?_, ?_⟩
    · walk_at "up"
    repeat' walk_at "t"
    refine od_neSame (.val _) (.val _) rfl ?_
    repeat' walk_at "t"
    refine DE.f (df_lc 0 z hN hs [("_law_k", 6)] (.one 6) (by decide +kernel) (by decide) (fun X' bk => pg_one bk z (bk.lo hN hs (by decide +kernel))) (di_list ?_))
    repeat' walk_at "t"
    refine LcH.pureT (q) (.int) (fun a => if ¬ (lo ≤ a ∧ a ≤ hi) then some (a) else none) (.int) (Nat.le_trans (show List.length _ ≤ 1000 by first | omega | (simp; done) | (simp; omega)) (by decide)) (fun q acc a ha => ?_) ?_
    · refine ⟨_, rfl, fun X' bk => ?_⟩
      have c6 : Lo X' 6 "_law_k" := bk.lo hN hs (by decide +kernel)
      have c0 : Nm X' 0 "_law_low" := bk.nm hN hs (by decide +kernel)
      have c1 : Nm X' 1 "_law_high" := bk.nm hN hs (by decide +kernel)
      have z' := bk.z z
      repeat' walk_at "t"
      all_goals first
        | (intro X' bk; (have c6 : Lo X' 6 "_law_k" := bk.lo hN hs (by decide +kernel)); (have c0 : Nm X' 0 "_law_low" := bk.nm hN hs (by decide +kernel)); (have c1 : Nm X' 1 "_law_high" := bk.nm hN hs (by decide +kernel)); (have z' := bk.z z); (repeat' walk_at "t"); exact ⟨by rw [if_pos (by walk_at "pos")]; rfl, rfl⟩)
        | exact ⟨by rw [if_neg (by walk_at "neg")]; rfl, rfl⟩
    rw [show q.filterMap (fun a => if ¬ (lo ≤ a ∧ a ≤ hi) then some a else none) = [] from List.filterMap_eq_nil_iff.mpr fun a ha => if_neg (not_not_intro (hq a ha))]
    repeat' walk_at "t"
    refine od_neNil (.val _) (okE_ints []) ?_
    repeat' ((fail_if_success refine stSet "_law_asked_here" ?_); walk_at "t")
    repeat' ((fail_if_success refine (stSet "_law_asked_here") ?_); walk_at "t")
    first | refine ds_cons (ds_own 0 z n3 (df_lst (da_nil ⟨by decide, fun L2 => ?_⟩))) | refine ds_own 0 z n3 (df_lst (da_nil ⟨by decide, fun L2 => ?_⟩))
    walk_at "t"
    repeat' walk_at "t"
    refine ⟨rfl, List.mem_cons_of_mem _ (List.mem_cons_of_mem _ hM), fun f2 as2 => ?_⟩
    repeat' walk_at "t"
    refine ⟨lo, hi, f2, as2, _, fun q => (L2, .lst (q.map .int)) :: _, fun k => decide (k ≤ turn), [], 60, rfl, rfl, good_ok, b0, by decide, by omega, by omega, b3, b4, fun q k Φ' h1 h2 hl hk => ⟨L2, q, turn, false, k, _, rfl, rfl, rfl, by omega, by simpa using hk⟩, fun q2 r2 hl2 hq2 hr2 => ?_⟩
    rw [List.nil_append]
    rcases great_due hr2 with ⟨hmx2, rfl⟩ | ⟨hmx2, rfl⟩
    · show Sets _ 4 (.int (min hi turn)) _
      repeat' ((fail_if_success refine stSet "_law_due" ?_); walk_at "t")
      refine ws_upE 1 rfl ?_
      apply Exists.intro
      refine ⟨?_, ?_⟩
      · walk_at "up"
      repeat' walk_at "t"
      refine DE.f (df_lc 0 z hN hs [("_law_k", 6)] (.one 6) (by decide +kernel) (by decide) (fun X' bk => pg_one bk z (bk.lo hN hs (by decide +kernel))) (di_list ?_))
      repeat' walk_at "t"
      refine LcH.pureT (q2) (.int) (fun a => if ¬ (lo ≤ a ∧ a ≤ hi) then some (a) else none) (.int) (Nat.le_trans (show List.length _ ≤ 1000 by first | omega | (simp; done) | (simp; omega)) (by decide)) (fun q acc a ha => ?_) ?_
      · refine ⟨_, rfl, fun X' bk => ?_⟩
        have c6 : Lo X' 6 "_law_k" := bk.lo hN hs (by decide +kernel)
        have c0 : Nm X' 0 "_law_low" := bk.nm hN hs (by decide +kernel)
        have c1 : Nm X' 1 "_law_high" := bk.nm hN hs (by decide +kernel)
        have z' := bk.z z
        repeat' walk_at "t"
        all_goals first
          | (intro X' bk; (have c6 : Lo X' 6 "_law_k" := bk.lo hN hs (by decide +kernel)); (have c0 : Nm X' 0 "_law_low" := bk.nm hN hs (by decide +kernel)); (have c1 : Nm X' 1 "_law_high" := bk.nm hN hs (by decide +kernel)); (have z' := bk.z z); (repeat' walk_at "t"); exact ⟨by rw [if_pos (by walk_at "pos")]; rfl, rfl⟩)
          | exact ⟨by rw [if_neg (by walk_at "neg")]; rfl, rfl⟩
      rw [show q2.filterMap (fun a => if ¬ (lo ≤ a ∧ a ≤ hi) then some a else none) = [] from List.filterMap_eq_nil_iff.mpr fun a ha => if_neg (not_not_intro (hq2 a ha))]
      repeat' walk_at "t"
      refine od_eqNil (.val _) (okE_ints []) ?_
      repeat' walk_at "t"
      exact ⟨.bl true, M, .sub (.cons _ (.cons _ (.refl _))), k⟩
    · show Sets _ 4 .non _
      repeat' ((fail_if_success refine stSet "_law_due" ?_); walk_at "t")
      refine ws_upE 1 rfl ?_
      apply Exists.intro
      refine ⟨?_, ?_⟩
      · walk_at "up"
      repeat' walk_at "t"
      refine od_neSame (.val _) (.val _) rfl ?_
      repeat' walk_at "t"
      refine DE.f (df_lc 0 z hN hs [("_law_k", 6)] (.one 6) (by decide +kernel) (by decide) (fun X' bk => pg_one bk z (bk.lo hN hs (by decide +kernel))) (di_list ?_))
      repeat' walk_at "t"
      refine LcH.pureT (q2) (.int) (fun a => if ¬ (lo ≤ a ∧ a ≤ hi) then some (a) else none) (.int) (Nat.le_trans (show List.length _ ≤ 1000 by first | omega | (simp; done) | (simp; omega)) (by decide)) (fun q acc a ha => ?_) ?_
      · refine ⟨_, rfl, fun X' bk => ?_⟩
        have c6 : Lo X' 6 "_law_k" := bk.lo hN hs (by decide +kernel)
        have c0 : Nm X' 0 "_law_low" := bk.nm hN hs (by decide +kernel)
        have c1 : Nm X' 1 "_law_high" := bk.nm hN hs (by decide +kernel)
        have z' := bk.z z
        repeat' walk_at "t"
        all_goals first
          | (intro X' bk; (have c6 : Lo X' 6 "_law_k" := bk.lo hN hs (by decide +kernel)); (have c0 : Nm X' 0 "_law_low" := bk.nm hN hs (by decide +kernel)); (have c1 : Nm X' 1 "_law_high" := bk.nm hN hs (by decide +kernel)); (have z' := bk.z z); (repeat' walk_at "t"); exact ⟨by rw [if_pos (by walk_at "pos")]; rfl, rfl⟩)
          | exact ⟨by rw [if_neg (by walk_at "neg")]; rfl, rfl⟩
      rw [show q2.filterMap (fun a => if ¬ (lo ≤ a ∧ a ≤ hi) then some a else none) = [] from List.filterMap_eq_nil_iff.mpr fun a ha => if_neg (not_not_intro (hq2 a ha))]
      repeat' walk_at "t"
      refine od_eqNil (.val _) (okE_ints []) ?_
      repeat' walk_at "t"
      exact ⟨.bl true, M, .sub (.cons _ (.cons _ (.refl _))), k⟩
abbrev tbs (tb : Addr) : List (Addr × Str) := [(tb, qGood)]
abbrev s_law : Stmt := top 9
def n_law : List Str := ["_law_script", "_law_state", "_law_turn", "_law_wide", "_law_low", "_law_high", "_law_edge", "_law_far"]
theorem sc_law : FnScope n_law ["_law_script"] (defScope s_law) := ⟨rfl, rfl, rfl, by decide +kernel, rfl, by decide +kernel, by decide +kernel⟩
theorem d_law {P : Program} {w : World} {K : PySem.W.Frag} {mg : Str → Option Value} {base : Heap} {tb_law_asked : Addr} {f : Addr} {fd : FuncData} (F : FunG K "law" "law" s_law f fd)
    (D_law_begun : Def P w K mg base 1 "_law_begun" ["_law_script"] (pBegun K)) (G_range : mg "range" = none) (D_law_pick : Def P w K mg base 2 "_law_pick" ["_law_state", "_law_some"] pPick) (D_law_take : Def P w K mg base 1 "_law_take" ["_law_state", "_law_many"] pTake) (E_law_right_3 : DefE P w K mg base 3 "_law_right" 3 [] (selN 3) (pRight tb_law_asked)) : FnOk P w K mg base (L2.CX P w) 4 f fd ["_law_script"] (liftE (pLawT (tbs tb_law_asked) K)) := by
  refine fnokG_of (N := n_law) (k := 3) F sc_law (fun ds M Φ Ξ h => by obtain ⟨ns, rfl, rfl, hl, k⟩ := h; rfl) fun X kp ds M Φ Ξ h I => ?_
  obtain ⟨ns, rfl, rfl, hl, k⟩ := h
  obtain ⟨rfl, rfl, rfl, rfl, rfl, hN, hs, hf, z, hp, tk, hst, hfr⟩ := I
  have nd := z.nd
  have n0 : Lo X 0 "_law_script" := lo_of hN hs hf (by decide +kernel)
  have n1 : Lo X 1 "_law_state" := lo_of hN hs hf (by decide +kernel)
  have n2 : Lo X 2 "_law_turn" := lo_of hN hs hf (by decide +kernel)
  have n3 : Lo X 3 "_law_wide" := lo_of hN hs hf (by decide +kernel)
  have n4 : Lo X 4 "_law_low" := lo_of hN hs hf (by decide +kernel)
  have n5 : Lo X 5 "_law_high" := lo_of hN hs hf (by decide +kernel)
  have n6 : Lo X 6 "_law_edge" := lo_of hN hs hf (by decide +kernel)
  have n7 : Lo X 7 "_law_far" := lo_of hN hs hf (by decide +kernel)
  have l_law_begun : Gl X "_law_begun" := gl_of hs (by decide +kernel)
  have g_range : Gn X "range" := gn_of hs (by decide +kernel) G_range
  have l_law_pick : Gl X "_law_pick" := gl_of hs (by decide +kernel)
  have l_law_take : Gl X "_law_take" := gl_of hs (by decide +kernel)
  have l_law_right : Gl X "_law_right" := gl_of hs (by decide +kernel)
  clear F hf
  change DSs _ X (_ :: _) [_, _, _, _, _, _, _, _] _ _
  repeat' ((fail_if_success refine stFor ?_); walk_at "t")
  rename_i s g
  repeat' ((fail_if_success refine stFor ?_); walk_at "t")
  first | refine ds_cons (ds_forC [2, 3, 4, 5, 6, 7] z (by assumption) (di_range1 (by assumption) ?_)) | refine ds_forC [2, 3, 4, 5, 6, 7] z (by assumption) (di_range1 (by assumption) ?_)
  repeat' walk_at "t"
  refine ⟨by omega, by omega, fun i vs M1 => (∃ (b : Nat) (o2 o3 o4 o5 o6 o7 : Option D), [o2, o3, o4, o5, o6, o7] = vs ∧ (s, .st g b) :: tbM (tbs tb_law_asked) = M1 ∧ (999999990000 ≤ b + 2000 * i)), ⟨_, _, _, _, _, _, _, rfl, rfl, (by omega)⟩, ?_, ?_⟩
  · rintro i x vs δ M1 hx ⟨b, o2, o3, o4, o5, o6, o7, rfl, rfl, hb⟩ hδ
    obtain rfl : δ = [_, _, o2, o3, o4, o5, o6, o7] := hδ
    obtain ⟨hi, rfl⟩ := range_get hx
    repeat' walk_at "t"
    refine c_pickI [1, 2, 3, 9, 200, 1000000000, 1000000000000000000] (by omega) (by decide) (by decide) fun wd hwd => ?_
    have hwd1 : 1 ≤ wd ∧ wd ≤ 1000000000000000000 := by
      simp only [List.mem_cons, List.not_mem_nil, or_false] at hwd
      omega
    repeat' walk_at "t"
    rename_i t1 ht10 ht11
    refine c_pickI [0, 1, t1] (by omega) (by simp) (by simp) fun lo hlo => ?_
    have hlo1 : 0 ≤ lo ∧ lo < 1000000001 := by
      simp only [List.mem_cons, List.not_mem_nil, or_false] at hlo
      omega
    repeat' walk_at "t"
    rename_i t2 ht20 ht21 t3 ht30 ht31
    refine c_pickI [lo, lo + t2, lo - 1, lo + t2 + 1, lo + t3, lo + 1] (by omega) (by simp) (by simp) fun ed hed => ?_
    have hed1 : lo - 1 ≤ ed ∧ ed ≤ lo + t2 + 1 := by
      simp only [List.mem_cons, List.not_mem_nil, or_false] at hed
      omega
    repeat' walk_at "t"
    rename_i t4 ht40 ht41 t5 ht50 ht51
    refine c_pickI [0, 0, 0, t4, 0 - t5] (by omega) (by simp) (by simp) fun fa hfa => ?_
    have hfa1 : -1000000000 < fa ∧ fa < 1000000000 := by
      simp only [List.mem_cons, List.not_mem_nil, or_false] at hfa
      omega
    repeat' walk_at "t"
    refine ⟨lo, lo + t2, ed + fa, rfl, .tail _ (.head _), by omega, by omega, by omega, by omega, by omega, by omega, by omega, ?_⟩
    repeat' walk_at "t"
    rename_i t6 ht60 ht61
    refine ⟨lo + t2 + 1 + t6, lo + t2, ed, rfl, .tail _ (.head _), by omega, by omega, by omega, by omega, by omega, by omega, by omega, ?_⟩
    repeat' walk_at "t"
    exact ⟨[_, _, _, _, _, _], rfl, _, _, _, _, _, _, _, rfl, rfl, (by omega)⟩
  · rintro vs δ M1 ⟨b, o2, o3, o4, o5, o6, o7, rfl, rfl, hb⟩ hδ
    obtain rfl : δ = [_, _, o2, o3, o4, o5, o6, o7] := hδ
    try simp only [range_len, List.length_map, enum_len] at hb
    repeat' walk_at "t"
    exact ⟨_, _, .sub (.cons _ (.refl _)), k⟩
def tHook (K : Params → PySem.W.Frag) (as : List Addr) (e : ∀ P, as = (K P).map (·.1)) (ts : List Addr) : PySem.W.Hook := PySem.W.kHook (fun p => K p ++ ts.map fun t => (t, PySem.W.tabObj #[])) (as ++ ts) (fun P => by rw [List.map_append, List.map_map, ← e P]; exact congrArg (as ++ ·) (List.map_id ts).symm)
theorem tk_app {K T : PySem.W.Frag} {a : Addr} {o : Obj} (h : K.lookup a = some o) : (K ++ T).lookup a = some o := by rw [List.lookup_append, h]; rfl
theorem tk_lk {a : Addr} {o : Obj} : ∀ {ts : List Addr}, a ∈ ts → (ts.map fun t => (t, o)).lookup a = some o
  | t :: ts, h => by
    rw [List.map_cons, List.lookup_cons]
    by_cases e : a = t
    · rw [e, beq_self_eq_true]
    · rw [beq_false_of_ne e]
      exact tk_lk ((List.mem_cons.mp h).resolve_left e)
theorem tk_in {K : Params → PySem.W.Frag} {as : List Addr} {e : ∀ P, as = (K P).map (·.1)} {ts : List Addr} {w : World} {h : Heap} (Y : (tHook K as e ts).says w h) : (K w.params).In h := fun a o q => (PySem.W.kIn_of Y) a o (tk_app q)
theorem tk_tab {K : Params → PySem.W.Frag} {as : List Addr} {e : ∀ P, as = (K P).map (·.1)} {ts : List Addr} {w : World} {h : Heap} (Y : (tHook K as e ts).says w h) {t : Addr} (m : t ∈ ts) (n : (K w.params).lookup t = none) : h.get? t = some (PySem.W.tabObj #[]) := (PySem.W.kIn_of Y) t _ (by rw [List.lookup_append, n]; exact tk_lk m)
theorem all_mk {l : PySem.W.OpenLaw} {w : World} {K : PySem.W.Frag} {h : Heap} {mg : Str → Option Value} {fa f1 f2 f3 f4 f5 f6 f7 f8 tb_law_asked : Addr} (X : K.In h) (G : h.Ns mainGlobals mg) (hfa : mg "law" = some (.ref fa))
    {od1 an1 : Option Addr} {sl1 : Array (Option Value)} {oc1 kV1 dc1 pm1 cd1 ct1 : Value}
    (a1 : PySem.W.nsIn K mainGlobals "_law_begun" = some (some (.ref f1)))
    (l1 : K.lookup f1 = some ⟨oc1, od1, .func (PySem.W.fnOf "_law_begun" "_law_begun" (defArgs s_law_begun) (defBody s_law_begun) (defScope s_law_begun) .none kV1 dc1 pm1 an1 cd1 ct1), sl1⟩)
    (c1 : PySem.W.codeIn K cd1 "_law_begun" = true)
    (k1 : PySem.W.keepIn K (.ref f1) = true)
    {od2 an2 : Option Addr} {sl2 : Array (Option Value)} {oc2 kV2 dc2 pm2 cd2 ct2 : Value}
    (a2 : PySem.W.nsIn K mainGlobals "_law_take" = some (some (.ref f2)))
    (l2 : K.lookup f2 = some ⟨oc2, od2, .func (PySem.W.fnOf "_law_take" "_law_take" (defArgs s_law_take) (defBody s_law_take) (defScope s_law_take) .none kV2 dc2 pm2 an2 cd2 ct2), sl2⟩)
    (c2 : PySem.W.codeIn K cd2 "_law_take" = true)
    (k2 : PySem.W.keepIn K (.ref f2) = true)
    {od3 an3 : Option Addr} {sl3 : Array (Option Value)} {oc3 kV3 dc3 pm3 cd3 ct3 : Value}
    (a3 : PySem.W.nsIn K mainGlobals "_law_pick" = some (some (.ref f3)))
    (l3 : K.lookup f3 = some ⟨oc3, od3, .func (PySem.W.fnOf "_law_pick" "_law_pick" (defArgs s_law_pick) (defBody s_law_pick) (defScope s_law_pick) .none kV3 dc3 pm3 an3 cd3 ct3), sl3⟩)
    (c3 : PySem.W.codeIn K cd3 "_law_pick" = true)
    (k3 : PySem.W.keepIn K (.ref f3) = true)
    {od4 an4 : Option Addr} {sl4 : Array (Option Value)} {oc4 kV4 dc4 pm4 cd4 ct4 : Value}
    (a4 : PySem.W.nsIn K mainGlobals "least" = some (some (.ref f4)))
    (l4 : K.lookup f4 = some ⟨oc4, od4, .func (PySem.W.fnOf "least" "least" (defArgs s_least) (defBody s_least) (defScope s_least) .none kV4 dc4 pm4 an4 cd4 ct4), sl4⟩)
    (c4 : PySem.W.codeIn K cd4 "least" = true)
    (k4 : PySem.W.keepIn K (.ref f4) = true)
    {kc5 : Addr} {od5 an5 : Option Addr} {sl5 : Array (Option Value)} {oc5 kV5 dc5 pm5 ct5 : Value}
    (a5 : PySem.W.nsIn K mainGlobals "_law_asked" = some (some (.ref f5)))
    (l5 : K.lookup f5 = some ⟨oc5, od5, .func (PySem.W.fnOf "_law_asked" "_law_asked" (defArgs s_law_asked) (defBody s_law_asked) (defScope s_law_asked) .none kV5 dc5 pm5 an5 (.ref kc5) ct5), sl5⟩)
    (c5 : PySem.W.codeIn K (.ref kc5) "_law_asked" = true)
    (k5 : PySem.W.keepIn K (.ref f5) = true)
    {od6 an6 : Option Addr} {sl6 : Array (Option Value)} {oc6 kV6 dc6 pm6 cd6 ct6 : Value}
    (a6 : PySem.W.nsIn K mainGlobals "greatest" = some (some (.ref f6)))
    (l6 : K.lookup f6 = some ⟨oc6, od6, .func (PySem.W.fnOf "greatest" "greatest" (defArgs s_greatest) (defBody s_greatest) (defScope s_greatest) .none kV6 dc6 pm6 an6 cd6 ct6), sl6⟩)
    (c6 : PySem.W.codeIn K cd6 "greatest" = true)
    (k6 : PySem.W.keepIn K (.ref f6) = true)
    {od7 an7 : Option Addr} {sl7 : Array (Option Value)} {oc7 kV7 dc7 pm7 cd7 ct7 : Value}
    (a7 : PySem.W.nsIn K mainGlobals "_law_right" = some (some (.ref f7)))
    (l7 : K.lookup f7 = some ⟨oc7, od7, .func (PySem.W.fnOf "_law_right" "_law_right" (defArgs s_law_right) (defBody s_law_right) (defScope s_law_right) .none kV7 dc7 pm7 an7 cd7 ct7), sl7⟩)
    (c7 : PySem.W.codeIn K cd7 "_law_right" = true)
    (k7 : PySem.W.keepIn K (.ref f7) = true)
    {od8 an8 : Option Addr} {sl8 : Array (Option Value)} {oc8 kV8 dc8 pm8 cd8 ct8 : Value}
    (a8 : PySem.W.nsIn K mainGlobals "law" = some (some (.ref f8)))
    (l8 : K.lookup f8 = some ⟨oc8, od8, .func (PySem.W.fnOf "law" "law" (defArgs s_law) (defBody s_law) (defScope s_law) .none kV8 dc8 pm8 an8 cd8 ct8), sl8⟩)
    (c8 : PySem.W.codeIn K cd8 "law" = true)
    (k8 : PySem.W.keepIn K (.ref f8) = true)
    (th5 : PySem.W.codeHdIn K kc5 tb_law_asked = true)
    (tn5 : K.lookup tb_law_asked = none)
    (tt5 : K.lookup tb_law_asked = none → h.get? tb_law_asked = some (PySem.W.tabObj #[]))
    (tnd : ([tb_law_asked] : List Addr).Nodup)
    (z_len : PySem.W.nsIn K mainGlobals "len" = some none)
    (z_max : PySem.W.nsIn K mainGlobals "max" = some none)
    (z_isinstance : PySem.W.nsIn K mainGlobals "isinstance" = some none)
    (z_bool : PySem.W.nsIn K mainGlobals "bool" = some none)
    (z_min : PySem.W.nsIn K mainGlobals "min" = some none)
    (z_range : PySem.W.nsIn K mainGlobals "range" = some none)
    : LamX.LawAtS l w K (L2.CX l.prog w) 4 63 "_law_script" mg fa h := by
  have e := hfa.symm.trans (PySem.W.mg_of X G a8)
  cases e
  have G_len : mg "len" = none := PySem.W.mg_none_of X G z_len
  have G_max : mg "max" = none := PySem.W.mg_none_of X G z_max
  have G_isinstance : mg "isinstance" = none := PySem.W.mg_none_of X G z_isinstance
  have G_bool : mg "bool" = none := PySem.W.mg_none_of X G z_bool
  have G_min : mg "min" = none := PySem.W.mg_none_of X G z_min
  have G_range : mg "range" = none := PySem.W.mg_none_of X G z_range
  have F1 := fun_mk (st := s_law_begun) l1 c1 k1
  have b1 := F1.binds (ps := ["_law_script"]) fun _ _ _ _ _ _ us hl => match us, hl with | [_], _ => rfl
  have F2 := fun_mk (st := s_law_take) l2 c2 k2
  have b2 := F2.binds (ps := ["_law_state", "_law_many"]) fun _ _ _ _ _ _ us hl => match us, hl with | [_, _], _ => rfl
  have F3 := fun_mk (st := s_law_pick) l3 c3 k3
  have b3 := F3.binds (ps := ["_law_state", "_law_some"]) fun _ _ _ _ _ _ us hl => match us, hl with | [_, _], _ => rfl
  have F4 := fung_mk (st := s_least) l4 c4
  have F5 := fung_mk (st := s_law_asked) l5 c5
  have F6 := fung_mk (st := s_greatest) l6 c6
  have F7 := fung_mk (st := s_law_right) l7 c7
  have F8 := fung_mk (st := s_law) l8 c8
  refine ⟨PySem.W.fnOf "law" "law" (defArgs s_law) (defBody s_law) (defScope s_law) .none kV8 dc8 pm8 an8 cd8 ct8, [(kc5, tb_law_asked)], liftE ((pLawT (tbs tb_law_asked) K)), (List.forall_mem_cons.mpr ⟨tt5 tn5, (fun _ h => nomatch h)⟩), (List.forall_mem_cons.mpr ⟨tn5, (fun _ h => nomatch h)⟩), (List.forall_mem_cons.mpr ⟨PySem.W.codeHd_of_K X th5, (fun _ h => nomatch h)⟩), fun s v => .of_eq rfl, fun H a ns hl _ hT hS => law_startT tnd (List.forall_mem_cons.mpr ⟨hT (kc5, tb_law_asked) (by simp), (fun _ h => nomatch h)⟩) hl hS, fun base _ _ hTB => ?_⟩
  have O_law_begun : FnOk l.prog w K mg base CX0 1 f1 _ ["_law_script"] (lift (pBegun K)) := d_law_begun F1 
  have O_law_take : FnOk l.prog w K mg base CX0 1 f2 _ ["_law_state", "_law_many"] (lift pTake) := d_law_take F2 G_len
  have D_law_take : Def l.prog w K mg base 1 "_law_take" ["_law_state", "_law_many"] pTake := ⟨_, _, PySem.W.mg_of X G a2, k2, b2, O_law_take⟩
  have O_law_pick : FnOk l.prog w K mg base CX0 2 f3 _ ["_law_state", "_law_some"] (lift pPick) := d_law_pick F3 D_law_take G_len
  have O_least : FnOk l.prog w K mg base (L2.CX l.prog w) 2 f4 _ ["low", "high", "good"] (liftE (pSearch LeastOk l.prog w K mg base WG frG 1 pGood)) := d_least F4 
  have O_law_asked : FnOk l.prog w K mg base (L2.CX l.prog w) 1 f5 _ ["_law_asked_here", "_law_turn", "_law_up"] (liftE (pMaker tb_law_asked WG frG [2, 1, 0] 3)) := d_law_asked F5 ⟨kc5, hTB (kc5, tb_law_asked) (by simp), rfl⟩
  have O_greatest : FnOk l.prog w K mg base (L2.CX l.prog w) 2 f6 _ ["low", "high", "good"] (liftE (pSearch GreatOk l.prog w K mg base WG frG 1 pGood)) := d_greatest F6 
  have E_least_3 : DefE l.prog w K mg base 2 "least" 3 [] (selN 3) (pSearch LeastOk l.prog w K mg base WG frG 1 pGood) := ⟨⟨f4, PySem.W.mg_of X G a4, k4, ⟨⟨_, ["low", "high", "good"], ⟨fun s us ws hK h1 h2 => match us, ws, h1, h2 with | [u0, u1, u2], [], _, _ => ⟨[u0, u1, u2], (.at rfl (.at rfl (.at rfl .nil))), .of_eq rfl⟩⟩, O_least⟩⟩⟩⟩
  have E_law_asked_3 : DefE l.prog w K mg base 1 "_law_asked" 3 [] (selN 3) (pMaker tb_law_asked WG frG [2, 1, 0] 3) := ⟨⟨f5, PySem.W.mg_of X G a5, k5, ⟨⟨_, ["_law_asked_here", "_law_turn", "_law_up"], ⟨fun s us ws hK h1 h2 => match us, ws, h1, h2 with | [u0, u1, u2], [], _, _ => ⟨[u0, u1, u2], (.at rfl (.at rfl (.at rfl .nil))), .of_eq rfl⟩⟩, O_law_asked⟩⟩⟩⟩
  have E_greatest_3 : DefE l.prog w K mg base 2 "greatest" 3 [] (selN 3) (pSearch GreatOk l.prog w K mg base WG frG 1 pGood) := ⟨⟨f6, PySem.W.mg_of X G a6, k6, ⟨⟨_, ["low", "high", "good"], ⟨fun s us ws hK h1 h2 => match us, ws, h1, h2 with | [u0, u1, u2], [], _, _ => ⟨[u0, u1, u2], (.at rfl (.at rfl (.at rfl .nil))), .of_eq rfl⟩⟩, O_greatest⟩⟩⟩⟩
  have O_law_right : FnOk l.prog w K mg base (L2.CX l.prog w) 3 f7 _ ["_law_low", "_law_high", "_law_turn"] (liftE (pRight tb_law_asked)) := d_law_right F7 E_least_3 E_law_asked_3 G_max G_isinstance G_bool G_len E_greatest_3 G_min
  have D_law_begun : Def l.prog w K mg base 1 "_law_begun" ["_law_script"] (pBegun K) := ⟨_, _, PySem.W.mg_of X G a1, k1, b1, O_law_begun⟩
  have D_law_pick : Def l.prog w K mg base 2 "_law_pick" ["_law_state", "_law_some"] pPick := ⟨_, _, PySem.W.mg_of X G a3, k3, b3, O_law_pick⟩
  have E_law_right_3 : DefE l.prog w K mg base 3 "_law_right" 3 [] (selN 3) (pRight tb_law_asked) := ⟨⟨f7, PySem.W.mg_of X G a7, k7, ⟨⟨_, ["_law_low", "_law_high", "_law_turn"], ⟨fun s us ws hK h1 h2 => match us, ws, h1, h2 with | [u0, u1, u2], [], _, _ => ⟨[u0, u1, u2], (.at rfl (.at rfl (.at rfl .nil))), .of_eq rfl⟩⟩, O_law_right⟩⟩⟩⟩
  exact d_law F8 D_law_begun G_range D_law_pick D_law_take E_law_right_3
theorem walk {l : PySem.W.OpenLaw} {qq : Program} {loose : List Str} {XP : (Str → Option Value) → Heap → Prop} {YP : World → Heap → Prop} {d : DefRec} {K : Params → PySem.W.Frag} (hn : l.most = some 63) (hdf : d.params.defaults = [])
    (hY : ∀ (w : World) (h : Heap), YP w h → (K w.params).In h)
    (F : ∀ (w : World) (mg : Str → Option Value) (fa : Addr) (h : Heap), YP w h → (K w.params).In h → h.Ns mainGlobals mg → mg d.name = some (.ref fa) → LamX.LawAtS l w (K w.params) (L2.CX l.prog w) 4 63 "_law_script" mg fa h) :
    PySem.W.WalkO qq loose XP YP l.row.toRowW d [] (fun f vs => PySem.call f vs) :=
  LamX.walk_ofTs (n := 63) (k := 4) (x := "_law_script") (CX := fun w => L2.CX l.prog w) hn (by decide) hdf ⟨rfl, by decide, by decide⟩ hY F fun _ _ _ _ _ z => law_out z
end Lw
local macro_rules | `(tactic| o_headL ($_ $a $b $c)) => `(tactic| o_headL (Lw.tHook $a $b $c [49]))
local macro_rules | `(tactic| kernel_rfl) => `(tactic| (with_reducible refine Hc.cut (G1 := HeadRun.looksF _ _) (G2 := HeadRun.seenQ _ _ _ _) (G3 := fun s => List.map (HeadRun.getT s) _) _ _ (by decide) ?h1 ?h2 ?h3; (case h1 => as_aux_lemma => kernel_rfl); (case h2 => delta HeadRun.seenQ PySem.W.Fast.tw4187177175401517315 PySem.W.openGood; refine Hc.nine (by as_aux_lemma => kernel_rfl) (by as_aux_lemma => kernel_rfl) (by as_aux_lemma => kernel_rfl) (by as_aux_lemma => kernel_rfl) (by as_aux_lemma => kernel_rfl) (by as_aux_lemma => kernel_rfl) (by as_aux_lemma => kernel_rfl) (by as_aux_lemma => kernel_rfl) (by as_aux_lemma => kernel_rfl)); (case h3 => as_aux_lemma => kernel_rfl)))
open PySem PySem.W PyProof.Rows in
set_option maxRecDepth 100000 in
set_option maxHeartbeats 0 in
theorem PySem.Challenge.cw_hourlanes_k60_least_and_greatest_holds : PySem.Challenge.rw_hourlanes_k60_least_and_greatest.Holds := by
  w_on; o_law; k_headL; (case hw => w_witness2)
  k_fill
  refine Lw.walk (l := PySem.Challenge.rw_hourlanes_k60_least_and_greatest) rfl rfl (fun w h Y => Lw.tk_in Y) ?F
  case F => as_aux_lemma =>
    intro w mg fa h Y KX G hmg
    refine' Lw.all_mk (tb_law_asked := 49) KX G hmg ?a1 ?l1 ?c1 ?k1 ?a2 ?l2 ?c2 ?k2 ?a3 ?l3 ?c3 ?k3 ?a4 ?l4 ?c4 ?k4 ?a5 ?l5 ?c5 ?k5 ?a6 ?l6 ?c6 ?k6 ?a7 ?l7 ?c7 ?k7 ?a8 ?l8 ?c8 ?k8 ?th5 ?tn5 ?tt5 ?tnd ?z_len ?z_max ?z_isinstance ?z_bool ?z_min ?z_range
    (case a1 => k_is)
    (case l1 => k_is)
    (case c1 => k_is)
    (case k1 => k_is)
    (case a2 => k_is)
    (case l2 => k_is)
    (case c2 => k_is)
    (case k2 => k_is)
    (case a3 => k_is)
    (case l3 => k_is)
    (case c3 => k_is)
    (case k3 => k_is)
    (case a4 => k_is)
    (case l4 => k_is)
    (case c4 => k_is)
    (case k4 => k_is)
    (case a5 => k_is)
    (case l5 => k_is)
    (case c5 => k_is)
    (case k5 => k_is)
    (case a6 => k_is)
    (case l6 => k_is)
    (case c6 => k_is)
    (case k6 => k_is)
    (case a7 => k_is)
    (case l7 => k_is)
    (case c7 => k_is)
    (case k7 => k_is)
    (case a8 => k_is)
    (case l8 => k_is)
    (case c8 => k_is)
    (case k8 => k_is)
    (case th5 => first | k_is | kernel_rfl | rfl)
    (case tn5 => first | k_is | kernel_rfl | rfl)
    (case tt5 => exact fun q => Lw.tk_tab Y (by decide) q)
    (case tnd => decide)
    (case z_len => k_is)
    (case z_max => k_is)
    (case z_isinstance => k_is)
    (case z_bool => k_is)
    (case z_min => k_is)
    (case z_range => k_is)
