import PyProof.Rows.All
import Wide.All
import OpenK.AllK
import Wide.FinOn
import HandS.ForMost
import HandS.ForExc
import HandS.Wide
import HandS.IsInst
import HandS.Defaults
import HandS.Walk
import HandS.Small
import HandS.SortInts
import HandS.SortRule
import HandS.Nested
import HandS.TupAny
import KE.GoesMore
import HandS.Conv
import KE.DataMinMax
import HandS.SortKw
import HandS.TupSets
import HandS.SetFor
import HandS.Strs
import HandS.ExcInit
import HandS.TryMany
import HandS.ExcValue
import HandS.CallSlots
import KE.KExcIs
import HandS.Style
import HandS.Flt
import HandS.TupLe
import HandS.More
import HandS.Text
import HandS.OwnEq
import HandS.FStr
import KE.KCallOwn
import KE.KFmtOwn
import HandS.NoneIn
import KE.IntTextLaws
import KE.KIntText
import KE.SortKeyHeap
import HandS.EndTab
import HandS.Remove
import KE.DataFind
import PyProof.Conv_int_bool
import HandS.WordsDict
import KE.KDictZip
import KE.KDictList
import PySem.Challenge.RW_hourlanes_k27_whole_there_and_back
set_option Elab.async false
set_option linter.all false
set_option maxRecDepth 100000
set_option maxHeartbeats 4000000
namespace Hl
open PySem L2
structure FW where
 name : Str
 qual : Str
 params : Arguments
 body : FuncBody
 scope : Scope
abbrev FW.fd (W : FW) (cl : List (Str × Addr)) (c : Addr) (doc pm ctv : Value) : FuncData :=
 { name := W.name, qualname := W.qual, params := W.params, body := W.body, scope := W.scope, globals := mainGlobals, closure := cl, defaults := .none, kwdefaults := .none, doc := doc, pyModule := pm, annotations := none, code := .ref c, closureTuple := ctv, builtins := builtinsNs }
def FnObj (f : Addr) (W : FW) (cl : List (Str × Addr)) (c : Addr) : HO := .ext fun h => ∃ (od : Option Addr) (sl : Array (Option Value)) (doc pm ctv : Value), h.get? f = some (⟨.type "function", od, .func (W.fd cl c doc pm ctv), sl⟩ : Obj)
def Exact (a : Addr) (o : Obj) : HO := .frz o (.ext fun h => h.get? a = some o)
def TblOk (F : List Addr) (H : Hp) (a : Addr) (nm : Str) : Prop := ∃ ps : Array Value, H a = some (.tbl ps) ∧ TriplesOk ps.toList ∧ ∀ (pos : Pos) (cv : Value), codeAmong pos ps.toList = some cv → ∃ c, cv = .ref c ∧ c ∉ F ∧ H c = some (LamX.CodeO c nm)
def Nt (o : HO) : Prop := ∀ ps, o ≠ .tbl ps
inductive D where
 | non | bl (b : Bool) | int (i : Int) | str (x : Str) | lst (ds : List D) | tup (ds : List D) | obj (C : Addr) (ns : List Str) (ds : List D) | raw (v : V) | scr (K : PySem.W.Frag) (ns : List Int) | exn (C : Addr) (ns : List Str) (ds : List D) | fd (ks : List Key) (ds : List D) | hp (a : Addr) (o : HO) | fn (W : FW) (fr : List Str) (ds : List D)
def XO (cls : Value) (d : Option Addr) (a : Addr) : HO := .ext fun h => ∃ (oe : Obj) (vs : Array Value), h.get? a = some oe ∧ Zc cls d oe ∧ oe.data = .fields vs
mutual
inductive Rep (F : List Addr) (H : Hp) : V → D → Prop
 | non : Rep F H .non .non
 | bl (b : Bool) : Rep F H (.bl b) (.bl b)
 | int (i : Int) : Rep F H (.int i) (.int i)
 | str (x : Str) : Rep F H (.str x) (.str x)
 | lst {a : Addr} {vs : List V} {ds : List D} : a ∉ F → H a = some (.lst vs) → Reps F H vs ds → Rep F H (.ref a) (.lst ds)
 | tup {a : Addr} {vs : List V} {ds : List D} : a ∉ F → H a = some (.tup vs) → Reps F H vs ds → Rep F H (.ref a) (.tup ds)
 | obj {a C dx : Addr} {ns : List Str} {vs : List V} {ds : List D} : a ∉ F → H a = some (.ins C dx (ns.zip vs)) → ns.length = vs.length → Reps F H vs ds → Rep F H (.ref a) (.obj C ns ds)
 | raw (v : V) : Rep F H v (.raw v)
 | scrH {a : Addr} {K : PySem.W.Frag} {ns : List Int} : a ∉ F → Rd H a (.lst (ns.map V.int)) → Rep F H (.ref a) (.scr K ns)
 | scrK {a : Addr} {K : PySem.W.Frag} {ns : List Int} : (∀ H', SqL K H' a (ns.map V.int)) → Rep F H (.ref a) (.scr K ns)
 | exn0 {a C : Addr} : a ∉ F → H a = some (XO (.ref C) none a) → Rep F H (.ref a) (.exn C [] [])
 | exn {a C d : Addr} {ns : List Str} {vs : List V} {ds : List D} : a ∉ F → H a = some (XO (.ref C) (some d) a) → d ∉ F → H d = some (.xd (ns.zip vs)) → ns.length = vs.length → Reps F H vs ds → Rep F H (.ref a) (.exn C ns ds)
 | fd {a : Addr} {o : Obj} {ws : List (Key × V)} {ks : List Key} {vs : List V} {ds : List D} : a ∉ F → H a = some (.frz o (.dK ws)) → ws.map (·.1) = ks → ws.map (·.2) = vs → Reps F H vs ds → Rep F H (.ref a) (.fd ks ds)
 | hp {a : Addr} {o : HO} : a ∉ F → H a = some o → Nt o → Rep F H (.ref a) (.hp a o)
 | fn {f c : Addr} {W : FW} {fr : List Str} {as : List Addr} {vs : List V} {ds : List D} : f ∉ F → H f = some (FnObj f W (fr.zip as) c) → c ∉ F → H c = some (LamX.CodeO c W.qual) → as.length = fr.length → as.Nodup → vs.length = as.length →
     (∀ p ∈ as.zip vs, p.1 ∉ F ∧ ∃ (o : Obj) (u : Value), H p.1 = some (Exact p.1 o) ∧ o.data = .cell (some u) ∧ RelV p.2 u) → Reps F H vs ds → Rep F H (.ref f) (.fn W fr ds)
inductive Reps (F : List Addr) (H : Hp) : List V → List D → Prop
 | nil : Reps F H [] []
 | cons {v : V} {d : D} {vs : List V} {ds : List D} : Rep F H v d → Reps F H vs ds → Reps F H (v :: vs) (d :: ds)
end
def Fwd (F : List Addr) (H : Hp) (F' : List Addr) (H' : Hp) : Prop := ∀ a o, a ∉ F → H a = some o → Nt o → a ∉ F' ∧ H' a = some o
theorem Fwd.refl {F : List Addr} {H : Hp} : Fwd F H F H := fun _ _ h e _ => ⟨h, e⟩
theorem Fwd.trans {F F1 F2 : List Addr} {H H1 H2 : Hp} (x : Fwd F H F1 H1) (y : Fwd F1 H1 F2 H2) : Fwd F H F2 H2 := fun a o h e n => let ⟨h1, e1⟩ := x a o h e n; y a o h1 e1 n
theorem Fwd.new {F : List Addr} {H : Hp} {p : Addr} {o : HO} (h : H p = none) : Fwd F H F (upd H p o) := fun a u ha e _ => ⟨ha, by rw [upd_ne (ne_of_none e h)]; exact e⟩
theorem Fwd.less {F F' : List Addr} {H : Hp} (h : ∀ a ∈ F', a ∈ F) : Fwd F H F' H := fun a o ha e _ => ⟨fun z => ha (h a z), e⟩
theorem Fwd.same {F : List Addr} {H H' : Hp} (h : ∀ a, a ∉ F → H' a = H a) : Fwd F H F H' := fun a o ha e _ => ⟨ha, by rw [h a ha]; exact e⟩
mutual
theorem Rep.fwd {F F' : List Addr} {H H' : Hp} (k : Fwd F H F' H') : ∀ {v : V} {d : D}, Rep F H v d → Rep F' H' v d
 | _, _, .non => .non
 | _, _, .bl b => .bl b
 | _, _, .int i => .int i
 | _, _, .str x => .str x
 | _, _, .lst h e r => .lst (k _ _ h e (fun _ z => nomatch z)).1 (k _ _ h e (fun _ z => nomatch z)).2 (Reps.fwd k r)
 | _, _, .tup h e r => .tup (k _ _ h e (fun _ z => nomatch z)).1 (k _ _ h e (fun _ z => nomatch z)).2 (Reps.fwd k r)
 | _, _, .obj h e l r => .obj (k _ _ h e (fun _ z => nomatch z)).1 (k _ _ h e (fun _ z => nomatch z)).2 l (Reps.fwd k r)
 | _, _, .raw v => .raw v
 | _, _, .scrH h (.inl e) => .scrH (k _ _ h e (fun _ z => nomatch z)).1 (.inl (k _ _ h e (fun _ z => nomatch z)).2)
 | _, _, .scrH h (.inr ⟨o, e⟩) => .scrH (k _ _ h e (fun _ z => nomatch z)).1 (.inr ⟨o, (k _ _ h e (fun _ z => nomatch z)).2⟩)
 | _, _, .scrK h => .scrK h
 | _, _, .exn0 h e => .exn0 (k _ _ h e (fun _ z => nomatch z)).1 (k _ _ h e (fun _ z => nomatch z)).2
 | _, _, .exn h e h2 e2 l r => .exn (k _ _ h e (fun _ z => nomatch z)).1 (k _ _ h e (fun _ z => nomatch z)).2 (k _ _ h2 e2 (fun _ z => nomatch z)).1 (k _ _ h2 e2 (fun _ z => nomatch z)).2 l (Reps.fwd k r)
 | _, _, .fd h e e1 e2 r => .fd (k _ _ h e (fun _ z => nomatch z)).1 (k _ _ h e (fun _ z => nomatch z)).2 e1 e2 (Reps.fwd k r)
 | _, _, .hp h e n => .hp (k _ _ h e n).1 (k _ _ h e n).2 n
 | _, _, .fn h e h2 e2 l nd l2 ce r => .fn (k _ _ h e (fun _ z => nomatch z)).1 (k _ _ h e (fun _ z => nomatch z)).2 (k _ _ h2 e2 (fun _ z => nomatch z)).1 (k _ _ h2 e2 (fun _ z => nomatch z)).2 l nd l2 (fun p hp => let ⟨h3, o, u, e3, q⟩ := ce p hp; ⟨(k _ _ h3 e3 (fun _ z => nomatch z)).1, o, u, (k _ _ h3 e3 (fun _ z => nomatch z)).2, q⟩) (Reps.fwd k r)
theorem Reps.fwd {F F' : List Addr} {H H' : Hp} (k : Fwd F H F' H') : ∀ {vs : List V} {ds : List D}, Reps F H vs ds → Reps F' H' vs ds
 | _, _, .nil => .nil
 | _, _, .cons a b => .cons (Rep.fwd k a) (Reps.fwd k b)
end
theorem Reps.length {F : List Addr} {H : Hp} : ∀ {vs : List V} {ds : List D}, Reps F H vs ds → vs.length = ds.length
 | _, _, .nil => rfl
 | _, _, .cons _ b => by simp [Reps.length b]
theorem Reps.get {F : List Addr} {H : Hp} : ∀ {vs : List V} {ds : List D} {i : Nat} {v : V}, Reps F H vs ds → vs[i]? = some v → ∃ d, ds[i]? = some d ∧ Rep F H v d
 | _, _, _, _, .nil, e => by simp at e
 | _, _, 0, _, .cons r _, e => by simp at e; subst e; exact ⟨_, rfl, r⟩
 | _, _, i + 1, v, .cons _ t, e => by
   obtain ⟨u, h1, h2⟩ := Reps.get (i := i) (v := v) t (by simpa using e)
   exact ⟨u, by simpa using h1, h2⟩
theorem Reps.get' {F : List Addr} {H : Hp} : ∀ {vs : List V} {ds : List D} {i : Nat} {d : D}, Reps F H vs ds → ds[i]? = some d → ∃ v, vs[i]? = some v ∧ Rep F H v d
 | _, _, _, _, .nil, e => by simp at e
 | _, _, 0, _, .cons r _, e => by simp at e; subst e; exact ⟨_, rfl, r⟩
 | _, _, i + 1, v, .cons _ t, e => by
   obtain ⟨u, h1, h2⟩ := Reps.get' (i := i) (d := v) t (by simpa using e)
   exact ⟨u, by simpa using h1, h2⟩
theorem Reps.append {F : List Addr} {H : Hp} : ∀ {vs ws : List V} {ds es : List D}, Reps F H vs ds → Reps F H ws es → Reps F H (vs ++ ws) (ds ++ es)
 | _, _, _, _, .nil, s => s
 | _, _, _, _, .cons r t, s => .cons r (Reps.append t s)
theorem Reps.set {F : List Addr} {H : Hp} {v : V} {d : D} (r : Rep F H v d) : ∀ {vs : List V} {ds : List D} (i : Nat), Reps F H vs ds → Reps F H (vs.set i v) (ds.set i d)
 | _, _, _, .nil => .nil
 | _, _, 0, .cons _ t => .cons r t
 | _, _, i + 1, .cons q t => .cons q (Reps.set r i t)
theorem Reps.take {F : List Addr} {H : Hp} : ∀ {vs : List V} {ds : List D} (n : Nat), Reps F H vs ds → Reps F H (vs.take n) (ds.take n)
 | _, _, 0, _ => .nil
 | _, _, _ + 1, .nil => .nil
 | _, _, n + 1, .cons r t => .cons r (Reps.take n t)
theorem Reps.drop {F : List Addr} {H : Hp} : ∀ {vs : List V} {ds : List D} (n : Nat), Reps F H vs ds → Reps F H (vs.drop n) (ds.drop n)
 | _, _, 0, r => r
 | _, _, _ + 1, .nil => .nil
 | _, _, n + 1, .cons _ t => Reps.drop n t
theorem Reps.erase {F : List Addr} {H : Hp} : ∀ {vs : List V} {ds : List D} (n : Nat), Reps F H vs ds → Reps F H (vs.eraseIdx n) (ds.eraseIdx n)
 | _, _, _, .nil => .nil
 | _, _, 0, .cons _ t => t
 | _, _, n + 1, .cons r t => .cons r (Reps.erase n t)
theorem Reps.ints {F : List Addr} {H : Hp} : ∀ {vs : List V} {ns : List Int}, Reps F H vs (ns.map D.int) → vs = ns.map V.int
 | _, [], .nil => rfl
 | _, n :: ns, .cons r t => by cases r; rw [Reps.ints t]; rfl
theorem Reps.ofInts {F : List Addr} {H : Hp} : ∀ (ns : List Int), Reps F H (ns.map V.int) (ns.map D.int)
 | [] => .nil
 | n :: ns => .cons (.int n) (Reps.ofInts ns)
theorem Reps.strs {F : List Addr} {H : Hp} : ∀ {vs : List V} {ns : List Str}, Reps F H vs (ns.map D.str) → vs = ns.map V.str
 | _, [], .nil => rfl
 | _, n :: ns, .cons r t => by cases r; rw [Reps.strs t]; rfl
inductive SC where
 | lst (ds : List D) | obj (C : Addr) (ns : List Str) (ds : List D) | dct (kvs : List (Key × D)) | fdc (o : Obj) (ws : List (Key × V)) (kvs : List (Key × D))
inductive Cell where
 | lst (ds : List D) | obj (C : Addr) (ns : List Str) (ds : List D) | dct (kvs : List (Key × D)) | fdc (o : Obj) (ws : List (Key × V)) (kvs : List (Key × D)) | st (g : Addr) (b : Nat) | grp (c : SC) (N : List (Addr × SC)) | tab (nm : Str) | fnc (W : FW) (fr : List Str) (as : List Addr) (ds : List D) | lam (W : FW) (fr : List Str) (as : List Addr)
def SC.up : SC → Cell
 | .lst ds => .lst ds
 | .obj C ns ds => .obj C ns ds
 | .dct kvs => .dct kvs
 | .fdc o ws kvs => .fdc o ws kvs
def own (a : Addr) : Cell → List Addr
 | .st g _ => [a, g]
 | .grp _ N => a :: N.map (·.1)
 | .fnc _ _ as _ => a :: as
 | _ => [a]
abbrev Mem := List (Addr × Cell)
def Mem.F (M : Mem) : List Addr := M.flatMap fun p => own p.1 p.2
def StAt (F : List Addr) (H : Hp) (s g : Addr) (b : Nat) : Prop :=
 ∃ (c : Addr) (r t e : Int) (gs cs : List Int), c ∉ F ∧
   H s = some (.dK [(.inr "great", .ref g), (.inr "rest", .int r), (.inr "turn", .int t), (.inr "seed", .int e), (.inr "cells", .ref c)]) ∧
   H g = some (.lst (gs.map V.int)) ∧ H c = some (.lst (cs.map V.int)) ∧ (∀ x ∈ gs, 0 < x) ∧ 0 ≤ r ∧ 0 ≤ t ∧ t + (b : Int) ≤ 1000000000000 ∧ 0 ≤ e ∧ e < 2147483647 ∧ (∀ x ∈ cs, 0 ≤ x ∧ x < 2147483629) ∧ 0 < cs.length ∧ cs.length ≤ 100
def SOk (F : List Addr) (H : Hp) (a : Addr) : SC → Prop
 | .lst ds => ∃ vs, H a = some (.lst vs) ∧ Reps F H vs ds
 | .obj C ns ds => ∃ dx vs, H a = some (.ins C dx (ns.zip vs)) ∧ ns.length = vs.length ∧ Reps F H vs ds
 | .dct kvs => ∃ ws : List (Key × V), H a = some (.dK ws) ∧ ws.map (·.1) = kvs.map (·.1) ∧ Reps F H (ws.map (·.2)) (kvs.map (·.2))
 | .fdc o ws kvs => H a = some (.frz o (.dK ws)) ∧ ws.map (·.1) = kvs.map (·.1) ∧ Reps F H (ws.map (·.2)) (kvs.map (·.2))
theorem SOk.some {F : List Addr} {H : Hp} {a : Addr} {c : SC} (h : SOk F H a c) : ∃ o, H a = some o := by
 cases c with
 | lst ds => obtain ⟨vs, e, _⟩ := h; exact ⟨_, e⟩
 | obj C ns ds => obtain ⟨dx, vs, e, _⟩ := h; exact ⟨_, e⟩
 | dct kvs => obtain ⟨ws, e, _⟩ := h; exact ⟨_, e⟩
 | fdc o ws kvs => exact ⟨_, h.1⟩
theorem SOk.fwd {F F' : List Addr} {H H' : Hp} {a : Addr} {c : SC} (h : SOk F H a c) (k : Fwd F H F' H') (e : H' a = H a) : SOk F' H' a c := by
 cases c with
 | lst ds => obtain ⟨vs, e1, r⟩ := h; exact ⟨vs, by rw [e]; exact e1, r.fwd k⟩
 | obj C ns ds => obtain ⟨dx, vs, e1, l, r⟩ := h; exact ⟨dx, vs, by rw [e]; exact e1, l, r.fwd k⟩
 | dct kvs => obtain ⟨ws, e1, l, r⟩ := h; exact ⟨ws, by rw [e]; exact e1, l, r.fwd k⟩
 | fdc o ws kvs => obtain ⟨e1, l, r⟩ := h; exact ⟨by rw [e]; exact e1, l, r.fwd k⟩
def CellOk (F : List Addr) (H : Hp) (a : Addr) : Cell → Prop
 | .grp c N => SOk F H a c ∧ ∀ p ∈ N, SOk F H p.1 p.2
 | .lst ds => ∃ vs, H a = some (.lst vs) ∧ Reps F H vs ds
 | .obj C ns ds => ∃ dx vs, H a = some (.ins C dx (ns.zip vs)) ∧ ns.length = vs.length ∧ Reps F H vs ds
 | .dct kvs => ∃ ws : List (Key × V), H a = some (.dK ws) ∧ ws.map (·.1) = kvs.map (·.1) ∧ Reps F H (ws.map (·.2)) (kvs.map (·.2))
 | .fdc o ws kvs => H a = some (.frz o (.dK ws)) ∧ ws.map (·.1) = kvs.map (·.1) ∧ Reps F H (ws.map (·.2)) (kvs.map (·.2))
 | .st g b => StAt F H a g b
 | .tab nm => TblOk F H a nm
 | .fnc W fr as ds => ∃ (c : Addr) (od : Option Addr) (sl : Array (Option Value)) (doc pm ctv : Value) (vs : List V), H a = some (Exact a (⟨.type "function", od, .func (W.fd (fr.zip as) c doc pm ctv), sl⟩ : Obj)) ∧ c ∉ F ∧ H c = some (LamX.CodeO c W.qual) ∧ fr.length = as.length ∧ fr.Nodup ∧ vs.length = as.length ∧
     (∀ p ∈ as.zip vs, ∃ (o : Obj) (u : Value), H p.1 = some (Exact p.1 o) ∧ o.data = .cell (some u) ∧ RelV p.2 u) ∧ Reps F H vs ds
 | .lam W fr as => ∃ (c : Addr) (od : Option Addr) (sl : Array (Option Value)) (doc pm ctv : Value), H a = some (Exact a (⟨.type "function", od, .func (W.fd (fr.zip as) c doc pm ctv), sl⟩ : Obj)) ∧ c ∉ F ∧ H c = some (LamX.CodeO c W.qual)
theorem CellOk.some {F : List Addr} {H : Hp} {a : Addr} {c : Cell} (h : CellOk F H a c) : ∀ x ∈ own a c, ∃ o, H x = some o := by
 cases c with
 | tab nm => obtain ⟨ps, e, _⟩ := h; intro x hx; simp [own] at hx; subst hx; exact ⟨_, e⟩
 | fnc W fr as ds =>
   obtain ⟨c, od, sl, doc, pm, ctv, vs, e, _, _, _, _, hv, hc, _⟩ := h
   intro x hx
   rcases List.mem_cons.mp hx with rfl | hx
   · exact ⟨_, e⟩
   · obtain ⟨i, hi⟩ := List.mem_iff_getElem?.mp hx
     have hl : i < vs.length := by rw [hv]; exact (List.getElem?_eq_some_iff.mp hi).1
     obtain ⟨o, u, e2, _⟩ := hc (x, vs[i]) (List.mem_of_getElem? (i := i) (by rw [List.getElem?_zip_eq_some]; exact ⟨hi, by simp [hl]⟩))
     exact ⟨_, e2⟩
 | lst ds => obtain ⟨vs, e, _⟩ := h; intro x hx; simp [own] at hx; subst hx; exact ⟨_, e⟩
 | obj C ns ds => obtain ⟨dx, vs, e, _⟩ := h; intro x hx; simp [own] at hx; subst hx; exact ⟨_, e⟩
 | dct kvs => obtain ⟨ws, e, _⟩ := h; intro x hx; simp [own] at hx; subst hx; exact ⟨_, e⟩
 | lam W fr as => obtain ⟨c, od, sl, doc, pm, ctv, e, _⟩ := h; intro x hx; simp [own] at hx; subst hx; exact ⟨_, e⟩
 | fdc o ws kvs => intro x hx; simp [own] at hx; subst hx; exact ⟨_, h.1⟩
 | grp c N =>
   intro x hx
   rcases List.mem_cons.mp hx with rfl | hx
   · exact h.1.some
   · obtain ⟨p, hp, rfl⟩ := List.mem_map.mp hx; exact (h.2 p hp).some
 | st g b =>
   obtain ⟨c, r, t, e, gs, cs, _, h1, h2, _⟩ := h
   intro x hx; simp [own] at hx
   rcases hx with rfl | rfl
   · exact ⟨_, h1⟩
   · exact ⟨_, h2⟩
theorem CellOk.fwd {F F' : List Addr} {H H' : Hp} {a : Addr} {c : Cell} (h : CellOk F H a c) (k : Fwd F H F' H') (e : ∀ x ∈ own a c, H' x = H x) : CellOk F' H' a c := by
 cases c with
 | lst ds => obtain ⟨vs, e1, r⟩ := h; exact ⟨vs, by rw [e a (by simp [own])]; exact e1, r.fwd k⟩
 | obj C ns ds => obtain ⟨dx, vs, e1, l, r⟩ := h; exact ⟨dx, vs, by rw [e a (by simp [own])]; exact e1, l, r.fwd k⟩
 | dct kvs => obtain ⟨ws, e1, l, r⟩ := h; exact ⟨ws, by rw [e a (by simp [own])]; exact e1, l, r.fwd k⟩
 | fdc o ws kvs => obtain ⟨e1, l, r⟩ := h; exact ⟨by rw [e a (by simp [own])]; exact e1, l, r.fwd k⟩
 | tab nm => obtain ⟨ps, e1, t, ha⟩ := h; exact ⟨ps, by rw [e a (by simp [own])]; exact e1, t, fun pos cv hc => let ⟨c, e2, h2, e3⟩ := ha pos cv hc; ⟨c, e2, (k _ _ h2 e3 (fun _ z => by unfold LamX.CodeO at z; cases z)).1, (k _ _ h2 e3 (fun _ z => by unfold LamX.CodeO at z; cases z)).2⟩⟩
 | fnc W fr as ds =>
   obtain ⟨c, od, sl, doc, pm, ctv, vs, e1, hcF, e2, h1, h2, h3, h4, r⟩ := h
   exact ⟨c, od, sl, doc, pm, ctv, vs, by rw [e a List.mem_cons_self]; exact e1, (k _ _ hcF e2 (fun _ z => by unfold LamX.CodeO at z; cases z)).1, (k _ _ hcF e2 (fun _ z => by unfold LamX.CodeO at z; cases z)).2, h1, h2, h3,
     fun p hp => let ⟨o, u, e3, q⟩ := h4 p hp; ⟨o, u, by rw [e p.1 (List.mem_cons_of_mem _ (List.of_mem_zip (show (p.1, p.2) ∈ as.zip vs from hp)).1)]; exact e3, q⟩, r.fwd k⟩
 | lam W fr as =>
   obtain ⟨c, od, sl, doc, pm, ctv, e1, hcF, e2⟩ := h
   exact ⟨c, od, sl, doc, pm, ctv, by rw [e a List.mem_cons_self]; exact e1, (k _ _ hcF e2 (fun _ z => by unfold LamX.CodeO at z; cases z)).1, (k _ _ hcF e2 (fun _ z => by unfold LamX.CodeO at z; cases z)).2⟩
 | grp c N => exact ⟨h.1.fwd k (e a List.mem_cons_self), fun p hp => (h.2 p hp).fwd k (e p.1 (List.mem_cons_of_mem _ (List.mem_map.mpr ⟨p, hp, rfl⟩)))⟩
 | st g b =>
   obtain ⟨c, r, t, z, gs, cs, h0, h1, h2, h3, h4⟩ := h
   exact ⟨c, r, t, z, gs, cs, (k _ _ h0 h3 (fun _ z => nomatch z)).1, by rw [e a (by simp [own])]; exact h1, by rw [e g (by simp [own])]; exact h2, (k _ _ h0 h3 (fun _ z => nomatch z)).2, h4⟩
def SlotOk (F : List Addr) (H : Hp) (ov : Option V) (od : Option D) : Prop := ∀ d, od = some d → ∃ v, ov = some v ∧ Rep F H v d
structure Rs (κ : List (V × D)) (δ : List (Option D)) (M : Mem) (σ : St) (H : Hp) : Prop where
 kp : ∀ p ∈ κ, Rep M.F H p.1 p.2
 sl : Paired (SlotOk M.F H) σ δ
 cl : ∀ p ∈ M, CellOk M.F H p.1 p.2
 nd : M.F.Nodup
section
variable {κ κ' : List (V × D)} {δ : List (Option D)} {M M' : Mem} {σ : St} {H H' : Hp} {p : Addr} {o : HO} {v : V} {d : D}
theorem SlotOk.fwd {F F' : List Addr} {ov : Option V} {od : Option D} (k : Fwd F H F' H') (h : SlotOk F H ov od) : SlotOk F' H' ov od := fun d e => let ⟨v, e1, r⟩ := h d e; ⟨v, e1, r.fwd k⟩
theorem Rs.inF (R : Rs κ δ M σ H) {a : Addr} (h : a ∈ M.F) : ∃ o, H a = some o := by
 obtain ⟨q, hq, hx⟩ := List.mem_flatMap.mp h
 exact (R.cl q hq).some a hx
theorem Rs.fresh (R : Rs κ δ M σ H) (h : H p = none) : p ∉ M.F := fun z => by
 obtain ⟨o, e⟩ := R.inF z
 rw [h] at e; cases e
theorem Rs.go (R : Rs κ δ M σ H) (k : Fwd M.F H M.F H') (e : ∀ x ∈ M.F, H' x = H x) : Rs κ δ M σ H' :=
 ⟨fun q hq => (R.kp q hq).fwd k, Paired.mono (fun _ _ h => h.fwd k) R.sl, fun q hq => (R.cl q hq).fwd k fun x hx => e x (List.mem_flatMap.mpr ⟨q, hq, hx⟩), R.nd⟩
theorem Rs.new (R : Rs κ δ M σ H) (h : H p = none) : Rs κ δ M σ (upd H p o) := R.go (Fwd.new h) fun x hx => upd_ne fun z => R.fresh h (z ▸ hx)
theorem Rs.same (R : Rs κ δ M σ H) (h : Same H H') : Rs κ δ M σ H' := R.go (fun a o ha e _ => ⟨ha, h a o e⟩) fun x hx => by
 obtain ⟨o, e⟩ := R.inF hx
 rw [e]; exact h _ _ e
theorem Rs.push (R : Rs κ δ M σ H) (r : Rep M.F H v d) : Rs ((v, d) :: κ) δ M σ H := ⟨fun q hq => by
 rcases List.mem_cons.mp hq with rfl | hq
 · exact r
 · exact R.kp q hq, R.sl, R.cl, R.nd⟩
theorem Rs.sub (R : Rs κ δ M σ H) (h : ∀ q ∈ κ', q ∈ κ) : Rs κ' δ M σ H := ⟨fun q hq => R.kp q (h q hq), R.sl, R.cl, R.nd⟩
theorem Rs.pop {q : V × D} (R : Rs (q :: κ) δ M σ H) : Rs κ δ M σ H := R.sub fun _ h => List.mem_cons_of_mem _ h
theorem Rs.top {v : V} {d : D} (R : Rs ((v, d) :: κ) δ M σ H) : Rep M.F H v d := R.kp _ List.mem_cons_self
theorem paired_get {α β : Type} {G : α → β → Prop} : ∀ {l₁ : List α} {l₂ : List β} {i : Nat} {b : β}, Paired G l₁ l₂ → l₂[i]? = some b → ∃ a, l₁[i]? = some a ∧ G a b
 | _, _, _, _, .nil, e => by simp at e
 | _, _, 0, _, .cons r _, e => by simp at e; subst e; exact ⟨_, rfl, r⟩
 | _, _, i + 1, b, .cons _ t, e => by
   obtain ⟨u, h1, h2⟩ := paired_get (i := i) (b := b) t (by simpa using e)
   exact ⟨u, by simpa using h1, h2⟩
theorem paired_set {α β : Type} {G : α → β → Prop} {a : α} {b : β} (r : G a b) : ∀ {l₁ : List α} {l₂ : List β} (i : Nat), Paired G l₁ l₂ → Paired G (l₁.set i a) (l₂.set i b)
 | _, _, _, .nil => .nil
 | _, _, 0, .cons _ t => .cons r t
 | _, _, i + 1, .cons q t => .cons q (paired_set r i t)
theorem Rs.get {i : Nat} (R : Rs κ δ M σ H) (e : δ[i]? = some (some d)) : ∃ v, σ[i]? = some (some v) ∧ Rep M.F H v d := by
 obtain ⟨a, e1, h⟩ := paired_get R.sl e
 obtain ⟨v, rfl, r⟩ := h d rfl
 exact ⟨v, e1, r⟩
theorem Rs.put (R : Rs κ δ M σ H) (i : Nat) (r : Rep M.F H v d) : Rs κ (δ.set i (some d)) M (σ.set i (some v)) H :=
 ⟨R.kp, paired_set (fun d' e => by cases e; exact ⟨v, rfl, r⟩) i R.sl, R.cl, R.nd⟩
theorem Rs.wipe1 (R : Rs κ δ M σ H) (i : Nat) (ov : Option V) : Rs κ (δ.set i none) M (σ.set i ov) H :=
 ⟨R.kp, paired_set (fun d' e => by cases e) i R.sl, R.cl, R.nd⟩
theorem Rs.slots {δ' : List (Option D)} {σ' : St} (R : Rs κ δ M σ H) (h : Paired (SlotOk M.F H) σ' δ') : Rs κ δ' M σ' H := ⟨R.kp, h, R.cl, R.nd⟩
theorem F_sub : ∀ {M M' : Mem}, M'.Sublist M → M'.F.Sublist M.F
 | _, _, .slnil => .slnil
 | _, _, .cons a h => by
   show List.Sublist _ (own a.1 a.2 ++ _)
   exact (F_sub h).trans (List.sublist_append_right _ _)
 | _, _, .cons_cons a h => by
   show List.Sublist (own a.1 a.2 ++ _) (own a.1 a.2 ++ _)
   exact (F_sub h).append_left _
theorem Rs.less (R : Rs κ δ M σ H) (h : M'.Sublist M) : Rs κ δ M' σ H := by
 have k : Fwd M.F H M'.F H := Fwd.less fun a ha => (F_sub h).subset ha
 exact ⟨fun q hq => (R.kp q hq).fwd k, Paired.mono (fun _ _ h => h.fwd k) R.sl, fun q hq => (R.cl q (h.subset hq)).fwd k fun _ _ => rfl, R.nd.sublist (F_sub h)⟩
theorem Fwd.newC {F : List Addr} {H : Hp} {p : Addr} {o : HO} (h : H p = none) : Fwd F H (p :: F) (upd H p o) := fun a u ha e _ => ⟨by
 simp only [List.mem_cons, not_or]
 exact ⟨ne_of_none e h, ha⟩, by rw [upd_ne (ne_of_none e h)]; exact e⟩
theorem Rs.add (R : Rs κ δ M σ H) {c : Cell} (h : H p = none) (hc : own p c = [p]) (ok : CellOk (p :: M.F) (upd H p o) p c) : Rs κ δ ((p, c) :: M) σ (upd H p o) := by
 have e : Mem.F ((p, c) :: M) = p :: M.F := by show own p c ++ M.F = _; rw [hc]; rfl
 have k : Fwd M.F H (Mem.F ((p, c) :: M)) (upd H p o) := by rw [e]; exact Fwd.newC h
 refine ⟨fun q hq => (R.kp q hq).fwd k, Paired.mono (fun _ _ h => h.fwd k) R.sl, fun q hq => ?_, ?_⟩
 · rcases List.mem_cons.mp hq with rfl | hq
   · rw [e]; exact ok
   · refine (R.cl q hq).fwd k fun x hx => upd_ne fun z => R.fresh h (z ▸ List.mem_flatMap.mpr ⟨q, hq, hx⟩)
 · rw [e]
   exact List.nodup_cons.mpr ⟨R.fresh h, R.nd⟩
theorem F_perm {M M' : Mem} (h : M.Perm M') : (Mem.F M).Perm (Mem.F M') := by
 induction h with
 | nil => exact .nil
 | cons x _ ih => exact ih.append_left _
 | swap x y l =>
   show (own y.1 y.2 ++ (own x.1 x.2 ++ Mem.F l)).Perm (own x.1 x.2 ++ (own y.1 y.2 ++ Mem.F l))
   rw [← List.append_assoc, ← List.append_assoc]
   exact List.perm_append_comm.append_right _
 | trans _ _ h1 h2 => exact h1.trans h2
theorem Rs.perm (R : Rs κ δ M σ H) (h : M.Perm M') : Rs κ δ M' σ H := by
 have k : Fwd M.F H M'.F H := Fwd.less fun a ha => (F_perm h).mem_iff.mpr ha
 exact ⟨fun q hq => (R.kp q hq).fwd k, Paired.mono (fun _ _ h => h.fwd k) R.sl, fun q hq => (R.cl q (h.mem_iff.mpr hq)).fwd k fun _ _ => rfl, (F_perm h).nodup_iff.mp R.nd⟩
def insM : Nat → Addr × Cell → Mem → Mem
 | 0, c, M => c :: M
 | k + 1, c, x :: M => x :: insM k c M
 | _ + 1, c, [] => [c]
theorem insM_perm {c : Addr × Cell} : ∀ {k : Nat} {M : Mem}, (c :: M).Perm (insM k c M)
 | 0, _ => .refl _
 | k + 1, x :: M => (List.Perm.swap x c M).trans (insM_perm.cons x)
 | _ + 1, [] => .refl _
theorem F_set : ∀ {M : Mem} {i : Nat} {a : Addr} {c c' : Cell}, M[i]? = some (a, c) → own a c' = own a c → Mem.F (M.set i (a, c')) = M.F
 | [], _, _, _, _, e, _ => by simp at e
 | q :: M, 0, a, c, c', e, h => by
   have : q = (a, c) := by simpa using e
   subst this
   show own a c' ++ _ = own a c ++ _
   rw [h]
 | q :: M, i + 1, a, c, c', e, h => by
   show own q.1 q.2 ++ Mem.F (M.set i (a, c')) = own q.1 q.2 ++ Mem.F M
   rw [F_set (by simpa using e) h]
theorem F_apart : ∀ {M : Mem} {i j : Nat} {a b : Addr} {c d : Cell}, M.F.Nodup → M[i]? = some (a, c) → M[j]? = some (b, d) → i ≠ j → ∀ x ∈ own a c, x ∉ own b d
 | [], _, _, _, _, _, _, _, e, _, _ => by simp at e
 | q :: M, 0, 0, _, _, _, _, _, _, _, h => absurd rfl h
 | q :: M, 0, j + 1, a, b, c, d, n, e, e', _ => fun x hx hy => by
   have : q = (a, c) := by simpa using e
   subst this
   have n : (own a c ++ Mem.F M).Nodup := n
   exact (List.nodup_append.mp n).2.2 x hx x (List.mem_flatMap.mpr ⟨(b, d), List.mem_of_getElem? (by simpa using e'), hy⟩) rfl
 | q :: M, i + 1, 0, a, b, c, d, n, e, e', _ => fun x hx hy => by
   have : q = (b, d) := by simpa using e'
   subst this
   have n : (own b d ++ Mem.F M).Nodup := n
   exact (List.nodup_append.mp n).2.2 x hy x (List.mem_flatMap.mpr ⟨(a, c), List.mem_of_getElem? (by simpa using e), hx⟩) rfl
 | q :: M, i + 1, j + 1, a, b, c, d, n, e, e', h => by
   have n : (own q.1 q.2 ++ Mem.F M).Nodup := n
   exact F_apart (List.nodup_append.mp n).2.1 (by simpa using e) (by simpa using e') (by omega)
theorem Rs.cell (R : Rs κ δ M σ H) {i : Nat} {a : Addr} {c c' : Cell} (e : M[i]? = some (a, c)) (hc : own a c' = own a c) (k : ∀ x, x ∉ own a c → H' x = H x) (ok : CellOk M.F H' a c') : Rs κ δ (M.set i (a, c')) σ H' := by
 have eF : Mem.F (M.set i (a, c')) = M.F := F_set e hc
 have inF : ∀ x ∈ own a c, x ∈ M.F := fun x hx => List.mem_flatMap.mpr ⟨_, List.mem_of_getElem? e, hx⟩
 have k' : Fwd M.F H M.F H' := Fwd.same fun x hx => k x fun z => hx (inF x z)
 refine ⟨fun q hq => by rw [eF]; exact (R.kp q hq).fwd k', by rw [eF]; exact Paired.mono (fun _ _ h => h.fwd k') R.sl, fun q hq => ?_, by rw [eF]; exact R.nd⟩
 rw [eF]
 obtain ⟨j, hj⟩ := List.getElem?_of_mem hq
 by_cases hij : i = j
 · subst hij
   rw [List.getElem?_set_self (List.getElem?_eq_some_iff.mp e).1] at hj
   cases hj
   exact ok
 · rw [List.getElem?_set_ne hij] at hj
   obtain ⟨b, d⟩ := q
   exact (R.cl _ (List.mem_of_getElem? hj)).fwd k' fun x hx => k x (F_apart R.nd hj e (fun z => hij z.symm) x hx)
theorem Rs.at (R : Rs κ δ M σ H) {i : Nat} {a : Addr} {c : Cell} (e : M[i]? = some (a, c)) : CellOk M.F H a c := R.cl _ (List.mem_of_getElem? e)
theorem Rs.mem (R : Rs κ δ M σ H) {i : Nat} {a : Addr} {c : Cell} (e : M[i]? = some (a, c)) : ∀ x ∈ own a c, x ∈ M.F := fun x hx => List.mem_flatMap.mpr ⟨_, List.mem_of_getElem? e, hx⟩
end
section
variable {M : Mem} {a : Addr} {c : SC} {N : List (Addr × SC)}
theorem own_up {a : Addr} {c : SC} : own a c.up = [a] := by cases c <;> rfl
theorem ok_up {F : List Addr} {H : Hp} {a : Addr} {c : SC} : CellOk F H a c.up ↔ SOk F H a c := by cases c <;> exact Iff.rfl
theorem F_app (M M' : Mem) : Mem.F (M ++ M') = M.F ++ M'.F := List.flatMap_append
end
def InM (M : Mem) (p : Addr) (c : SC) : Prop := (p, c.up) ∈ M ∨ (∃ N, (p, Cell.grp c N) ∈ M) ∨ ∃ b c0 N, (b, Cell.grp c0 N) ∈ M ∧ (p, c) ∈ N
section
variable {κ : List (V × D)} {δ : List (Option D)} {M M' : Mem} {σ : St} {H H' : Hp} {d : D} {p : Addr} {c c' : SC}
theorem InM.ok (h : InM M p c) (R : Rs κ δ M σ H) : SOk M.F H p c := by
 rcases h with h | ⟨N, h⟩ | ⟨b, c0, N, h, hp⟩
 · exact ok_up.mp (R.cl _ h)
 · exact (R.cl _ h).1
 · exact (R.cl _ h).2 _ hp
theorem InM.mono (h : InM M p c) (k : ∀ x ∈ M, x ∈ M') : InM M' p c := by
 rcases h with h | ⟨N, h⟩ | ⟨b, c0, N, h, hp⟩
 · exact .inl (k _ h)
 · exact .inr (.inl ⟨N, k _ h⟩)
 · exact .inr (.inr ⟨b, c0, N, k _ h, hp⟩)
theorem InM.mem (h : InM M p c) : p ∈ M.F := by
 rcases h with h | ⟨N, h⟩ | ⟨b, c0, N, h, hp⟩
 · exact List.mem_flatMap.mpr ⟨_, h, by show p ∈ own p c.up; rw [own_up]; exact List.mem_singleton.mpr rfl⟩
 · exact List.mem_flatMap.mpr ⟨_, h, List.mem_cons_self⟩
 · exact List.mem_flatMap.mpr ⟨_, h, List.mem_cons_of_mem _ (List.mem_map.mpr ⟨_, hp, rfl⟩)⟩
inductive Rpl (p : Addr) (c c' : SC) : Mem → Mem → Prop
 | cell {M : Mem} (j : Nat) : M[j]? = some (p, c.up) → Rpl p c c' M (M.set j (p, c'.up))
 | head {M : Mem} {N : List (Addr × SC)} (j : Nat) : M[j]? = some (p, .grp c N) → Rpl p c c' M (M.set j (p, .grp c' N))
 | part {M : Mem} {N : List (Addr × SC)} {b : Addr} {c0 : SC} (j i : Nat) : M[j]? = some (b, .grp c0 N) → N[i]? = some (p, c) → Rpl p c c' M (M.set j (b, .grp c0 (N.set i (p, c'))))
theorem Rpl.inM (h : Rpl p c c' M M') : InM M p c := by
 cases h with
 | cell j h => exact .inl (List.mem_of_getElem? h)
 | head j h => exact .inr (.inl ⟨_, List.mem_of_getElem? h⟩)
 | part j i h h2 => exact .inr (.inr ⟨_, _, _, List.mem_of_getElem? h, List.mem_of_getElem? h2⟩)
theorem map_set_fst {N : List (Addr × SC)} {i : Nat} (h : N[i]? = some (p, c)) : (N.set i (p, c')).map (·.1) = N.map (·.1) := by
 induction N generalizing i with
 | nil => simp at h
 | cons q N ih =>
   cases i with
   | zero =>
     have : q = (p, c) := by simpa using h
     subst this; rfl
   | succ i => show q.1 :: _ = q.1 :: _; rw [ih (by simpa using h)]
theorem nd_own {x : Addr × Cell} (R : Rs κ δ M σ H) (h : x ∈ M) : (own x.1 x.2).Nodup := by
 have : (own x.1 x.2).Sublist M.F := by
   obtain ⟨l1, l2, rfl⟩ := List.append_of_mem h
   rw [F_app]
   exact (List.sublist_append_left _ _).trans (List.sublist_append_right _ _)
 exact R.nd.sublist this
theorem Rs.rpl (R : Rs κ δ M σ H) (r : Rpl p c c' M M') (k : ∀ x, x ≠ p → H' x = H x) (ok : SOk M.F H' p c') : Rs κ δ M' σ H' := by
 have hpF := r.inM.mem
 have fw : Fwd M.F H M.F H' := Fwd.same fun x hx => k x fun z => hx (by rw [z]; exact hpF)
 cases r with
 | cell j h => exact R.cell h (by rw [own_up, own_up]) (fun x hx => k x (by rw [own_up] at hx; simpa using hx)) (ok_up.mpr ok)
 | head j h =>
   have nd := nd_own R (List.mem_of_getElem? h)
   refine R.cell h rfl (fun x hx => k x fun z => hx (by rw [z]; exact List.mem_cons_self)) ⟨ok, fun q hq => ?_⟩
   have hne : q.1 ≠ p := fun z => (List.nodup_cons.mp nd).1 (by rw [← z]; exact List.mem_map.mpr ⟨q, hq, rfl⟩)
   exact ((R.cl _ (List.mem_of_getElem? h)).2 q hq).fwd fw (k _ hne)
 | @part N b c0 j i h h2 =>
   have nd := nd_own R (List.mem_of_getElem? h)
   have hpN : p ∈ N.map (·.1) := List.mem_map.mpr ⟨_, List.mem_of_getElem? h2, rfl⟩
   have hbp : b ≠ p := fun z => (List.nodup_cons.mp nd).1 (by rw [z]; exact hpN)
   have hown : own b (.grp c0 (N.set i (p, c'))) = own b (.grp c0 N) := by
     show b :: _ = b :: _
     rw [map_set_fst h2]
   refine R.cell h hown (fun x hx => k x fun z => hx (by rw [z]; exact List.mem_cons_of_mem _ hpN)) ⟨(R.cl _ (List.mem_of_getElem? h)).1.fwd fw (k _ hbp), fun q hq => ?_⟩
   obtain ⟨j', hj'⟩ := List.getElem?_of_mem hq
   by_cases hij : i = j'
   · subst hij
     rw [List.getElem?_set_self (List.getElem?_eq_some_iff.mp h2).1] at hj'
     cases hj'
     exact ok
   · rw [List.getElem?_set_ne hij] at hj'
     have hq' : q ∈ N := List.mem_of_getElem? hj'
     have hne : q.1 ≠ p := fun z => by
       have n2 := (List.nodup_cons.mp nd).2
       have e1 : (N.map (·.1))[i]? = some p := by rw [List.getElem?_map, h2]; rfl
       have e2 : (N.map (·.1))[j']? = some p := by rw [List.getElem?_map, hj', ← z]; rfl
       exact hij ((List.getElem?_inj (List.getElem?_eq_some_iff.mp e1).1 n2).mp (e1.trans e2.symm))
     exact ((R.cl _ (List.mem_of_getElem? h)).2 q hq').fwd fw (k _ hne)
end
end Hl
namespace Hl
open PySem L2
@[irreducible] def tE (X : Cx) (e : Expr) : TE := fun σ H Q => ∀ pins s, Inv X pins σ H s → wpAny (model X.prog X.w) X.A (eval e X.env) (EP X pins σ Q) X.xe s
@[irreducible] def tT (X : Cx) (e : Expr) : TT := fun σ H Q => ∀ pins s, Inv X pins σ H s → wpAny (model X.prog X.w) X.A (isTrue e X.env (eval e X.env)) (TP X pins σ Q) X.xe s
@[irreducible] def tA (X : Cx) (es : List Expr) : TA := fun σ H Q => ∀ (pos : Pos) pins s, Inv X pins σ H s → wpAny (model X.prog X.w) X.A (spliced (backTo pos (starEach es X.env))) (AP X pins σ Q) X.xe s
@[irreducible] def tS (X : Cx) (st : Stmt) : TS := fun D σ H => ∀ pins s, Inv X pins σ H s → wpAny (model X.prog X.w) X.A (exec st X.env) (SP X pins D) X.xe s
@[irreducible] def tSs (X : Cx) (st : List Stmt) : TS := fun D σ H => ∀ pins s, Inv X pins σ H s → wpAny (model X.prog X.w) X.A (execs st X.env) (SP X pins D) X.xe s
@[irreducible] def tG (X : Cx) (tg : Expr) : TG := fun v σ H Q => ∀ pins s u, Inv X pins σ H s → RelV v u → wpAny (model X.prog X.w) X.A (assign tg X.env u) (fun _ s' => ∃ σ' H', Inv X pins σ' H' s' ∧ Q σ' H') X.xe s
@[irreducible] def tGs (X : Cx) (ts : List Expr) : TGs := fun vs σ H Q => ∀ pins s us, Inv X pins σ H s → Vals vs us → wpAny (model X.prog X.w) X.A (assignInOrder ((assignEach ts X.env).map (·.2)) us) (fun _ s' => ∃ σ' H', Inv X pins σ' H' s' ∧ Q σ' H') X.xe s
section
variable {X : Cx} {e : Expr} {es : List Expr} {st : Stmt} {sts : List Stmt}
theorem cE : PE X e (tE X e) := ⟨fun pins s _ _ _ I h => by unfold tE at h; exact h pins s I⟩
theorem cT : PT X e (tT X e) := ⟨fun pins s _ _ _ I h => by unfold tT at h; exact h pins s I⟩
theorem cA : PA X es (tA X es) := ⟨fun pos pins s _ _ _ I h => by unfold tA at h; exact h pos pins s I⟩
theorem cS : PS X st (tS X st) := ⟨fun pins s _ _ _ I h => by unfold tS at h; exact h pins s I⟩
theorem cSs : PSs X sts (tSs X sts) := ⟨fun pins s _ _ _ I h => by unfold tSs at h; exact h pins s I⟩
theorem cG : PG X e (tG X e) := ⟨fun pins s _ _ _ u _ I r h => by unfold tG at h; exact h pins s u I r⟩
theorem cGs : PGs X es (tGs X es) := ⟨fun pins s _ _ _ us _ I r h => by unfold tGs at h; exact h pins s us I r⟩
end
structure Bx where
 ps : List (V × D)
 ex : Addr → List Str → List D → List (Option D) → Mem → Prop
def B0 (ps : List (V × D)) : Bx := ⟨ps, fun _ _ _ _ _ => False⟩
abbrev Env' := List (Option D)
def WE (B : Bx) (te : TE) (δ : Env') (M : Mem) (Φ : D → Mem → Prop) : Prop := ∀ κ σ H Q, (∀ q ∈ B.ps, q ∈ κ) → Rs κ δ M σ H → (∀ v d M' H', Φ d M' → Rs κ δ M' σ H' → Rep M'.F H' v d → Q v H') → te σ H Q
def WF (B : Bx) (te : TE) (δ : Env') (M : Mem) (Φ : List D → Mem → Prop) : Prop := ∀ κ σ H Q, (∀ q ∈ B.ps, q ∈ κ) → Rs κ δ M σ H → (∀ p ds M' H', Φ ds M' → Rs κ δ ((p, .lst ds) :: M') σ H' → Q (.ref p) H') → te σ H Q
def WT (B : Bx) (tt : TT) (δ : Env') (M : Mem) (Φ : Bool → Mem → Prop) : Prop := ∀ κ σ H Q, (∀ q ∈ B.ps, q ∈ κ) → Rs κ δ M σ H → (∀ b M' H', Φ b M' → Rs κ δ M' σ H' → Q b H') → tt σ H Q
def WA (B : Bx) (ta : TA) (δ : Env') (M : Mem) (Φ : List D → Mem → Prop) : Prop := ∀ κ σ H Q, (∀ q ∈ B.ps, q ∈ κ) → Rs κ δ M σ H → (∀ vs ds M' H', Φ ds M' → Rs κ δ M' σ H' → Reps M'.F H' vs ds → Q vs H') → ta σ H Q
structure DEnds where
 nx : Env' → Mem → Prop
 rt : D → Mem → Prop
 bk : Env' → Mem → Prop := fun _ _ => False
 ct : Env' → Mem → Prop := fun _ _ => False
structure EndsOk (κ : List (V × D)) (Φ : DEnds) (E : Ends) : Prop where
 nx : ∀ δ M σ H, Φ.nx δ M → Rs κ δ M σ H → E.nx σ H
 rt : ∀ v d M δ σ H, Φ.rt d M → Rs κ δ M σ H → Rep M.F H v d → E.rt v H
 bk : ∀ δ M σ H, Φ.bk δ M → Rs κ δ M σ H → E.bk σ H
 ct : ∀ δ M σ H, Φ.ct δ M → Rs κ δ M σ H → E.ct σ H
def WS (B : Bx) (ts : TS) (δ : Env') (M : Mem) (Φ : DEnds) : Prop := ∀ κ σ H E, (∀ q ∈ B.ps, q ∈ κ) → Rs κ δ M σ H → EndsOk κ Φ E → ts E σ H
def WG (B : Bx) (tg : TG) (d : D) (δ : Env') (M : Mem) (Φ : Env' → Mem → Prop) : Prop := ∀ κ σ H v Q, (∀ q ∈ B.ps, q ∈ κ) → Rs κ δ M σ H → Rep M.F H v d → (∀ δ' M' σ' H', Φ δ' M' → Rs κ δ' M' σ' H' → Q σ' H') → tg v σ H Q
def WGs (B : Bx) (tg : TGs) (ds : List D) (δ : Env') (M : Mem) (Φ : Env' → Mem → Prop) : Prop := ∀ κ σ H vs Q, (∀ q ∈ B.ps, q ∈ κ) → Rs κ δ M σ H → Reps M.F H vs ds → (∀ δ' M' σ' H', Φ δ' M' → Rs κ δ' M' σ' H' → Q σ' H') → tg vs σ H Q
abbrev DE (B : Bx) (X : Cx) (e : Expr) := WE B (tE X e)
abbrev DF (B : Bx) (X : Cx) (e : Expr) := WF B (tE X e)
abbrev DT (B : Bx) (X : Cx) (e : Expr) := WT B (tT X e)
abbrev DA (B : Bx) (X : Cx) (es : List Expr) := WA B (tA X es)
abbrev DS (B : Bx) (X : Cx) (st : Stmt) := WS B (tS X st)
abbrev DSs (B : Bx) (X : Cx) (st : List Stmt) := WS B (tSs X st)
abbrev DG (B : Bx) (X : Cx) (tg : Expr) := WG B (tG X tg)
abbrev DGs (B : Bx) (X : Cx) (tg : List Expr) := WGs B (tGs X tg)
section
variable {B : Bx} {X : Cx} {e a b c : Expr} {es rest : List Expr} {st : Stmt} {sts : List Stmt} {δ δ' : Env'} {M : Mem} {Φ : D → Mem → Prop} {Ψ : DEnds} {te ta tb : TE} {tt : TT} {pos : Pos} {d : D}
theorem DE.of (h : PE X e te) (w : WE B te δ M Φ) : DE B X e δ M Φ := fun κ σ H Q hb R k => by unfold tE; exact fun pins s I => h.run pins s σ H Q I (w κ σ H Q hb R k)
theorem DF.of {Φ : List D → Mem → Prop} (h : PE X e te) (w : WF B te δ M Φ) : DF B X e δ M Φ := fun κ σ H Q hb R k => by unfold tE; exact fun pins s I => h.run pins s σ H Q I (w κ σ H Q hb R k)
theorem DT.of {Φ : Bool → Mem → Prop} (h : PT X e tt) (w : WT B tt δ M Φ) : DT B X e δ M Φ := fun κ σ H Q hb R k => by unfold tT; exact fun pins s I => h.run pins s σ H Q I (w κ σ H Q hb R k)
theorem DA.of {Φ : List D → Mem → Prop} {t : TA} (h : PA X es t) (w : WA B t δ M Φ) : DA B X es δ M Φ := fun κ σ H Q hb R k => by unfold tA; exact fun pos pins s I => h.run pos pins s σ H Q I (w κ σ H Q hb R k)
theorem DS.of {t : TS} (h : PS X st t) (w : WS B t δ M Ψ) : DS B X st δ M Ψ := fun κ σ H E hb R k => by unfold tS; exact fun pins s I => h.run pins s σ H E I (w κ σ H E hb R k)
theorem DSs.of {t : TS} (h : PSs X sts t) (w : WS B t δ M Ψ) : DSs B X sts δ M Ψ := fun κ σ H E hb R k => by unfold tSs; exact fun pins s I => h.run pins s σ H E I (w κ σ H E hb R k)
theorem DG.of {t : TG} {Φ : Env' → Mem → Prop} (h : PG X e t) (w : WG B t d δ M Φ) : DG B X e d δ M Φ := fun κ σ H v Q hb R r k => by unfold tG; exact fun pins s u I ru => h.run pins s σ H v u Q I ru (w κ σ H v Q hb R r k)
theorem DGs.of {t : TGs} {ds : List D} {Φ : Env' → Mem → Prop} (h : PGs X es t) (w : WGs B t ds δ M Φ) : DGs B X es ds δ M Φ := fun κ σ H v Q hb R r k => by unfold tGs; exact fun pins s u I ru => h.run pins s σ H v u Q I ru (w κ σ H v Q hb R r k)
theorem cons_sub {M : Mem} {q : Addr × Cell} : M.Sublist (q :: M) := .cons _ (.refl _)
theorem WE.ofF (w : WF B te δ M fun ds M' => Φ (.lst ds) M') : WE B te δ M Φ := fun κ σ H Q hb R k => w κ σ H Q hb R fun p ds M' H' q R' => by
 refine k (.ref p) (.lst ds) M' H' q (R'.less cons_sub) ?_
 obtain ⟨vs, e, r⟩ := R'.cl (p, .lst ds) (by simp)
 have nd : (p :: Mem.F M').Nodup := R'.nd
 refine .lst (List.nodup_cons.mp nd).1 e (r.fwd ?_)
 exact Fwd.less fun x hx => (F_sub cons_sub).subset hx
theorem WE.mono {Φ' : D → Mem → Prop} (w : WE B te δ M Φ) (h : ∀ d M', Φ d M' → Φ' d M') : WE B te δ M Φ' := fun κ σ H Q hb R k => w κ σ H Q hb R fun v d M' H' q R' r => k v d M' H' (h d M' q) R' r
theorem WT.mono {Φ Φ' : Bool → Mem → Prop} (w : WT B tt δ M Φ) (h : ∀ d M', Φ d M' → Φ' d M') : WT B tt δ M Φ' := fun κ σ H Q hb R k => w κ σ H Q hb R fun b M' H' q R' => k b M' H' (h b M' q) R'
theorem EndsOk.mono {κ : List (V × D)} {Φ Φ' : DEnds} {E : Ends} (k : EndsOk κ Φ' E) (h1 : ∀ δ M, Φ.nx δ M → Φ'.nx δ M) (h2 : ∀ d M, Φ.rt d M → Φ'.rt d M) (h3 : ∀ δ M, Φ.bk δ M → Φ'.bk δ M) (h4 : ∀ δ M, Φ.ct δ M → Φ'.ct δ M) : EndsOk κ Φ E :=
 ⟨fun δ M σ H q R => k.nx δ M σ H (h1 δ M q) R, fun v d M δ σ H q R r => k.rt v d M δ σ H (h2 d M q) R r, fun δ M σ H q R => k.bk δ M σ H (h3 δ M q) R, fun δ M σ H q R => k.ct δ M σ H (h4 δ M q) R⟩
theorem EndsOk.sub {κ κ' : List (V × D)} {Φ : DEnds} {E : Ends} (k : EndsOk κ Φ E) (h : ∀ q ∈ κ, q ∈ κ') : EndsOk κ' Φ E :=
 ⟨fun δ M σ H q R => k.nx δ M σ H q (R.sub h), fun v d M δ σ H q R r => k.rt v d M δ σ H q (R.sub h) r, fun δ M σ H q R => k.bk δ M σ H q (R.sub h), fun δ M σ H q R => k.ct δ M σ H q (R.sub h)⟩
theorem WS.mono {ts : TS} {Ψ' : DEnds} (w : WS B ts δ M Ψ) (h1 : ∀ δ M, Ψ.nx δ M → Ψ'.nx δ M) (h2 : ∀ d M, Ψ.rt d M → Ψ'.rt d M) (h3 : ∀ δ M, Ψ.bk δ M → Ψ'.bk δ M) (h4 : ∀ δ M, Ψ.ct δ M → Ψ'.ct δ M) : WS B ts δ M Ψ' := fun κ σ H E hb R k =>
 w κ σ H E hb R (k.mono h1 h2 h3 h4)
structure NmP (N : List Str) (sc : Scope) (i : Nat) (x : Str) : Prop where
 at_ : N[i]? = some x
 vis : Vis sc x
 dbg : (x == ("__debug__" : Str)) = false
 cdc : (x == ("__classdict__" : Str)) = false
abbrev Nm (X : Cx) := NmP X.N X.env.scope
structure LoP (N : List Str) (sc : Scope) (fu : Str → Bool) (i : Nat) (x : Str) : Prop extends NmP N sc i x where
 loc : Loc sc x
 fn : fu x = true ∨ sc.names.lookup x = some .local
abbrev Lo (X : Cx) := LoP X.N X.env.scope X.fn
structure GnP (env : Env) (mg : Str → Option Value) (x : Str) : Prop where
 gl : env.kindOf x = some .globalImplicit
 no : mg x = none
abbrev Gn (X : Cx) := GnP X.env X.mg
structure CzP (N : List Str) (calm_ : Bool) (A : Around) (k : Nat) : Prop where
 nd : N.Nodup
 calm : calm_ = true
 room : Room k A
abbrev Cz (X : Cx) := CzP X.N X.calm X.A
theorem WE.val {v : V} (hv : ∀ F H, Rep F H v d) (k : Φ d M) : WE B (tC v) δ M Φ := fun κ σ H Q hb R h => h v d M H k R (hv _ _)
theorem de_name {i : Nat} {x : Str} (n : Nm X i x) (hd : δ[i]? = some (some d)) (k : Φ d M) : DE B X (.Name x pos) δ M Φ :=
 .of (pe_var n.at_ n.vis n.dbg n.cdc) fun κ σ H Q hb R h => let ⟨v, e, r⟩ := R.get hd; ⟨v, e, h v d M H k R r⟩
theorem de_int {i : Int} {j} (k : Φ (.int i) M) : DE B X (.Constant (.int i) j pos) δ M Φ := .of pe_int (.val (fun _ _ => .int i) k)
theorem de_str {x : Str} {j} (k : Φ (.str x) M) : DE B X (.Constant (.str x) j pos) δ M Φ := .of pe_str (.val (fun _ _ => .str x) k)
theorem de_bl {b : Bool} {j} (k : Φ (.bl b) M) : DE B X (.Constant (.bool b) j pos) δ M Φ := .of pe_bl (.val (fun _ _ => .bl b) k)
theorem de_non {j} (k : Φ .non M) : DE B X (.Constant .none j pos) δ M Φ := .of pe_non (.val (fun _ _ => .non) k)
structure GcP (env : Env) (mg : Str → Option Value) (x : Str) (v : V) : Prop where
 gl : env.kindOf x = some .globalImplicit
 is : ∃ u, mg x = some u ∧ RelV v u
 dbg : (x == ("__debug__" : Str)) = false
abbrev Gc (X : Cx) := GcP X.env X.mg
theorem de_glob {x : Str} {v : V} (g : Gc X x v) (hv : ∀ F H, Rep F H v d) (k : Φ d M) : DE B X (.Name x pos) δ M Φ := by
 obtain ⟨gl, ⟨u, e, r⟩, dbg⟩ := g
 exact .of (pe_glob gl e r dbg) (.val hv k)
def OpD (r : R2) (x y : D) (M : Mem) (Φ : D → Mem → Prop) : Prop := ∀ κ (δ : Env') σ H v w Q, Rs κ δ M σ H → Rep M.F H v x → Rep M.F H w y → (∀ z d M' H', Φ d M' → Rs κ δ M' σ H' → Rep M'.F H' z d → Q z H') → r v w H Q
theorem WE.op {r : R2} (ha : WE B ta δ M fun x M1 => WE B tb δ M1 fun y M2 => OpD r x y M2 Φ) : WE B (tOp r ta tb) δ M Φ := fun κ σ H Q hb R k =>
 ha κ σ H _ hb R fun v x M1 H1 q1 R1 r1 => q1 ((v, x) :: κ) σ H1 _ (fun q hq => List.mem_cons_of_mem _ (hb q hq)) (R1.push r1) fun w y M2 H2 q2 R2 r2 =>
   q2 κ δ σ H2 v w Q R2.pop R2.top r2 k
theorem de_bin {op : Operator} {r : R2} (ho : OpR X (binaryOp op) r) (h : DE B X a δ M fun x M1 => DE B X b δ M1 fun y M2 => OpD r x y M2 Φ) : DE B X (.BinOp a op b pos) δ M Φ := .of (pe_op ho cE cE) (.op h)
theorem od_I {C : Int → Int → Prop} {g : Int → Int → V} {gd : Int → Int → D} {i j : Int} (hc : C i j) (hg : ∀ F H, Rep F H (g i j) (gd i j)) (k : Φ (gd i j) M) : OpD (rI C g) (.int i) (.int j) M Φ := fun κ δ σ H v w Q R rv rw' h => by
 cases rv; cases rw'
 exact ⟨i, j, rfl, rfl, hc, h _ _ M H k R (hg _ _)⟩
theorem od_I0 {g : Int → Int → V} {gd : Int → Int → D} {i j : Int} (hg : ∀ F H, Rep F H (g i j) (gd i j)) (k : Φ (gd i j) M) : OpD (rI0 g) (.int i) (.int j) M Φ := fun κ δ σ H v w Q R rv rw' h => by
 cases rv; cases rw'
 exact ⟨i, j, rfl, rfl, h _ _ M H k R (hg _ _)⟩
theorem OpD.inl {r r' : R2} {x y : D} (h : OpD r x y M Φ) : OpD (fun a b H Q => r a b H Q ∨ r' a b H Q) x y M Φ := fun κ δ σ H v w Q R rv rw' k => .inl (h κ δ σ H v w Q R rv rw' k)
theorem OpD.inr {r r' : R2} {x y : D} (h : OpD r' x y M Φ) : OpD (fun a b H Q => r a b H Q ∨ r' a b H Q) x y M Φ := fun κ δ σ H v w Q R rv rw' k => .inr (h κ δ σ H v w Q R rv rw' k)
def rAddS : R2 := fun x y H Q => ∃ i j, x = .str i ∧ y = .str j ∧ i.length + j.length ≤ sizeLine ∧ Q (.str (i ++ j)) H
def rCatH : R2 := fun x y H Q => ∃ a b xs ys, x = .ref a ∧ y = .ref b ∧ H a = some (.tup xs) ∧ H b = some (.tup ys) ∧ xs.length + ys.length ≤ sizeLine ∧ (xs = [] → Q (.ref b) H) ∧ (xs ≠ [] → ys = [] → Q (.ref a) H) ∧ (xs ≠ [] → ys ≠ [] → ∀ p, H p = none → Q (.ref p) (upd H p (.tup (xs ++ ys))))
theorem op_catH : OpR X (binaryOp .Add) rCatH := fun pins s σ H x y v u Q I rx ry ⟨a, b, xs, ys, e1, e2, h1, h2, hz, q0, q1, q2⟩ => op_catA pins s σ H x y v u Q I rx ry ⟨a, b, xs, ys, e1, e2, SqT.of h1, SqT.of h2, hz, q0, q1, q2⟩
def rAddU : R2 := fun x y H Q => (rI0 fun i j => .int (i + j)) x y H Q ∨ (fun x y H Q => rAddS x y H Q ∨ (fun x y H Q => rCat x y H Q ∨ rCatH x y H Q) x y H Q) x y H Q
theorem op_addU : OpR X (binaryOp .Add) rAddU := op_add.or ((op_add_str (X := X)).or (op_cat.or op_catH))
theorem od_addI {i j : Int} (k : Φ (.int (i + j)) M) : OpD rAddU (.int i) (.int j) M Φ := (od_I0 (gd := fun i j => .int (i + j)) (fun _ _ => .int _) k).inl
theorem od_addS {i j : Str} (hl : i.length + j.length ≤ sizeLine) (k : Φ (.str (i ++ j)) M) : OpD rAddU (.str i) (.str j) M Φ := .inr (.inl fun κ δ σ H v w Q R rv rw' h => by
 cases rv; cases rw'
 exact ⟨i, j, rfl, rfl, hl, h _ _ M H k R (.str _)⟩)
theorem Rs.lst {κ : List (V × D)} {σ : St} {H : Hp} {p : Addr} {vs : List V} {ds : List D} (R : Rs κ δ M σ H) (r : Reps M.F H vs ds) (hp : H p = none) : Rs κ δ ((p, .lst ds) :: M) σ (upd H p (.lst vs)) :=
 R.add hp rfl ⟨vs, upd_same, r.fwd (Fwd.newC hp)⟩
theorem Rs.lstV {κ : List (V × D)} {σ : St} {H : Hp} {p : Addr} {vs : List V} {ds : List D} (R : Rs κ δ M σ H) (r : Reps M.F H vs ds) (hp : H p = none) : Rs κ δ M σ (upd H p (.lst vs)) ∧ Rep M.F (upd H p (.lst vs)) (.ref p) (.lst ds) :=
 ⟨R.new hp, .lst (R.fresh hp) upd_same (r.fwd (Fwd.new hp))⟩
theorem Rs.tupV {κ : List (V × D)} {σ : St} {H : Hp} {p : Addr} {vs : List V} {ds : List D} (R : Rs κ δ M σ H) (r : Reps M.F H vs ds) (hp : H p = none) : Rs κ δ M σ (upd H p (.tup vs)) ∧ Rep M.F (upd H p (.tup vs)) (.ref p) (.tup ds) :=
 ⟨R.new hp, .tup (R.fresh hp) upd_same (r.fwd (Fwd.new hp))⟩
theorem od_addL {xs ys : List D} (hl : xs.length + ys.length ≤ sizeLine) (k : Φ (.lst (xs ++ ys)) M) : OpD rAddU (.lst xs) (.lst ys) M Φ := .inr (.inr (.inl fun κ δ σ H v w Q R rv rw' h => by
 cases rv with
 | lst h1 e1 r1 =>
   cases rw' with
   | lst h2 e2 r2 =>
     refine ⟨_, _, _, _, rfl, rfl, e1, e2, by rw [r1.length, r2.length]; exact hl, fun p hp => ?_⟩
     obtain ⟨R', r'⟩ := R.lstV (r1.append r2) hp
     exact h _ _ M _ k R' r'))
theorem od_addT {xs ys : List D} (hl : xs.length + ys.length ≤ sizeLine) (k : Φ (.tup (xs ++ ys)) M) : OpD rAddU (.tup xs) (.tup ys) M Φ := .inr (.inr (.inr fun κ δ σ H v w Q R rv rw' h => by
 cases rv with
 | tup h1 e1 r1 =>
   cases rw' with
   | tup h2 e2 r2 =>
     refine ⟨_, _, _, _, rfl, rfl, e1, e2, by rw [r1.length, r2.length]; exact hl, fun z => ?_, fun z1 z => ?_, fun _ _ p hp => ?_⟩
     · subst z
       cases r1
       exact h _ _ M _ k R (.tup h2 e2 r2)
     · subst z
       cases r2
       rw [List.append_nil] at k
       exact h _ _ M _ k R (.tup h1 e1 r1)
     · obtain ⟨R', r'⟩ := R.tupV (r1.append r2) hp
       exact h _ _ M _ k R' r'))
theorem de_add (h : DE B X a δ M fun x M1 => DE B X b δ M1 fun y M2 => OpD rAddU x y M2 Φ) : DE B X (.BinOp a .Add b pos) δ M Φ := de_bin op_addU h
def rSubU : R2 := rI0 fun i j => .int (i - j)
theorem de_sub (h : DE B X a δ M fun x M1 => DE B X b δ M1 fun y M2 => OpD rSubU x y M2 Φ) : DE B X (.BinOp a .Sub b pos) δ M Φ := de_bin op_sub h
theorem od_sub {i j : Int} (k : Φ (.int (i - j)) M) : OpD rSubU (.int i) (.int j) M Φ := od_I0 (gd := fun i j => .int (i - j)) (fun _ _ => .int _) k
def rMulStr : R2 := fun x y H Q => ∃ (z : Str) (n : Int), x = .str z ∧ y = .int n ∧ MulOk z n ∧ Q (.str (Txt.mul z n)) H
theorem op_mulStr : OpR X (binaryOp .Mult) rMulStr := by
 intro pins s σ H x y v u Q I rx ry h
 obtain ⟨z, n, rfl, rfl, hok, q⟩ := h
 obtain ⟨t, rfl⟩ := rx
 obtain ⟨t', rfl⟩ := ry
 exact SB.mul hok fun t' k => ⟨.str _, H, I.tok k, ⟨t', rfl⟩, q⟩
def rMulU : R2 := fun x y H Q => (rI CMul fun i j => .int (i * j)) x y H Q ∨ ((rI CMulW fun i j => .int (i * j)) x y H Q ∨ rMulStr x y H Q)
theorem de_mul (h : DE B X a δ M fun x M1 => DE B X b δ M1 fun y M2 => OpD rMulU x y M2 Φ) : DE B X (.BinOp a .Mult b pos) δ M Φ := de_bin (op_mul.or (op_mulW.or op_mulStr)) h
theorem od_mulStr {z : Str} {n : Int} (hok : MulOk z n) (k : Φ (.str (Txt.mul z n)) M) : OpD rMulU (.str z) (.int n) M Φ := OpD.inr (OpD.inr fun κ δ σ H v w Q R rv rw' f => by
 cases rv; cases rw'
 exact ⟨z, n, rfl, rfl, hok, f _ _ M H k R (.str _)⟩)
theorem od_mul {i j : Int} (hc : CMul i j) (k : Φ (.int (i * j)) M) : OpD rMulU (.int i) (.int j) M Φ := (od_I (gd := fun i j => .int (i * j)) hc (fun _ _ => .int _) k).inl
def rDivU : R2 := rI CDivW fun i j => .int (i / j)
theorem de_div (h : DE B X a δ M fun x M1 => DE B X b δ M1 fun y M2 => OpD rDivU x y M2 Φ) : DE B X (.BinOp a .FloorDiv b pos) δ M Φ := de_bin op_fdivW h
theorem od_div {i j : Int} (hc : CDivW i j) (k : Φ (.int (i / j)) M) : OpD rDivU (.int i) (.int j) M Φ := od_I (gd := fun i j => .int (i / j)) hc (fun _ _ => .int _) k
def rModU : R2 := rI (fun _ j => 0 < j) fun i j => .int (i % j)
theorem de_mod (h : DE B X a δ M fun x M1 => DE B X b δ M1 fun y M2 => OpD rModU x y M2 Φ) : DE B X (.BinOp a .Mod b pos) δ M Φ := de_bin op_mod h
theorem od_mod {i j : Int} (hc : 0 < j) (k : Φ (.int (i % j)) M) : OpD rModU (.int i) (.int j) M Φ := od_I (gd := fun i j => .int (i % j)) hc (fun _ _ => .int _) k
def rPowU : R2 := rI CPow fun i j => .int (i ^ j.toNat)
theorem de_pow (h : DE B X a δ M fun x M1 => DE B X b δ M1 fun y M2 => OpD rPowU x y M2 Φ) : DE B X (.BinOp a .Pow b pos) δ M Φ := de_bin op_pow h
theorem od_pow {i j : Int} (hc : CPow i j) (k : Φ (.int (i ^ j.toNat)) M) : OpD rPowU (.int i) (.int j) M Φ := od_I (gd := fun i j => .int (i ^ j.toNat)) hc (fun _ _ => .int _) k
theorem de_neg (h : DE B X a δ M fun x M1 => ∃ i, x = .int i ∧ Φ (.int (-i)) M1) : DE B X (.UnaryOp .USub a pos) δ M Φ := .of (pe_un un_neg cE) fun κ σ H Q hb R k => h κ σ H _ hb R fun v x M1 H1 ⟨i, e, q⟩ R1 r1 => by
 subst e; cases r1
 exact ⟨i, rfl, k _ _ _ _ q R1 (.int _)⟩
end
end Hl
namespace Hl
open PySem L2
@[irreducible] def tW (X : Cx) (e : Expr) : TT := fun σ H Q => ∀ whole pins s, Inv X pins σ H s → wpAny (model X.prog X.w) X.A (isTrue e X.env whole) (TP X pins σ Q) X.xe s
theorem cW {X : Cx} {e : Expr} : PW X e (tW X e) := ⟨fun whole pins s _ _ _ I h => by unfold tW at h; exact h whole pins s I⟩
abbrev DW (B : Bx) (X : Cx) (e : Expr) := WT B (tW X e)
section
variable {B : Bx} {X : Cx} {e a b c : Expr} {es rest : List Expr} {st : Stmt} {sts : List Stmt} {δ δ' : Env'} {M : Mem} {Φ : D → Mem → Prop} {Ψ : DEnds} {te ta tb : TE} {tt : TT} {pos : Pos} {d x y : D} {ΦB : Bool → Mem → Prop}
theorem DW.of (h : PW X e tt) (w : WT B tt δ M ΦB) : DW B X e δ M ΦB := fun κ σ H Q hb R k => by unfold tW; exact fun whole pins s I => h.run whole pins s σ H Q I (w κ σ H Q hb R k)
theorem DT.w (h : DW B X e δ M ΦB) : DT B X e δ M ΦB := .of cW.pt h
def Br (b : Bool) (P Q : Prop) : Prop := (b = true → P) ∧ (b = false → Q)
theorem Br.mk {b : Bool} {P Q : Prop} (h1 : b = true → P) (h2 : b = false → Q) : Br b P Q := ⟨h1, h2⟩
theorem Br.yes {P Q : Prop} (h : P) : Br true P Q := ⟨fun _ => h, fun e => (nomatch e)⟩
theorem Br.no {P Q : Prop} (h : Q) : Br false P Q := ⟨fun e => (nomatch e), fun _ => h⟩
theorem Br.ite {b : Bool} {P Q : Prop} (h : Br b P Q) : if b = true then P else Q := by
 cases b with
 | true => exact iteT (h.1 rfl)
 | false => exact iteF (h.2 rfl)
theorem Br.dec {p : Prop} [Decidable p] {P Q : Prop} (h1 : p → P) (h2 : ¬ p → Q) : Br (decide p) P Q := ⟨fun e => h1 (of_decide_eq_true e), fun e => h2 (of_decide_eq_false e)⟩
theorem Br.ndec {p : Prop} [Decidable p] {P Q : Prop} (h1 : ¬ p → P) (h2 : p → Q) : Br (!decide p) P Q := ⟨fun e => h1 (of_decide_eq_false (by simpa using e)), fun e => h2 (of_decide_eq_true (by simpa using e))⟩
theorem Br.decT {p : Prop} [Decidable p] {P Q : Prop} (h : p) (h1 : P) : Br (decide p) P Q := ⟨fun _ => h1, fun e => absurd h (of_decide_eq_false e)⟩
theorem Br.decF {p : Prop} [Decidable p] {P Q : Prop} (h : ¬ p) (h1 : Q) : Br (decide p) P Q := ⟨fun e => absurd (of_decide_eq_true e) h, fun _ => h1⟩
theorem Br.ndecT {p : Prop} [Decidable p] {P Q : Prop} (h : ¬ p) (h1 : P) : Br (!decide p) P Q := ⟨fun _ => h1, fun e => absurd (of_decide_eq_true (by simpa using e)) h⟩
theorem Br.ndecF {p : Prop} [Decidable p] {P Q : Prop} (h : p) (h1 : Q) : Br (!decide p) P Q := ⟨fun e => absurd h (of_decide_eq_false (by simpa using e)), fun _ => h1⟩
theorem Br.neg {b : Bool} {P Q : Prop} (h : Br b Q P) : Br (!b) P Q := by
 cases b with
 | true => exact ⟨fun e => (nomatch e), fun _ => h.1 rfl⟩
 | false => exact ⟨fun _ => h.2 rfl, fun e => (nomatch e)⟩
def toB (Φ : Bool → Mem → Prop) : D → Mem → Prop := fun d M => ∃ b, d = .bl b ∧ Φ b M
theorem toB.mk {b : Bool} (k : ΦB b M) : toB ΦB (.bl b) M := ⟨b, rfl, k⟩
theorem WT.test {t : TE} (h : WE B t δ M (toB ΦB)) : WT B (tTest t) δ M ΦB := fun κ σ H Q hb R k => h κ σ H _ hb R fun v d M' H' ⟨b, e, q⟩ R' r => by
 subst e; cases r
 exact ⟨b, rfl, k b M' H' q R'⟩
theorem de_cmp {op : CmpOp} {r : R2} (ho : OpR X (compareOp op) r) (hm : behindInMarks op b = false) (h : DE B X a δ M fun x M1 => DE B X b δ M1 fun y M2 => OpD r x y M2 Φ) : DE B X (.Compare a [op] [b] pos) δ M Φ := .of (pe_cmpR ho cE cE hm) (.op h)
theorem dt_cmp {op : CmpOp} {r : R2} (ho : OpR X (compareOp op) r) (hm : behindInMarks op b = false) (h : DE B X a δ M fun x M1 => DE B X b δ M1 fun y M2 => OpD r x y M2 (toB ΦB)) : DT B X (.Compare a [op] [b] pos) δ M ΦB := .of (pt_cmpR ho cE cE hm) (.test (.op h))
def rLtU : R2 := rI0 fun i j => .bl (decide (i < j))
def rLeU : R2 := rI0 fun i j => .bl (decide (i ≤ j))
def rGtU : R2 := rI0 fun i j => .bl (decide (j < i))
def rGeU : R2 := rI0 fun i j => .bl (decide (j ≤ i))
theorem od_lt {i j : Int} (k : Φ (.bl (decide (i < j))) M) : OpD rLtU (.int i) (.int j) M Φ := od_I0 (gd := fun i j => .bl (decide (i < j))) (fun _ _ => .bl _) k
theorem od_le {i j : Int} (k : Φ (.bl (decide (i ≤ j))) M) : OpD rLeU (.int i) (.int j) M Φ := od_I0 (gd := fun i j => .bl (decide (i ≤ j))) (fun _ _ => .bl _) k
theorem od_gt {i j : Int} (k : Φ (.bl (decide (j < i))) M) : OpD rGtU (.int i) (.int j) M Φ := od_I0 (gd := fun i j => .bl (decide (j < i))) (fun _ _ => .bl _) k
theorem od_ge {i j : Int} (k : Φ (.bl (decide (j ≤ i))) M) : OpD rGeU (.int i) (.int j) M Φ := od_I0 (gd := fun i j => .bl (decide (j ≤ i))) (fun _ _ => .bl _) k
theorem de_lt (h : DE B X a δ M fun x M1 => DE B X b δ M1 fun y M2 => OpD rLtU x y M2 Φ) : DE B X (.Compare a [.Lt] [b] pos) δ M Φ := de_cmp op_lt (nomark _) h
theorem de_le (h : DE B X a δ M fun x M1 => DE B X b δ M1 fun y M2 => OpD rLeU x y M2 Φ) : DE B X (.Compare a [.LtE] [b] pos) δ M Φ := de_cmp op_le (nomark _) h
theorem de_gt (h : DE B X a δ M fun x M1 => DE B X b δ M1 fun y M2 => OpD rGtU x y M2 Φ) : DE B X (.Compare a [.Gt] [b] pos) δ M Φ := de_cmp op_gt (nomark _) h
theorem de_ge (h : DE B X a δ M fun x M1 => DE B X b δ M1 fun y M2 => OpD rGeU x y M2 Φ) : DE B X (.Compare a [.GtE] [b] pos) δ M Φ := de_cmp op_ge (nomark _) h
theorem dt_lt (h : DE B X a δ M fun x M1 => DE B X b δ M1 fun y M2 => OpD rLtU x y M2 (toB ΦB)) : DT B X (.Compare a [.Lt] [b] pos) δ M ΦB := dt_cmp op_lt (nomark _) h
theorem dt_le (h : DE B X a δ M fun x M1 => DE B X b δ M1 fun y M2 => OpD rLeU x y M2 (toB ΦB)) : DT B X (.Compare a [.LtE] [b] pos) δ M ΦB := dt_cmp op_le (nomark _) h
theorem dt_gt (h : DE B X a δ M fun x M1 => DE B X b δ M1 fun y M2 => OpD rGtU x y M2 (toB ΦB)) : DT B X (.Compare a [.Gt] [b] pos) δ M ΦB := dt_cmp op_gt (nomark _) h
theorem dt_ge (h : DE B X a δ M fun x M1 => DE B X b δ M1 fun y M2 => OpD rGeU x y M2 (toB ΦB)) : DT B X (.Compare a [.GtE] [b] pos) δ M ΦB := dt_cmp op_ge (nomark _) h
def rEqU (K : PySem.W.Frag) : R2 := fun x y H Q => rEq x y H Q ∨ rEqD K x y H Q
def rNeU (K : PySem.W.Frag) : R2 := fun x y H Q => rNe x y H Q ∨ rNeD K x y H Q
theorem un64 {k : Nat} (z : Cz X k) : X.A.units + 64 < cLine := by have := z.room.un; omega
theorem un1 {k : Nat} (z : Cz X k) : X.A.units + 1 < cLine := by have := z.room.un; omega
theorem de_eq {k : Nat} (z : Cz X k) (h : DE B X a δ M fun x M1 => DE B X b δ M1 fun y M2 => OpD (rEqU X.K) x y M2 Φ) : DE B X (.Compare a [.Eq] [b] pos) δ M Φ := de_cmp (op_eq.or (op_eqD (un64 z))) (nomark _) h
theorem de_ne {k : Nat} (z : Cz X k) (h : DE B X a δ M fun x M1 => DE B X b δ M1 fun y M2 => OpD (rNeU X.K) x y M2 Φ) : DE B X (.Compare a [.NotEq] [b] pos) δ M Φ := de_cmp (op_ne.or (op_neD (un64 z))) (nomark _) h
theorem dt_eq {k : Nat} (z : Cz X k) (h : DE B X a δ M fun x M1 => DE B X b δ M1 fun y M2 => OpD (rEqU X.K) x y M2 (toB ΦB)) : DT B X (.Compare a [.Eq] [b] pos) δ M ΦB := dt_cmp (op_eq.or (op_eqD (un64 z))) (nomark _) h
theorem dt_ne {k : Nat} (z : Cz X k) (h : DE B X a δ M fun x M1 => DE B X b δ M1 fun y M2 => OpD (rNeU X.K) x y M2 (toB ΦB)) : DT B X (.Compare a [.NotEq] [b] pos) δ M ΦB := dt_cmp (op_ne.or (op_neD (un64 z))) (nomark _) h
theorem od_eqI {K : PySem.W.Frag} {i j : Int} (k : Φ (.bl (decide (i = j))) M) : OpD (rEqU K) (.int i) (.int j) M Φ := .inl fun κ δ σ H v w Q R rv rw' h => by
 cases rv; cases rw'
 refine ⟨rfl, ?_⟩
 rw [show decide (V.int i = V.int j) = decide (i = j) by simp]
 exact h _ _ M H k R (.bl _)
theorem od_neI {K : PySem.W.Frag} {i j : Int} (k : Φ (.bl (!decide (i = j))) M) : OpD (rNeU K) (.int i) (.int j) M Φ := .inl fun κ δ σ H v w Q R rv rw' h => by
 cases rv; cases rw'
 refine ⟨rfl, ?_⟩
 rw [show decide (V.int i = V.int j) = decide (i = j) by simp]
 exact h _ _ M H k R (.bl _)
theorem od_eqS {K : PySem.W.Frag} {i j : Str} (k : Φ (.bl (decide (i = j))) M) : OpD (rEqU K) (.str i) (.str j) M Φ := .inl fun κ δ σ H v w Q R rv rw' h => by
 cases rv; cases rw'
 refine ⟨rfl, ?_⟩
 rw [show decide (V.str i = V.str j) = decide (i = j) by simp]
 exact h _ _ M H k R (.bl _)
theorem od_neS {K : PySem.W.Frag} {i j : Str} (k : Φ (.bl (!decide (i = j))) M) : OpD (rNeU K) (.str i) (.str j) M Φ := .inl fun κ δ σ H v w Q R rv rw' h => by
 cases rv; cases rw'
 refine ⟨rfl, ?_⟩
 rw [show decide (V.str i = V.str j) = decide (i = j) by simp]
 exact h _ _ M H k R (.bl _)
def isN : D → Bool
 | .non => true
 | .raw v => decide (v = .non)
 | _ => false
def rIsNU : R2 := fun x y H Q => y = .non ∧ Q (.bl (decide (x = .non))) H
def rNotNU : R2 := fun x y H Q => y = .non ∧ Q (.bl (!decide (x = .non))) H
theorem rep_isN {F : List Addr} {H : Hp} {v : V} {x : D} (r : Rep F H v x) : decide (v = .non) = isN x := by cases r <;> simp [isN]
theorem od_isN {x : D} (k : Φ (.bl (isN x)) M) : OpD rIsNU x .non M Φ := fun κ δ σ H v w Q R rv rw' h => by
 cases rw'
 refine ⟨rfl, ?_⟩
 rw [rep_isN rv]
 exact h _ _ M H k R (.bl _)
theorem od_notN {x : D} (k : Φ (.bl (!isN x)) M) : OpD rNotNU x .non M Φ := fun κ δ σ H v w Q R rv rw' h => by
 cases rw'
 refine ⟨rfl, ?_⟩
 rw [rep_isN rv]
 exact h _ _ M H k R (.bl _)
theorem de_is (h : DE B X a δ M fun x M1 => DE B X b δ M1 fun y M2 => OpD rIsNU x y M2 Φ) : DE B X (.Compare a [.Is] [b] pos) δ M Φ := de_cmp op_isN (nomark _) h
theorem de_isnot (h : DE B X a δ M fun x M1 => DE B X b δ M1 fun y M2 => OpD rNotNU x y M2 Φ) : DE B X (.Compare a [.IsNot] [b] pos) δ M Φ := de_cmp op_notN (nomark _) h
theorem dt_is (h : DE B X a δ M fun x M1 => DE B X b δ M1 fun y M2 => OpD rIsNU x y M2 (toB ΦB)) : DT B X (.Compare a [.Is] [b] pos) δ M ΦB := dt_cmp op_isN (nomark _) h
theorem dt_isnot (h : DE B X a δ M fun x M1 => DE B X b δ M1 fun y M2 => OpD rNotNU x y M2 (toB ΦB)) : DT B X (.Compare a [.IsNot] [b] pos) δ M ΦB := dt_cmp op_notN (nomark _) h
theorem dt_not (h : DT B X a δ M fun b M1 => ΦB (!b) M1) : DT B X (.UnaryOp .Not a pos) δ M ΦB := .of (pt_not cT) fun κ σ H Q hb R k => h κ σ H _ hb R fun b M1 H1 q R1 => k _ _ _ q R1
theorem dw_and1 (h : DT B X a δ M ΦB) : DW B X (.BoolOp .And [a] pos) δ M ΦB := .of (pw_and1 cT) h
theorem dw_or1 (h : DT B X a δ M ΦB) : DW B X (.BoolOp .Or [a] pos) δ M ΦB := .of (pw_or1 cT) h
theorem dw_and (h : DT B X a δ M fun t M1 => Br t (DW B X (.BoolOp .And (b :: rest) pos) δ M1 ΦB) (ΦB false M1)) : DW B X (.BoolOp .And (a :: b :: rest) pos) δ M ΦB := .of (pw_and cT cW) fun κ σ H Q hb R k => h κ σ H _ hb R fun t M1 H1 q R1 =>
 Br.ite ⟨fun e => q.1 e κ σ H1 Q hb R1 k, fun e => k _ _ _ (q.2 e) R1⟩
theorem dw_or (h : DT B X a δ M fun t M1 => Br t (ΦB true M1) (DW B X (.BoolOp .Or (b :: rest) pos) δ M1 ΦB)) : DW B X (.BoolOp .Or (a :: b :: rest) pos) δ M ΦB := .of (pw_or cT cW) fun κ σ H Q hb R k => h κ σ H _ hb R fun t M1 H1 q R1 =>
 Br.ite ⟨fun e => k _ _ _ (q.1 e) R1, fun e => q.2 e κ σ H1 Q hb R1 k⟩
theorem dt_and (h : DW B X (.BoolOp .And es pos) δ M ΦB) : DT B X (.BoolOp .And es pos) δ M ΦB := .w h
theorem dt_or (h : DW B X (.BoolOp .Or es pos) δ M ΦB) : DT B X (.BoolOp .Or es pos) δ M ΦB := .w h
theorem dt_val (h : DE B X e δ M (toB ΦB)) (he : ∀ whole, isTrue e X.env whole = (do let v ← whole; standAt e.pos; holding [v] (truthy v)) := by intro _; rfl) : DT B X e δ M ΦB := .of (pt_val cE he) fun κ σ H Q hb R k => h κ σ H _ hb R fun v d M' H' ⟨b, e, q⟩ R' r => by
 subst e; cases r
 exact ⟨b, rfl, k b M' H' q R'⟩
theorem de_one {op} (h : DE B X a δ M Φ) : DE B X (.BoolOp op [a] pos) δ M Φ := .of (pe_one cE) h
theorem de_and (h : DE B X a δ M (toB fun t M1 => Br t (DE B X (.BoolOp .And (b :: rest) pos) δ M1 Φ) (Φ (.bl false) M1))) : DE B X (.BoolOp .And (a :: b :: rest) pos) δ M Φ := .of (pe_and cE cE) fun κ σ H Q hb R k => h κ σ H _ hb R fun v d M1 H1 ⟨t, e, q⟩ R1 r => by
 subst e; cases r
 exact ⟨t, rfl, Br.ite ⟨fun e => q.1 e κ σ H1 Q hb R1 k, fun e => k _ _ _ _ (q.2 e) R1 (.bl _)⟩⟩
theorem de_or (h : DE B X a δ M (toB fun t M1 => Br t (Φ (.bl true) M1) (DE B X (.BoolOp .Or (b :: rest) pos) δ M1 Φ))) : DE B X (.BoolOp .Or (a :: b :: rest) pos) δ M Φ := .of (pe_or cE cE) fun κ σ H Q hb R k => h κ σ H _ hb R fun v d M1 H1 ⟨t, e, q⟩ R1 r => by
 subst e; cases r
 exact ⟨t, rfl, Br.ite ⟨fun e => k _ _ _ _ (q.1 e) R1 (.bl _), fun e => q.2 e κ σ H1 Q hb R1 k⟩⟩
theorem de_not (h : DE B X a δ M (toB fun t M1 => Φ (.bl (!t)) M1)) : DE B X (.UnaryOp .Not a pos) δ M Φ := .of (pe_not cE) fun κ σ H Q hb R k => h κ σ H _ hb R fun v d M1 H1 ⟨t, e, q⟩ R1 r => by
 subst e; cases r
 exact ⟨t, rfl, k _ _ _ _ q R1 (.bl _)⟩
theorem de_if (h : DT B X c δ M fun t M1 => Br t (DE B X a δ M1 Φ) (DE B X b δ M1 Φ)) : DE B X (.IfExp c a b pos) δ M Φ := .of (pe_ifExp cT cE cE) fun κ σ H Q hb R k => h κ σ H _ hb R fun t M1 H1 q R1 =>
 Br.ite ⟨fun e => q.1 e κ σ H1 Q hb R1 k, fun e => q.2 e κ σ H1 Q hb R1 k⟩
variable {ΦL : List D → Mem → Prop}
theorem da_nil (k : ΦL [] M) : DA B X [] δ M ΦL := .of pa_nil fun κ σ H Q hb R h => h _ _ M H k R .nil
theorem da_cons (h : DE B X a δ M fun x M1 => DA B X es δ M1 fun xs M2 => ΦL (x :: xs) M2) (hs : starEach (a :: es) X.env = (false, eval a X.env) :: starEach es X.env := by rfl) : DA B X (a :: es) δ M ΦL := .of (pa_cons cE cA hs) fun κ σ H Q hb R k =>
 h κ σ H _ hb R fun v x M1 H1 q1 R1 r1 => q1 ((v, x) :: κ) σ H1 _ (fun q hq => List.mem_cons_of_mem _ (hb q hq)) (R1.push r1) fun vs xs M2 H2 q2 R2 r2 => k _ _ _ _ q2 R2.pop (.cons R2.top r2)
theorem de_tup {x1} (h : DA B X es δ M fun xs M1 => xs.length ≤ sizeLine ∧ Φ (.tup xs) M1) : DE B X (.Tuple es x1 pos) δ M Φ := .of (pe_tup cA) fun κ σ H Q hb R k => h κ σ H _ hb R fun vs xs M1 H1 ⟨hl, q⟩ R1 r1 =>
 ⟨by rw [r1.length]; exact hl, fun p hp => let ⟨R2, r2⟩ := R1.tupV r1 hp; k _ _ _ _ q R2 r2⟩
theorem df_lst (h : DA B X es δ M fun xs M1 => xs.length ≤ sizeLine ∧ ΦL xs M1) : DF B X (.List es pos) δ M ΦL := .of (pe_lst cA) fun κ σ H Q hb R k => h κ σ H _ hb R fun vs xs M1 H1 ⟨hl, q⟩ R1 r1 =>
 ⟨by rw [r1.length]; exact hl, fun p hp => k p xs M1 _ q (R1.lst r1 hp)⟩
theorem DE.f (h : DF B X e δ M fun ds M' => Φ (.lst ds) M') : DE B X e δ M Φ := WE.ofF h
theorem de_lst (h : DA B X es δ M fun xs M1 => xs.length ≤ sizeLine ∧ Φ (.lst xs) M1) : DE B X (.List es pos) δ M Φ := .f (df_lst h)
def rDG : R2 := fun x y H Q => ∃ a v, x = .ref a ∧ DGet H a y (some v) ∧ Q v H
open PyProof.Rows in
theorem ix_dict (hu : X.A.units + 1 < cLine) : IxR X rDG := by
 intro value slice pins s σ H x y v u Q I rx ry h hs
 obtain ⟨a, w, rfl, g, q⟩ := h
 obtain rfl : v = Value.ref a := rx
 exact tail_any (dict_typeIs I g) PySem.F.slot_dict_getitem.lookup (d_getItem hu I g ry fun w' s' I' rw' => ⟨w, H, I', rw', q⟩) hs
def rIxU (K : PySem.W.Frag) : R2 := fun x y H Q => rIx K x y H Q ∨ rDG x y H Q
theorem de_ix {n : Nat} (z : Cz X n) (h : DE B X a δ M fun x M1 => DE B X b δ M1 fun y M2 => OpD (rIxU X.K) x y M2 Φ) (hs : PlainIx b := by intro _ _; rfl) : DE B X (.Subscript a b pos) δ M Φ := .of (pe_ix (ix_seq.or (ix_dict (un1 z))) cE cE hs) (.op h)
theorem at_rep {F : List Addr} {H : Hp} {vs : List V} {ds : List D} {i : Int} {d : D} (r : Reps F H vs ds) (h : atI ds i = some d) : ∃ v, atI vs i = some v ∧ Rep F H v d := by
 unfold atI at h ⊢
 rw [← r.length] at h
 cases e : ixN vs.length i with
 | none => rw [e] at h; cases h
 | some j =>
   rw [e] at h
   obtain ⟨v, e1, r1⟩ := r.get' (i := j) h
   exact ⟨v, e1, r1⟩
theorem od_ixL {K : PySem.W.Frag} {ds : List D} {i : Int} {d : D} (h : atI ds i = some d) (k : Φ d M) : OpD (rIxU K) (.lst ds) (.int i) M Φ := .inl fun κ δ σ H v w Q R rv rw' f => by
 cases rw'
 cases rv with
 | lst h1 e1 r1 =>
   obtain ⟨u, e2, r2⟩ := at_rep r1 h
   exact .inl ⟨_, _, i, u, rfl, rfl, SqL.of e1, e2, f _ _ M H k R r2⟩
theorem od_ixT {K : PySem.W.Frag} {ds : List D} {i : Int} {d : D} (h : atI ds i = some d) (k : Φ d M) : OpD (rIxU K) (.tup ds) (.int i) M Φ := .inl fun κ δ σ H v w Q R rv rw' f => by
 cases rw'
 cases rv with
 | tup h1 e1 r1 =>
   obtain ⟨u, e2, r2⟩ := at_rep r1 h
   exact .inr (.inl ⟨_, _, i, u, rfl, rfl, SqT.of e1, e2, f _ _ M H k R r2⟩)
theorem od_ixS {K : PySem.W.Frag} {z : Str} {i : Int} {c : Nat} (hl : z.length ≤ sizeLine) (h : atI z.cps.toList i = some c) (k : Φ (.str ⟨#[c]⟩) M) : OpD (rIxU K) (.str z) (.int i) M Φ := .inl fun κ δ σ H v w Q R rv rw' f => by
 cases rw'
 cases rv
 exact .inr (.inr ⟨z, i, c, rfl, rfl, hl, h, f _ _ M H k R (.str _)⟩)
theorem od_ixC {K : PySem.W.Frag} {ds : List D} {i : Int} {d : D} {p : Addr} {j : Nat} (hm : M[j]? = some (p, .lst ds)) (h : atI ds i = some d) (k : Φ d M) : OpD (rIxU K) (.raw (.ref p)) (.int i) M Φ := .inl fun κ δ σ H v w Q R rv rw' f => by
 cases rw'
 cases rv
 obtain ⟨vs, e1, r1⟩ := R.at hm
 obtain ⟨u, e2, r2⟩ := at_rep r1 h
 exact .inl ⟨_, _, i, u, rfl, rfl, SqL.of e1, e2, f _ _ M H k R r2⟩
def kD : Key → D
 | .inl i => .int i
 | .inr x => .str x
theorem rep_k {F : List Addr} {H : Hp} {v : V} {k : Key} (r : Rep F H v (kD k)) : v = kV k := by
 cases k with
 | inl i => cases (show Rep F H v (.int i) from r); rfl
 | inr x => cases (show Rep F H v (.str x) from r); rfl
def lookD (kvs : List (Key × D)) (k : Key) : Option D := (kvs.find? fun kv => decide (kv.1 = k)).map (·.2)
theorem look_rep {F : List Addr} {H : Hp} {k : Key} : ∀ {ws : List (Key × V)} {kvs : List (Key × D)}, ws.map (·.1) = kvs.map (·.1) → Reps F H (ws.map (·.2)) (kvs.map (·.2)) → ∀ {d : D}, lookD kvs k = some d → ∃ v, valV ws k = some v ∧ Rep F H v d
 | [], [], _, _, d, e => by cases e
 | [], _ :: _, h, _, _, _ => by cases h
 | _ :: _, [], h, _, _, _ => by cases h
 | (k1, v) :: ws, (k2, d') :: kvs, h, r, d, e => by
   have h1 : k1 = k2 := (List.cons.inj h).1
   have h2 : ws.map (·.1) = kvs.map (·.1) := (List.cons.inj h).2
   subst h1
   cases r with
   | cons r1 r2 =>
     unfold lookD at e
     unfold valV
     by_cases hk : k1 = k
     · rw [List.find?_cons_of_pos (by simpa using hk)] at e ⊢
       cases e
       exact ⟨v, rfl, r1⟩
     · rw [List.find?_cons_of_neg (by simpa using hk)] at e ⊢
       exact look_rep h2 r2 e
theorem od_ixD {K : PySem.W.Frag} {kvs : List (Key × D)} {k : Key} {y d : D} {p : Addr} (j : Nat) (hm : M[j]? = some (p, .dct kvs)) (hk : y = kD k) (h : lookD kvs k = some d) (q : Φ d M) : OpD (rIxU K) (.raw (.ref p)) y M Φ := .inr fun κ δ σ H v w Q R rv rw' f => by
 subst hk
 have := rep_k rw'
 subst this
 cases rv
 obtain ⟨ws, e1, e2, r⟩ := R.at hm
 obtain ⟨u, e3, r3⟩ := look_rep e2 r h
 exact ⟨p, u, rfl, .inl ⟨ws, k, .inl e1, rfl, e3.symm⟩, f _ _ M H q R r3⟩
end
end Hl
namespace Hl
open PySem L2
section
variable {B : Bx} {X : Cx} {e a b c : Expr} {es rest : List Expr} {st : Stmt} {sts : List Stmt} {δ δ' : Env'} {M : Mem} {Φ : D → Mem → Prop} {Ψ : DEnds} {te ta tb : TE} {tt : TT} {pos pos' : Pos} {d x y : D} {ΦB : Bool → Mem → Prop} {ΦL : List D → Mem → Prop}
theorem ds_nil (k : Ψ.nx δ M) : DSs B X [] δ M Ψ := .of pss_nil fun κ σ H E hb R h => h.nx δ M σ H k R
theorem ds_cons (h : DS B X st δ M { Ψ with nx := fun δ' M' => DSs B X sts δ' M' Ψ }) : DSs B X (st :: sts) δ M Ψ := .of (pss_cons cS cSs) fun κ σ H E hb R k =>
 h κ σ H _ hb R ⟨fun δ' M' σ' H' q R' => q κ σ' H' E hb R' k, k.rt, k.bk, k.ct⟩
theorem ds_one (h : DS B X st δ M Ψ) : DSs B X [st] δ M Ψ := .of (pss_one cS) h
theorem ds_pass (k : Ψ.nx δ M) : DS B X (.Pass pos) δ M Ψ := .of ps_pass fun κ σ H E hb R h => h.nx δ M σ H k R
theorem ds_break (k : Ψ.bk δ M) : DS B X (.Break pos) δ M Ψ := .of ps_break fun κ σ H E hb R h => h.bk δ M σ H k R
theorem ds_continue (k : Ψ.ct δ M) : DS B X (.Continue pos) δ M Ψ := .of ps_continue fun κ σ H E hb R h => h.ct δ M σ H k R
theorem ds_ret (h : DE B X e δ M Ψ.rt) : DS B X (.Return (some e) pos) δ M Ψ := .of (ps_ret cE) fun κ σ H E hb R k => h κ σ H _ hb R fun v d M' H' q R' r => k.rt v d M' δ σ H' q R' r
theorem ds_retN (k : Ψ.rt .non M) : DS B X (.Return none pos) δ M Ψ := .of ps_retN fun κ σ H E hb R h => h.rt .non .non M δ σ H k R .non
theorem ds_if {s1 s2 : List Stmt} (h : DT B X c δ M fun t M1 => Br t (DSs B X s1 δ M1 Ψ) (DSs B X s2 δ M1 Ψ)) : DS B X (.If c s1 s2 pos) δ M Ψ := .of (ps_if cT cSs cSs) fun κ σ H E hb R k => h κ σ H _ hb R fun t M1 H1 q R1 =>
 Br.ite ⟨fun e => q.1 e κ σ H1 E hb R1 k, fun e => q.2 e κ σ H1 E hb R1 k⟩
theorem ds_expr (h : DE B X e δ M fun _ M' => Ψ.nx δ M') (hs : swapsWith e none pos.line X.env = pure false := by rfl) : DS B X (.Expr e pos) δ M Ψ := .of (ps_expr cE hs) fun κ σ H E hb R k => h κ σ H _ hb R fun v d M' H' q R' r => k.nx _ _ _ _ q R'
@[irreducible] def Sets (δ : Env') (i : Nat) (d : D) (P : Env' → Prop) : Prop := P (δ.set i (some d))
theorem Sets.get {i : Nat} {P : Env' → Prop} (h : Sets δ i d P) : P (δ.set i (some d)) := by unfold Sets at h; exact h
theorem Sets.of {i : Nat} {P : Env' → Prop} (h : P (δ.set i (some d))) : Sets δ i d P := by unfold Sets; exact h
theorem ds_set {i : Nat} {x : Str} {n : Nat} (z : Cz X n) (l : Lo X i x) (h : DE B X e δ M fun d M' => Sets δ i d fun δ' => Ψ.nx δ' M') (hs : swapsWith e (some (.Name x pos')) pos.line X.env = pure false := by rfl) : DS B X (.Assign [.Name x pos'] e pos) δ M Ψ :=
 .of (ps_set z.nd l.at_ l.loc cE hs l.fn) fun κ σ H E hb R k => h κ σ H _ hb R fun v d M' H' q R' r => k.nx _ _ _ _ q.get (R'.put i r)
theorem ds_own {i : Nat} {x : Str} {n : Nat} (k : Nat) (z : Cz X n) (l : Lo X i x) (h : DF B X e δ M fun ds M' => ∀ p : Addr, Sets δ i (.raw (.ref p)) fun δ' => Ψ.nx δ' (insM k (p, .lst ds) M')) (hs : swapsWith e (some (.Name x pos')) pos.line X.env = pure false := by rfl) : DS B X (.Assign [.Name x pos'] e pos) δ M Ψ :=
 .of (ps_set z.nd l.at_ l.loc cE hs l.fn) fun κ σ H E hb R k => h κ σ H _ hb R fun p ds M' H' q R' => k.nx _ _ _ _ (q p).get ((R'.perm insM_perm).put i (.raw _))
theorem dg_name {i : Nat} {x : Str} {n : Nat} (z : Cz X n) (l : Lo X i x) {Φ : Env' → Mem → Prop} (k : Sets δ i d fun δ' => Φ δ' M) : DG B X (.Name x pos) d δ M Φ :=
 .of (pg_name z.nd l.at_ l.loc l.fn) fun κ σ H v Q hb R r h => h _ _ _ _ k.get (R.put i r)
theorem dgs_nil {Φ : Env' → Mem → Prop} (k : Φ δ M) : DGs B X [] [] δ M Φ := .of pgs_nil fun κ σ H vs Q hb R r h => by
 cases r
 exact ⟨rfl, h _ _ _ _ k R⟩
theorem dgs_cons {ds : List D} {Φ : Env' → Mem → Prop} (h : DG B X a d δ M fun δ' M' => DGs B X es ds δ' M' Φ) (hs : (assignEach (a :: es) X.env).map (·.2) = assign a X.env :: (assignEach es X.env).map (·.2) := by rfl) : DGs B X (a :: es) (d :: ds) δ M Φ :=
 .of (pgs_cons cG cGs hs) fun κ σ H vs Q hb R r k => by
   cases r with
   | cons r1 r2 =>
     rename_i v vs
     refine ⟨v, vs, rfl, ?_⟩
     have held : ∀ {κ : List (V × D)} {vs : List V} {ds : List D} {δ : Env'} {M : Mem} {σ : St} {H : Hp}, Reps M.F H vs ds → Rs κ δ M σ H → ∃ κ', (∀ q ∈ κ, q ∈ κ') ∧ Rs κ' δ M σ H ∧ ∀ {δ' : Env'} {M' : Mem} {σ' : St} {H' : Hp}, Rs κ' δ' M' σ' H' → Reps M'.F H' vs ds := by
       intro κ vs
       induction vs with
       | nil => intro ds δ M σ H r R; cases r; exact ⟨κ, fun _ h => h, R, fun _ => .nil⟩
       | cons v vs ih =>
         intro ds δ M σ H r R
         cases r with
         | cons r1 r2 =>
           obtain ⟨κ', h1, R', h2⟩ := ih r2 R
           rename_i d ds
           exact ⟨(v, d) :: κ', fun q hq => List.mem_cons_of_mem _ (h1 q hq), R'.push r1, fun R => .cons R.top (h2 R.pop)⟩
     obtain ⟨κ', hk, R', hr⟩ := held r2 R
     exact h κ' σ H v _ (fun q hq => hk q (hb q hq)) R' r1 fun δ' M' σ' H' q R2 => q κ σ' H' vs Q hb (R2.sub hk) (hr R2) k
theorem dg_tup {ds : List D} {kk : Nat} {m : Nat} {n : Nat} {Φ : Env' → Mem → Prop} (z : Cz X n) (hl : ds.length = m) (h : DGs B X es ds δ M Φ) (hn : (assignEach es X.env).length = m := by rfl) (hst : (assignEach es X.env).findIdx? (·.1) = none := by rfl) : DG B X (.Tuple es kk pos) (.tup ds) δ M Φ :=
 .of (pg_tup z.calm cGs hn hst) fun κ σ H v Q hb R r k => by
   cases r with
   | tup h1 e1 r1 => exact ⟨_, _, rfl, SqT.of e1, by rw [r1.length]; exact hl, h κ σ H _ Q hb R r1 k⟩
theorem ds_asg {tg : Expr} (h : DE B X e δ M fun d M' => DG B X tg d δ M' Ψ.nx) (hs : swapsWithSole [tg] e pos.line X.env = pure false := by rfl) (hw : swappedStores [tg] e X.env = pure none := by rfl) (h1 : (assignEach [tg] X.env).map (·.2) = [assign tg X.env] := by rfl) : DS B X (.Assign [tg] e pos) δ M Ψ :=
 .of (ps_asg cE cG hs hw h1) fun κ σ H E hb R k => h κ σ H _ hb R fun v d M' H' q R' r => q κ σ H' v _ hb R' r fun δ' M2 σ' H2 q2 R2 => k.nx _ _ _ _ q2 R2
theorem ds_aug {i : Nat} {x : Str} {n : Nat} {op : Operator} {r : TIp} (z : Cz X n) (l : Lo X i x) (ho : PIp X op r) (hd : δ[i]? = some (some d)) (h : DE B X e δ M fun y M' => OpD r d y M' fun v M2 => Sets δ i v fun δ' => Ψ.nx δ' M2) : DS B X (.AugAssign (.Name x pos') op e pos) δ M Ψ :=
 .of (ps_aug z.nd l.at_ l.loc cE ho l.fn) fun κ σ H E hb R k => by
   obtain ⟨v, e1, r1⟩ := R.get hd
   refine ⟨v, e1, h ((v, d) :: κ) σ H _ (fun q hq => List.mem_cons_of_mem _ (hb q hq)) (R.push r1) fun w y M' H' q R' r' => ?_⟩
   exact q κ δ σ H' v w _ R'.pop R'.top r' fun u du M2 H2 q2 R2 r2 => k.nx _ _ _ _ q2.get (R2.put i r2)
def rAddI : TIp := fun x y H Q => (rI0 fun i j => .int (i + j)) x y H Q ∨ rAddS x y H Q
theorem ip_add : PIp X .Add rAddI := (iop_add (X := X)).or (iop_add_str (X := X))
theorem oi_addI {i j : Int} (k : Φ (.int (i + j)) M) : OpD rAddI (.int i) (.int j) M Φ := (od_I0 (gd := fun i j => .int (i + j)) (fun _ _ => .int _) k).inl
theorem ip_sub : PIp X .Sub rSubU := iop_sub
theorem ds_augAdd {i : Nat} {x : Str} {n : Nat} (z : Cz X n) (l : Lo X i x) (hd : δ[i]? = some (some d)) (h : DE B X e δ M fun y M' => OpD rAddI d y M' fun v M2 => Sets δ i v fun δ' => Ψ.nx δ' M2) : DS B X (.AugAssign (.Name x pos') .Add e pos) δ M Ψ := ds_aug z l ip_add hd h
theorem ds_augSub {i : Nat} {x : Str} {n : Nat} (z : Cz X n) (l : Lo X i x) (hd : δ[i]? = some (some d)) (h : DE B X e δ M fun y M' => OpD rSubU d y M' fun v M2 => Sets δ i v fun δ' => Ψ.nx δ' M2) : DS B X (.AugAssign (.Name x pos') .Sub e pos) δ M Ψ := ds_aug z l ip_sub hd h
structure WalkD (κ : List (V × D)) (xs : List D) (J : It) : Prop where
 goes : ∀ i δ M σ H, i < xs.length → Rs κ δ M σ H → J.go i H
 stops : ∀ δ M σ H, Rs κ δ M σ H → J.stop xs.length H
 yields : ∀ i δ M σ H x H', i < xs.length → Rs κ δ M σ H → J.yld i H x H' → ∃ d, xs[i]? = some d ∧ Rs κ δ M σ H' ∧ Rep M.F H' x d
def WI (B : Bx) (wi : TI) (δ : Env') (M : Mem) (Φ : List D → Mem → Prop) : Prop := ∀ κ σ H R, (∀ q ∈ B.ps, q ∈ κ) → Rs κ δ M σ H → (∀ xs M' H' J κ', Φ xs M' → (∀ q ∈ κ, q ∈ κ') → Rs κ' δ M' σ H' → WalkD κ' xs J → R J H') → wi σ H R
def DI (B : Bx) (X : Cx) (tg iter : Expr) (δ : Env') (M : Mem) (Φ : List D → Mem → Prop) : Prop := ∃ wi, PI X tg iter wi ∧ WI B wi δ M Φ
theorem lt_some {α : Type} {l : List α} {i : Nat} (h : i < l.length) : ∃ x, l[i]? = some x := ⟨l[i], by simp [h]⟩
theorem wd_list {κ : List (V × D)} {a : Addr} {ds : List D} {K : PySem.W.Frag} : WalkD ((.ref a, .lst ds) :: κ) ds (Itl K a) where
 goes := fun i δ M σ H hi R => by
   cases R.top with
   | lst hn e r =>
     obtain ⟨d, hd⟩ := lt_some hi
     obtain ⟨v, hv, _⟩ := r.get' hd
     exact ⟨_, v, SqL.of e, hv⟩
 stops := fun δ M σ H R => by
   cases R.top with
   | lst hn e r => exact ⟨_, SqL.of e, by rw [r.length]; exact Nat.le_refl _⟩
 yields := fun i δ M σ H x H' hi R y => by
   obtain ⟨rfl, y⟩ := y
   cases R.top with
   | lst hn e r =>
     obtain ⟨d, hd, rd⟩ := r.get (y _ (SqL.of e))
     exact ⟨d, hd, R, rd⟩
theorem wd_tup {κ : List (V × D)} {a : Addr} {ds : List D} {K : PySem.W.Frag} : WalkD ((.ref a, .tup ds) :: κ) ds (Itt K a) where
 goes := fun i δ M σ H hi R => by
   cases R.top with
   | tup hn e r =>
     obtain ⟨d, hd⟩ := lt_some hi
     obtain ⟨v, hv, _⟩ := r.get' hd
     exact ⟨_, v, SqT.of e, hv⟩
 stops := fun δ M σ H R => by
   cases R.top with
   | tup hn e r => exact ⟨_, SqT.of e, by rw [r.length]; exact Nat.le_refl _⟩
 yields := fun i δ M σ H x H' hi R y => by
   obtain ⟨rfl, y⟩ := y
   cases R.top with
   | tup hn e r =>
     obtain ⟨d, hd, rd⟩ := r.get (y _ (SqT.of e))
     exact ⟨d, hd, R, rd⟩
theorem wd_range {κ : List (V × D)} {lo : Int} {n : Nat} : WalkD κ ((List.range n).map fun i => .int (lo + (i : Nat))) (Itr lo n) where
 goes := fun i δ M σ H hi R => by show i < n; simpa using hi
 stops := fun δ M σ H R => by show n ≤ _; simp
 yields := fun i δ M σ H x H' hi R y => by
   obtain ⟨rfl, rfl⟩ := y
   have hi : i < n := by simpa using hi
   exact ⟨.int (lo + (i : Nat)), by simp [hi], R, .int _⟩
theorem wd_str {κ : List (V × D)} {z : Str} : WalkD κ (z.cps.toList.map fun c => .str ⟨#[c]⟩) (Its z) where
 goes := fun i δ M σ H hi R => by show i < z.cps.size; simpa using hi
 stops := fun δ M σ H R => by show z.cps.size ≤ _; simp
 yields := fun i δ M σ H x H' hi R y => by
   obtain ⟨rfl, c, hc, rfl⟩ := y
   exact ⟨.str ⟨#[c]⟩, by simp [hc], R, .str _⟩
def enumD (ds : List D) : List D := (List.range ds.length).map fun i => .tup [.int (i : Nat), ds.getD i .non]
theorem wd_enum {κ : List (V × D)} {a : Addr} {ds : List D} {K : PySem.W.Frag} : WalkD ((.ref a, .lst ds) :: κ) (enumD ds) (Ite K a) where
 goes := fun i δ M σ H hi R => by
   cases R.top with
   | lst hn e r =>
     have hi : i < ds.length := by simpa [enumD] using hi
     exact (walk_enum (K := K) (a := a)).goes i H (by rw [r.length]; exact hi) (SqL.of e)
 stops := fun δ M σ H R => by
   cases R.top with
   | lst hn e r =>
     have := (walk_enum (K := K) (a := a)).stops H (SqL.of e)
     rw [r.length] at this
     simpa [enumD] using this
 yields := fun i δ M σ H x H' hi R y => by
   cases R.top with
   | lst hn e r =>
     have hi : i < ds.length := by simpa [enumD] using hi
     obtain ⟨T, v1, v2, rfl, hT, rfl, e1, e2⟩ := (walk_enum (K := K) (a := a)).yields i H x H' (by rw [r.length]; exact hi) (SqL.of e) y
     cases e1
     obtain ⟨d, hd, rd⟩ := r.get e2
     refine ⟨.tup [.int (i : Nat), d], by simp [enumD, hi, (List.getElem?_eq_some_iff.mp hd).2], ?_⟩
     obtain ⟨R1, r1⟩ := R.tupV (p := T) (vs := [.int (i : Nat), v2]) (ds := [.int (i : Nat), d]) (.cons (.int _) (.cons rd .nil)) hT
     exact ⟨R1, r1⟩
variable {tg iter : Expr}
theorem di_list (h : DE B X iter δ M fun d M' => ∃ ds, d = .lst ds ∧ ΦL ds M') : DI B X tg iter δ M ΦL := ⟨_, pi_list cE, fun κ σ H R hb Rr k => h κ σ H _ hb Rr fun v d M1 H1 ⟨ds, ed, q⟩ R1 r1 => by
 subst ed
 cases r1 with
 | lst hn e1 r1 => exact ⟨_, rfl, ⟨_, SqL.of e1⟩, k ds M1 H1 _ _ q (fun q hq => List.mem_cons_of_mem _ hq) (R1.push (.lst hn e1 r1)) wd_list⟩⟩
theorem di_tup (h : DE B X iter δ M fun d M' => ∃ ds, d = .tup ds ∧ ΦL ds M') : DI B X tg iter δ M ΦL := ⟨_, pi_tup cE, fun κ σ H R hb Rr k => h κ σ H _ hb Rr fun v d M1 H1 ⟨ds, ed, q⟩ R1 r1 => by
 subst ed
 cases r1 with
 | tup hn e1 r1 => exact ⟨_, rfl, ⟨_, SqT.of e1⟩, k ds M1 H1 _ _ q (fun q hq => List.mem_cons_of_mem _ hq) (R1.push (.tup hn e1 r1)) wd_tup⟩⟩
theorem di_str (h : DE B X iter δ M fun d M' => ∃ z, d = .str z ∧ ΦL (z.cps.toList.map fun c => .str ⟨#[c]⟩) M') : DI B X tg iter δ M ΦL := ⟨_, pi_str cE, fun κ σ H R hb Rr k => h κ σ H _ hb Rr fun v d M1 H1 ⟨z, ed, q⟩ R1 r1 => by
 subst ed
 cases r1
 exact ⟨z, rfl, k _ M1 H1 _ κ q (fun _ h => h) R1 wd_str⟩⟩
def rangeD (lo : Int) (n : Nat) : List D := (List.range n).map fun i => .int (lo + (i : Nat))
theorem di_range1 {p : Pos} (g : Gn X "range") (h : DE B X a δ M fun d M' => ∃ j, d = .int j ∧ -(2 ^ 62) ≤ j ∧ j < 2 ^ 62 ∧ ΦL (rangeD 0 j.toNat) M') (hs : starEach [a] X.env = [(false, eval a X.env)] := by rfl) : DI B X tg (.Call (.Name "range" p) [a] [] pos) δ M ΦL :=
 ⟨_, pi_range1 g.gl g.no (pa_cons cE pa_nil hs) hs, fun κ σ H R hb Rr k => h κ σ H _ hb Rr fun v d M1 H1 ⟨j, ed, h1, h2, q⟩ R1 r1 => by
   subst ed
   cases r1
   exact ⟨j, rfl, h1, h2, k _ M1 H1 _ κ q (fun _ h => h) R1 wd_range⟩⟩
theorem di_enum {p tpos : Pos} {elts : List Expr} {kk : Nat} (g : Gn X "enumerate") (h : DE B X a δ M fun d M' => ∃ ds, d = .lst ds ∧ ΦL (enumD ds) M') (hs : starEach [a] X.env = [(false, eval a X.env)] := by rfl) : DI B X (.Tuple elts kk tpos) (.Call (.Name "enumerate" p) [a] [] pos) δ M ΦL :=
 ⟨_, pi_enum g.gl g.no (pa_cons cE pa_nil hs) hs, fun κ σ H R hb Rr k => h κ σ H _ hb Rr fun v d M1 H1 ⟨ds, ed, q⟩ R1 r1 => by
   subst ed
   cases r1 with
   | lst hn e1 r1 => exact ⟨_, _, rfl, SqL.of e1, k _ M1 H1 _ _ q (fun q hq => List.mem_cons_of_mem _ hq) (R1.push (.lst hn e1 r1)) wd_enum⟩⟩
theorem ds_for {body : List Stmt} {n : Nat} (z : Cz X n) (hp : PassesOwn (model X.prog X.w) X.A X.env X.xe)
   (h : DI B X tg iter δ M fun xs M' => ∃ Iv : Nat → Env' → Mem → Prop, Iv 0 δ M' ∧ (∀ i x δ M, xs[i]? = some x → Iv i δ M → DG B X tg x δ M fun δ' M' => DSs B X body δ' M' { Ψ with nx := Iv (i + 1), ct := Iv (i + 1), bk := Ψ.nx }) ∧ ∀ δ M, Iv xs.length δ M → Ψ.nx δ M)
   (hs : ∀ x, foldedSetIterable iter X.env x = pure x := by intro _; rfl) : DS B X (.For tg iter body [] pos) δ M Ψ := by
 obtain ⟨wi, pi, w⟩ := h
 refine .of (ps_for hp z.calm pi cG cSs hs) fun κ σ H E hb R k => ?_
 refine w κ σ H _ hb R fun xs M1 H1 J κ' ⟨Iv, h0, hst, hd⟩ hk R1 W => ?_
 refine ⟨fun i m σ H => m = xs.length - i ∧ i ≤ xs.length ∧ ∃ δ M, Iv i δ M ∧ Rs κ' δ M σ H, ⟨xs.length, by simp, Nat.zero_le _, δ, M1, h0, R1⟩, ?_⟩
 rintro i m σ H ⟨rfl, hi, δ, M, q, R⟩
 by_cases hlt : i < xs.length
 · refine .inr ⟨W.goes i δ M σ H hlt R, fun σ' H' => ∃ δ' M', Iv (i + 1) δ' M' ∧ Rs κ' δ' M' σ' H', fun σ' H' p' => ⟨xs.length - (i + 1), by omega, rfl, hlt, p'⟩, fun x H' y => ?_⟩
   obtain ⟨d, hd1, R2, r2⟩ := W.yields i δ M σ H x H' hlt R y
   refine hst i d δ M hd1 q κ' σ H' x _ (fun q hq => hk q (hb q hq)) R2 r2 fun δ2 M2 σ2 H2 q2 R3 => ?_
   exact q2 κ' σ2 H2 _ (fun q hq => hk q (hb q hq)) R3 ⟨fun δ3 M3 σ3 H3 q3 R4 => ⟨δ3, M3, q3, R4⟩, fun v d M δ σ H q R r => k.rt v d M δ σ H q (R.sub hk) r, fun δ M σ H q R => k.nx δ M σ H q (R.sub hk), fun δ3 M3 σ3 H3 q3 R4 => ⟨δ3, M3, q3, R4⟩⟩
 · have e : i = xs.length := by omega
   subst e
   exact .inl ⟨W.stops δ M σ H R, k.nx δ M σ H (hd δ M q) (R.sub hk)⟩
theorem ds_while {body : List Stmt} (hp : PassesOwn (model X.prog X.w) X.A X.env X.xe) (Iv : Nat → Env' → Mem → Prop) (h0 : ∃ m, Iv m δ M)
   (h : ∀ m δ M, Iv m δ M → DT B X c δ M fun t M1 => Br t (DSs B X body δ M1 { Ψ with nx := fun δ' M' => ∃ m', m' < m ∧ Iv m' δ' M', ct := fun δ' M' => ∃ m', m' < m ∧ Iv m' δ' M', bk := Ψ.nx }) (Ψ.nx δ M1)) : DS B X (.While c body [] pos) δ M Ψ := by
 refine .of (ps_while hp cT cSs) fun κ σ H E hb R k => ?_
 obtain ⟨m0, h0⟩ := h0
 refine ⟨fun m σ H => ∃ δ M, Iv m δ M ∧ Rs κ δ M σ H, ⟨m0, δ, M, h0, R⟩, ?_⟩
 rintro m σ H ⟨δ, M, q, R⟩
 refine h m δ M q κ σ H _ hb R fun t M1 H1 q1 R1 => Br.ite ⟨fun e => ?_, fun e => k.nx _ _ _ _ (q1.2 e) R1⟩
 refine ⟨fun σ' H' => ∃ m', m' < m ∧ ∃ δ' M', Iv m' δ' M' ∧ Rs κ δ' M' σ' H', fun σ' H' p => p, ?_⟩
 exact q1.1 e κ σ H1 _ hb R1 ⟨fun δ2 M2 σ2 H2 ⟨m', hm, q2⟩ R2 => ⟨m', hm, δ2, M2, q2, R2⟩, k.rt, k.nx, fun δ2 M2 σ2 H2 ⟨m', hm, q2⟩ R2 => ⟨m', hm, δ2, M2, q2, R2⟩⟩
end
end Hl
namespace Hl
open PySem L2
abbrev DSp := List D → Mem → (D → Mem → Prop) → Prop
def lift (p : DSp) : Sp := fun vs H Q _ => ∃ κ ds M Φ, Rs κ [] M [] H ∧ Reps M.F H vs ds ∧ p ds M Φ ∧ ∀ v d M' H', Φ d M' → Rs κ [] M' [] H' → Rep M'.F H' v d → Q v H'
def sk : St → Env' → List (V × D)
 | some v :: σ, some d :: δ => (v, d) :: sk σ δ
 | _ :: σ, _ :: δ => sk σ δ
 | _, _ => []
section
variable {κ : List (V × D)} {δ : Env'} {M M' : Mem} {σ : St} {H H' : Hp}
theorem sk_rep {F : List Addr} {H : Hp} : ∀ {σ : St} {δ : Env'}, Paired (SlotOk F H) σ δ → ∀ q ∈ sk σ δ, Rep F H q.1 q.2
 | _, _, .nil => by intro q hq; simp [sk] at hq
 | some v :: σ, some d :: δ, .cons h t => by
   intro q hq
   rcases List.mem_cons.mp (show q ∈ (v, d) :: sk σ δ from hq) with rfl | hq
   · obtain ⟨v', e, r⟩ := h d rfl
     cases e; exact r
   · exact sk_rep t q hq
 | none :: σ, o :: δ, .cons h t => by
   intro q hq
   have : q ∈ sk σ δ := by cases o <;> exact hq
   exact sk_rep t q this
 | some v :: σ, none :: δ, .cons h t => by
   intro q hq
   exact sk_rep t q hq
theorem sk_back {F : List Addr} {H F' H'} : ∀ {σ : St} {δ : Env'}, Paired (SlotOk F H) σ δ → (∀ q ∈ sk σ δ, Rep F' H' q.1 q.2) → Paired (SlotOk F' H') σ δ
 | _, _, .nil, _ => .nil
 | some v :: σ, some d :: δ, .cons h t, k => .cons (fun d' e => by cases e; exact ⟨v, rfl, k (v, d) List.mem_cons_self⟩) (sk_back t fun q hq => k q (List.mem_cons_of_mem _ hq))
 | none :: σ, some d :: δ, .cons h t, k => by
   obtain ⟨v, e, _⟩ := h d rfl
   cases e
 | o :: σ, none :: δ, .cons h t, k => .cons (fun d' e => by cases e) (sk_back t fun q hq => k q (by cases o <;> exact hq))
theorem Rs.pack (R : Rs κ δ M σ H) : Rs (κ ++ sk σ δ) [] M [] H := ⟨fun q hq => by
 rcases List.mem_append.mp hq with h | h
 · exact R.kp q h
 · exact sk_rep R.sl q h, .nil, R.cl, R.nd⟩
theorem Rs.unpack (R : Rs κ δ M σ H) (R' : Rs (κ ++ sk σ δ) [] M' [] H') : Rs κ δ M' σ H' := ⟨fun q hq => R'.kp q (List.mem_append.mpr (.inl hq)), sk_back R.sl fun q hq => R'.kp q (List.mem_append.mpr (.inr hq)), R'.cl, R'.nd⟩
end
structure Def (P : Program) (w : World) (K : PySem.W.Frag) (mg : Str → Option Value) (base : Heap) (k : Nat) (x : Str) (ps : List Str) (p : DSp) : Prop where
 ex : ∃ f fd, mg x = some (.ref f) ∧ PySem.W.keepIn K (.ref f) = true ∧ Binds K fd ps [] ∧ FnOk P w K mg base CX0 k f fd ps (lift p)
abbrev DefX (X : Cx) := Def X.prog X.w X.K X.mg X.base
section
variable {B : Bx} {X : Cx} {e a b c : Expr} {es rest : List Expr} {st : Stmt} {sts : List Stmt} {δ δ' : Env'} {M : Mem} {Φ : D → Mem → Prop} {Ψ : DEnds} {te ta tb : TE} {tt : TT} {pos pos' : Pos} {d x y : D} {ΦB : Bool → Mem → Prop} {ΦL : List D → Mem → Prop}
theorem de_call {k n : Nat} {x : Str} {ps : List Str} {p : DSp} {pp : Pos} (z : Cz X n) (f : DefX X k x ps p) (hk : k ≤ n) (hg : Gl X x) (h : DA B X (e :: es) δ M fun ds M' => p ds M' Φ)
   (hdb : (x == ("__debug__" : Str)) = false := by decide) (he : starEach (e :: es) X.env = (false, eval e X.env) :: starEach es X.env := by rfl) (hpl : (backTo pos (starEach es X.env)).any (·.1) = false := by rfl) : DE B X (.Call (.Name x pp) (e :: es) [] pos) δ M Φ := by
 obtain ⟨fa, fd, h1, h2, h3, h4⟩ := f.ex
 refine .of (pe_call h4 (z.room.mono hk) hg h1 h2 h3 .nil pass0 cA hdb he hpl) fun κ σ H Q hb R k => h κ σ H _ hb R fun vs ds M1 H1 q R1 r1 => ?_
 rw [List.append_nil]
 exact ⟨κ ++ sk σ δ, ds, M1, Φ, R1.pack, r1, q, fun v d M2 H2 q2 R2 r2 => k v d M2 H2 q2 (R1.unpack R2) r2⟩
structure InDef (P : Program) (w : World) (K : PySem.W.Frag) (mg : Str → Option Value) (base : Heap) (N : List Str) (sc : Scope) (k : Nat) (X : Cx) : Prop where
 prog : X.prog = P
 wd : X.w = w
 K : X.K = K
 mg : X.mg = mg
 base : X.base = base
 N : X.N = N
 sc : X.env.scope = sc
 fn : X.fn = fun _ => true
 z : Cz X k
 xe : ∀ v s, ¬ X.xe v s
theorem passes_of {X : Cx} (h : ∀ v s, ¬ X.xe v s) : PassesOwn (model X.prog X.w) X.A X.env X.xe := by
 have : X.xe = fun _ _ => False := by
   funext v s
   exact propext ⟨fun z => (h v s z).elim, fun z => z.elim⟩
 rw [this]
 exact PassesOwn.never
def startD (n : Nat) (ds : List D) : Env' := ds.map some ++ List.replicate (n - ds.length) none
theorem start_rs {κ : List (V × D)} {M : Mem} {H : Hp} {N : List Str} {vs : List V} {ds : List D} (R : Rs κ [] M [] H) (r : Reps M.F H vs ds) : Rs κ (startD N.length ds) M (L2.start N vs) H := by
 refine ⟨R.kp, ?_, R.cl, R.nd⟩
 unfold L2.start startD
 rw [r.length]
 have h1 : ∀ {vs : List V} {ds : List D}, Reps M.F H vs ds → ∀ n, Paired (SlotOk M.F H) (vs.map some ++ List.replicate n none) (ds.map some ++ List.replicate n none) := by
   intro vs
   induction vs with
   | nil =>
     intro ds r n
     cases r
     show Paired _ (List.replicate n none) (List.replicate n none)
     induction n with
     | zero => exact .nil
     | succ n ih => exact .cons (fun d e => by cases e) ih
   | cons v vs ih =>
     intro ds r n
     cases r with
     | cons r1 r2 => exact .cons (fun d e => by cases e; exact ⟨v, rfl, r1⟩) (ih r2 n)
 exact h1 r _
theorem erase_sub {M : Mem} {j : Nat} : (M.eraseIdx j).Sublist M := List.eraseIdx_sublist M j
theorem F_erase : ∀ {M : Mem} {j : Nat} {p : Addr} {c : Cell}, M.F.Nodup → M[j]? = some (p, c) → p ∉ Mem.F (M.eraseIdx j)
 | [], _, _, _, _, e => by simp at e
 | q :: M, 0, p, c, n, e => by
   have : q = (p, c) := by simpa using e
   subst this
   have n : (own p c ++ Mem.F M).Nodup := n
   intro z
   exact (List.nodup_append.mp n).2.2 p (by cases c <;> simp [own]) p z rfl
 | q :: M, j + 1, p, c, n, e => by
   have n : (own q.1 q.2 ++ Mem.F M).Nodup := n
   show p ∉ own q.1 q.2 ++ Mem.F (M.eraseIdx j)
   intro z
   rcases List.mem_append.mp z with z | z
   · exact (List.nodup_append.mp n).2.2 p z p (List.mem_flatMap.mpr ⟨(p, c), List.mem_of_getElem? (by simpa using e), by cases c <;> simp [own]⟩) rfl
   · exact F_erase (List.nodup_append.mp n).2.1 (by simpa using e) z
theorem Rs.frz {κ : List (V × D)} {σ : St} {H : Hp} {j : Nat} {p : Addr} {ds : List D} (R : Rs κ δ M σ H) (e : M[j]? = some (p, .lst ds)) : Rs κ δ (M.eraseIdx j) σ H ∧ Rep (Mem.F (M.eraseIdx j)) H (.ref p) (.lst ds) := by
 obtain ⟨vs, h1, h2⟩ := R.at e
 exact ⟨R.less erase_sub, .lst (F_erase R.nd e) h1 (h2.fwd (Fwd.less fun x hx => (F_sub erase_sub).subset hx))⟩
theorem Rs.frzO {κ : List (V × D)} {σ : St} {H : Hp} {j : Nat} {p C : Addr} {ns : List Str} {ds : List D} (R : Rs κ δ M σ H) (e : M[j]? = some (p, .obj C ns ds)) : Rs κ δ (M.eraseIdx j) σ H ∧ Rep (Mem.F (M.eraseIdx j)) H (.ref p) (.obj C ns ds) := by
 obtain ⟨dx, vs, h1, hl, h2⟩ := R.at e
 exact ⟨R.less erase_sub, .obj (F_erase R.nd e) h1 hl (h2.fwd (Fwd.less fun x hx => (F_sub erase_sub).subset hx))⟩
def Vw (d : D) (M : Mem) (d2 : D) (M2 : Mem) : Prop := ∀ κ δ σ H v, Rs κ δ M σ H → Rep M.F H v d → Rs κ δ M2 σ H ∧ Rep M2.F H v d2
theorem Vw.refl {d : D} {M : Mem} : Vw d M d M := fun _ _ _ _ _ R r => ⟨R, r⟩
theorem Vw.trans {d d1 d2 : D} {M M1 M2 : Mem} (h1 : Vw d M d1 M1) (h2 : Vw d1 M1 d2 M2) : Vw d M d2 M2 := fun κ δ σ H v R r => let ⟨R1, r1⟩ := h1 κ δ σ H v R r; h2 κ δ σ H v R1 r1
theorem Vw.sub {d : D} {M M2 : Mem} (h : M2.Sublist M) : Vw d M d M2 := fun _ _ _ _ _ R r => ⟨R.less h, r.fwd (Fwd.less fun x hx => (F_sub h).subset hx)⟩
theorem Vw.perm {d : D} {M M2 : Mem} (h : M.Perm M2) : Vw d M d M2 := fun _ _ _ _ _ R r => ⟨R.perm h, r.fwd (Fwd.less fun x hx => (F_perm h).mem_iff.mpr hx)⟩
theorem Vw.frz {p : Addr} {M : Mem} {ds : List D} (j : Nat) (e : M[j]? = some (p, .lst ds)) : Vw (.raw (.ref p)) M (.lst ds) (M.eraseIdx j) := fun _ _ _ _ _ R r => by
 cases r
 exact R.frz e
theorem Vw.frzO {p C : Addr} {ns : List Str} {M : Mem} {ds : List D} (j : Nat) (e : M[j]? = some (p, .obj C ns ds)) : Vw (.raw (.ref p)) M (.obj C ns ds) (M.eraseIdx j) := fun _ _ _ _ _ R r => by
 cases r
 exact R.frzO e
theorem fnok_of {P : Program} {w : World} {K : PySem.W.Frag} {mg : Str → Option Value} {base : Heap} {x qual : Str} {st : Stmt} {f : Addr} {fd : FuncData} {N ps : List Str} {k : Nat} {p : DSp} (F : Fun K x qual st f fd) (S : FnScope N ps (defScope st))
   (len : ∀ ds M Φ, p ds M Φ → ds.length = ps.length)
   (h : ∀ X B, InDef P w K mg base N (defScope st) k X → ∀ ds M Φ, p ds M Φ → DSs B X (defBody st) (startD N.length ds) M { nx := fun _ M' => ∃ d2 M2, Vw .non M' d2 M2 ∧ Φ d2 M2, rt := fun d M' => ∃ d2 M2, Vw d M' d2 M2 ∧ Φ d2 M2 }) : FnOk P w K mg base CX0 (k + 1) f fd ps (lift p) := by
 refine F.ok S (fun vs H Q E hl => ?_) fun cdv A outer s H vs Q E hr hl => ?_
 · obtain ⟨κ, ds, M, Φ, R, r, q, _⟩ := hl
   rw [r.length]; exact len ds M Φ q
 · obtain ⟨κ, ds, M, Φ, R, r, q, kk⟩ := hl
   refine ⟨_, cSs, ?_⟩
   refine h _ (B0 κ) ⟨rfl, rfl, rfl, rfl, rfl, rfl, rfl, rfl, ⟨S.nd, rfl, hr⟩, fun _ _ z => z⟩ ds M Φ q κ _ H _ (fun _ h => h) (start_rs R r) ⟨fun δ M' σ H' ⟨d2, M2, h1, h2⟩ R' => ?_, fun v d M' δ σ H' ⟨d2, M2, h1, h2⟩ R' r' => ?_, fun _ _ _ _ z => z.elim, fun _ _ _ _ z => z.elim⟩
   · obtain ⟨R2, r2⟩ := h1 _ _ _ _ _ R' .non
     exact kk .non d2 M2 H' h2 ⟨R2.kp, .nil, R2.cl, R2.nd⟩ r2
   · obtain ⟨R2, r2⟩ := h1 _ _ _ _ _ R' r'
     exact kk v d2 M2 H' h2 ⟨R2.kp, .nil, R2.cl, R2.nd⟩ r2
def visB (sc : Scope) (x : Str) : Bool := match sc.names.lookup x with
 | some .local => true
 | some .cell => true
 | some .free => true
 | _ => false
def locB (sc : Scope) (x : Str) : Bool := match sc.names.lookup x with
 | some .local => true
 | some .cell => true
 | _ => false
def nmB (N : List Str) (sc : Scope) (i : Nat) (x : Str) : Bool := decide (N[i]? = some x) && visB sc x && !(x == ("__debug__" : Str)) && !(x == ("__classdict__" : Str))
theorem vis_of {sc : Scope} {x : Str} (h : visB sc x = true) : Vis sc x := by
 unfold visB at h
 unfold Vis
 split at h
 · next e => exact .inl e
 · next e => exact .inr (.inl e)
 · next e => exact .inr (.inr e)
 · cases h
theorem loc_of {sc : Scope} {x : Str} (h : locB sc x = true) : L2.Loc sc x := by
 unfold locB at h
 unfold L2.Loc
 split at h
 · next e => exact .inl e
 · next e => exact .inr e
 · cases h
theorem nm_of {N : List Str} {sc : Scope} {i : Nat} {x : Str} (hN : X.N = N) (hs : X.env.scope = sc) (h : nmB N sc i x = true) : Nm X i x := by
 unfold nmB at h
 simp only [Bool.and_eq_true, decide_eq_true_eq, Bool.not_eq_true'] at h
 exact ⟨by rw [hN]; exact h.1.1.1, by rw [hs]; exact vis_of h.1.1.2, h.1.2, h.2⟩
theorem lo_of {N : List Str} {sc : Scope} {i : Nat} {x : Str} (hN : X.N = N) (hs : X.env.scope = sc) (hf : X.fn = fun _ => true) (h : (nmB N sc i x && locB sc x) = true) : Lo X i x := by
 rw [Bool.and_eq_true] at h
 exact ⟨nm_of hN hs h.1, by rw [hs]; exact loc_of h.2, .inl (by rw [hf])⟩
theorem gl_of {sc : Scope} {x : Str} (hs : X.env.scope = sc) (h : sc.names.lookup x = some .globalImplicit) : Gl X x := by
 unfold Gl Env.kindOf
 rw [hs]; exact h
theorem gn_of {sc : Scope} {x : Str} (hs : X.env.scope = sc) (h : sc.names.lookup x = some .globalImplicit) (hm : X.mg x = none) : Gn X x := ⟨gl_of hs h, hm⟩
end
end Hl
namespace Hl
open PySem L2
section
variable {B : Bx} {X : Cx} {e a b c o : Expr} {es rest : List Expr} {st : Stmt} {sts : List Stmt} {δ δ' : Env'} {M : Mem} {Φ : D → Mem → Prop} {Ψ : DEnds} {te ta tb : TE} {tt : TT} {pos pos' apos : Pos} {d x y : D} {ΦB : Bool → Mem → Prop} {ΦL : List D → Mem → Prop}
def putD (kvs : List (Key × D)) (k : Key) (d : D) : List (Key × D) :=
 if (kvs.any fun kv => decide (kv.1 = k)) = true then kvs.map (fun kv => if kv.1 = k then (kv.1, d) else kv) else kvs ++ [(k, d)]
theorem put_keys {k : Key} {v : V} {d : D} {ws : List (Key × V)} {kvs : List (Key × D)} (h : ws.map (·.1) = kvs.map (·.1)) : (putK ws k v).map (·.1) = (putD kvs k d).map (·.1) := by
 have h1 : (ws.any fun kv => decide (kv.1 = k)) = (kvs.any fun kv => decide (kv.1 = k)) := by
   have e1 : (ws.any fun kv => decide (kv.1 = k)) = (ws.map (·.1)).any fun q => decide (q = k) := by rw [List.any_map]; rfl
   have e2 : (kvs.any fun kv => decide (kv.1 = k)) = (kvs.map (·.1)).any fun q => decide (q = k) := by rw [List.any_map]; rfl
   rw [e1, e2, h]
 unfold putK putD
 rw [h1]
 split
 · have a1 : ∀ (ws : List (Key × V)), (ws.map (fun kv => if kv.1 = k then (kv.1, v) else kv)).map (·.1) = ws.map (·.1) := fun ws => by
     rw [List.map_map]; apply List.map_congr_left; intro q _; show (if q.1 = k then (q.1, v) else q).1 = q.1; split <;> rfl
   have a2 : ∀ (ws : List (Key × D)), (ws.map (fun kv => if kv.1 = k then (kv.1, d) else kv)).map (·.1) = ws.map (·.1) := fun ws => by
     rw [List.map_map]; apply List.map_congr_left; intro q _; show (if q.1 = k then (q.1, d) else q).1 = q.1; split <;> rfl
   rw [a1, a2, h]
 · rw [List.map_append, List.map_append, h]; rfl
theorem put_vals {F : List Addr} {H : Hp} {k : Key} {v : V} {d : D} (r : Rep F H v d) {ws : List (Key × V)} {kvs : List (Key × D)} (h : ws.map (·.1) = kvs.map (·.1)) (rs : Reps F H (ws.map (·.2)) (kvs.map (·.2))) : Reps F H ((putK ws k v).map (·.2)) ((putD kvs k d).map (·.2)) := by
 have h1 : (ws.any fun kv => decide (kv.1 = k)) = (kvs.any fun kv => decide (kv.1 = k)) := by
   have e1 : (ws.any fun kv => decide (kv.1 = k)) = (ws.map (·.1)).any fun q => decide (q = k) := by rw [List.any_map]; rfl
   have e2 : (kvs.any fun kv => decide (kv.1 = k)) = (kvs.map (·.1)).any fun q => decide (q = k) := by rw [List.any_map]; rfl
   rw [e1, e2, h]
 unfold putK putD
 rw [h1]
 split
 · clear h1
   have : ∀ {ws : List (Key × V)} {kvs : List (Key × D)}, ws.map (·.1) = kvs.map (·.1) → Reps F H (ws.map (·.2)) (kvs.map (·.2)) → Reps F H ((ws.map (fun kv => if kv.1 = k then (kv.1, v) else kv)).map (·.2)) ((kvs.map (fun kv => if kv.1 = k then (kv.1, d) else kv)).map (·.2)) := by
     intro ws
     induction ws with
     | nil => intro kvs h r; cases kvs with
       | nil => exact .nil
       | cons _ _ => cases h
     | cons q ws ih =>
       intro kvs h r1
       cases kvs with
       | nil => cases h
       | cons q' kvs =>
         have e1 : q.1 = q'.1 := (List.cons.inj h).1
         have e2 : ws.map (·.1) = kvs.map (·.1) := (List.cons.inj h).2
         cases r1 with
         | cons r1 r2 =>
           refine .cons ?_ (ih e2 r2)
           show Rep F H (if q.1 = k then (q.1, v) else q).2 (if q'.1 = k then (q'.1, d) else q').2
           rw [e1]
           split
           · exact r
           · exact r1
   exact this h rs
 · rw [List.map_append, List.map_append]
   exact rs.append (.cons r .nil)
def tsetU : TSet := fun o i v H Q => rSetL o i v H Q ∨ rSetD o i v H Q
theorem set_U {n : Nat} (z : Cz X n) : PSet X tsetU := by
 intro pins s σ H o i v ov iv u Q I ro ri rv h
 rcases h with h | h
 · exact set_list pins s σ H o i v ov iv u Q I ro ri rv h
 · exact set_dict (un1 z) pins s σ H o i v ov iv u Q I ro ri rv h
def SetD (o i v : D) (M : Mem) (Φ : Mem → Prop) : Prop := ∀ κ (δ : Env') σ H vo vi vv Q, Rs κ δ M σ H → Rep M.F H vo o → Rep M.F H vi i → Rep M.F H vv v → (∀ M' H', Φ M' → Rs κ δ M' σ H' → Q H') → tsetU vo vi vv H Q
theorem dg_sub {n : Nat} (z : Cz X n) {Φ : Env' → Mem → Prop} (h : DE B X o δ M fun x M1 => DE B X b δ M1 fun y M2 => SetD x y d M2 fun M3 => Φ δ M3)
   (ha : ∀ v, assign (.Subscript o b pos) X.env v = (do
     let ov ← holding [v] (eval o X.env)
     let iv ← holding [v, ov] (eval b X.env)
     standAt pos
     holding [v, ov, iv] (setItem ov iv v)
     release [v, ov, iv] []) := by intro _; rfl) : DG B X (.Subscript o b pos) d δ M Φ := .of (pg_sub cE cE (set_U z) ha) fun κ σ H v Q hb R r k =>
 h ((v, d) :: κ) σ H _ (fun q hq => List.mem_cons_of_mem _ (hb q hq)) (R.push r) fun vo x M1 H1 q1 R1 r1 => q1 ((vo, x) :: (v, d) :: κ) σ H1 _ (fun q hq => List.mem_cons_of_mem _ (List.mem_cons_of_mem _ (hb q hq))) (R1.push r1) fun vi y M2 H2 q2 R2 r2 =>
   q2 κ δ σ H2 vo vi v _ R2.pop.pop R2.top r2 R2.pop.top fun M3 H3 q3 R3 => k _ _ _ _ q3 R3
theorem sd_list {j : Nat} {p : Addr} {ds : List D} {i : Int} {m : Nat} {Φ : Mem → Prop} (hm : M[j]? = some (p, .lst ds)) (hi : ixN ds.length i = some m) (k : Φ (M.set j (p, .lst (ds.set m d)))) : SetD (.raw (.ref p)) (.int i) d M Φ := fun κ δ σ H vo vi vv Q R r1 r2 r3 h => by
 cases r1; cases r2
 obtain ⟨vs, e1, rs⟩ := R.at hm
 refine .inl ⟨p, vs, i, m, rfl, rfl, e1, by rw [rs.length]; exact hi, h _ _ k ?_⟩
 have hp : ∀ x, x ∉ M.F → upd H p (.lst (vs.set m vv)) x = H x := fun x hx => upd_ne fun z => hx (z ▸ R.mem hm p (by simp [own]))
 exact R.cell hm rfl (fun x hx => upd_ne (by simpa [own] using hx)) ⟨_, upd_same, (rs.set r3 m).fwd (Fwd.same hp)⟩
theorem sd_dict {p : Addr} {kvs : List (Key × D)} {k : Key} {Φ : Mem → Prop} (j : Nat) (hm : M[j]? = some (p, .dct kvs)) (hk : y = kD k) (hl : kvs.length < sizeLine) (q : Φ (M.set j (p, .dct (putD kvs k d)))) : SetD (.raw (.ref p)) y d M Φ := fun κ δ σ H vo vi vv Q R r1 r2 r3 h => by
 subst hk
 have := rep_k r2
 subst this
 cases r1
 obtain ⟨ws, e1, e2, rs⟩ := R.at hm
 have el : ws.length = kvs.length := by simpa using congrArg List.length e2
 refine .inr ⟨p, _, rfl, .inl ⟨ws, k, e1, rfl, by rw [el]; exact hl, rfl⟩, h _ _ q ?_⟩
 have hp : ∀ x, x ∉ M.F → upd H p (.dK (putK ws k vv)) x = H x := fun x hx => upd_ne fun z => hx (z ▸ R.mem hm p (by simp [own]))
 exact R.cell hm rfl (fun x hx => upd_ne (by simpa [own] using hx)) ⟨_, upd_same, put_keys e2, (put_vals r3 e2 rs).fwd (Fwd.same hp)⟩
def MtD (K : PySem.W.Frag) (T : String) (r : V → List V → Hp → VK → Prop) (x : D) (ds : List D) (M : Mem) (Φ : D → Mem → Prop) : Prop := ∀ κ (δ : Env') σ H v vs Q, Rs κ δ M σ H → Rep M.F H v x → Reps M.F H vs ds → (∀ u d M' H', Φ d M' → Rs κ δ M' σ H' → Rep M'.F H' u d → Q u H') → r v vs H Q
inductive IsL (M : Mem) : D → List D → Prop
 | val (ds : List D) : IsL M (.lst ds) ds
 | cell {p : Addr} {ds : List D} (j : Nat) (h : M[j]? = some (p, .lst ds)) : IsL M (.raw (.ref p)) ds
 | inm {p : Addr} {ds : List D} (h : InM M p (.lst ds)) : IsL M (.raw (.ref p)) ds
theorem IsL.sq {κ : List (V × D)} {σ : St} {H : Hp} {v : V} {x : D} {ds : List D} (h : IsL M x ds) (R : Rs κ δ M σ H) (r : Rep M.F H v x) : ∃ p vs, v = .ref p ∧ H p = some (.lst vs) ∧ Reps M.F H vs ds := by
 cases h with
 | val ds => cases r with | lst h1 e1 r1 => exact ⟨_, _, rfl, e1, r1⟩
 | cell j h =>
   cases r
   obtain ⟨vs, e1, r1⟩ := R.at h
   exact ⟨_, vs, rfl, e1, r1⟩
 | inm h =>
   cases r
   obtain ⟨vs, e1, r1⟩ := h.ok R
   exact ⟨_, vs, rfl, e1, r1⟩
theorem de_bml {name : Str} {id : String} {r : V → List V → Hp → VK → Prop} {cpos : Pos} (slot : Slot "list" name id) (hty : typeOf (.builtin id) = pure (.type "method_descriptor")) (hm : MtR X id r)
   (h : DE B X o δ M fun x M1 => (∃ ds, IsL M1 x ds) ∧ DA B X (e :: es) δ M1 fun ys M2 => MtD X.K "list" r x ys M2 Φ)
   (hbase : attributeBase o name X.env (eval o X.env) = eval o X.env := by rfl)
   (hfew : ((backTo cpos (starEach (e :: es) X.env)).all (fun x => !x.1) && (backToKw cpos (keywordEach [] X.env)).all (fun x => x.1.isSome)
     && decide ((e :: es).length + ([] : List Keyword).length + (if ([] : List Keyword).isEmpty then 0 else 1) < 30)) = true := by rfl)
   (hline : (apos.endLine == cpos.line) = true := by rfl) (hs : starEach (e :: es) X.env = (false, eval e X.env) :: starEach es X.env := by rfl) (hplain : (backTo cpos (starEach es X.env)).any (·.1) = false := by rfl) :
   DE B X (.Call (.Attribute o name apos) (e :: es) [] cpos) δ M Φ := .of (pe_bm PySem.F.plainAttrs_list slot hty hm cE cA hbase hfew hline hs hplain) fun κ σ H Q hb R k =>
 h κ σ H _ hb R fun v x M1 H1 ⟨⟨ds, il⟩, q⟩ R1 r1 => by
   obtain ⟨p, vs, ev, e1, rr⟩ := il.sq R1 r1
   refine ⟨by subst ev; exact .inl ⟨rfl, vs, SqL.of e1⟩, ?_⟩
   exact q ((v, x) :: κ) σ H1 _ (fun q hq => List.mem_cons_of_mem _ (hb q hq)) (R1.push r1) fun vs ys M2 H2 q2 R2 r2 => q2 κ δ σ H2 v vs Q R2.pop R2.top r2 k
theorem de_append {cpos : Pos} (h : DE B X o δ M fun x M1 => (∃ ds, IsL M1 x ds) ∧ DA B X [a] δ M1 fun ys M2 => MtD X.K "list" rAppend x ys M2 Φ)
   (hbase : attributeBase o "append" X.env (eval o X.env) = eval o X.env := by rfl)
   (hfew : ((backTo cpos (starEach [a] X.env)).all (fun x => !x.1) && (backToKw cpos (keywordEach [] X.env)).all (fun x => x.1.isSome)
     && decide (([a] : List Expr).length + ([] : List Keyword).length + (if ([] : List Keyword).isEmpty then 0 else 1) < 30)) = true := by rfl)
   (hline : (apos.endLine == cpos.line) = true := by rfl) (hs : starEach [a] X.env = (false, eval a X.env) :: starEach [] X.env := by rfl) (hplain : (backTo cpos (starEach [] X.env)).any (·.1) = false := by rfl) :
   DE B X (.Call (.Attribute o "append" apos) [a] [] cpos) δ M Φ := de_bml PySem.F.slot_list_append PySem.F.type_list_append mt_append h hbase hfew hline hs hplain
theorem mt_app {K : PySem.W.Frag} {j : Nat} {p : Addr} {ds : List D} (hm : M[j]? = some (p, .lst ds)) (hl : ds.length < sizeLine) (k : Φ .non (M.set j (p, .lst (ds ++ [d])))) : MtD K "list" rAppend (.raw (.ref p)) [d] M Φ := fun κ δ σ H v vs Q R rv rs h => by
 cases rv
 cases rs with
 | cons r1 r2 =>
   cases r2
   obtain ⟨vs, e1, rr⟩ := R.at hm
   rename_i u
   refine ⟨p, vs, u, rfl, rfl, e1, by rw [rr.length]; exact hl, h _ _ _ _ k ?_ .non⟩
   have hp : ∀ x, x ∉ M.F → upd H p (.lst (vs ++ [u])) x = H x := fun x hx => upd_ne fun z => hx (z ▸ R.mem hm p (by simp [own]))
   exact R.cell hm rfl (fun x hx => upd_ne (by simpa [own] using hx)) ⟨_, upd_same, (rr.append (.cons r1 .nil)).fwd (Fwd.same hp)⟩
theorem de_pop {cpos : Pos} (h : DE B X o δ M fun x M1 => (∃ ds, IsL M1 x ds) ∧ DA B X [a] δ M1 fun ys M2 => MtD X.K "list" rPopAt x ys M2 Φ)
   (hbase : attributeBase o "pop" X.env (eval o X.env) = eval o X.env := by rfl)
   (hfew : ((backTo cpos (starEach [a] X.env)).all (fun x => !x.1) && (backToKw cpos (keywordEach [] X.env)).all (fun x => x.1.isSome)
     && decide (([a] : List Expr).length + ([] : List Keyword).length + (if ([] : List Keyword).isEmpty then 0 else 1) < 30)) = true := by rfl)
   (hline : (apos.endLine == cpos.line) = true := by rfl) (hs : starEach [a] X.env = (false, eval a X.env) :: starEach [] X.env := by rfl) (hplain : (backTo cpos (starEach [] X.env)).any (·.1) = false := by rfl) :
   DE B X (.Call (.Attribute o "pop" apos) [a] [] cpos) δ M Φ := de_bml PySem.F.slot_list_pop PySem.F.type_list_pop mt_popAt h hbase hfew hline hs hplain
theorem mt_popD {K : PySem.W.Frag} {j m : Nat} {p : Addr} {ds : List D} {i : Int} (hm : M[j]? = some (p, .lst ds)) (h1 : -(2 ^ 63) ≤ i) (h2 : i < 2 ^ 63) (hi : seqIndex? i ds.length = some m) (hd : ds[m]? = some d) (k : Φ d (M.set j (p, .lst (ds.eraseIdx m)))) : MtD K "list" rPopAt (.raw (.ref p)) [.int i] M Φ := fun κ δ σ H v vs Q R rv rs h => by
 cases rv
 cases rs with
 | cons r1 r2 =>
   cases r2
   cases r1
   obtain ⟨vs, e1, rr⟩ := R.at hm
   obtain ⟨u, e2, ru⟩ := rr.get' hd
   have hp : ∀ x, x ∉ M.F → upd H p (.lst (vs.eraseIdx m)) x = H x := fun x hx => upd_ne fun z => hx (z ▸ R.mem hm p (by simp [own]))
   refine ⟨p, vs, i, m, u, rfl, rfl, e1, h1, h2, by rw [rr.length]; exact hi, e2, h _ _ _ _ k ?_ ?_⟩
   · exact R.cell hm rfl (fun x hx => upd_ne (by simpa [own] using hx)) ⟨_, upd_same, (rr.erase m).fwd (Fwd.same hp)⟩
   · rw [F_set (c' := .lst (ds.eraseIdx m)) hm rfl]
     exact ru.fwd (Fwd.same hp)
def CallD (r : List V → Hp → VK → Prop) (ds : List D) (M : Mem) (Φ : D → Mem → Prop) : Prop := ∀ κ (δ : Env') σ H vs Q, Rs κ δ M σ H → Reps M.F H vs ds → (∀ v d M' H', Φ d M' → Rs κ δ M' σ H' → Rep M'.F H' v d → Q v H') → r vs H Q
theorem CallD.inl {r r' : List V → Hp → VK → Prop} {ds : List D} (h : CallD r ds M Φ) : CallD (fun vs H Q => r vs H Q ∨ r' vs H Q) ds M Φ := fun κ δ σ H vs Q R rs k => .inl (h κ δ σ H vs Q R rs k)
theorem CallD.inr {r r' : List V → Hp → VK → Prop} {ds : List D} (h : CallD r' ds M Φ) : CallD (fun vs H Q => r vs H Q ∨ r' vs H Q) ds M Φ := fun κ δ σ H vs Q R rs k => .inr (h κ δ σ H vs Q R rs k)
theorem de_blt {id : String} {r : List V → Hp → VK → Prop} {x : Str} {p : Pos} (hc : CallR X (.builtin id) r) (g : Gn X x) (hv : bootBuiltins x = some (.builtin id)) (h : DA B X (e :: es) δ M fun ds M1 => CallD r ds M1 Φ)
   (hn : x ≠ "__name__" := by decide) (hdb : (x == ("__debug__" : Str)) = false := by decide) (he : starEach (e :: es) X.env = (false, eval e X.env) :: starEach es X.env := by rfl) (hpl : (backTo pos (starEach es X.env)).any (·.1) = false := by rfl) : DE B X (.Call (.Name x p) (e :: es) [] pos) δ M Φ :=
 .of (pe_callB hc g.gl g.no hv cA hn hdb he hpl) fun κ σ H Q hb R k => h κ σ H _ hb R fun vs ds M1 H1 q R1 r1 => q κ δ σ H1 vs Q R1 r1 k
theorem de_ty {T : String} {r : List V → Hp → VK → Prop} {x : Str} {p : Pos} (hc : CallR X (.type T) r) (g : Gn X x) (hv : bootBuiltins x = some (.type T)) (h : DA B X (e :: es) δ M fun ds M1 => CallD r ds M1 Φ)
   (hn : x ≠ "__name__" := by decide) (hdb : (x == ("__debug__" : Str)) = false := by decide) (he : starEach (e :: es) X.env = (false, eval e X.env) :: starEach es X.env := by rfl) (hpl : (backTo pos (starEach es X.env)).any (·.1) = false := by rfl) : DE B X (.Call (.Name x p) (e :: es) [] pos) δ M Φ :=
 .of (pe_callTy hc g.gl g.no hv cA hn hdb he hpl) fun κ σ H Q hb R k => h κ σ H _ hb R fun vs ds M1 H1 q R1 r1 => q κ δ σ H1 vs Q R1 r1 k
def rLenU (K : PySem.W.Frag) : List V → Hp → VK → Prop := fun xs H Q => ∃ x n, xs = [x] ∧ LenV K x H n ∧ Q (.int n) H
theorem de_len {p : Pos} (g : Gn X "len") (h : DA B X [a] δ M fun ds M1 => CallD (rLenU X.K) ds M1 Φ) (he : starEach [a] X.env = (false, eval a X.env) :: starEach [] X.env := by rfl) (hpl : (backTo pos (starEach [] X.env)).any (·.1) = false := by rfl) : DE B X (.Call (.Name "len" p) [a] [] pos) δ M Φ := de_blt call_len g PySem.boot_len h (by decide) (by decide) he hpl
theorem cd_lenL {K : PySem.W.Frag} {ds : List D} (h : IsL M x ds) (k : Φ (.int (ds.length : Nat)) M) : CallD (rLenU K) [x] M Φ := fun κ δ σ H vs Q R rs f => by
 cases rs with
 | cons r1 r2 =>
   cases r2
   obtain ⟨p, vs, rfl, e1, rr⟩ := h.sq R r1
   exact ⟨_, vs.length, rfl, .inl ⟨vs, SqL.of e1, rfl⟩, by rw [rr.length]; exact f _ _ _ _ k R (.int _)⟩
theorem cd_lenT {K : PySem.W.Frag} {ds : List D} (k : Φ (.int (ds.length : Nat)) M) : CallD (rLenU K) [.tup ds] M Φ := fun κ δ σ H vs Q R rs f => by
 cases rs with
 | cons r1 r2 =>
   cases r2
   cases r1 with
   | tup h1 e1 rr => exact ⟨_, _, rfl, .inr ⟨_, SqT.of e1, rfl⟩, by rw [rr.length]; exact f _ _ _ _ k R (.int _)⟩
theorem cd_lenS {K : PySem.W.Frag} {z : Str} (hl : z.length ≤ sizeLine) (k : Φ (.int (z.length : Nat)) M) : CallD (rLenU K) [.str z] M Φ := fun κ δ σ H vs Q R rs f => by
 cases rs with
 | cons r1 r2 =>
   cases r2
   cases r1
   exact ⟨_, z.length, rfl, ⟨hl, rfl⟩, f _ _ _ _ k R (.int _)⟩
theorem cd_lenX {K : PySem.W.Frag} {ns : List Int} (k : Φ (.int (ns.length : Nat)) M) : CallD (rLenU K) [.scr K ns] M Φ := fun κ δ σ H vs Q R rs f => by
 cases rs with
 | cons r1 r2 =>
   cases r2
   cases r1 with
   | scrH h1 e1 => exact ⟨_, _, rfl, .inl ⟨_, .inl e1, rfl⟩, by rw [List.length_map]; exact f _ _ _ _ k R (.int _)⟩
   | scrK h1 => exact ⟨_, _, rfl, .inl ⟨_, h1 H, rfl⟩, by rw [List.length_map]; exact f _ _ _ _ k R (.int _)⟩
def rMin2 : List V → Hp → VK → Prop := fun xs H Q => ∃ i j, xs = [.int i, .int j] ∧ Q (.int (if j < i then j else i)) H
def rMax2 : List V → Hp → VK → Prop := fun xs H Q => ∃ i j, xs = [.int i, .int j] ∧ Q (.int (if j > i then j else i)) H
open PyProof.Rows in
theorem de_min2 {n : Nat} (z : Cz X n) {p : Pos} (g : Gn X "min") (h : DA B X [a, b] δ M fun ds M1 => CallD rMin2 ds M1 Φ) (he : starEach [a, b] X.env = (false, eval a X.env) :: starEach [b] X.env := by rfl) (hpl : (backTo pos (starEach [b] X.env)).any (·.1) = false := by rfl) : DE B X (.Call (.Name "min" p) [a, b] [] pos) δ M Φ := de_blt (call_min2 z.calm) g boot_min h (by decide) (by decide) he hpl
open PyProof.Rows in
theorem de_max2 {n : Nat} (z : Cz X n) {p : Pos} (g : Gn X "max") (h : DA B X [a, b] δ M fun ds M1 => CallD rMax2 ds M1 Φ) (he : starEach [a, b] X.env = (false, eval a X.env) :: starEach [b] X.env := by rfl) (hpl : (backTo pos (starEach [b] X.env)).any (·.1) = false := by rfl) : DE B X (.Call (.Name "max" p) [a, b] [] pos) δ M Φ := de_blt (call_max2 z.calm) g boot_max h (by decide) (by decide) he hpl
theorem cd_min2 {i j : Int} (k : Φ (.int (min i j)) M) : CallD rMin2 [.int i, .int j] M Φ := fun κ δ σ H vs Q R rs f => by
 cases rs with
 | cons r1 r2 =>
   cases r1
   cases r2 with
   | cons r2 r3 =>
     cases r2; cases r3
     exact ⟨i, j, rfl, by rw [show (if j < i then j else i) = min i j by omega]; exact f _ _ _ _ k R (.int _)⟩
theorem cd_max2 {i j : Int} (k : Φ (.int (max i j)) M) : CallD rMax2 [.int i, .int j] M Φ := fun κ δ σ H vs Q R rs f => by
 cases rs with
 | cons r1 r2 =>
   cases r1
   cases r2 with
   | cons r2 r3 =>
     cases r2; cases r3
     exact ⟨i, j, rfl, by rw [show (if j > i then j else i) = max i j by omega]; exact f _ _ _ _ k R (.int _)⟩
theorem de_tyN {x : Str} {T : String} (g : Gn X x) (hv : bootBuiltins x = some (.type T)) (k : Φ (.raw (.ty T)) M) (hn : x ≠ "__name__" := by decide) (hd : (x == ("__debug__" : Str)) = false := by decide) : DE B X (.Name x pos) δ M Φ := .of (pe_bltn (v := .ty T) g.gl g.no hv rfl hn hd) (.val (fun _ _ => .raw _) k)
def tyD : D → Option String
 | .non => some "NoneType"
 | .bl _ => some "bool"
 | .int _ => some "int"
 | .str _ => some "str"
 | .lst _ => some "list"
 | .tup _ => some "tuple"
 | _ => none
theorem cd_isi {K : PySem.W.Frag} {T S : String} {r : Bool} (hx : tyD x = some S) (hk : kitB S T = some r) (k : Φ (.bl r) M) : CallD (rIsi K) [x, .raw (.ty T)] M Φ := fun κ δ σ H vs Q R rs f => by
 cases rs with
 | cons r1 r2 =>
   cases r2 with
   | cons r2 r3 =>
     cases r2; cases r3
     refine ⟨_, _, .type S, .type T, r, rfl, .ty T, ?_, kit_ty hk, f _ _ _ _ k R (.bl _)⟩
     cases r1 with
     | non => cases hx; exact .base .non
     | bl b => cases hx; exact .base (.bl b)
     | int i => cases hx; exact .base (.int i)
     | str i => cases hx; exact .base (.str i)
     | lst h1 e1 _ => cases hx; exact .base (.lst e1)
     | tup h1 e1 _ => cases hx; exact .base (.tup e1)
     | obj _ _ _ _ => cases hx
     | raw _ => cases hx
     | scrH _ _ => cases hx
     | scrK _ => cases hx
     | exn0 _ _ => cases hx
     | exn _ _ _ _ _ _ => cases hx
     | fd _ _ _ _ _ => cases hx
     | hp _ _ _ => cases hx
     | fn _ _ _ _ _ _ _ _ _ => cases hx
end
end Hl
namespace Hl
open PySem L2
section
variable {B : Bx} {X : Cx} {e a b c o : Expr} {es rest : List Expr} {st : Stmt} {sts : List Stmt} {δ δ' : Env'} {M : Mem} {Φ : D → Mem → Prop} {Ψ : DEnds} {te ta tb : TE} {tt : TT} {pos pos' apos : Pos} {d x y : D} {ΦB : Bool → Mem → Prop} {ΦL : List D → Mem → Prop}
structure Bk (X X' : Cx) (scope : Scope) : Prop where
 prog : X'.prog = X.prog
 wd : X'.w = X.w
 K : X'.K = X.K
 mg : X'.mg = X.mg
 base : X'.base = X.base
 N : X'.N = X.N
 A : X'.A = X.A
 calm : X'.calm = X.calm
 sc : X'.env.scope = relS scope X.env.scope
 xe : ∀ v s, ¬ X'.xe v s
 fn : ∀ x, scope.names.lookup x = some .cell → X'.fn x = true
theorem Bk.z {X X' : Cx} {scope : Scope} {n : Nat} (h : Bk X X' scope) (z : Cz X n) : Cz X' n := ⟨by rw [h.N]; exact z.nd, by rw [h.calm]; exact z.calm, by rw [h.A]; exact z.room⟩
theorem Bk.df {X X' : Cx} {scope : Scope} {k : Nat} {x : Str} {ps : List Str} {p : DSp} (h : Bk X X' scope) (d : DefX X k x ps p) : DefX X' k x ps p := by
 unfold DefX
 rw [h.prog, h.wd, h.K, h.mg, h.base]
 exact d
theorem Bk.nm {X X' : Cx} {scope sc : Scope} {N : List Str} {i : Nat} {x : Str} (h : Bk X X' scope) (hN : X.N = N) (hs : X.env.scope = sc) (hh : nmB N (relS scope sc) i x = true) : Nm X' i x := nm_of (by rw [h.N, hN]) (by rw [h.sc, hs]) hh
theorem Bk.lo {X X' : Cx} {scope sc : Scope} {N : List Str} {i : Nat} {x : Str} (h : Bk X X' scope) (hN : X.N = N) (hs : X.env.scope = sc) (hh : (nmB N (relS scope sc) i x && (decide ((relS scope sc).names.lookup x = some .local) || (locB (relS scope sc) x && decide (scope.names.lookup x = some .cell)))) = true) : Lo X' i x := by
 rw [Bool.and_eq_true] at hh
 rcases Bool.or_eq_true _ _ ▸ hh.2 with hl | hl
 · have e := of_decide_eq_true hl
   exact ⟨h.nm hN hs hh.1, by rw [h.sc, hs]; exact .inl e, .inr (by rw [h.sc, hs]; exact e)⟩
 · rw [Bool.and_eq_true] at hl
   exact ⟨h.nm hN hs hh.1, by rw [h.sc, hs]; exact loc_of hl.1, .inl (h.fn x (of_decide_eq_true hl.2))⟩
theorem Bk.gl {X X' : Cx} {scope sc : Scope} {x : Str} (h : Bk X X' scope) (hs : X.env.scope = sc) (hh : (relS scope sc).names.lookup x = some .globalImplicit) : Gl X' x := gl_of (by rw [h.sc, hs]) hh
theorem Bk.gn {X X' : Cx} {scope sc : Scope} {x : Str} (h : Bk X X' scope) (hs : X.env.scope = sc) (hh : (relS scope sc).names.lookup x = some .globalImplicit) (g : X.mg x = none) : Gn X' x := ⟨h.gl hs hh, by rw [h.mg]; exact g⟩
def wipeD (δ : Env') : List Nat → Env'
 | [] => δ
 | v :: vs => (wipeD δ vs).set v none
theorem Rs.wipe {κ : List (V × D)} {σ : St} {H : Hp} (R : Rs κ δ M σ H) : ∀ vs : List Nat, Rs κ (wipeD δ vs) M (L2.wipe σ vs) H
 | [] => R
 | v :: vs => (R.wipe vs).wipe1 v none
inductive Tk where
 | one (i : Nat) | tup (is : List Nat)
def gNames : List Nat → TGs
 | [] => gNil
 | i :: is => gCons (gName i) (gNames is)
def gK (K : PySem.W.Frag) : Tk → TG
 | .one i => gName i
 | .tup is => gTup K is.length (gNames is)
def setsD : Env' → List Nat → List D → Env'
 | δ, i :: is, d :: ds => setsD (δ.set i (some d)) is ds
 | δ, _, _ => δ
def sets : St → List Nat → List V → St
 | σ, i :: is, v :: vs => sets (σ.set i (some v)) is vs
 | σ, _, _ => σ
def slotsK : Tk → List Nat
 | .one i => [i]
 | .tup is => is
theorem Rs.puts {κ : List (V × D)} {M : Mem} {H : Hp} : ∀ {is : List Nat} {vs : List V} {ds : List D} {δ : Env'} {σ : St}, Rs κ δ M σ H → Reps M.F H vs ds → Rs κ (setsD δ is ds) M (sets σ is vs) H
 | [], _, _, _, _, R, _ => by unfold setsD sets; exact R
 | i :: is, _, _, _, _, R, .nil => by unfold setsD sets; exact R
 | i :: is, v :: vs, d :: ds, δ, σ, R, .cons r rs => by unfold setsD sets; exact (R.put i r).puts rs
theorem gNames_run {H : Hp} : ∀ {is : List Nat} {vs : List V} {σ : St} {Q : St → Hp → Prop}, vs.length = is.length → Q (sets σ is vs) H → gNames is vs σ H Q
 | [], [], _, _, _, q => ⟨rfl, q⟩
 | [], _ :: _, _, _, h, _ => by cases h
 | i :: is, [], _, _, h, _ => by cases h
 | i :: is, v :: vs, σ, Q, h, q => ⟨v, vs, rfl, gNames_run (by simpa using h) q⟩
theorem wipe_set {σ : St} {i : Nat} {ov : Option V} : ∀ {vs : List Nat}, i ∈ vs → L2.wipe (σ.set i ov) vs = L2.wipe σ vs
 | v :: vs, h => by
   unfold L2.wipe
   by_cases e : i = v
   · subst e
     by_cases hm : i ∈ vs
     · rw [wipe_set hm]
     · have : ∀ (vs : List Nat) (σ : St), i ∉ vs → L2.wipe (σ.set i ov) vs = (L2.wipe σ vs).set i ov := by
         intro vs
         induction vs with
         | nil => intro σ _; rfl
         | cons w vs ih =>
           intro σ hn
           unfold L2.wipe
           rw [ih σ (fun z => hn (List.mem_cons_of_mem _ z)), List.set_comm _ _ (fun z => hn (by rw [z]; exact List.mem_cons_self))]
       rw [this vs σ hm, List.set_set]
   · have hm : i ∈ vs := by
       rcases List.mem_cons.mp h with h | h
       · exact absurd h e
       · exact h
     rw [wipe_set hm]
theorem wipe_none {σ : St} : ∀ {vs : List Nat}, L2.wipe (L2.wipe σ vs) vs = L2.wipe σ vs := by
 intro vs
 have key : ∀ (ws vs : List Nat) (σ : St), (∀ w ∈ ws, w ∈ vs) → L2.wipe (L2.wipe σ ws) vs = L2.wipe σ vs := by
   intro ws
   induction ws with
   | nil => intro vs σ _; rfl
   | cons w ws ih =>
     intro vs σ h
     show L2.wipe ((L2.wipe σ ws).set w none) vs = _
     rw [wipe_set (h w List.mem_cons_self), ih vs σ fun x hx => h x (List.mem_cons_of_mem _ hx)]
 exact key vs vs σ fun _ h => h
theorem wipe_sets {vs : List Nat} : ∀ {is : List Nat} {ws : List V} {σ : St}, (∀ i ∈ is, i ∈ vs) → L2.wipe (sets σ is ws) vs = L2.wipe σ vs
 | [], _, _, _ => by unfold sets; rfl
 | i :: is, [], _, _ => by unfold sets; rfl
 | i :: is, w :: ws, σ, h => by
   unfold sets
   rw [wipe_sets fun j hj => h j (List.mem_cons_of_mem _ hj), wipe_set (h i List.mem_cons_self)]
def bindK (tk : Tk) (x : D) (δ : Env') : Option Env' := match tk, x with
 | .one i, x => some (δ.set i (some x))
 | .tup is, .tup ds => if ds.length = is.length then some (setsD δ is ds) else none
 | _, _ => none
theorem gK_run {K : PySem.W.Frag} {tk : Tk} {δ2 : Env'} {κ : List (V × D)} {σ : St} {H : Hp} {v : V} {Q : St → Hp → Prop} {vs : List Nat} (R : Rs κ δ M σ H) (r : Rep M.F H v x) (e : bindK tk x δ = some δ2) (hv : ∀ i ∈ slotsK tk, i ∈ vs) (h : ∀ σ2, L2.wipe σ2 vs = L2.wipe σ vs → Rs κ δ2 M σ2 H → Q σ2 H) : gK K tk v σ H Q := by
 cases tk with
 | one i =>
   have e : δ.set i (some x) = δ2 := by unfold bindK at e; cases x <;> exact Option.some.inj e
   subst e
   exact h _ (wipe_set (hv i (by simp [slotsK]))) (R.put i r)
 | tup is =>
   cases x with
   | tup ds =>
     unfold bindK at e
     dsimp only at e
     split at e
     · next hl =>
       cases e
       cases r with
       | tup h1 e1 r1 =>
         refine ⟨_, _, rfl, SqT.of e1, by rw [r1.length]; exact hl, gNames_run (by rw [r1.length]; exact hl) ?_⟩
         exact h _ (wipe_sets hv) (R.puts r1)
     · cases e
   | _ => exact nomatch e
def teA (X : Cx) (scope : Scope) (e : Expr) : TE := fun σ H Q => ∀ X', Bk X X' scope → tE X' e σ H Q
def ttA (X : Cx) (scope : Scope) (ifs : List Expr) : TT := fun σ H Q => match ifs with
 | [] => Q true H
 | [c] => ∀ X', Bk X X' scope → tT X' c σ H Q
 | _ => False
theorem bk_blk {s : Shared} {H : Hp} {scope : Scope} {C : Addr} {cl : List (Str × Addr)} {fp : List Addr} : Bk X (X.blk s H scope (compEnvC scope cl C X.env) fp) scope := ⟨rfl, rfl, rfl, rfl, rfl, rfl, rfl, rfl, rfl, fun _ _ z => z, fun x h => by show (_ == _) = true; rw [h]; rfl⟩
def Turn1 (B : Bx) (X : Cx) (scope : Scope) (elt : Expr) (ifs : List Expr) (δ : Env') (M : Mem) (P : Option D → Mem → Prop) : Prop := match ifs with
 | [] => ∀ X', Bk X X' scope → DE B X' elt δ M fun d M3 => P (some d) M3
 | [c] => ∀ X', Bk X X' scope → DT B X' c δ M fun t M3 => Br t (∀ X', Bk X X' scope → DE B X' elt δ M3 fun d M4 => P (some d) M4) (P none M3)
 | _ => False
theorem pts_A {s : Shared} {H : Hp} {scope : Scope} {C : Addr} {cl : List (Str × Addr)} {fp : List Addr} {ifs : List Expr} : PTs (X.blk s H scope (compEnvC scope cl C X.env) fp) ifs (ttA X scope ifs) := by
 match ifs with
 | [] => exact pts_nil
 | [c] => exact ⟨fun pins s' σ' H' Q I q => (pts_one cT).run pins s' σ' H' Q I (q _ bk_blk)⟩
 | _ :: _ :: _ => exact ⟨fun pins s' σ' H' Q I q => q.elim⟩
theorem pe_A {s : Shared} {H : Hp} {scope : Scope} {C : Addr} {cl : List (Str × Addr)} {fp : List Addr} {elt : Expr} : PE (X.blk s H scope (compEnvC scope cl C X.env) fp) elt (teA X scope elt) := ⟨fun pins s' σ' H' Q I q => cE.run pins s' σ' H' Q I (q _ bk_blk)⟩
def LcH (k : Nat) (B : Bx) (X : Cx) (scope : Scope) (elt : Expr) (ifs : List Expr) (own : List (Str × Nat)) (tk : Tk) (δ : Env') (xs : List D) (M' : Mem) (ΦL : List D → Mem → Prop) : Prop :=
 ∃ Iv : Nat → List D → Mem → Prop, Iv 0 [] M' ∧ (∀ (p : Addr) i x acc M1, xs[i]? = some x → Iv i acc M1 → acc.length < sizeLine ∧ ∃ δ2, bindK tk x (wipeD δ (own.map (·.2))) = some δ2 ∧
       Turn1 B X scope elt ifs δ2 (insM k (p, .lst acc) M1) fun od M2 => ∃ M3, M2 = insM k (p, .lst acc) M3 ∧ Iv (i + 1) (acc ++ od.toList) M3) ∧ ∀ acc M1, Iv xs.length acc M1 → ΦL acc M1
theorem wf_lc {elt : Expr} {ifs : List Expr} {scope : Scope} {wi : TI} {k : Nat} (own : List (Str × Nat)) (tk : Tk) (hv : ∀ i ∈ slotsK tk, i ∈ own.map (·.2))
   (w : WI B wi δ M fun xs M' => LcH k B X scope elt ifs own tk δ xs M' ΦL) : WF B (tLc wi (gK X.K tk) (ttA X scope ifs) (teA X scope elt) (own.map (·.2))) δ M ΦL := by
 intro κ σ H Q hb R kk
 refine w κ σ H _ hb R fun xs M1 H1 J κ' ⟨Iv, h0, hst, hd⟩ hk R1 W => ?_
 intro p hp
 have R1p : Rs κ' δ (insM k (p, .lst []) M1) σ (upd H1 p (.lst [])) := (R1.lst .nil hp).perm insM_perm
 refine ⟨fun i m H => m = xs.length - i ∧ i ≤ xs.length ∧ ∃ acc M, Iv i acc M ∧ Rs κ' δ (insM k (p, .lst acc) M) σ H, ⟨xs.length, by simp, Nat.zero_le _, [], M1, h0, R1p⟩, ?_⟩
 rintro i m H ⟨rfl, hi, acc, M, q, R⟩
 by_cases hlt : i < xs.length
 · refine .inr ⟨W.goes i δ _ σ H hlt R, fun H' => ∃ acc' M', Iv (i + 1) acc' M' ∧ Rs κ' δ (insM k (p, .lst acc') M') σ H', fun H' ⟨acc', M', q', R'⟩ => ⟨xs.length - (i + 1), by omega, rfl, hlt, acc', M', q', R'⟩, fun x H' y => ?_⟩
   obtain ⟨d, hd1, R2, r2⟩ := W.yields i δ _ σ H x H' hlt R y
   obtain ⟨hlen, δ2, eb, tu⟩ := hst p i d acc M hd1 q
   have Rw := (R2.push r2)
   let κ2 := κ' ++ sk σ δ
   have back : ∀ {M' : Mem} {H' : Hp}, (∀ q ∈ κ2, Rep M'.F H' q.1 q.2) → (∀ q ∈ M', CellOk M'.F H' q.1 q.2) → M'.F.Nodup → Rs κ' δ M' σ H' := fun h1 h2 h3 => ⟨fun q hq => h1 q (List.mem_append.mpr (.inl hq)), sk_back R2.sl fun q hq => h1 q (List.mem_append.mpr (.inr hq)), h2, h3⟩
   have R3 : Rs κ2 (wipeD δ (own.map (·.2))) (insM k (p, .lst acc) M) (L2.wipe σ (own.map (·.2))) H' := by
     have := R2.wipe (own.map (·.2))
     exact ⟨fun q hq => by
       rcases List.mem_append.mp hq with h | h
       · exact R2.kp q h
       · exact sk_rep R2.sl q h, this.sl, R2.cl, R2.nd⟩
   refine gK_run R3 r2 eb hv fun σ2 hw R4 => ⟨by rw [hw, wipe_none], ?_⟩
   have hb2 : ∀ q ∈ B.ps, q ∈ κ2 := fun q hq => List.mem_append.mpr (.inl (hk q (hb q hq)))
   have fin : ∀ {u : V} {d : D} {M2 : Mem} {H2 : Hp}, (∃ M3, M2 = insM k (p, .lst acc) M3 ∧ Iv (i + 1) (acc ++ [d]) M3) → Rs κ2 δ2 M2 σ2 H2 → Rep M2.F H2 u d → ∃ ac, H2 p = some (.lst ac) ∧ ac.length < sizeLine ∧ ∃ acc' M', Iv (i + 1) acc' M' ∧ Rs κ' δ (insM k (p, .lst acc') M') σ (upd H2 p (.lst (ac ++ [u]))) := by
     rintro u d M2 H2 ⟨M3, rfl, q3⟩ R5 r5
     have R6 := (back R5.kp R5.cl R5.nd).perm insM_perm.symm
     have r5 : Rep (Mem.F ((p, Cell.lst acc) :: M3)) H2 u d := r5.fwd (Fwd.less fun x hx => (F_perm insM_perm).mem_iff.mp hx)
     have hm : ((p, Cell.lst acc) :: M3)[0]? = some (p, .lst acc) := rfl
     obtain ⟨vs, e1, rr⟩ := R6.at hm
     refine ⟨vs, e1, by rw [rr.length]; exact hlen, acc ++ [d], M3, q3, ?_⟩
     have hpF : ∀ x, x ∉ (Mem.F ((p, Cell.lst acc) :: M3)) → upd H2 p (.lst (vs ++ [u])) x = H2 x := fun x hx => upd_ne fun z => hx (z ▸ R6.mem hm p (by simp [Hl.own]))
     have := R6.cell (c' := .lst (acc ++ [d])) hm rfl (H' := upd H2 p (.lst (vs ++ [u]))) (fun x hx => upd_ne (by simpa [Hl.own] using hx)) ⟨_, upd_same, (rr.append (.cons r5 .nil)).fwd (Fwd.same hpF)⟩
     exact Rs.perm this insM_perm
   match ifs, tu with
   | [], tu =>
     show (if true = true then teA X scope elt σ2 H' (fun y H4 => ∃ ac, H4 p = some (.lst ac) ∧ ac.length < sizeLine ∧ (∃ acc' M', Iv (i + 1) acc' M' ∧ Rs κ' δ (insM k (p, .lst acc') M') σ (upd H4 p (.lst (ac ++ [y]))))) else (∃ acc' M', Iv (i + 1) acc' M' ∧ Rs κ' δ (insM k (p, .lst acc') M') σ H'))
     rw [if_pos rfl]
     intro X' bk
     exact tu X' bk κ2 σ2 H' _ hb2 R4 fun u d M2 H2 q2 R5 r5 => fin q2 R5 r5
   | [c], tu =>
     intro X' bk
     refine tu X' bk κ2 σ2 H' _ hb2 R4 fun t M2 H2 q2 R5 => Br.ite ⟨fun e X2 bk2 => ?_, fun e => ?_⟩
     · exact q2.1 e X2 bk2 κ2 σ2 H2 _ hb2 R5 fun u d M3 H3 q3 R6 r6 => fin q3 R6 r6
     · obtain ⟨M3, rfl, q3⟩ := q2.2 e
       exact ⟨acc, M3, by simpa using q3, back R5.kp R5.cl R5.nd⟩
   | _ :: _ :: _, tu => exact tu.elim
 · have e : i = xs.length := by omega
   subst e
   refine .inl ⟨W.stops δ _ σ H R, ?_⟩
   exact kk p acc M H (hd acc M q) ((R.sub hk).perm insM_perm.symm)
theorem df_lc {tg iter elt : Expr} {ifs : List Expr} {scope sc : Scope} {N : List Str} {n : Nat} (k : Nat) (z : Cz X n) (hN : X.N = N) (hs : X.env.scope = sc) (own : List (Str × Nat)) (tk : Tk) (ok : blkC N sc scope own = true) (hv : ∀ i ∈ slotsK tk, i ∈ own.map (·.2)) (hg : ∀ X', Bk X X' scope → PG X' tg (gK X.K tk))
   (h : DI B X tg iter δ M fun xs M' => LcH k B X scope elt ifs own tk δ xs M' ΦL) (hf : ∀ x, foldedSetIterable iter X.env x = pure x := by intro _; rfl) : DF B X (.ListComp elt [⟨tg, iter, ifs, 0⟩] scope pos) δ M ΦL := by
 obtain ⟨wi, pi, w⟩ := h
 exact .of (pe_lc z.calm z.nd pi (blkOk_by (by rw [hN, hs]; exact ok)) (fun s H C cl fp => hg _ bk_blk) (fun s H C cl fp => pts_A) (fun s H C cl fp => pe_A) hf) (wf_lc own tk hv w)
theorem ds_lc {tg iter elt : Expr} {ifs : List Expr} {scope sc : Scope} {N : List Str} {n i : Nat} {y : Str} {py spos : Pos} (k : Nat) (z : Cz X n) (l : Lo X i y) (hN : X.N = N) (hs : X.env.scope = sc) (own : List (Str × Nat)) (tk : Tk) (ok : blkC N sc scope own = true) (hv : ∀ i ∈ slotsK tk, i ∈ own.map (·.2)) (hg : ∀ X', Bk X X' scope → PG X' tg (gK X.K tk))
   (hyl : sc.names.lookup y = some .local) (hk : sc.kind = .function) (hpl : (py.line == pos.line) = true) (hno : (scope.names.any fun (n, k) => n == y && (k == .local || k == .cell)) = false)
   (h : DI B X tg iter δ M fun xs M' => LcH k B X scope elt ifs own tk δ xs M' fun ds M2 => Sets δ i (.lst ds) fun δ' => Ψ.nx δ' M2) (hf : ∀ x, foldedSetIterable iter X.env x = pure x := by intro _; rfl) : DS B X (.Assign [.Name y py] (.ListComp elt [⟨tg, iter, ifs, 0⟩] scope pos) spos) δ M Ψ := by
 obtain ⟨wi, pi, w⟩ := h
 refine .of (ps_setLc z.calm z.nd l.at_ (by rw [hs]; exact hyl) (sw_true (by rw [hs]; exact hk) (by rw [hs]; exact hyl) hpl hno) pi (blkOk_by (by rw [hN, hs]; exact ok)) (fun s H C cl fp => hg _ bk_blk) (fun s H C cl fp => pts_A) (fun s H C cl fp => pe_A) hf) fun κ σ H E hb R kk => ?_
 exact (WE.ofF (wf_lc own tk hv w) : WE B _ δ M fun d M2 => Sets δ i d fun δ' => Ψ.nx δ' M2) κ σ H _ hb R fun v d M' H' q R' r => kk.nx _ _ _ _ q.get (R'.put i r)
theorem ds_lcOwn {tg iter elt : Expr} {ifs : List Expr} {scope sc : Scope} {N : List Str} {n i : Nat} {y : Str} {py spos : Pos} (k : Nat) (z : Cz X n) (l : Lo X i y) (hN : X.N = N) (hs : X.env.scope = sc) (own : List (Str × Nat)) (tk : Tk) (ok : blkC N sc scope own = true) (hv : ∀ i ∈ slotsK tk, i ∈ own.map (·.2)) (hg : ∀ X', Bk X X' scope → PG X' tg (gK X.K tk))
   (hyl : sc.names.lookup y = some .local) (hk : sc.kind = .function) (hpl : (py.line == pos.line) = true) (hno : (scope.names.any fun (n, k) => n == y && (k == .local || k == .cell)) = false)
   (h : DI B X tg iter δ M fun xs M' => LcH k B X scope elt ifs own tk δ xs M' fun ds M2 => ∀ p : Addr, Sets δ i (.raw (.ref p)) fun δ' => Ψ.nx δ' (insM k (p, .lst ds) M2)) (hf : ∀ x, foldedSetIterable iter X.env x = pure x := by intro _; rfl) : DS B X (.Assign [.Name y py] (.ListComp elt [⟨tg, iter, ifs, 0⟩] scope pos) spos) δ M Ψ := by
 obtain ⟨wi, pi, w⟩ := h
 refine .of (ps_setLc z.calm z.nd l.at_ (by rw [hs]; exact hyl) (sw_true (by rw [hs]; exact hk) (by rw [hs]; exact hyl) hpl hno) pi (blkOk_by (by rw [hN, hs]; exact ok)) (fun s H C cl fp => hg _ bk_blk) (fun s H C cl fp => pts_A) (fun s H C cl fp => pe_A) hf) fun κ σ H E hb R kk => ?_
 exact wf_lc own tk hv w κ σ H _ hb R fun p ds M' H' q R' => kk.nx _ _ _ _ (q p).get ((R'.perm insM_perm).put i (.raw _))
end
end Hl
namespace Hl
open PySem L2
mutual
def toPy : D → PyData
 | .bl b => .bool b
 | .int i => .int i
 | .str x => .str x
 | .lst ds => .list (toPys ds)
 | .tup ds => .tuple (toPys ds)
 | _ => .none
def toPys : List D → List PyData
 | [] => []
 | d :: ds => toPy d :: toPys ds
end
mutual
def okD : D → Bool
 | .non => true
 | .bl _ => true
 | .int _ => true
 | .str x => PyData.canLay0 (.str x)
 | .lst ds => okDs ds
 | .tup ds => okDs ds
 | _ => false
def okDs : List D → Bool
 | [] => true
 | d :: ds => okD d && okDs ds
end
mutual
theorem rep_dp {K : PySem.W.Frag} {F : List Addr} {H : Hp} : ∀ {v : V} {d : D}, Rep F H v d → okD d = true → Dp K H v (toPy d)
 | _, _, .non, _ => .non
 | _, _, .bl b, _ => .bl b
 | _, _, .int i, _ => .int i
 | _, _, .str x, _ => .str x
 | _, _, .lst h e r, k => .lst (SqL.of e) (reps_dp r k)
 | _, _, .tup h e r, k => .tup (SqT.of e) (reps_dp r k)
 | _, _, .obj h e l r, k => by cases k
 | _, _, .raw v, k => by cases k
 | _, _, .scrH h e, k => by cases k
 | _, _, .scrK h, k => by cases k
 | _, _, .exn0 h e, k => by cases k
 | _, _, .exn h e h2 e2 l r, k => by cases k
 | _, _, .fd h e e1 e2 r, k => by cases k
 | _, _, .hp h e _, k => by cases k
 | _, _, .fn _ _ _ _ _ _ _ _ _, k => by cases k
theorem reps_dp {K : PySem.W.Frag} {F : List Addr} {H : Hp} : ∀ {vs : List V} {ds : List D}, Reps F H vs ds → okDs ds = true → DpAll K H vs (toPys ds)
 | _, _, .nil, _ => .nil
 | _, _, .cons r rs, k => by
   have k := Bool.and_eq_true_iff.mp (show (_ && _) = true from k)
   exact .cons (rep_dp r k.1) (reps_dp rs k.2)
end
mutual
theorem ok_lay : ∀ {d : D}, okD d = true → (toPy d).canLay0 = true
 | .non, _ => rfl
 | .bl _, _ => rfl
 | .int _, _ => rfl
 | .str x, h => h
 | .lst ds, h => oks_lay (ds := ds) h
 | .tup ds, h => oks_lay (ds := ds) h
 | .obj _ _ _, h => by cases h
 | .raw _, h => by cases h
 | .scr _ _, h => by cases h
 | .exn _ _ _, h => by cases h
 | .fd _ _, h => by cases h
 | .hp _ _, h => by cases h
 | .fn _ _ _, h => by cases h
theorem oks_lay : ∀ {ds : List D}, okDs ds = true → PyData.canLayAll0 (toPys ds) = true
 | [], _ => rfl
 | d :: ds, h => by
   have k := Bool.and_eq_true_iff.mp (show (_ && _) = true from h)
   show (_ && _) = true
   rw [ok_lay k.1, oks_lay k.2]; rfl
end
inductive Is (M : Mem) : D → D → Prop
 | val (d : D) : Is M d d
 | cell {p : Addr} {ds : List D} (j : Nat) (h : M[j]? = some (p, .lst ds)) : Is M (.raw (.ref p)) (.lst ds)
 | inm {p : Addr} {ds : List D} (h : InM M p (.lst ds)) : Is M (.raw (.ref p)) (.lst ds)
section
variable {B : Bx} {X : Cx} {e a b c o : Expr} {es rest : List Expr} {st : Stmt} {sts : List Stmt} {δ δ' : Env'} {M : Mem} {Φ : D → Mem → Prop} {Ψ : DEnds} {te ta tb : TE} {tt : TT} {pos pos' apos : Pos} {d x y : D} {ΦB : Bool → Mem → Prop} {ΦL : List D → Mem → Prop}
theorem Is.dp {κ : List (V × D)} {σ : St} {H : Hp} {v : V} {x d : D} {K : PySem.W.Frag} (h : Is M x d) (R : Rs κ δ M σ H) (r : Rep M.F H v x) (k : okD d = true) : Dp K H v (toPy d) := by
 cases h with
 | val d => exact rep_dp r k
 | cell j h =>
   cases r
   obtain ⟨vs, e1, r1⟩ := R.at h
   exact .lst (SqL.of e1) (reps_dp r1 k)
 | inm h =>
   cases r
   obtain ⟨vs, e1, r1⟩ := h.ok R
   exact .lst (SqL.of e1) (reps_dp r1 k)
def okE (d : D) : Bool := okD d && decide ((toPy d).depth ≤ 64)
theorem okE_sh {d : D} (h : okE d = true) : SeqAt.shaped (toPy d) = true := by
 have k := Bool.and_eq_true_iff.mp (show (_ && _) = true from h)
 show (_ && _) = true
 rw [ok_lay k.1, k.2]; rfl
theorem okE_ok {d : D} (h : okE d = true) : okD d = true := (Bool.and_eq_true_iff.mp (show (_ && _) = true from h)).1
theorem od_eqD {K : PySem.W.Frag} {x' y' : D} (hx : Is M x x') (hy : Is M y y') (kx : okE x' = true) (ky : okE y' = true) (k : Φ (.bl (PyData.eqv (toPy x') (toPy y'))) M) : OpD (rEqU K) x y M Φ := .inr fun κ δ σ H v w Q R rv rw' h =>
 ⟨_, _, hx.dp R rv (okE_ok kx), hy.dp R rw' (okE_ok ky), okE_sh kx, okE_sh ky, h _ _ M H k R (.bl _)⟩
theorem od_neD {K : PySem.W.Frag} {x' y' : D} (hx : Is M x x') (hy : Is M y y') (kx : okE x' = true) (ky : okE y' = true) (k : Φ (.bl (!PyData.eqv (toPy x') (toPy y'))) M) : OpD (rNeU K) x y M Φ := .inr fun κ δ σ H v w Q R rv rw' h =>
 ⟨_, _, hx.dp R rv (okE_ok kx), hy.dp R rw' (okE_ok ky), okE_sh kx, okE_sh ky, h _ _ M H k R (.bl _)⟩
theorem okDs_ints : ∀ (ns : List Int), okDs (ns.map D.int) = true
 | [] => rfl
 | n :: ns => okDs_ints ns
theorem depths_ints : ∀ (ns : List Int), PyData.depthAll (toPys (ns.map D.int)) = 0
 | [] => rfl
 | n :: ns => by
   show max 0 _ = 0
   rw [depths_ints ns]; rfl
theorem okE_ints (ns : List Int) : okE (.lst (ns.map D.int)) = true := by
 show (_ && _) = true
 rw [show okD (.lst (ns.map D.int)) = true from okDs_ints ns]
 have : (toPy (.lst (ns.map D.int))).depth = 1 := by
   show PyData.depthAll (toPys (ns.map D.int)) + 1 = 1
   rw [depths_ints]
 rw [this]; rfl
theorem eqv_ints : ∀ (ns ms : List Int), PyData.eqvAll (toPys (ns.map D.int)) (toPys (ms.map D.int)) = decide (ns = ms)
 | [], [] => rfl
 | [], _ :: _ => by simp [toPys, PyData.eqvAll]
 | _ :: _, [] => by simp [toPys, PyData.eqvAll]
 | n :: ns, m :: ms => by
   show (PyData.eqv (.int n) (.int m) && _) = _
   rw [eqv_ints ns ms]
   simp [PyData.eqv, Bool.beq_eq_decide_eq]
theorem od_neNil {K : PySem.W.Frag} {ds : List D} (hx : Is M x (.lst ds)) (hk : okE (.lst ds) = true) (k : Φ (.bl (!ds.isEmpty)) M) : OpD (rNeU K) x (.lst []) M Φ := od_neD hx (.val _) hk rfl (by
 rw [show PyData.eqv (toPy (.lst ds)) (toPy (.lst [])) = ds.isEmpty from by cases ds <;> rfl]; exact k)
theorem od_eqNil {K : PySem.W.Frag} {ds : List D} (hx : Is M x (.lst ds)) (hk : okE (.lst ds) = true) (k : Φ (.bl ds.isEmpty) M) : OpD (rEqU K) x (.lst []) M Φ := od_eqD hx (.val _) hk rfl (by
 rw [show PyData.eqv (toPy (.lst ds)) (toPy (.lst [])) = ds.isEmpty from by cases ds <;> rfl]; exact k)
def stD (g : Addr) (r t e : Int) (cs : List Int) : List (Key × D) := [(.inr "great", .raw (.ref g)), (.inr "rest", .int r), (.inr "turn", .int t), (.inr "seed", .int e), (.inr "cells", .lst (cs.map .int))]
structure StOk (b : Nat) (gs : List Int) (r t e : Int) (cs : List Int) : Prop where
 hgs : ∀ x ∈ gs, 0 < x
 hr : 0 ≤ r
 ht : 0 ≤ t
 htb : t + (b : Int) ≤ 1000000000000
 he : 0 ≤ e
 he2 : e < 2147483647
 hcs : ∀ x ∈ cs, 0 ≤ x ∧ x < 2147483629
 hc1 : 0 < cs.length
 hc2 : cs.length ≤ 100
theorem st_open {κ : List (V × D)} {σ : St} {H : Hp} {s g : Addr} {b : Nat} (R : Rs κ δ ((s, .st g b) :: M) σ H) : ∃ gs r t e cs, StOk b gs r t e cs ∧ Rs κ δ ((s, .dct (stD g r t e cs)) :: (g, .lst (gs.map .int)) :: M) σ H := by
 obtain ⟨c, r, t, e, gs, cs, hc, h1, h2, h3, p1, p2, p3, p4, p5, p6, p7, p8, p9⟩ := R.cl (s, .st g b) List.mem_cons_self
 refine ⟨gs, r, t, e, cs, ⟨p1, p2, p3, p4, p5, p6, p7, p8, p9⟩, ?_⟩
 have eF : Mem.F ((s, Cell.dct (stD g r t e cs)) :: (g, .lst (gs.map .int)) :: M) = Mem.F ((s, .st g b) :: M) := rfl
 refine ⟨fun q hq => by rw [eF]; exact R.kp q hq, by rw [eF]; exact R.sl, fun q hq => ?_, by rw [eF]; exact R.nd⟩
 rw [eF]
 rcases List.mem_cons.mp hq with rfl | hq
 · exact ⟨_, h1, rfl, .cons (.raw _) (.cons (.int _) (.cons (.int _) (.cons (.int _) (.cons (.lst hc h3 (.ofInts cs)) .nil))))⟩
 · rcases List.mem_cons.mp hq with rfl | hq
   · exact ⟨_, h2, .ofInts gs⟩
   · exact R.cl q (List.mem_cons_of_mem _ hq)
theorem st_close {κ : List (V × D)} {σ : St} {H : Hp} {s g : Addr} {b : Nat} {gs : List Int} {r t e : Int} {cs : List Int} (k : StOk b gs r t e cs) (R : Rs κ δ ((s, .dct (stD g r t e cs)) :: (g, .lst (gs.map .int)) :: M) σ H) : Rs κ δ ((s, .st g b) :: M) σ H := by
 have eF : Mem.F ((s, Cell.dct (stD g r t e cs)) :: (g, .lst (gs.map .int)) :: M) = Mem.F ((s, .st g b) :: M) := rfl
 refine ⟨fun q hq => by rw [← eF]; exact R.kp q hq, by rw [← eF]; exact R.sl, fun q hq => ?_, by rw [← eF]; exact R.nd⟩
 rw [← eF]
 rcases List.mem_cons.mp hq with rfl | hq
 · obtain ⟨ws, h1, h2, rs⟩ := R.cl (s, .dct (stD g r t e cs)) List.mem_cons_self
   obtain ⟨vs, h3, r3⟩ := R.cl (g, .lst (gs.map .int)) (by simp)
   match ws, h2, rs with
   | [(k1, v1), (k2, v2), (k3, v3), (k4, v4), (k5, v5)], h2, rs =>
     injection h2 with e1 h2
     injection h2 with e2 h2
     injection h2 with e3 h2
     injection h2 with e4 h2
     injection h2 with e5 _
     have e1 : k1 = .inr "great" := e1
     have e2 : k2 = .inr "rest" := e2
     have e3 : k3 = .inr "turn" := e3
     have e4 : k4 = .inr "seed" := e4
     have e5 : k5 = .inr "cells" := e5
     subst e1 e2 e3 e4 e5
     cases rs with
     | cons r1 rs =>
       cases rs with
       | cons r2 rs =>
         cases rs with
         | cons r3' rs =>
           cases rs with
           | cons r4 rs =>
             cases rs with
             | cons r5 rs =>
               cases r1; cases r2; cases r3'; cases r4
               cases r5 with
               | lst hn he hr =>
                 have ev := hr.ints
                 subst ev
                 have ev := r3.ints
                 subst ev
                 exact ⟨_, r, t, e, gs, cs, hn, h1, h3, he, k.hgs, k.hr, k.ht, k.htb, k.he, k.he2, k.hcs, k.hc1, k.hc2⟩
 · exact R.cl q (List.mem_cons_of_mem _ (List.mem_cons_of_mem _ hq))
theorem Rs.dct {κ : List (V × D)} {σ : St} {H : Hp} {p : Addr} {kvs : List (Key × D)} {ws : List (Key × V)} (R : Rs κ δ M σ H) (hp : H p = none) (e : ws.map (·.1) = kvs.map (·.1)) (r : Reps M.F H (ws.map (·.2)) (kvs.map (·.2))) : Rs κ δ ((p, .dct kvs) :: M) σ (upd H p (.dK ws)) :=
 R.add hp rfl ⟨ws, upd_same, e, r.fwd (Fwd.newC hp)⟩
theorem ws_stOpen {ts : TS} {s g : Addr} {b : Nat} (h : ∀ gs r t e cs, StOk b gs r t e cs → WS B ts δ ((s, .dct (stD g r t e cs)) :: (g, .lst (gs.map .int)) :: M) Ψ) : WS B ts δ ((s, .st g b) :: M) Ψ := fun κ σ H E hb R k => by
 obtain ⟨gs, r, t, e, cs, ok, R'⟩ := st_open R
 exact h gs r t e cs ok κ σ H E hb R' k
theorem Vw.stc {s g : Addr} {b : Nat} {gs : List Int} {r t e : Int} {cs : List Int} (ok : StOk b gs r t e cs) : Vw d ((s, .dct (stD g r t e cs)) :: (g, .lst (gs.map .int)) :: M) d ((s, .st g b) :: M) := fun _ _ _ _ _ R r' => ⟨st_close ok R, r'⟩
end
end Hl
namespace Hl
open PySem L2
section
variable {d : D} {P : Env' → Prop}
theorem se0 {x0 : Option D} {r : Env'} (h : P (some d :: r)) : Sets (x0 :: r) 0 d P := .of h
theorem se1 {x0 x1 : Option D} {r : Env'} (h : P (x0 :: some d :: r)) : Sets (x0 :: x1 :: r) 1 d P := .of h
theorem se2 {x0 x1 x2 : Option D} {r : Env'} (h : P (x0 :: x1 :: some d :: r)) : Sets (x0 :: x1 :: x2 :: r) 2 d P := .of h
theorem se3 {x0 x1 x2 x3 : Option D} {r : Env'} (h : P (x0 :: x1 :: x2 :: some d :: r)) : Sets (x0 :: x1 :: x2 :: x3 :: r) 3 d P := .of h
theorem se4 {x0 x1 x2 x3 x4 : Option D} {r : Env'} (h : P (x0 :: x1 :: x2 :: x3 :: some d :: r)) : Sets (x0 :: x1 :: x2 :: x3 :: x4 :: r) 4 d P := .of h
theorem se5 {x0 x1 x2 x3 x4 x5 : Option D} {r : Env'} (h : P (x0 :: x1 :: x2 :: x3 :: x4 :: some d :: r)) : Sets (x0 :: x1 :: x2 :: x3 :: x4 :: x5 :: r) 5 d P := .of h
theorem se6 {x0 x1 x2 x3 x4 x5 x6 : Option D} {r : Env'} (h : P (x0 :: x1 :: x2 :: x3 :: x4 :: x5 :: some d :: r)) : Sets (x0 :: x1 :: x2 :: x3 :: x4 :: x5 :: x6 :: r) 6 d P := .of h
theorem se7 {x0 x1 x2 x3 x4 x5 x6 x7 : Option D} {r : Env'} (h : P (x0 :: x1 :: x2 :: x3 :: x4 :: x5 :: x6 :: some d :: r)) : Sets (x0 :: x1 :: x2 :: x3 :: x4 :: x5 :: x6 :: x7 :: r) 7 d P := .of h
theorem se8 {x0 x1 x2 x3 x4 x5 x6 x7 x8 : Option D} {r : Env'} (h : P (x0 :: x1 :: x2 :: x3 :: x4 :: x5 :: x6 :: x7 :: some d :: r)) : Sets (x0 :: x1 :: x2 :: x3 :: x4 :: x5 :: x6 :: x7 :: x8 :: r) 8 d P := .of h
theorem se9 {x0 x1 x2 x3 x4 x5 x6 x7 x8 x9 : Option D} {r : Env'} (h : P (x0 :: x1 :: x2 :: x3 :: x4 :: x5 :: x6 :: x7 :: x8 :: some d :: r)) : Sets (x0 :: x1 :: x2 :: x3 :: x4 :: x5 :: x6 :: x7 :: x8 :: x9 :: r) 9 d P := .of h
theorem se10 {x0 x1 x2 x3 x4 x5 x6 x7 x8 x9 x10 : Option D} {r : Env'} (h : P (x0 :: x1 :: x2 :: x3 :: x4 :: x5 :: x6 :: x7 :: x8 :: x9 :: some d :: r)) : Sets (x0 :: x1 :: x2 :: x3 :: x4 :: x5 :: x6 :: x7 :: x8 :: x9 :: x10 :: r) 10 d P := .of h
theorem se11 {x0 x1 x2 x3 x4 x5 x6 x7 x8 x9 x10 x11 : Option D} {r : Env'} (h : P (x0 :: x1 :: x2 :: x3 :: x4 :: x5 :: x6 :: x7 :: x8 :: x9 :: x10 :: some d :: r)) : Sets (x0 :: x1 :: x2 :: x3 :: x4 :: x5 :: x6 :: x7 :: x8 :: x9 :: x10 :: x11 :: r) 11 d P := .of h
theorem se12 {x0 x1 x2 x3 x4 x5 x6 x7 x8 x9 x10 x11 x12 : Option D} {r : Env'} (h : P (x0 :: x1 :: x2 :: x3 :: x4 :: x5 :: x6 :: x7 :: x8 :: x9 :: x10 :: x11 :: some d :: r)) : Sets (x0 :: x1 :: x2 :: x3 :: x4 :: x5 :: x6 :: x7 :: x8 :: x9 :: x10 :: x11 :: x12 :: r) 12 d P := .of h
theorem se13 {x0 x1 x2 x3 x4 x5 x6 x7 x8 x9 x10 x11 x12 x13 : Option D} {r : Env'} (h : P (x0 :: x1 :: x2 :: x3 :: x4 :: x5 :: x6 :: x7 :: x8 :: x9 :: x10 :: x11 :: x12 :: some d :: r)) : Sets (x0 :: x1 :: x2 :: x3 :: x4 :: x5 :: x6 :: x7 :: x8 :: x9 :: x10 :: x11 :: x12 :: x13 :: r) 13 d P := .of h
theorem se14 {x0 x1 x2 x3 x4 x5 x6 x7 x8 x9 x10 x11 x12 x13 x14 : Option D} {r : Env'} (h : P (x0 :: x1 :: x2 :: x3 :: x4 :: x5 :: x6 :: x7 :: x8 :: x9 :: x10 :: x11 :: x12 :: x13 :: some d :: r)) : Sets (x0 :: x1 :: x2 :: x3 :: x4 :: x5 :: x6 :: x7 :: x8 :: x9 :: x10 :: x11 :: x12 :: x13 :: x14 :: r) 14 d P := .of h
theorem se15 {x0 x1 x2 x3 x4 x5 x6 x7 x8 x9 x10 x11 x12 x13 x14 x15 : Option D} {r : Env'} (h : P (x0 :: x1 :: x2 :: x3 :: x4 :: x5 :: x6 :: x7 :: x8 :: x9 :: x10 :: x11 :: x12 :: x13 :: x14 :: some d :: r)) : Sets (x0 :: x1 :: x2 :: x3 :: x4 :: x5 :: x6 :: x7 :: x8 :: x9 :: x10 :: x11 :: x12 :: x13 :: x14 :: x15 :: r) 15 d P := .of h
theorem se16 {x0 x1 x2 x3 x4 x5 x6 x7 x8 x9 x10 x11 x12 x13 x14 x15 x16 : Option D} {r : Env'} (h : P (x0 :: x1 :: x2 :: x3 :: x4 :: x5 :: x6 :: x7 :: x8 :: x9 :: x10 :: x11 :: x12 :: x13 :: x14 :: x15 :: some d :: r)) : Sets (x0 :: x1 :: x2 :: x3 :: x4 :: x5 :: x6 :: x7 :: x8 :: x9 :: x10 :: x11 :: x12 :: x13 :: x14 :: x15 :: x16 :: r) 16 d P := .of h
theorem se17 {x0 x1 x2 x3 x4 x5 x6 x7 x8 x9 x10 x11 x12 x13 x14 x15 x16 x17 : Option D} {r : Env'} (h : P (x0 :: x1 :: x2 :: x3 :: x4 :: x5 :: x6 :: x7 :: x8 :: x9 :: x10 :: x11 :: x12 :: x13 :: x14 :: x15 :: x16 :: some d :: r)) : Sets (x0 :: x1 :: x2 :: x3 :: x4 :: x5 :: x6 :: x7 :: x8 :: x9 :: x10 :: x11 :: x12 :: x13 :: x14 :: x15 :: x16 :: x17 :: r) 17 d P := .of h
theorem se18 {x0 x1 x2 x3 x4 x5 x6 x7 x8 x9 x10 x11 x12 x13 x14 x15 x16 x17 x18 : Option D} {r : Env'} (h : P (x0 :: x1 :: x2 :: x3 :: x4 :: x5 :: x6 :: x7 :: x8 :: x9 :: x10 :: x11 :: x12 :: x13 :: x14 :: x15 :: x16 :: x17 :: some d :: r)) : Sets (x0 :: x1 :: x2 :: x3 :: x4 :: x5 :: x6 :: x7 :: x8 :: x9 :: x10 :: x11 :: x12 :: x13 :: x14 :: x15 :: x16 :: x17 :: x18 :: r) 18 d P := .of h
theorem se19 {x0 x1 x2 x3 x4 x5 x6 x7 x8 x9 x10 x11 x12 x13 x14 x15 x16 x17 x18 x19 : Option D} {r : Env'} (h : P (x0 :: x1 :: x2 :: x3 :: x4 :: x5 :: x6 :: x7 :: x8 :: x9 :: x10 :: x11 :: x12 :: x13 :: x14 :: x15 :: x16 :: x17 :: x18 :: some d :: r)) : Sets (x0 :: x1 :: x2 :: x3 :: x4 :: x5 :: x6 :: x7 :: x8 :: x9 :: x10 :: x11 :: x12 :: x13 :: x14 :: x15 :: x16 :: x17 :: x18 :: x19 :: r) 19 d P := .of h
theorem se20 {x0 x1 x2 x3 x4 x5 x6 x7 x8 x9 x10 x11 x12 x13 x14 x15 x16 x17 x18 x19 x20 : Option D} {r : Env'} (h : P (x0 :: x1 :: x2 :: x3 :: x4 :: x5 :: x6 :: x7 :: x8 :: x9 :: x10 :: x11 :: x12 :: x13 :: x14 :: x15 :: x16 :: x17 :: x18 :: x19 :: some d :: r)) : Sets (x0 :: x1 :: x2 :: x3 :: x4 :: x5 :: x6 :: x7 :: x8 :: x9 :: x10 :: x11 :: x12 :: x13 :: x14 :: x15 :: x16 :: x17 :: x18 :: x19 :: x20 :: r) 20 d P := .of h
theorem se21 {x0 x1 x2 x3 x4 x5 x6 x7 x8 x9 x10 x11 x12 x13 x14 x15 x16 x17 x18 x19 x20 x21 : Option D} {r : Env'} (h : P (x0 :: x1 :: x2 :: x3 :: x4 :: x5 :: x6 :: x7 :: x8 :: x9 :: x10 :: x11 :: x12 :: x13 :: x14 :: x15 :: x16 :: x17 :: x18 :: x19 :: x20 :: some d :: r)) : Sets (x0 :: x1 :: x2 :: x3 :: x4 :: x5 :: x6 :: x7 :: x8 :: x9 :: x10 :: x11 :: x12 :: x13 :: x14 :: x15 :: x16 :: x17 :: x18 :: x19 :: x20 :: x21 :: r) 21 d P := .of h
theorem se22 {x0 x1 x2 x3 x4 x5 x6 x7 x8 x9 x10 x11 x12 x13 x14 x15 x16 x17 x18 x19 x20 x21 x22 : Option D} {r : Env'} (h : P (x0 :: x1 :: x2 :: x3 :: x4 :: x5 :: x6 :: x7 :: x8 :: x9 :: x10 :: x11 :: x12 :: x13 :: x14 :: x15 :: x16 :: x17 :: x18 :: x19 :: x20 :: x21 :: some d :: r)) : Sets (x0 :: x1 :: x2 :: x3 :: x4 :: x5 :: x6 :: x7 :: x8 :: x9 :: x10 :: x11 :: x12 :: x13 :: x14 :: x15 :: x16 :: x17 :: x18 :: x19 :: x20 :: x21 :: x22 :: r) 22 d P := .of h
theorem se23 {x0 x1 x2 x3 x4 x5 x6 x7 x8 x9 x10 x11 x12 x13 x14 x15 x16 x17 x18 x19 x20 x21 x22 x23 : Option D} {r : Env'} (h : P (x0 :: x1 :: x2 :: x3 :: x4 :: x5 :: x6 :: x7 :: x8 :: x9 :: x10 :: x11 :: x12 :: x13 :: x14 :: x15 :: x16 :: x17 :: x18 :: x19 :: x20 :: x21 :: x22 :: some d :: r)) : Sets (x0 :: x1 :: x2 :: x3 :: x4 :: x5 :: x6 :: x7 :: x8 :: x9 :: x10 :: x11 :: x12 :: x13 :: x14 :: x15 :: x16 :: x17 :: x18 :: x19 :: x20 :: x21 :: x22 :: x23 :: r) 23 d P := .of h
theorem se24 {x0 x1 x2 x3 x4 x5 x6 x7 x8 x9 x10 x11 x12 x13 x14 x15 x16 x17 x18 x19 x20 x21 x22 x23 x24 : Option D} {r : Env'} (h : P (x0 :: x1 :: x2 :: x3 :: x4 :: x5 :: x6 :: x7 :: x8 :: x9 :: x10 :: x11 :: x12 :: x13 :: x14 :: x15 :: x16 :: x17 :: x18 :: x19 :: x20 :: x21 :: x22 :: x23 :: some d :: r)) : Sets (x0 :: x1 :: x2 :: x3 :: x4 :: x5 :: x6 :: x7 :: x8 :: x9 :: x10 :: x11 :: x12 :: x13 :: x14 :: x15 :: x16 :: x17 :: x18 :: x19 :: x20 :: x21 :: x22 :: x23 :: x24 :: r) 24 d P := .of h
theorem se25 {x0 x1 x2 x3 x4 x5 x6 x7 x8 x9 x10 x11 x12 x13 x14 x15 x16 x17 x18 x19 x20 x21 x22 x23 x24 x25 : Option D} {r : Env'} (h : P (x0 :: x1 :: x2 :: x3 :: x4 :: x5 :: x6 :: x7 :: x8 :: x9 :: x10 :: x11 :: x12 :: x13 :: x14 :: x15 :: x16 :: x17 :: x18 :: x19 :: x20 :: x21 :: x22 :: x23 :: x24 :: some d :: r)) : Sets (x0 :: x1 :: x2 :: x3 :: x4 :: x5 :: x6 :: x7 :: x8 :: x9 :: x10 :: x11 :: x12 :: x13 :: x14 :: x15 :: x16 :: x17 :: x18 :: x19 :: x20 :: x21 :: x22 :: x23 :: x24 :: x25 :: r) 25 d P := .of h
theorem se26 {x0 x1 x2 x3 x4 x5 x6 x7 x8 x9 x10 x11 x12 x13 x14 x15 x16 x17 x18 x19 x20 x21 x22 x23 x24 x25 x26 : Option D} {r : Env'} (h : P (x0 :: x1 :: x2 :: x3 :: x4 :: x5 :: x6 :: x7 :: x8 :: x9 :: x10 :: x11 :: x12 :: x13 :: x14 :: x15 :: x16 :: x17 :: x18 :: x19 :: x20 :: x21 :: x22 :: x23 :: x24 :: x25 :: some d :: r)) : Sets (x0 :: x1 :: x2 :: x3 :: x4 :: x5 :: x6 :: x7 :: x8 :: x9 :: x10 :: x11 :: x12 :: x13 :: x14 :: x15 :: x16 :: x17 :: x18 :: x19 :: x20 :: x21 :: x22 :: x23 :: x24 :: x25 :: x26 :: r) 26 d P := .of h
theorem se27 {x0 x1 x2 x3 x4 x5 x6 x7 x8 x9 x10 x11 x12 x13 x14 x15 x16 x17 x18 x19 x20 x21 x22 x23 x24 x25 x26 x27 : Option D} {r : Env'} (h : P (x0 :: x1 :: x2 :: x3 :: x4 :: x5 :: x6 :: x7 :: x8 :: x9 :: x10 :: x11 :: x12 :: x13 :: x14 :: x15 :: x16 :: x17 :: x18 :: x19 :: x20 :: x21 :: x22 :: x23 :: x24 :: x25 :: x26 :: some d :: r)) : Sets (x0 :: x1 :: x2 :: x3 :: x4 :: x5 :: x6 :: x7 :: x8 :: x9 :: x10 :: x11 :: x12 :: x13 :: x14 :: x15 :: x16 :: x17 :: x18 :: x19 :: x20 :: x21 :: x22 :: x23 :: x24 :: x25 :: x26 :: x27 :: r) 27 d P := .of h
theorem se28 {x0 x1 x2 x3 x4 x5 x6 x7 x8 x9 x10 x11 x12 x13 x14 x15 x16 x17 x18 x19 x20 x21 x22 x23 x24 x25 x26 x27 x28 : Option D} {r : Env'} (h : P (x0 :: x1 :: x2 :: x3 :: x4 :: x5 :: x6 :: x7 :: x8 :: x9 :: x10 :: x11 :: x12 :: x13 :: x14 :: x15 :: x16 :: x17 :: x18 :: x19 :: x20 :: x21 :: x22 :: x23 :: x24 :: x25 :: x26 :: x27 :: some d :: r)) : Sets (x0 :: x1 :: x2 :: x3 :: x4 :: x5 :: x6 :: x7 :: x8 :: x9 :: x10 :: x11 :: x12 :: x13 :: x14 :: x15 :: x16 :: x17 :: x18 :: x19 :: x20 :: x21 :: x22 :: x23 :: x24 :: x25 :: x26 :: x27 :: x28 :: r) 28 d P := .of h
theorem se29 {x0 x1 x2 x3 x4 x5 x6 x7 x8 x9 x10 x11 x12 x13 x14 x15 x16 x17 x18 x19 x20 x21 x22 x23 x24 x25 x26 x27 x28 x29 : Option D} {r : Env'} (h : P (x0 :: x1 :: x2 :: x3 :: x4 :: x5 :: x6 :: x7 :: x8 :: x9 :: x10 :: x11 :: x12 :: x13 :: x14 :: x15 :: x16 :: x17 :: x18 :: x19 :: x20 :: x21 :: x22 :: x23 :: x24 :: x25 :: x26 :: x27 :: x28 :: some d :: r)) : Sets (x0 :: x1 :: x2 :: x3 :: x4 :: x5 :: x6 :: x7 :: x8 :: x9 :: x10 :: x11 :: x12 :: x13 :: x14 :: x15 :: x16 :: x17 :: x18 :: x19 :: x20 :: x21 :: x22 :: x23 :: x24 :: x25 :: x26 :: x27 :: x28 :: x29 :: r) 29 d P := .of h
theorem se30 {x0 x1 x2 x3 x4 x5 x6 x7 x8 x9 x10 x11 x12 x13 x14 x15 x16 x17 x18 x19 x20 x21 x22 x23 x24 x25 x26 x27 x28 x29 x30 : Option D} {r : Env'} (h : P (x0 :: x1 :: x2 :: x3 :: x4 :: x5 :: x6 :: x7 :: x8 :: x9 :: x10 :: x11 :: x12 :: x13 :: x14 :: x15 :: x16 :: x17 :: x18 :: x19 :: x20 :: x21 :: x22 :: x23 :: x24 :: x25 :: x26 :: x27 :: x28 :: x29 :: some d :: r)) : Sets (x0 :: x1 :: x2 :: x3 :: x4 :: x5 :: x6 :: x7 :: x8 :: x9 :: x10 :: x11 :: x12 :: x13 :: x14 :: x15 :: x16 :: x17 :: x18 :: x19 :: x20 :: x21 :: x22 :: x23 :: x24 :: x25 :: x26 :: x27 :: x28 :: x29 :: x30 :: r) 30 d P := .of h
theorem se31 {x0 x1 x2 x3 x4 x5 x6 x7 x8 x9 x10 x11 x12 x13 x14 x15 x16 x17 x18 x19 x20 x21 x22 x23 x24 x25 x26 x27 x28 x29 x30 x31 : Option D} {r : Env'} (h : P (x0 :: x1 :: x2 :: x3 :: x4 :: x5 :: x6 :: x7 :: x8 :: x9 :: x10 :: x11 :: x12 :: x13 :: x14 :: x15 :: x16 :: x17 :: x18 :: x19 :: x20 :: x21 :: x22 :: x23 :: x24 :: x25 :: x26 :: x27 :: x28 :: x29 :: x30 :: some d :: r)) : Sets (x0 :: x1 :: x2 :: x3 :: x4 :: x5 :: x6 :: x7 :: x8 :: x9 :: x10 :: x11 :: x12 :: x13 :: x14 :: x15 :: x16 :: x17 :: x18 :: x19 :: x20 :: x21 :: x22 :: x23 :: x24 :: x25 :: x26 :: x27 :: x28 :: x29 :: x30 :: x31 :: r) 31 d P := .of h
theorem se32 {x0 x1 x2 x3 x4 x5 x6 x7 x8 x9 x10 x11 x12 x13 x14 x15 x16 x17 x18 x19 x20 x21 x22 x23 x24 x25 x26 x27 x28 x29 x30 x31 x32 : Option D} {r : Env'} (h : P (x0 :: x1 :: x2 :: x3 :: x4 :: x5 :: x6 :: x7 :: x8 :: x9 :: x10 :: x11 :: x12 :: x13 :: x14 :: x15 :: x16 :: x17 :: x18 :: x19 :: x20 :: x21 :: x22 :: x23 :: x24 :: x25 :: x26 :: x27 :: x28 :: x29 :: x30 :: x31 :: some d :: r)) : Sets (x0 :: x1 :: x2 :: x3 :: x4 :: x5 :: x6 :: x7 :: x8 :: x9 :: x10 :: x11 :: x12 :: x13 :: x14 :: x15 :: x16 :: x17 :: x18 :: x19 :: x20 :: x21 :: x22 :: x23 :: x24 :: x25 :: x26 :: x27 :: x28 :: x29 :: x30 :: x31 :: x32 :: r) 32 d P := .of h
theorem se33 {x0 x1 x2 x3 x4 x5 x6 x7 x8 x9 x10 x11 x12 x13 x14 x15 x16 x17 x18 x19 x20 x21 x22 x23 x24 x25 x26 x27 x28 x29 x30 x31 x32 x33 : Option D} {r : Env'} (h : P (x0 :: x1 :: x2 :: x3 :: x4 :: x5 :: x6 :: x7 :: x8 :: x9 :: x10 :: x11 :: x12 :: x13 :: x14 :: x15 :: x16 :: x17 :: x18 :: x19 :: x20 :: x21 :: x22 :: x23 :: x24 :: x25 :: x26 :: x27 :: x28 :: x29 :: x30 :: x31 :: x32 :: some d :: r)) : Sets (x0 :: x1 :: x2 :: x3 :: x4 :: x5 :: x6 :: x7 :: x8 :: x9 :: x10 :: x11 :: x12 :: x13 :: x14 :: x15 :: x16 :: x17 :: x18 :: x19 :: x20 :: x21 :: x22 :: x23 :: x24 :: x25 :: x26 :: x27 :: x28 :: x29 :: x30 :: x31 :: x32 :: x33 :: r) 33 d P := .of h
theorem se34 {x0 x1 x2 x3 x4 x5 x6 x7 x8 x9 x10 x11 x12 x13 x14 x15 x16 x17 x18 x19 x20 x21 x22 x23 x24 x25 x26 x27 x28 x29 x30 x31 x32 x33 x34 : Option D} {r : Env'} (h : P (x0 :: x1 :: x2 :: x3 :: x4 :: x5 :: x6 :: x7 :: x8 :: x9 :: x10 :: x11 :: x12 :: x13 :: x14 :: x15 :: x16 :: x17 :: x18 :: x19 :: x20 :: x21 :: x22 :: x23 :: x24 :: x25 :: x26 :: x27 :: x28 :: x29 :: x30 :: x31 :: x32 :: x33 :: some d :: r)) : Sets (x0 :: x1 :: x2 :: x3 :: x4 :: x5 :: x6 :: x7 :: x8 :: x9 :: x10 :: x11 :: x12 :: x13 :: x14 :: x15 :: x16 :: x17 :: x18 :: x19 :: x20 :: x21 :: x22 :: x23 :: x24 :: x25 :: x26 :: x27 :: x28 :: x29 :: x30 :: x31 :: x32 :: x33 :: x34 :: r) 34 d P := .of h
theorem se35 {x0 x1 x2 x3 x4 x5 x6 x7 x8 x9 x10 x11 x12 x13 x14 x15 x16 x17 x18 x19 x20 x21 x22 x23 x24 x25 x26 x27 x28 x29 x30 x31 x32 x33 x34 x35 : Option D} {r : Env'} (h : P (x0 :: x1 :: x2 :: x3 :: x4 :: x5 :: x6 :: x7 :: x8 :: x9 :: x10 :: x11 :: x12 :: x13 :: x14 :: x15 :: x16 :: x17 :: x18 :: x19 :: x20 :: x21 :: x22 :: x23 :: x24 :: x25 :: x26 :: x27 :: x28 :: x29 :: x30 :: x31 :: x32 :: x33 :: x34 :: some d :: r)) : Sets (x0 :: x1 :: x2 :: x3 :: x4 :: x5 :: x6 :: x7 :: x8 :: x9 :: x10 :: x11 :: x12 :: x13 :: x14 :: x15 :: x16 :: x17 :: x18 :: x19 :: x20 :: x21 :: x22 :: x23 :: x24 :: x25 :: x26 :: x27 :: x28 :: x29 :: x30 :: x31 :: x32 :: x33 :: x34 :: x35 :: r) 35 d P := .of h
end
section
variable {B : Bx} {X : Cx} {K : PySem.W.Frag} {M : Mem} {Φ : D → Mem → Prop} {Φ' : Mem → Prop} {s g : Addr} {r t e r' t' e' : Int} {cs : List Int}
theorem st_great (k : Φ (.raw (.ref g)) ((s, .dct (stD g r t e cs)) :: M)) : OpD (rIxU K) (.raw (.ref s)) (.str "great") ((s, .dct (stD g r t e cs)) :: M) Φ := od_ixD (k := .inr "great") 0 rfl rfl rfl k
theorem st_rest (k : Φ (.int r) ((s, .dct (stD g r t e cs)) :: M)) : OpD (rIxU K) (.raw (.ref s)) (.str "rest") ((s, .dct (stD g r t e cs)) :: M) Φ := od_ixD (k := .inr "rest") 0 rfl rfl rfl k
theorem st_turn (k : Φ (.int t) ((s, .dct (stD g r t e cs)) :: M)) : OpD (rIxU K) (.raw (.ref s)) (.str "turn") ((s, .dct (stD g r t e cs)) :: M) Φ := od_ixD (k := .inr "turn") 0 rfl rfl rfl k
theorem st_seed (k : Φ (.int e) ((s, .dct (stD g r t e cs)) :: M)) : OpD (rIxU K) (.raw (.ref s)) (.str "seed") ((s, .dct (stD g r t e cs)) :: M) Φ := od_ixD (k := .inr "seed") 0 rfl rfl rfl k
theorem st_cells (k : Φ (.lst (cs.map .int)) ((s, .dct (stD g r t e cs)) :: M)) : OpD (rIxU K) (.raw (.ref s)) (.str "cells") ((s, .dct (stD g r t e cs)) :: M) Φ := od_ixD (k := .inr "cells") 0 rfl rfl rfl k
theorem set_rest (k : Φ' ((s, .dct (stD g r' t e cs)) :: M)) : SetD (.raw (.ref s)) (.str "rest") (.int r') ((s, .dct (stD g r t e cs)) :: M) Φ' := sd_dict (k := .inr "rest") 0 rfl rfl (by show 5 < sizeLine; decide) k
theorem set_turn (k : Φ' ((s, .dct (stD g r t' e cs)) :: M)) : SetD (.raw (.ref s)) (.str "turn") (.int t') ((s, .dct (stD g r t e cs)) :: M) Φ' := sd_dict (k := .inr "turn") 0 rfl rfl (by show 5 < sizeLine; decide) k
theorem set_seed (k : Φ' ((s, .dct (stD g r t e' cs)) :: M)) : SetD (.raw (.ref s)) (.str "seed") (.int e') ((s, .dct (stD g r t e cs)) :: M) Φ' := sd_dict (k := .inr "seed") 0 rfl rfl (by show 5 < sizeLine; decide) k
theorem at_int {cs : List Int} {i : Int} (h0 : 0 ≤ i) (h1 : i < cs.length) : ∃ c, c ∈ cs ∧ atI (cs.map D.int) i = some (.int c) := by
 have hl : i.toNat < cs.length := by omega
 refine ⟨cs[i.toNat], List.getElem_mem hl, ?_⟩
 unfold atI ixN
 rw [if_pos h0, if_pos (by rw [List.length_map]; exact h1)]
 show (cs.map D.int)[i.toNat]? = _
 rw [List.getElem?_map, List.getElem?_eq_getElem hl]; rfl
end
section
variable {B : Bx} {X : Cx} {e a b c o v : Expr} {es : List Expr} {st : Stmt} {sts : List Stmt} {δ : Env'} {M : Mem} {Φ : D → Mem → Prop} {Ψ : DEnds} {ΦB : Bool → Mem → Prop} {ΦL : List D → Mem → Prop} {ΦM : Mem → Prop} {ΦE : Env' → Mem → Prop} {d x y : D} {pos : Pos}
theorem idE (h : DE B X e δ M Φ) : DE B X e δ M Φ := h
theorem idName {n : Str} (h : DE B X (.Name n pos) δ M Φ) : DE B X (.Name n pos) δ M Φ := h
theorem idCst {n : Const} {j} (h : DE B X (.Constant n j pos) δ M Φ) : DE B X (.Constant n j pos) δ M Φ := h
theorem idBin {op} (h : DE B X (.BinOp a op b pos) δ M Φ) : DE B X (.BinOp a op b pos) δ M Φ := h
theorem idCmp {ops bs} (h : DE B X (.Compare a ops bs pos) δ M Φ) : DE B X (.Compare a ops bs pos) δ M Φ := h
theorem idCallN {n : Str} {p ks} (h : DE B X (.Call (.Name n p) es ks pos) δ M Φ) : DE B X (.Call (.Name n p) es ks pos) δ M Φ := h
theorem idCallA {n : Str} {p ks} (h : DE B X (.Call (.Attribute o n p) es ks pos) δ M Φ) : DE B X (.Call (.Attribute o n p) es ks pos) δ M Φ := h
theorem idA (h : DA B X es δ M ΦL) : DA B X es δ M ΦL := h
theorem idT (h : DT B X e δ M ΦB) : DT B X e δ M ΦB := h
theorem idTC {ops bs} (h : DT B X (.Compare a ops bs pos) δ M ΦB) : DT B X (.Compare a ops bs pos) δ M ΦB := h
theorem idW (h : DW B X e δ M ΦB) : DW B X e δ M ΦB := h
theorem idS (h : DS B X st δ M Ψ) : DS B X st δ M Ψ := h
theorem idAsg {t} (h : DS B X (.Assign t e pos) δ M Ψ) : DS B X (.Assign t e pos) δ M Ψ := h
theorem idSs (h : DSs B X sts δ M Ψ) : DSs B X sts δ M Ψ := h
theorem idG (h : DG B X e d δ M ΦE) : DG B X e d δ M ΦE := h
theorem idGs {ds : List D} (h : DGs B X es ds δ M ΦE) : DGs B X es ds δ M ΦE := h
theorem idO {r : R2} (h : OpD r x y M Φ) : OpD r x y M Φ := h
theorem idOx {K : PySem.W.Frag} (h : OpD (rIxU K) x y M Φ) : OpD (rIxU K) x y M Φ := h
theorem idC {r : List V → Hp → VK → Prop} {ds : List D} (h : CallD r ds M Φ) : CallD r ds M Φ := h
theorem idSet (h : SetD x y d M ΦM) : SetD x y d M ΦM := h
theorem idSl {i : Nat} {P : Env' → Prop} (h : Sets δ i d P) : Sets δ i d P := h
theorem idBr {b : Bool} {P Q : Prop} (h : Br b P Q) : Br b P Q := h
end
section
variable {M : Mem} {Φ : D → Mem → Prop} {i j : Int}
theorem od_mulS (h : (-(2 ^ 64) < i ∧ i < 2 ^ 64) ∨ (-(2 ^ 64) < j ∧ j < 2 ^ 64)) (k : Φ (.int (i * j)) M) : OpD rMulU (.int i) (.int j) M Φ := od_mul h k
theorem log2_small {j : Int} (h : 0 < j) (h2 : j < 2 ^ 1000) : j.natAbs.log2 < 9000 := by
 have : j.natAbs < 2 ^ 1000 := by omega
 exact Nat.lt_trans (PySem.Flt.log2_lt_of (by decide) this) (by decide)
theorem od_divS (h : 0 < j) (h2 : j < 2 ^ 1000) (k : Φ (.int (i / j)) M) : OpD rDivU (.int i) (.int j) M Φ := od_div ⟨h, log2_small h h2⟩ k
theorem p10_1 (k : Φ (.int 10) M) : OpD rPowU (.int 10) (.int 1) M Φ := od_pow ⟨by decide, by decide, by decide⟩ k
theorem p10_2 (k : Φ (.int 100) M) : OpD rPowU (.int 10) (.int 2) M Φ := od_pow ⟨by decide, by decide, by decide⟩ k
theorem p10_3 (k : Φ (.int 1000) M) : OpD rPowU (.int 10) (.int 3) M Φ := od_pow ⟨by decide, by decide, by decide⟩ k
theorem p10_4 (k : Φ (.int 10000) M) : OpD rPowU (.int 10) (.int 4) M Φ := od_pow ⟨by decide, by decide, by decide⟩ k
theorem p10_5 (k : Φ (.int 100000) M) : OpD rPowU (.int 10) (.int 5) M Φ := od_pow ⟨by decide, by decide, by decide⟩ k
theorem p10_6 (k : Φ (.int 1000000) M) : OpD rPowU (.int 10) (.int 6) M Φ := od_pow ⟨by decide, by decide, by decide⟩ k
theorem p10_7 (k : Φ (.int 10000000) M) : OpD rPowU (.int 10) (.int 7) M Φ := od_pow ⟨by decide, by decide, by decide⟩ k
theorem p10_8 (k : Φ (.int 100000000) M) : OpD rPowU (.int 10) (.int 8) M Φ := od_pow ⟨by decide, by decide, by decide⟩ k
theorem p10_9 (k : Φ (.int 1000000000) M) : OpD rPowU (.int 10) (.int 9) M Φ := od_pow ⟨by decide, by decide, by decide⟩ k
theorem p10_10 (k : Φ (.int 10000000000) M) : OpD rPowU (.int 10) (.int 10) M Φ := od_pow ⟨by decide, by decide, by decide⟩ k
theorem p10_11 (k : Φ (.int 100000000000) M) : OpD rPowU (.int 10) (.int 11) M Φ := od_pow ⟨by decide, by decide, by decide⟩ k
theorem p10_12 (k : Φ (.int 1000000000000) M) : OpD rPowU (.int 10) (.int 12) M Φ := od_pow ⟨by decide, by decide, by decide⟩ k
theorem p10_13 (k : Φ (.int 10000000000000) M) : OpD rPowU (.int 10) (.int 13) M Φ := od_pow ⟨by decide, by decide, by decide⟩ k
theorem p10_14 (k : Φ (.int 100000000000000) M) : OpD rPowU (.int 10) (.int 14) M Φ := od_pow ⟨by decide, by decide, by decide⟩ k
theorem p10_15 (k : Φ (.int 1000000000000000) M) : OpD rPowU (.int 10) (.int 15) M Φ := od_pow ⟨by decide, by decide, by decide⟩ k
theorem p10_16 (k : Φ (.int 10000000000000000) M) : OpD rPowU (.int 10) (.int 16) M Φ := od_pow ⟨by decide, by decide, by decide⟩ k
theorem p10_17 (k : Φ (.int 100000000000000000) M) : OpD rPowU (.int 10) (.int 17) M Φ := od_pow ⟨by decide, by decide, by decide⟩ k
theorem p10_18 (k : Φ (.int 1000000000000000000) M) : OpD rPowU (.int 10) (.int 18) M Φ := od_pow ⟨by decide, by decide, by decide⟩ k
theorem p10_19 (k : Φ (.int 10000000000000000000) M) : OpD rPowU (.int 10) (.int 19) M Φ := od_pow ⟨by decide, by decide, by decide⟩ k
theorem p10_20 (k : Φ (.int 100000000000000000000) M) : OpD rPowU (.int 10) (.int 20) M Φ := od_pow ⟨by decide, by decide, by decide⟩ k
theorem p10_21 (k : Φ (.int 1000000000000000000000) M) : OpD rPowU (.int 10) (.int 21) M Φ := od_pow ⟨by decide, by decide, by decide⟩ k
theorem p10_22 (k : Φ (.int 10000000000000000000000) M) : OpD rPowU (.int 10) (.int 22) M Φ := od_pow ⟨by decide, by decide, by decide⟩ k
theorem p10_23 (k : Φ (.int 100000000000000000000000) M) : OpD rPowU (.int 10) (.int 23) M Φ := od_pow ⟨by decide, by decide, by decide⟩ k
theorem p10_24 (k : Φ (.int 1000000000000000000000000) M) : OpD rPowU (.int 10) (.int 24) M Φ := od_pow ⟨by decide, by decide, by decide⟩ k
theorem p10_25 (k : Φ (.int 10000000000000000000000000) M) : OpD rPowU (.int 10) (.int 25) M Φ := od_pow ⟨by decide, by decide, by decide⟩ k
theorem p10_26 (k : Φ (.int 100000000000000000000000000) M) : OpD rPowU (.int 10) (.int 26) M Φ := od_pow ⟨by decide, by decide, by decide⟩ k
theorem p10_27 (k : Φ (.int 1000000000000000000000000000) M) : OpD rPowU (.int 10) (.int 27) M Φ := od_pow ⟨by decide, by decide, by decide⟩ k
theorem p10_28 (k : Φ (.int 10000000000000000000000000000) M) : OpD rPowU (.int 10) (.int 28) M Φ := od_pow ⟨by decide, by decide, by decide⟩ k
theorem p10_29 (k : Φ (.int 100000000000000000000000000000) M) : OpD rPowU (.int 10) (.int 29) M Φ := od_pow ⟨by decide, by decide, by decide⟩ k
theorem p10_30 (k : Φ (.int 1000000000000000000000000000000) M) : OpD rPowU (.int 10) (.int 30) M Φ := od_pow ⟨by decide, by decide, by decide⟩ k
theorem p10_31 (k : Φ (.int 10000000000000000000000000000000) M) : OpD rPowU (.int 10) (.int 31) M Φ := od_pow ⟨by decide, by decide, by decide⟩ k
theorem p10_32 (k : Φ (.int 100000000000000000000000000000000) M) : OpD rPowU (.int 10) (.int 32) M Φ := od_pow ⟨by decide, by decide, by decide⟩ k
theorem p10_33 (k : Φ (.int 1000000000000000000000000000000000) M) : OpD rPowU (.int 10) (.int 33) M Φ := od_pow ⟨by decide, by decide, by decide⟩ k
theorem p10_34 (k : Φ (.int 10000000000000000000000000000000000) M) : OpD rPowU (.int 10) (.int 34) M Φ := od_pow ⟨by decide, by decide, by decide⟩ k
theorem p10_35 (k : Φ (.int 100000000000000000000000000000000000) M) : OpD rPowU (.int 10) (.int 35) M Φ := od_pow ⟨by decide, by decide, by decide⟩ k
theorem p10_36 (k : Φ (.int 1000000000000000000000000000000000000) M) : OpD rPowU (.int 10) (.int 36) M Φ := od_pow ⟨by decide, by decide, by decide⟩ k
theorem p10_37 (k : Φ (.int 10000000000000000000000000000000000000) M) : OpD rPowU (.int 10) (.int 37) M Φ := od_pow ⟨by decide, by decide, by decide⟩ k
theorem p10_38 (k : Φ (.int 100000000000000000000000000000000000000) M) : OpD rPowU (.int 10) (.int 38) M Φ := od_pow ⟨by decide, by decide, by decide⟩ k
theorem p10_39 (k : Φ (.int 1000000000000000000000000000000000000000) M) : OpD rPowU (.int 10) (.int 39) M Φ := od_pow ⟨by decide, by decide, by decide⟩ k
theorem p10_40 (k : Φ (.int 10000000000000000000000000000000000000000) M) : OpD rPowU (.int 10) (.int 40) M Φ := od_pow ⟨by decide, by decide, by decide⟩ k
theorem p10_41 (k : Φ (.int 100000000000000000000000000000000000000000) M) : OpD rPowU (.int 10) (.int 41) M Φ := od_pow ⟨by decide, by decide, by decide⟩ k
theorem p10_42 (k : Φ (.int 1000000000000000000000000000000000000000000) M) : OpD rPowU (.int 10) (.int 42) M Φ := od_pow ⟨by decide, by decide, by decide⟩ k
theorem p10_43 (k : Φ (.int 10000000000000000000000000000000000000000000) M) : OpD rPowU (.int 10) (.int 43) M Φ := od_pow ⟨by decide, by decide, by decide⟩ k
theorem p10_44 (k : Φ (.int 100000000000000000000000000000000000000000000) M) : OpD rPowU (.int 10) (.int 44) M Φ := od_pow ⟨by decide, by decide, by decide⟩ k
theorem p10_45 (k : Φ (.int 1000000000000000000000000000000000000000000000) M) : OpD rPowU (.int 10) (.int 45) M Φ := od_pow ⟨by decide, by decide, by decide⟩ k
end
end Hl
namespace Hl
open PySem L2
section
variable {B : Bx} {X : Cx} {e a b c o : Expr} {es rest : List Expr} {st : Stmt} {sts : List Stmt} {δ δ' : Env'} {M : Mem} {Φ : D → Mem → Prop} {Ψ : DEnds} {te ta tb : TE} {tt : TT} {pos pos' apos : Pos} {d x y : D} {ΦB : Bool → Mem → Prop} {ΦL : List D → Mem → Prop}
theorem DE.own (k : Nat) (h : DF B X e δ M fun ds M' => ∀ p : Addr, Φ (.raw (.ref p)) (insM k (p, .lst ds) M')) : DE B X e δ M Φ := fun κ σ H Q hb R kk => h κ σ H Q hb R fun p ds M' H' q R' => kk _ _ _ _ (q p) (R'.perm insM_perm) (.raw _)
def DPs (B : Bx) (X : Cx) : List (Option Expr) → List Expr → Env' → Mem → (List (D × D) → Mem → Prop) → Prop
 | [], [], _, M, Φ => Φ [] M
 | some k :: ks, v :: vs, δ, M, Φ => DE B X k δ M fun x M1 => DE B X v δ M1 fun y M2 => DPs B X ks vs δ M2 fun ps M3 => Φ ((x, y) :: ps) M3
 | _, _, _, _, _ => False
def trsOf (X : Cx) : List (Option Expr) → List Expr → List (TE × TE)
 | some k :: ks, v :: vs => (tE X k, tE X v) :: trsOf X ks vs
 | _, _ => []
def isSomes : List (Option Expr) → List Expr → Bool
 | [], [] => true
 | some _ :: ks, _ :: vs => isSomes ks vs
 | _, _ => false
theorem pps_of : ∀ {ks : List (Option Expr)} {vs : List Expr}, isSomes ks vs = true → PPs X pos ks vs (trsOf X ks vs)
 | [], [], _ => pps_nil
 | some k :: ks, v :: vs, h => pps_cons cE cE (pps_of (ks := ks) (vs := vs) h)
 | [], _ :: _, h => by cases h
 | none :: _, _, h => by cases h
 | some _ :: _, [], h => by cases h
def PairRep (F : List Addr) (H : Hp) : List (V × V) → List (D × D) → Prop := Paired fun p q => Rep F H p.1 q.1 ∧ Rep F H p.2 q.2
theorem pairs_run : ∀ {ks : List (Option Expr)} {vs : List Expr} {M : Mem} {Φ : List (D × D) → Mem → Prop} {κ : List (V × D)} {σ : St} {H : Hp} {Q : List (V × V) → Hp → Prop}, DPs B X ks vs δ M Φ → (∀ q ∈ B.ps, q ∈ κ) → Rs κ δ M σ H →
   (∀ ps ds M' H', Φ ds M' → Rs κ δ M' σ H' → PairRep M'.F H' ps ds → Q ps H') → tPairs (trsOf X ks vs) σ H Q
 | [], [], _, _, _, _, _, _, h, hb, R, k => k [] [] _ _ h R .nil
 | some ke :: ks, v :: vs, M, Φ, κ, σ, H, Q, h, hb, R, k => by
   refine (show DE B X ke δ M _ from h) κ σ H _ hb R fun u x M1 H1 q1 R1 r1 => ?_
   refine q1 ((u, x) :: κ) σ H1 _ (fun q hq => List.mem_cons_of_mem _ (hb q hq)) (R1.push r1) fun w y M2 H2 q2 R2 r2 => ?_
   refine pairs_run q2 (fun q hq => List.mem_cons_of_mem _ (List.mem_cons_of_mem _ (hb q hq))) (R2.push r2) fun ps ds M3 H3 q3 R3 r3 => ?_
   exact k _ _ _ _ q3 R3.pop.pop (.cons ⟨R3.pop.top, R3.top⟩ r3)
 | [], _ :: _, _, _, _, _, _, _, h, _, _, _ => h.elim
 | none :: _, _, _, _, _, _, _, _, h, _, _, _ => by cases h
 | some _ :: _, [], _, _, _, _, _, _, h, _, _, _ => h.elim
def mergeD (kvs more : List (Key × D)) : List (Key × D) := more.foldl (fun acc kv => putD acc kv.1 kv.2) kvs
theorem pair_keys {F : List Addr} {H : Hp} : ∀ {ps : List (V × V)} {kvs : List (Key × D)}, PairRep F H ps (kvs.map fun kv => (kD kv.1, kv.2)) → ∃ ws : List (Key × V), ps = ws.map (fun kv => (kV kv.1, kv.2)) ∧ ws.map (·.1) = kvs.map (·.1) ∧ Reps F H (ws.map (·.2)) (kvs.map (·.2))
 | _, [], .nil => ⟨[], rfl, rfl, .nil⟩
 | (v1, v2) :: ps, (k, d) :: kvs, .cons ⟨r1, r2⟩ t => by
   obtain ⟨ws, e1, e2, r⟩ := pair_keys (kvs := kvs) t
   have := rep_k r1
   exact ⟨(k, v2) :: ws, by rw [e1]; show (v1, v2) :: _ = (kV k, v2) :: _; rw [show v1 = kV k from this], by simp [e2], .cons r2 r⟩
theorem merge_rep {F : List Addr} {H : Hp} : ∀ {ws : List (Key × V)} {kvs : List (Key × D)} {ws0 : List (Key × V)} {kvs0 : List (Key × D)}, ws.map (·.1) = kvs.map (·.1) → Reps F H (ws.map (·.2)) (kvs.map (·.2)) → ws0.map (·.1) = kvs0.map (·.1) → Reps F H (ws0.map (·.2)) (kvs0.map (·.2)) →
   (mergeK ws0 ws).map (·.1) = (mergeD kvs0 kvs).map (·.1) ∧ Reps F H ((mergeK ws0 ws).map (·.2)) ((mergeD kvs0 kvs).map (·.2))
 | [], [], _, _, _, _, h1, h2 => ⟨h1, h2⟩
 | [], _ :: _, _, _, h, _, _, _ => by cases h
 | _ :: _, [], _, _, h, _, _, _ => by cases h
 | (k1, v) :: ws, (k2, d) :: kvs, ws0, kvs0, h, r, h1, h2 => by
   have e1 : k1 = k2 := (List.cons.inj h).1
   have e2 : ws.map (·.1) = kvs.map (·.1) := (List.cons.inj h).2
   subst e1
   cases r with
   | cons r1 r2 => exact merge_rep (ws0 := putK ws0 k1 v) (kvs0 := putD kvs0 k1 d) e2 r2 (put_keys h1) (put_vals r1 h1 h2)
theorem de_disp {keys : List (Option Expr)} {values : List Expr} (k : Nat) (hi : isSomes keys values = true) (hall : keys.all (·.isSome) = true) (hl : keys.length = values.length) (h0 : keys ≠ []) (h15 : keys.length ≤ 15)
   (h : ∀ p, DPs B X keys values δ (insM k (p, .dct []) M) fun ps M2 => ∃ j kvs, M2[j]? = some (p, .dct []) ∧ ps = kvs.map (fun kv => (kD kv.1, kv.2)) ∧ kvs.length ≤ 15 ∧ Φ (.raw (.ref p)) (M2.set j (p, .dct (mergeD [] kvs)))) : DE B X (.Dict keys values pos) δ M Φ := by
 refine .of (pe_disp (pps_of hi) hall hl h0 h15) fun κ σ H Q hb R kk => ?_
 intro p hp
 have R1 : Rs κ δ (insM k (p, .dct []) M) σ (upd H p (.dK [])) := (R.dct (kvs := []) (ws := []) hp rfl .nil).perm insM_perm
 refine pairs_run (h p) hb R1 fun ps ds M2 H2 ⟨j, kvs, ej, ep, hk, q⟩ R2 r2 => ?_
 subst ep
 obtain ⟨ws0, e0, e1, r0⟩ := R2.at ej
 have hw : ws0 = [] := by cases ws0 with | nil => rfl | cons _ _ => cases e1
 subst hw
 obtain ⟨ws, ep, e2, rr⟩ := pair_keys r2
 refine ⟨e0, ws, ep, ?_, ?_⟩
 · have := congrArg List.length e2
   rw [List.length_map, List.length_map] at this
   omega
 · refine kk _ _ _ _ q ?_ (.raw _)
   obtain ⟨m1, m2⟩ := merge_rep (ws0 := []) (kvs0 := []) e2 rr rfl .nil
   have hpF : ∀ x, x ∉ M2.F → upd H2 p (.dK (mergeK [] ws)) x = H2 x := fun x hx => upd_ne fun z => hx (z ▸ R2.mem ej p (by simp [own]))
   exact R2.cell ej rfl (fun x hx => upd_ne (by simpa [own] using hx)) ⟨_, upd_same, m1, m2.fwd (Fwd.same hpF)⟩
theorem wd_scr {κ : List (V × D)} {a : Addr} {K : PySem.W.Frag} {ns : List Int} : WalkD ((.ref a, .scr K ns) :: κ) (ns.map .int) (Itl K a) := by
 have sq : ∀ {δ : Env'} {M : Mem} {σ : St} {H : Hp}, Rs ((.ref a, .scr K ns) :: κ) δ M σ H → SqL K H a (ns.map V.int) := fun R => by
   cases R.top with
   | scrH h e => exact .inl e
   | scrK h => exact h _
 exact {
   goes := fun i δ M σ H hi R => by
     rw [List.length_map] at hi
     exact ⟨_, .int ns[i], sq R, by simp [hi]⟩
   stops := fun δ M σ H R => ⟨_, sq R, by simp⟩
   yields := fun i δ M σ H x H' hi R y => by
     obtain ⟨rfl, y⟩ := y
     have := y _ (sq R)
     rw [List.getElem?_map] at this
     cases e : ns[i]? with
     | none => rw [e] at this; cases this
     | some n =>
       rw [e] at this
       have ex : V.int n = x := Option.some.inj this
       subst ex
       exact ⟨.int n, by rw [List.getElem?_map, e]; rfl, R, .int n⟩ }
theorem di_scr {tg iter : Expr} (h : DE B X iter δ M fun d M' => ∃ ns, d = .scr X.K ns ∧ ΦL (ns.map .int) M') : DI B X tg iter δ M ΦL := ⟨_, pi_list cE, fun κ σ H R hb Rr k => h κ σ H _ hb Rr fun v d M1 H1 ⟨ns, ed, q⟩ R1 r1 => by
 subst ed
 cases r1 with
 | scrH h e => exact ⟨_, rfl, ⟨_, .inl e⟩, k _ M1 H1 _ _ q (fun q hq => List.mem_cons_of_mem _ hq) (R1.push (.scrH h e)) wd_scr⟩
 | scrK h => exact ⟨_, rfl, ⟨_, h _⟩, k _ M1 H1 _ _ q (fun q hq => List.mem_cons_of_mem _ hq) (R1.push (.scrK h)) wd_scr⟩⟩
theorem LcH.pure {scope : Scope} {elt : Expr} {ifs : List Expr} {own : List (Str × Nat)} {tk : Tk} {xs : List D} {k : Nat} (F : D → Option D) (hl : xs.length ≤ sizeLine)
   (h : ∀ (p : Addr) acc x, x ∈ xs → ∃ δ2, bindK tk x (wipeD δ (own.map (·.2))) = some δ2 ∧ Turn1 B X scope elt ifs δ2 (insM k (p, .lst acc) M) fun od M2 => od = F x ∧ M2 = insM k (p, .lst acc) M)
   (q : ΦL (xs.filterMap F) M) : LcH k B X scope elt ifs own tk δ xs M ΦL := by
 refine ⟨fun i acc M1 => M1 = M ∧ acc = (xs.take i).filterMap F ∧ acc.length ≤ i, ⟨rfl, rfl, Nat.le_refl _⟩, ?_, ?_⟩
 · rintro p i x acc M1 hx ⟨rfl, ha, hal⟩
   have hi : i < xs.length := (List.getElem?_eq_some_iff.mp hx).1
   obtain ⟨δ2, e1, tu⟩ := h p acc x (List.mem_of_getElem? hx)
   have fin : ∀ (od : Option D) M2, od = F x ∧ M2 = insM k (p, .lst acc) M1 → ∃ M3, M2 = insM k (p, .lst acc) M3 ∧ M3 = M1 ∧ acc ++ od.toList = (xs.take (i + 1)).filterMap F ∧ (acc ++ od.toList).length ≤ i + 1 := by
     rintro od M2 ⟨rfl, rfl⟩
     refine ⟨M1, rfl, rfl, ?_, ?_⟩
     · rw [List.take_add_one, hx, List.filterMap_append, ← ha]
       cases e : F x <;> simp [e]
     · rw [List.length_append]
       cases F x <;> simp <;> omega
   refine ⟨by omega, δ2, e1, ?_⟩
   unfold Turn1 at tu ⊢
   match ifs, tu with
   | [], tu => exact fun X' bk => (tu X' bk).mono fun d M2 q => fin _ _ q
   | [c], tu => exact fun X' bk => (tu X' bk).mono fun t M2 q => ⟨fun e X2 bk2 => (q.1 e X2 bk2).mono fun d M3 q => fin _ _ q, fun e => fin _ _ (q.2 e)⟩
   | _ :: _ :: _, tu => exact tu.elim
 · rintro acc M1 ⟨rfl, rfl, _⟩
   rw [List.take_length]
   exact q
end
end Hl
namespace Hl
open PySem L2
section
variable {B : Bx} {X X' : Cx} {scope : Scope} {n i : Nat} {x : Str} {pos tpos : Pos}
theorem pg_one (bk : Bk X X' scope) (z : Cz X n) (l : Lo X' i x) : PG X' (.Name x pos) (gK X.K (.one i)) := pg_name (bk.z z).nd l.at_ l.loc l.fn
theorem pgs_0 : PGs X' [] (gNames []) := pgs_nil
theorem pgs_1 {es : List Expr} {is : List Nat} (nd : X'.N.Nodup) (l : Lo X' i x) (h : PGs X' es (gNames is)) (hs : (assignEach (.Name x pos :: es) X'.env).map (·.2) = assign (.Name x pos) X'.env :: (assignEach es X'.env).map (·.2) := by rfl) : PGs X' (.Name x pos :: es) (gNames (i :: is)) := pgs_cons (pg_name nd l.at_ l.loc l.fn) h hs
theorem pg_many {es : List Expr} {is : List Nat} {kk : Nat} (bk : Bk X X' scope) (z : Cz X n) (h : PGs X' es (gNames is)) (hn : (assignEach es X'.env).length = is.length := by rfl) (hst : (assignEach es X'.env).findIdx? (·.1) = none := by rfl) : PG X' (.Tuple es kk tpos) (gK X.K (.tup is)) := by
 have := pg_tup (X := X') (pos := tpos) (k := kk) (bk.z z).calm h hn hst
 rw [bk.K] at this
 exact this
end
def pTake : DSp := fun ds M Φ => ∃ s g b n M', ds = [.raw (.ref s), .int n] ∧ M = (s, .st g (b + 1)) :: M' ∧ 0 < n ∧ n < 2 ^ 1000 ∧ ∀ r, 0 ≤ r → r < n → Φ (.int r) ((s, .st g b) :: M')
theorem c_take {s g : Addr} {b : Nat} {n : Int} {M : Mem} {Φ : D → Mem → Prop} (hb : 0 < b) (h0 : 0 < n) (h1 : n < 2 ^ 1000) (k : ∀ r, 0 ≤ r → r < n → Φ (.int r) ((s, .st g (b - 1)) :: M)) : pTake [.raw (.ref s), .int n] ((s, .st g b) :: M) Φ := by
 refine ⟨s, g, b - 1, n, M, rfl, ?_, h0, h1, k⟩
 rw [Nat.sub_add_cancel hb]
def pBegun (K : PySem.W.Frag) : DSp := fun ds M Φ => ∃ ns, ds = [.scr K ns] ∧ ns.length ≤ 63 ∧ ∀ s g, Φ (.raw (.ref s)) ((s, .st g 1000000000000) :: M)
def bigOnes (ns : List Int) : List Int := ns.filter fun n => decide (1000000000000000000 ≤ n)
def bigF : D → Option D
 | .int n => if 1000000000000000000 ≤ n then some (.int n) else none
 | _ => none
def modF : D → Option D
 | .int n => some (.int (n % 2147483629))
 | _ => none
theorem big_map (ns : List Int) : (ns.map D.int).filterMap bigF = (bigOnes ns).map D.int := by
 induction ns with
 | nil => rfl
 | cons n ns ih =>
   rw [List.map_cons, List.filterMap_cons]
   unfold bigOnes at ih ⊢
   rw [List.filter_cons]
   by_cases h : 1000000000000000000 ≤ n
   · simp only [bigF, h, if_true, decide_true, List.map_cons, ih]
   · simp only [bigF, h, if_false, decide_false, ih]; rfl
theorem rest_map (ns : List Int) : (ns.map D.int).filterMap modF = (ns.map fun n => n % 2147483629).map D.int := by
 induction ns with
 | nil => rfl
 | cons n ns ih => rw [List.map_cons, List.filterMap_cons]; simp only [modF, ih, List.map_cons]
theorem begun_ok (ns : List Int) (h : ns.length ≤ 63) : StOk 1000000000000 (bigOnes ns) 0 0 7 ((ns.map fun n => n % 2147483629) ++ [77]) := by
 refine ⟨fun x hx => ?_, by decide, by decide, by decide, by decide, by decide, fun x hx => ?_, by simp, by simp; omega⟩
 · have := of_decide_eq_true (List.mem_filter.mp hx).2
   omega
 · rcases List.mem_append.mp hx with hx | hx
   · obtain ⟨n, _, rfl⟩ := List.mem_map.mp hx
     exact ⟨Int.emod_nonneg _ (by decide), Int.emod_lt_of_pos _ (by decide)⟩
   · have : x = 77 := by simpa using hx
     subst this; decide
theorem c_begun {K : PySem.W.Frag} {ns : List Int} {M : Mem} {Φ : D → Mem → Prop} (h : ns.length ≤ 63) (k : ∀ s g, Φ (.raw (.ref s)) ((s, .st g 1000000000000) :: M)) : pBegun K [.scr K ns] M Φ := ⟨ns, rfl, h, k⟩
end Hl
namespace Hl
open PySem L2
@[irreducible] def tKw (X : Cx) (kws : List Keyword) : TA := fun σ H Q => ∀ (pos : Pos) pins s, Inv X pins σ H s → wpAny (model X.prog X.w) X.A (evalAll ((backToKw pos (keywordEach kws X.env)).map (·.2))) (AP X pins σ Q) X.xe s
theorem cK {X : Cx} {kws : List Keyword} : PK X kws (tKw X kws) := ⟨fun pos pins s _ _ _ I h => by unfold tKw at h; exact h pos pins s I⟩
abbrev DK (B : Bx) (X : Cx) (kws : List Keyword) := WA B (tKw X kws)
structure DefK (P : Program) (w : World) (K : PySem.W.Frag) (mg : Str → Option Value) (base : Heap) (k : Nat) (x : Str) (ks ps : List Str) (pm : List Nat) (p : DSp) : Prop where
 ex : ∃ f fd, mg x = some (.ref f) ∧ PySem.W.keepIn K (.ref f) = true ∧ (∀ (s : Shared) (ws : List Value), ws.length = ks.length → BindsTo s fd ⟨[], ks.zip ws⟩ (ps.zip (pm.map fun j => ws.getD j .none))) ∧ (∀ j ∈ pm, j < ks.length) ∧ FnOk P w K mg base CX0 k f fd ps (lift p)
abbrev DefKX (X : Cx) := DefK X.prog X.w X.K X.mg X.base
section
variable {B : Bx} {X : Cx} {e a b c o : Expr} {es rest : List Expr} {st : Stmt} {sts : List Stmt} {δ δ' : Env'} {M : Mem} {Φ : D → Mem → Prop} {Ψ : DEnds} {te ta tb : TE} {tt : TT} {pos pos' apos kpos : Pos} {d x y : D} {ΦB : Bool → Mem → Prop} {ΦL : List D → Mem → Prop} {kws : List Keyword} {nm : Option Str}
theorem DK.of {t : TA} (h : PK X kws t) (w : WA B t δ M ΦL) : DK B X kws δ M ΦL := fun κ σ H Q hb R k => by unfold tKw; exact fun pos pins s I => h.run pos pins s σ H Q I (w κ σ H Q hb R k)
theorem dk_nil (k : ΦL [] M) : DK B X [] δ M ΦL := .of pk_nil fun κ σ H Q hb R h => h _ _ M H k R .nil
theorem dk_cons (h : DE B X a δ M fun x M1 => DK B X kws δ M1 fun xs M2 => ΦL (x :: xs) M2) : DK B X (⟨nm, a, kpos⟩ :: kws) δ M ΦL := .of (pk_cons cE cK) fun κ σ H Q hb R k =>
 h κ σ H _ hb R fun v x M1 H1 q1 R1 r1 => q1 ((v, x) :: κ) σ H1 _ (fun q hq => List.mem_cons_of_mem _ (hb q hq)) (R1.push r1) fun vs xs M2 H2 q2 R2 r2 => k _ _ _ _ q2 R2.pop (.cons R2.top r2)
theorem Reps.pick {F : List Addr} {H : Hp} {vs : List V} {ds : List D} (r : Reps F H vs ds) : ∀ (pm : List Nat), (∀ j ∈ pm, j < vs.length) → Reps F H (pm.map fun j => vs.getD j .non) (pm.map fun j => ds.getD j .non)
 | [], _ => .nil
 | j :: pm, h => by
   have hj := h j List.mem_cons_self
   obtain ⟨d, e1, r1⟩ := r.get (i := j) (v := vs[j]) (by simp [hj])
   refine .cons ?_ (r.pick pm fun i hi => h i (List.mem_cons_of_mem _ hi))
   have a1 : vs.getD j .non = vs[j] := by simp [List.getD, hj]
   have a2 : ds.getD j .non = d := by simp [List.getD, e1]
   dsimp only
   rw [a1, a2]; exact r1
theorem Vals.pick {vs : List V} {us : List Value} (r : Vals vs us) : ∀ (pm : List Nat), (∀ j ∈ pm, j < vs.length) → Vals (pm.map fun j => vs.getD j .non) (pm.map fun j => us.getD j .none)
 | [], _ => .nil
 | j :: pm, h => by
   have hj := h j List.mem_cons_self
   obtain ⟨u, e1, r1⟩ := Vals.get r (i := j) (x := vs[j]) (by simp [hj])
   refine .cons ?_ (Vals.pick r pm fun i hi => h i (List.mem_cons_of_mem _ hi))
   have a1 : vs.getD j .non = vs[j] := by simp [List.getD, hj]
   have a2 : us.getD j .none = u := by simp [List.getD, e1]
   dsimp only
   rw [a1, a2]; exact r1
theorem de_callK {k n : Nat} {x : Str} {ks ps : List Str} {pm : List Nat} {p : DSp} {pp : Pos} (z : Cz X n) (f : DefKX X k x ks ps pm p) (hk : k ≤ n) (hg : Gl X x) (h : DK B X kws δ M fun ds M' => ds.length = ks.length ∧ p (pm.map fun j => ds.getD j .non) M' Φ)
   (hall : (backToKw pos (keywordEach kws X.env)).all (·.1.isSome) = true := by rfl) (hks : (backToKw pos (keywordEach kws X.env)).filterMap (·.1) = ks := by rfl) (hdb : (x == ("__debug__" : Str)) = false := by decide)
   (hpl : ((backTo pos (starEach [] X.env)).any (·.1) || (backToKw pos (keywordEach kws X.env)).any (·.1.isNone)) = false := by rfl) : DE B X (.Call (.Name x pp) [] kws pos) δ M Φ := by
 obtain ⟨fa, fd, h1, h2, h3, h4, h5⟩ := f.ex
 refine .of (te := fun σ H Q => tKw X kws σ H fun zs H2 => zs.length = ks.length ∧ lift p (pm.map fun j => zs.getD j .non) H2 Q E0) ⟨fun pins s σ H Q I hq => ?_⟩ fun κ σ H Q hb R kk => h κ σ H _ hb R fun vs ds M1 H1 ⟨ql, q⟩ R1 r1 => ⟨by rw [r1.length]; exact ql, ?_⟩
 · refine wpAny_Call_Name_kw (ld_glob I hg h1 ?_ hdb)
   refine PySem.W.callWith_KW0 (h₀ := X.base) (first := []) I.ok.mod.kin h2 hall (thn (cK.run pos pins s σ H _ I hq) fun ws s2 ⟨zs, H2, I2, rz, l2, q2⟩ => ⟨I2.kIn, ?_⟩) hpl
   rw [hks]
   have r2 := Vals.pick rz pm (fun j hj => by rw [l2]; exact h4 j hj)
   refine wpAny_call (codeAny_mono (h5.run X.A X.stack s2 H2 ⟨[], ks.zip ws⟩ _ _ Q E0 (z.room.mono hk) I2.env0 (h3 s2 ws (rz.length.symm.trans l2)) r2 q2) fun r s' hq => ?_)
   cases r with
   | error e => exact hq.elim
   | ok fl =>
     cases fl with
     | ret u => exact I2.after hq
     | next => exact False.elim hq
     | brk => exact False.elim hq
     | cont => exact False.elim hq
 · refine ⟨κ ++ sk σ δ, _, M1, Φ, R1.pack, r1.pick pm (fun j hj => by rw [r1.length, ql]; exact h4 j hj), q, fun v d M2 H2 q2 R2 r2 => kk v d M2 H2 q2 (R1.unpack R2) r2⟩
def rInDc : R2 := fun x y H Q => ∃ (a : Addr) (o : Option V), y = .ref a ∧ DGet H a x o ∧ Q (.bl o.isSome) H
def rNotInDc : R2 := fun x y H Q => ∃ (a : Addr) (o : Option V), y = .ref a ∧ DGet H a x o ∧ Q (.bl (!o.isSome)) H
theorem op_in_dict (hu : X.A.units + 1 < cLine) : OpR X (compareOp .In) rInDc := by
 intro pins s σ H x y v u Q I rx ry h
 obtain ⟨a, o, rfl, g, q⟩ := h
 obtain rfl : u = Value.ref a := ry
 exact d_in hu I g rx fun s' I' => ⟨.bl _, H, I', rfl, q⟩
theorem op_notIn_dict (hu : X.A.units + 1 < cLine) : OpR X (compareOp .NotIn) rNotInDc := by
 intro pins s σ H x y v u Q I rx ry h
 obtain ⟨a, o, rfl, g, q⟩ := h
 obtain rfl : u = Value.ref a := ry
 exact d_notIn hu I g rx fun s' I' => ⟨.bl _, H, I', rfl, q⟩
def rInU (K : PySem.W.Frag) : R2 := fun x y H Q => (∃ (c : Nat) (z : Str), x = .str ⟨#[c]⟩ ∧ y = .str z ∧ Q (.bl (decide (c ∈ z.cps.toList))) H) ∨ (rIn K false x y H Q ∨ rInDc x y H Q)
def rNotInU (K : PySem.W.Frag) : R2 := fun x y H Q => (∃ (c : Nat) (z : Str), x = .str ⟨#[c]⟩ ∧ y = .str z ∧ Q (.bl (!decide (c ∈ z.cps.toList))) H) ∨ (rIn K true x y H Q ∨ rNotInDc x y H Q)
theorem de_in {n : Nat} (z : Cz X n) (h : DE B X a δ M fun x M1 => DE B X b δ M1 fun y M2 => OpD (rInU X.K) x y M2 Φ) (hm : behindInMarks .In b = false := by rfl) : DE B X (.Compare a [.In] [b] pos) δ M Φ := de_cmp (op_in_sign.or (op_in_seq.or (op_in_dict (un1 z)))) hm h
theorem de_notin {n : Nat} (z : Cz X n) (h : DE B X a δ M fun x M1 => DE B X b δ M1 fun y M2 => OpD (rNotInU X.K) x y M2 Φ) (hm : behindInMarks .NotIn b = false := by rfl) : DE B X (.Compare a [.NotIn] [b] pos) δ M Φ := de_cmp (op_notIn_sign.or (op_notIn_seq.or (op_notIn_dict (un1 z)))) hm h
theorem dt_in {n : Nat} (z : Cz X n) (h : DE B X a δ M fun x M1 => DE B X b δ M1 fun y M2 => OpD (rInU X.K) x y M2 (toB ΦB)) (hm : behindInMarks .In b = false := by rfl) : DT B X (.Compare a [.In] [b] pos) δ M ΦB := dt_cmp (op_in_sign.or (op_in_seq.or (op_in_dict (un1 z)))) hm h
theorem dt_notin {n : Nat} (z : Cz X n) (h : DE B X a δ M fun x M1 => DE B X b δ M1 fun y M2 => OpD (rNotInU X.K) x y M2 (toB ΦB)) (hm : behindInMarks .NotIn b = false := by rfl) : DT B X (.Compare a [.NotIn] [b] pos) δ M ΦB := dt_cmp (op_notIn_sign.or (op_notIn_seq.or (op_notIn_dict (un1 z)))) hm h
theorem od_inS {K : PySem.W.Frag} {c : Nat} {z : Str} (k : Φ (.bl (decide (c ∈ z.cps.toList))) M) : OpD (rInU K) (.str ⟨#[c]⟩) (.str z) M Φ := .inl fun κ δ σ H v w Q R rv rw' h => by
 cases rv; cases rw'
 exact ⟨c, z, rfl, rfl, h _ _ M H k R (.bl _)⟩
theorem od_notinS {K : PySem.W.Frag} {c : Nat} {z : Str} (k : Φ (.bl (!decide (c ∈ z.cps.toList))) M) : OpD (rNotInU K) (.str ⟨#[c]⟩) (.str z) M Φ := .inl fun κ δ σ H v w Q R rv rw' h => by
 cases rv; cases rw'
 exact ⟨c, z, rfl, rfl, h _ _ M H k R (.bl _)⟩
theorem gc_str {x : Str} {z : Str} {sc : Scope} (hs : X.env.scope = sc) (h : sc.names.lookup x = some .globalImplicit) (hm : ∃ t, X.mg x = some (.str z t)) (dbg : (x == ("__debug__" : Str)) = false := by decide) : Gc X x (.str z) := by
 obtain ⟨t, e⟩ := hm
 exact ⟨gl_of hs h, ⟨_, e, t, rfl⟩, dbg⟩
theorem gc_int {x : Str} {z : Int} {sc : Scope} (hs : X.env.scope = sc) (h : sc.names.lookup x = some .globalImplicit) (hm : ∃ t, X.mg x = some (.int z t)) (dbg : (x == ("__debug__" : Str)) = false := by decide) : Gc X x (.int z) := by
 obtain ⟨t, e⟩ := hm
 exact ⟨gl_of hs h, ⟨_, e, t, rfl⟩, dbg⟩
theorem de_gstr {x : Str} {z : Str} (g : Gc X x (.str z)) (k : Φ (.str z) M) : DE B X (.Name x pos) δ M Φ := de_glob g (fun _ _ => .str z) k
theorem de_gint {x : Str} {z : Int} (g : Gc X x (.int z)) (k : Φ (.int z) M) : DE B X (.Name x pos) δ M Φ := de_glob g (fun _ _ => .int z) k
theorem de_chain {op op' : CmpOp} {r r' : R2} (ho : OpR X (compareOp op) r) (ho' : OpR X (compareOp op') r') (h : DE B X a δ M fun x M1 => DE B X b δ M1 fun y M2 => OpD r x y M2 (toB fun t M3 => Br t (DE B X c δ M3 fun w M4 => OpD r' y w M4 Φ) (Φ (.bl false) M3)))
   (hm : lastMarks [op, op'] [b, c] = false := by with_unfolding_all rfl) : DE B X (.Compare a [op, op'] [b, c] pos) δ M Φ := .of (pe_chain ho ho' cE cE cE hm) fun κ σ H Q hb R k =>
 h κ σ H _ hb R fun v x M1 H1 q1 R1 r1 => q1 ((v, x) :: κ) σ H1 _ (fun q hq => List.mem_cons_of_mem _ (hb q hq)) (R1.push r1) fun w y M2 H2 q2 R2 r2 =>
   q2 ((w, y) :: κ) δ σ H2 v w _ (R2.pop.push r2) R2.top r2 fun u du M3 H3 ⟨t, e, q3⟩ R3 r3 => by
     subst e; cases r3
     refine ⟨t, rfl, Br.ite ⟨fun e => ?_, fun e => k _ _ _ _ (q3.2 e) R3.pop (.bl _)⟩⟩
     exact q3.1 e ((w, y) :: κ) σ H3 _ (fun q hq => List.mem_cons_of_mem _ (hb q hq)) R3 fun w2 y2 M4 H4 q4 R4 r4 => q4 κ δ σ H4 w w2 Q R4.pop R4.top r4 k
theorem de_le2 (h : DE B X a δ M fun x M1 => DE B X b δ M1 fun y M2 => OpD rLeU x y M2 (toB fun t M3 => Br t (DE B X c δ M3 fun w M4 => OpD rLeU y w M4 Φ) (Φ (.bl false) M3))) (hm : lastMarks [.LtE, .LtE] [b, c] = false := by with_unfolding_all rfl) : DE B X (.Compare a [.LtE, .LtE] [b, c] pos) δ M Φ := de_chain op_le op_le h hm
theorem ds_cut (Mid : Env' → Mem → Prop) (h1 : DS B X st δ M { Ψ with nx := Mid }) (h2 : ∀ δ M, Mid δ M → DSs B X sts δ M Ψ) : DSs B X (st :: sts) δ M Ψ := ds_cons (h1.mono (fun δ M q => h2 δ M q) (fun _ _ q => q) (fun _ _ q => q) fun _ _ q => q)
theorem de_le2C {l : Int} {j : Nat} {p1 : Pos} (h : DE B X a δ M fun x M1 => DE B X b δ M1 fun y M2 => ∃ i j, x = .int i ∧ y = .int j ∧ Φ (.bl (decide (i ≤ j) && decide (j ≤ l))) M2) (hm : lastMarks [.LtE, .LtE] [b, .Constant (.int l) j p1] = false := by with_unfolding_all rfl) :
   DE B X (.Compare a [.LtE, .LtE] [b, .Constant (.int l) j p1] pos) δ M Φ := de_le2 (h.mono fun x M1 h1 => h1.mono fun y M2 ⟨i, j, ex, ey, q⟩ => by
 subst ex ey
 refine od_le (toB.mk ⟨fun e => de_int (od_le ?_), fun e => ?_⟩)
 · rw [e] at q; exact q
 · rw [e] at q; exact q) hm
theorem ex_ii {i j : Int} {P : Int → Int → Prop} (h : P i j) : ∃ a b, D.int i = .int a ∧ D.int j = .int b ∧ P a b := ⟨i, j, rfl, rfl, h⟩
theorem ex_i {i : Int} {P : Int → Prop} (h : P i) : ∃ a, D.int i = .int a ∧ P a := ⟨i, rfl, h⟩
theorem ex_l {ds : List D} {P : List D → Prop} (h : P ds) : ∃ a, D.lst ds = .lst a ∧ P a := ⟨ds, rfl, h⟩
theorem ex_t {ds : List D} {P : List D → Prop} (h : P ds) : ∃ a, D.tup ds = .tup a ∧ P a := ⟨ds, rfl, h⟩
theorem ex_s {z : Str} {P : Str → Prop} (h : P z) : ∃ a, D.str z = .str a ∧ P a := ⟨z, rfl, h⟩
theorem ex_x {K : PySem.W.Frag} {ns : List Int} {P : List Int → Prop} (h : P ns) : ∃ a, D.scr K ns = .scr K a ∧ P a := ⟨ns, rfl, h⟩
theorem idK (h : DK B X kws δ M ΦL) : DK B X kws δ M ΦL := h
end
end Hl
namespace Hl
open PySem L2
section
variable {B : Bx} {X : Cx} {e a b c o : Expr} {es rest : List Expr} {st : Stmt} {sts : List Stmt} {δ δ' : Env'} {M : Mem} {Φ : D → Mem → Prop} {Ψ : DEnds} {te ta tb : TE} {tt : TT} {pos pos' apos kpos : Pos} {d x y : D} {ΦB : Bool → Mem → Prop} {ΦL : List D → Mem → Prop}
theorem range_get {lo : Int} {n i : Nat} {x : D} (h : (rangeD lo n)[i]? = some x) : i < n ∧ x = .int (lo + (i : Nat)) := by
 unfold rangeD at h
 have hi : i < n := by have := (List.getElem?_eq_some_iff.mp h).1; simpa using this
 rw [List.getElem?_map, List.getElem?_range hi] at h
 exact ⟨hi, (Option.some.inj h).symm⟩
theorem range_len {lo : Int} {n : Nat} : (rangeD lo n).length = n := by simp [rangeD]
theorem map_get {α : Type} {f : α → D} {l : List α} {i : Nat} {x : D} (h : (l.map f)[i]? = some x) : ∃ y, l[i]? = some y ∧ x = f y := by
 rw [List.getElem?_map] at h
 cases e : l[i]? with
 | none => rw [e] at h; cases h
 | some y => rw [e] at h; exact ⟨y, rfl, (Option.some.inj h).symm⟩
theorem enum_get {ds : List D} {i : Nat} {x : D} (h : (enumD ds)[i]? = some x) : ∃ y, ds[i]? = some y ∧ x = .tup [.int (i : Nat), y] := by
 unfold enumD at h
 have hi : i < ds.length := by have := (List.getElem?_eq_some_iff.mp h).1; simpa using this
 rw [List.getElem?_map, List.getElem?_range hi] at h
 refine ⟨ds[i], by simp [hi], ?_⟩
 rw [← Option.some.inj h]
 simp [hi]
theorem enum_len {ds : List D} : (enumD ds).length = ds.length := by simp [enumD]
theorem at_map {α : Type} {f : α → D} {l : List α} {i : Int} (h0 : 0 ≤ i) (h1 : i < l.length) : ∃ y, l[i.toNat]? = some y ∧ atI (l.map f) i = some (f y) := by
 have hl : i.toNat < l.length := by omega
 refine ⟨l[i.toNat], by simp [hl], ?_⟩
 obtain ⟨j, rfl⟩ : ∃ j : Nat, i = (j : Int) := ⟨i.toNat, by omega⟩
 exact atI_nat (by rw [List.getElem?_map]; simp at hl ⊢; simp [hl])
theorem at_mapN {α : Type} {f : α → D} {l : List α} {j : Nat} {y : α} (h : l[j]? = some y) : atI (l.map f) (j : Int) = some (f y) := atI_nat (by rw [List.getElem?_map, h]; rfl)
theorem ixN_nat' {n j : Nat} (h : j < n) : ixN n (j : Int) = some j := by
 unfold ixN
 rw [if_pos (by omega), if_pos (by omega)]
 simp
theorem de_sorted {p : Pos} {r : List V → Hp → VK → Prop} (hr : CallR X (.builtin "sorted") r) (g : Gn X "sorted") (h : DA B X [a] δ M fun ds M1 => CallD r ds M1 Φ) (he : starEach [a] X.env = (false, eval a X.env) :: starEach [] X.env := by rfl) (hpl : (backTo pos (starEach [] X.env)).any (·.1) = false := by rfl) : DE B X (.Call (.Name "sorted" p) [a] [] pos) δ M Φ := de_blt hr g PyProof.Rows.boot_sorted h (by decide) (by decide) he hpl
theorem de_sum {n : Nat} (z : Cz X n) {p : Pos} (g : Gn X "sum") (h : DA B X [a] δ M fun ds M1 => CallD (rSum X.K) ds M1 Φ) (he : starEach [a] X.env = (false, eval a X.env) :: starEach [] X.env := by rfl) (hpl : (backTo pos (starEach [] X.env)).any (·.1) = false := by rfl) : DE B X (.Call (.Name "sum" p) [a] [] pos) δ M Φ := de_blt (cr_sum z.calm) g PyProof.Rows.boot_sum h (by decide) (by decide) he hpl
theorem df_list {p : Pos} {ds : List D} (g : Gn X "list") (h : DE B X a δ M fun x M1 => ∃ ds, IsL M1 x ds ∧ ΦL ds M1) (he : starEach [a] X.env = (false, eval a X.env) :: starEach [] X.env := by rfl) (hpl : (backTo pos (starEach [] X.env)).any (·.1) = false := by rfl) : DF B X (.Call (.Name "list" p) [a] [] pos) δ M ΦL :=
 .of (pe_callTy call_list_of g.gl g.no PyProof.Rows.boot_list (pa_cons cE pa_nil he) (by decide) (by decide) he hpl) fun κ σ H Q hb R k => h κ σ H _ hb R fun v x M1 H1 ⟨ds, il, q⟩ R1 r1 => by
   obtain ⟨a, us, rfl, e1, rr⟩ := il.sq R1 r1
   exact ⟨a, us, rfl, .inl (SqL.of e1), fun l hl => k l ds M1 _ q (R1.lst rr hl)⟩
theorem de_list {p : Pos} (g : Gn X "list") (h : DE B X a δ M fun x M1 => ∃ ds, IsL M1 x ds ∧ Φ (.lst ds) M1) (he : starEach [a] X.env = (false, eval a X.env) :: starEach [] X.env := by rfl) (hpl : (backTo pos (starEach [] X.env)).any (·.1) = false := by rfl) : DE B X (.Call (.Name "list" p) [a] [] pos) δ M Φ := .f (df_list (ds := []) g h he hpl)
theorem isi_ii {K : PySem.W.Frag} {i : Int} (k : Φ (.bl true) M) : CallD (rIsi K) [.int i, .raw (.ty "int")] M Φ := cd_isi (S := "int") rfl (by decide +kernel) k
theorem isi_ib {K : PySem.W.Frag} {i : Int} (k : Φ (.bl false) M) : CallD (rIsi K) [.int i, .raw (.ty "bool")] M Φ := cd_isi (S := "int") rfl (by decide +kernel) k
theorem isi_bb {K : PySem.W.Frag} {i : Bool} (k : Φ (.bl true) M) : CallD (rIsi K) [.bl i, .raw (.ty "bool")] M Φ := cd_isi (S := "bool") rfl (by decide +kernel) k
theorem isi_bi {K : PySem.W.Frag} {i : Bool} (k : Φ (.bl true) M) : CallD (rIsi K) [.bl i, .raw (.ty "int")] M Φ := cd_isi (S := "bool") rfl (by decide +kernel) k
theorem isi_ll {K : PySem.W.Frag} {ds : List D} (k : Φ (.bl true) M) : CallD (rIsi K) [.lst ds, .raw (.ty "list")] M Φ := cd_isi (S := "list") rfl (by decide +kernel) k
theorem isi_tt {K : PySem.W.Frag} {ds : List D} (k : Φ (.bl true) M) : CallD (rIsi K) [.tup ds, .raw (.ty "tuple")] M Φ := cd_isi (S := "tuple") rfl (by decide +kernel) k
theorem isi_nb {K : PySem.W.Frag} (k : Φ (.bl false) M) : CallD (rIsi K) [.non, .raw (.ty "bool")] M Φ := cd_isi (S := "NoneType") rfl (by decide +kernel) k
theorem isi_ni {K : PySem.W.Frag} (k : Φ (.bl false) M) : CallD (rIsi K) [.non, .raw (.ty "int")] M Φ := cd_isi (S := "NoneType") rfl (by decide +kernel) k
theorem isi_nt {K : PySem.W.Frag} (k : Φ (.bl false) M) : CallD (rIsi K) [.non, .raw (.ty "tuple")] M Φ := cd_isi (S := "NoneType") rfl (by decide +kernel) k
theorem od_ixM {K : PySem.W.Frag} (ns : List Int) {i : Int} (h0 : 0 ≤ i) (h1 : i < ns.length) (k : ∀ m, m ∈ ns → Φ (.int m) M) : OpD (rIxU K) (.lst (ns.map .int)) (.int i) M Φ := by
 obtain ⟨c, hc, e⟩ := at_int h0 h1
 exact od_ixL e (k c hc)
theorem len_and {xs : List D} {P : Prop} (h : xs.length ≤ sizeLine) (k : P) : xs.length ≤ sizeLine ∧ P := ⟨h, k⟩
theorem LcH.pureT {α β : Type} {scope : Scope} {elt : Expr} {ifs : List Expr} {own : List (Str × Nat)} {tk : Tk} {k : Nat} (l : List α) (f : α → D) (G : α → Option β) (g : β → D) (hl : l.length ≤ sizeLine)
   (h : ∀ (p : Addr) acc a, a ∈ l → ∃ δ2, bindK tk (f a) (wipeD δ (own.map (·.2))) = some δ2 ∧ Turn1 B X scope elt ifs δ2 (insM k (p, .lst acc) M) fun od M2 => od = (G a).map g ∧ M2 = insM k (p, .lst acc) M)
   (q : ΦL ((l.filterMap G).map g) M) : LcH k B X scope elt ifs own tk δ (l.map f) M ΦL := by
 refine ⟨fun i acc M1 => M1 = M ∧ acc = ((l.take i).filterMap G).map g ∧ acc.length ≤ i, ⟨rfl, rfl, Nat.le_refl _⟩, ?_, ?_⟩
 · rintro p i x acc M1 hx ⟨rfl, ha, hal⟩
   obtain ⟨a, ea, rfl⟩ := map_get hx
   have hi : i < l.length := (List.getElem?_eq_some_iff.mp ea).1
   obtain ⟨δ2, e1, tu⟩ := h p acc a (List.mem_of_getElem? ea)
   have fin : ∀ (od : Option D) M2, od = (G a).map g ∧ M2 = insM k (p, .lst acc) M1 → ∃ M3, M2 = insM k (p, .lst acc) M3 ∧ M3 = M1 ∧ acc ++ od.toList = ((l.take (i + 1)).filterMap G).map g ∧ (acc ++ od.toList).length ≤ i + 1 := by
     rintro od M2 ⟨rfl, rfl⟩
     refine ⟨M1, rfl, rfl, ?_, ?_⟩
     · rw [List.take_add_one, ea, List.filterMap_append, List.map_append, ← ha]
       cases e : G a <;> simp [e]
     · rw [List.length_append]
       cases G a <;> simp <;> omega
   refine ⟨by omega, δ2, e1, ?_⟩
   unfold Turn1 at tu ⊢
   match ifs, tu with
   | [], tu => exact fun X' bk => (tu X' bk).mono fun d M2 q => fin _ _ q
   | [c], tu => exact fun X' bk => (tu X' bk).mono fun t M2 q => ⟨fun e X2 bk2 => (q.1 e X2 bk2).mono fun d M3 q => fin _ _ q, fun e => fin _ _ (q.2 e)⟩
   | _ :: _ :: _, tu => exact tu.elim
 · rintro acc M1 ⟨rfl, rfl, _⟩
   rw [List.length_map, List.take_length]
   exact q
theorem LcH.mapT {α β : Type} {scope : Scope} {elt : Expr} {own : List (Str × Nat)} {tk : Tk} {k : Nat} (l : List α) (f : α → D) (G : α → β) (g : β → D) (hl : l.length ≤ sizeLine)
   (h : ∀ (p : Addr) acc a, a ∈ l → ∃ δ2, bindK tk (f a) (wipeD δ (own.map (·.2))) = some δ2 ∧ ∀ X', Bk X X' scope → DE B X' elt δ2 (insM k (p, .lst acc) M) fun d M2 => d = g (G a) ∧ M2 = insM k (p, .lst acc) M)
   (q : ΦL ((l.map G).map g) M) : LcH k B X scope elt [] own tk δ (l.map f) M ΦL := by
 refine LcH.pureT l f (fun a => some (G a)) g hl (fun p acc a ha => ?_) (by rw [List.filterMap_eq_map']; exact q)
 obtain ⟨δ2, e, tu⟩ := h p acc a ha
 exact ⟨δ2, e, fun X' bk => (tu X' bk).mono fun d M2 ⟨e1, e2⟩ => ⟨by rw [e1]; rfl, e2⟩⟩
end
end Hl
namespace Hl
open PySem L2
open PyProof.Rows hiding St
set_option maxHeartbeats 1000000 in
theorem meets_enumerate_new1 {v : Value} {o : Obj} {H : Heap → Prop} (B : Begins v o H) :
   Meets (Builtin.«enumerate.__new__» ⟨[.type "enumerate", v], []⟩) (fun _ R s => H s.heap ∧
     R (.ok (.ret (.ref (s.heap.push o).objs.size))) { s with heap := (s.heap.push o).push { cls := .type "enumerate", data := .fields #[.none, .bool false, .ref s.heap.objs.size, rawInt 0, .none, .none] } }) :=
 .of_wp fun prog w A R s h => by
   obtain ⟨hp, g, d, tk, os⟩ := s; obtain ⟨h1, h⟩ := h
   have hsub := sub_enumerate
   have q1 : ∀ {A' : Around} {E : Value → Shared → Prop} {Q : Value → Shared → Prop}, Q (.ref hp.objs.size) ⟨hp.push o, g, d, tk, os⟩ → wpAny (model prog w) A' (pyIter v) Q E ⟨hp, g, d, tk, os⟩ :=
     fun q => B.iter prog w _ _ ⟨hp, g, d, tk, os⟩ _ h1 q
   wp_walk using q1
   refine wpAny_stack_any fun st => wpAny_pure ?_
   split
   · rename_i c _ _ _ _ _
     cases (c == Value.type "enumerate")
     · wp_walk using q1
       exact ⟨_, rfl, h⟩
     · wp_walk using q1
       exact ⟨_, rfl, h⟩
   · wp_walk using q1
     exact ⟨_, rfl, h⟩
theorem enum_begins1 {prog : Program} {w : World} {A : Around} {E : Value → Shared → Prop} {s : Shared} {v : Value} {o : Obj} {H : Heap → Prop} {Q : Value → Shared → Prop} (B : Begins v o H) (h1 : H s.heap)
   (h : ∀ h', IsEnum h' (s.heap.objs.size + 1) s.heap.objs.size 0 .none → h'.get? s.heap.objs.size = some o → h'.objs.size = s.heap.objs.size + 2 →
     (∀ b o, s.heap.get? b = some o → h'.get? b = some o) → Q (.ref (s.heap.objs.size + 1)) { s with heap := h' }) :
   wpAny (model prog w) A (call (.type "enumerate") [v]) Q E s := by
 refine callType_new F.called_enumerate (by decide) (F.typeCall_enumerate_1 _) (F.newCall_enumerate_1 _) (fun obj => F.args_object_init_2 obj _) F.entry_enumerate_new
   (meets_enumerate_new1 B) ⟨h1, ?_⟩
 have hz : (s.heap.push o).objs.size = s.heap.objs.size + 1 := Heap.size_push ..
 show _ ∧ _
 rw [hz]
 have he : IsEnum ((s.heap.push o).push { cls := .type "enumerate", data := .fields #[.none, .bool false, .ref s.heap.objs.size, rawInt 0, .none, .none] }) (s.heap.objs.size + 1) s.heap.objs.size 0 .none := by
   have := Heap.get?_push_size (s.heap.push o) (o := { cls := .type "enumerate", data := .fields #[.none, .bool false, .ref s.heap.objs.size, rawInt 0, .none, .none] }) rfl
   rw [hz] at this; exact this
 refine ⟨⟨_, he, rfl⟩, h _ he (Heap.get?_push_of_some _ (Heap.get?_push_size _ B.free)) (by rw [Heap.size_push, hz]) fun b o x => Heap.get?_push_of_some _ (Heap.get?_push_of_some _ x)⟩
def IteT (K : PySem.W.Frag) (a : Addr) : It :=
 ⟨fun i H => ∃ (xs : List V) (x : V), SqT K H a xs ∧ xs[i]? = some x, fun i H v H' => ∃ T x, v = .ref T ∧ H T = none ∧ H' = upd H T (.tup [.int (i : Nat), x]) ∧ ∀ xs, SqT K H a xs → xs[i]? = some x, fun i H => ∃ xs : List V, SqT K H a xs ∧ xs.length = i⟩
theorem turn_enumT {P : Program} {w : World} {K : PySem.W.Frag} {elts : List Expr} {kk : Nat} {tpos : Pos} (a e it : Addr) :
   Turn P w K (.Tuple elts kk tpos) (IteT K a) [e, it] e (fun i h => (∃ old, IsEnum h e it ((i : Nat) : Int) old) ∧ h.IsTupleIter it a i ∧ e ≠ it ∧ a ≠ it ∧ a ≠ e) where
 mem := by simp
 obj := fun i h st b hb => by
   obtain ⟨⟨old, he⟩, ⟨o, ho, hc, hd⟩, _⟩ := st
   have e' : b = e ∨ b = it := by simpa using hb
   rcases e' with z | z
   · rw [z]; exact ⟨_, he, fun v q => nomatch q⟩
   · rw [z]; exact ⟨o, ho, fun v q => by rw [hd] at q; cases q⟩
 keep := fun i h h' st k => let ⟨⟨old, he⟩, hi, hne⟩ := st; ⟨⟨old, k e (by simp) _ he⟩, hi.at fun o q => k it (by simp) o q, hne⟩
 item := by
   intro X hP hw hK hc i pins s σ H E I hf st hg
   subst hP hw hK
   obtain ⟨⟨old, he⟩, hit, hne, ha1, ha2⟩ := st
   obtain ⟨xs, x, hq, hx⟩ := hg
   obtain ⟨its, rv, p, hz⟩ := I.tuple hq
   obtain ⟨u, hu, ru⟩ := rv.get hx
   have hel : e < s.heap.objs.size := Heap.lt_size he
   have hil : it < s.heap.objs.size := by obtain ⟨_, q, _⟩ := hit; exact Heap.lt_size q
   have hlt : i < its.toArray.size := by simpa using (List.getElem?_eq_some_iff.mp hu).1
   refine wpAny_pyNext_enum_itemD (Draws.tuple (A := X.A.in1) (show X.A.in1.handled = none from I.ok.hd hc) it a ha1 its.toArray) he ⟨hit, p⟩ hlt hne (by simp; exact ⟨hne, Ne.symm ha2⟩) fun y h' tk hP ho hs' hT hsz hk => ?_
   obtain rfl : y = u := by
     have hP : its.toArray[i]? = some y := hP
     rw [show its.toArray[i]? = some u by simpa using hu] at hP
     exact (Option.some.inj hP).symm
   refine ⟨_, rfl, wpAny_letOwnedTupleGo_enum (s := { s with heap := h', toks := tk + 1 }) ho fun h'' he' sb => ?_⟩
   have hT2 : h''.get? s.heap.objs.size = some { cls := .type "tuple", data := .seq #[.int i tk, y] } := (sb.2 _ (Nat.ne_of_gt hel)).trans hT
   have new : ObjOk X.prog X.w (upd H s.heap.objs.size (.tup [.int (i : Nat), x])) h'' s.heap.objs.size (.tup [.int (i : Nat), x]) :=
     ⟨by show 2 ≤ sizeLine; decide, [.int i tk, y], .cons ⟨_, rfl⟩ (.cons ru .nil), ⟨_, hT2, rfl, _, rfl⟩⟩
   have I1 : Inv X pins σ (upd H s.heap.objs.size (.tup [.int (i : Nat), x])) { s with heap := h'', toks := tk + 1 } :=
     I.turnedNew (ch := [e, it]) (fun b ob hb q => (sb.2 b (fun z => hb (by simp [z]))).trans (hk b ob (fun z => hb (by simp [z])) (fun z => hb (by simp [z])) q)) hf (Nat.le_refl _) new
   refine ⟨.ref s.heap.objs.size, _, I1, rfl, ⟨_, x, rfl, I.hok.fresh (Nat.le_refl _), rfl, fun ys hy => by rw [I.tuple_inj hy hq]; exact hx⟩, ⟨⟨y, ?_⟩, hs'.1.at fun o q => (sb.2 it (Ne.symm hne)).trans q, hne, ha1, ha2⟩, fun b hb => ?_⟩
   · have e1 : ((i + 1 : Nat) : Int) = (i : Int) + 1 := by omega
     rw [e1]; exact he'
   · have hb' : b < s.heap.objs.size := by
       have e' : b = e ∨ b = it := by simpa using hb
       rcases e' with z | z
       · rw [z]; exact hel
       · rw [z]; exact hil
     rw [upd_ne (Nat.ne_of_lt hb')]
     exact (hf b hb).1
 done := by
   intro X hP hw hK hc i pins s σ H E I hf st hg
   subst hP hw hK
   obtain ⟨⟨old, he⟩, hit, hne, ha1, ha2⟩ := st
   obtain ⟨xs, hq, hx⟩ := hg
   obtain ⟨its, rv, p, hz⟩ := I.tuple hq
   obtain ⟨f0, f1, f2, f3, f4, f5⟩ := hf it (by simp)
   have hl := rv.length
   have hn : its.toArray.size = i := by simp; omega
   subst hn
   exact wpAny_pyNext_enum_endD (Draws.tuple (A := X.A.in1) (show X.A.in1.handled = none from I.ok.hd hc) it a ha1 its.toArray) he ⟨hit, p⟩ fun h' eb => ⟨rfl, I.turned (t' := s.toks) (fun b o hb q => eb b o hb q) f0 f1 f3 f4 f5⟩
 self := fun A i s Q E st h => let ⟨⟨_, he⟩, _⟩ := st; wpAny_pyIter_enum he h
theorem wd_enumT {κ : List (V × D)} {a : Addr} {ds : List D} {K : PySem.W.Frag} : WalkD ((.ref a, .tup ds) :: κ) (enumD ds) (IteT K a) where
 goes := fun i δ M σ H hi R => by
   cases R.top with
   | tup hn e r =>
     have hi : i < ds.length := by simpa [enumD] using hi
     obtain ⟨d, hd⟩ := lt_some hi
     obtain ⟨v, hv, _⟩ := r.get' hd
     exact ⟨_, v, SqT.of e, hv⟩
 stops := fun δ M σ H R => by
   cases R.top with
   | tup hn e r => exact ⟨_, SqT.of e, by rw [r.length]; simp [enumD]⟩
 yields := fun i δ M σ H x H' hi R y => by
   cases R.top with
   | tup hn e r =>
     have hi : i < ds.length := by simpa [enumD] using hi
     obtain ⟨T, v2, rfl, hT, rfl, e2⟩ := y
     obtain ⟨d, hd, rd⟩ := r.get (e2 _ (SqT.of e))
     refine ⟨.tup [.int (i : Nat), d], by simp [enumD, hi, (List.getElem?_eq_some_iff.mp hd).2], ?_⟩
     obtain ⟨R1, r1⟩ := R.tupV (p := T) (vs := [.int (i : Nat), v2]) (ds := [.int (i : Nat), d]) (.cons (.int _) (.cons rd .nil)) hT
     exact ⟨R1, r1⟩
section
variable {B : Bx} {X : Cx} {e a b c o : Expr} {es rest : List Expr} {st : Stmt} {sts : List Stmt} {δ δ' : Env'} {M : Mem} {Φ : D → Mem → Prop} {Ψ : DEnds} {te ta tb : TE} {tt : TT} {pos pos' apos : Pos} {d x y : D} {ΦB : Bool → Mem → Prop} {ΦL : List D → Mem → Prop}
theorem reps_strs {F : List Addr} {H : Hp} : ∀ {vs : List V} {zs : List Str}, Reps F H vs (zs.map .str) → vs = zs.map .str
 | _, [], r => by cases r; rfl
 | _, z :: zs, r => by
   cases r with
   | cons r1 r2 => cases r1; rw [reps_strs r2]; rfl
theorem inV_strs (z : Str) : ∀ zs : List Str, inV (.str z) (zs.map .str) = decide (z ∈ zs)
 | [] => by simp [inV]
 | w :: zs => by
   have ih := inV_strs z zs
   unfold inV at ih ⊢
   rw [List.map_cons, List.any_cons, ih]
   show ((w == z) || _) = _
   by_cases h : w = z
   · subst h; simp
   · simp [h, Ne.symm h, beq_eq_false_iff_ne.mpr h]
theorem flat_strs : ∀ zs : List Str, (zs.map V.str).all flatV = true
 | [] => rfl
 | _ :: zs => flat_strs zs
theorem od_inZ {K : PySem.W.Frag} {z : Str} {zs : List Str} (h : IsL M y (zs.map .str)) (k : Φ (.bl (decide (z ∈ zs))) M) : OpD (rInU K) (.str z) y M Φ := .inr (OpD.inl (fun κ δ σ H v w Q R rv rw' f => by
 cases rv
 obtain ⟨p, us, rfl, e1, rr⟩ := h.sq R rw'
 have := reps_strs rr
 subst this
 refine ⟨p, _, rfl, .inl (SqL.of e1), rfl, flat_strs zs, ?_⟩
 show Q (.bl (inV _ _)) H
 rw [inV_strs]
 exact f _ _ M H k R (.bl _)))
theorem od_notinZ {K : PySem.W.Frag} {z : Str} {zs : List Str} (h : IsL M y (zs.map .str)) (k : Φ (.bl (!decide (z ∈ zs))) M) : OpD (rNotInU K) (.str z) y M Φ := .inr (OpD.inl (fun κ δ σ H v w Q R rv rw' f => by
 cases rv
 obtain ⟨p, us, rfl, e1, rr⟩ := h.sq R rw'
 have := reps_strs rr
 subst this
 refine ⟨p, _, rfl, .inl (SqL.of e1), rfl, flat_strs zs, ?_⟩
 show Q (.bl (!inV _ _)) H
 rw [inV_strs]
 exact f _ _ M H k R (.bl _)))
def DPt (B : Bx) (X : Cx) : Option Expr → Env' → Mem → (Option Int → Mem → Prop) → Prop
 | none, _, M, Φ => Φ none M
 | some e, δ, M, Φ => DE B X e δ M fun d M' => ∃ i, d = .int i ∧ Φ (some i) M'
def cutD {α : Type} (xs : List α) (lo hi : Option Int) : List α := (xs.drop (HT.sIx xs.length 0 lo)).take (HT.sIx xs.length xs.length hi - HT.sIx xs.length 0 lo)
def SlD (x : D) (lo hi : Option Int) (M : Mem) (Φ : D → Mem → Prop) : Prop := (∃ z : Str, x = .str z ∧ z.length ≤ sizeLine ∧ Φ (.str (cutS z lo hi)) M) ∨ (∃ ds, IsL M x ds ∧ Φ (.lst (cutD ds lo hi)) M)
def rSlU (K : PySem.W.Frag) : V → Option Int → Option Int → Hp → VK → Prop := fun x lo hi H Q => rSlS x lo hi H Q ∨ rSlL K x lo hi H Q
theorem sl_U : SlR X (rSlU X.K) := sl_str.or sl_list
def tPt (X : Cx) : Option Expr → TO
 | none => tNoPart
 | some e => tPart (tE X e)
theorem po_pt : ∀ {e : Option Expr}, PO X e (tPt X e)
 | none => po_none
 | some e => po_some cE
theorem DPt.run {e : Option Expr} {Φ : Option Int → Mem → Prop} (h : DPt B X e δ M Φ) {κ : List (V × D)} {σ : St} {H : Hp} {Q : Option Int → Hp → Prop} (hb : ∀ q ∈ B.ps, q ∈ κ) (R : Rs κ δ M σ H) (k : ∀ o M' H', Φ o M' → Rs κ δ M' σ H' → Q o H') : tPt X e σ H Q := by
 cases e with
 | none => exact k none M H h R
 | some e =>
   refine h κ σ H _ hb R fun v d M' H' ⟨i, ed, q⟩ R' r' => ?_
   subst ed
   cases r'
   exact ⟨i, rfl, k _ _ _ q R'⟩
theorem Reps.cut {F : List Addr} {H : Hp} {vs : List V} {ds : List D} (r : Reps F H vs ds) (i : Nat) : Reps F H (vs.take i) (ds.take i) ∧ Reps F H (vs.drop i) (ds.drop i) := by
 induction i generalizing vs ds with
 | zero => exact ⟨by rw [List.take_zero, List.take_zero]; exact .nil, r⟩
 | succ i ih =>
   cases r with
   | nil => exact ⟨.nil, .nil⟩
   | cons r1 r2 => exact ⟨.cons r1 (ih r2).1, (ih r2).2⟩
theorem de_slice {lo hi : Option Expr} {p2 : Pos} (h : DE B X a δ M fun x M1 => DPt B X lo δ M1 fun l M2 => DPt B X hi δ M2 fun u M3 => SlD x l u M3 Φ) : DE B X (.Subscript a (.Slice lo hi none p2) pos) δ M Φ :=
 .of (pe_slice sl_U cE po_pt po_pt) fun κ σ H Q hb R k => h κ σ H _ hb R fun v x M1 H1 q1 R1 r1 =>
   q1.run (κ := (v, x) :: κ) (fun q hq => List.mem_cons_of_mem _ (hb q hq)) (R1.push r1) fun l M2 H2 q2 R2 =>
   q2.run (κ := (v, x) :: κ) (fun q hq => List.mem_cons_of_mem _ (hb q hq)) R2 fun u M3 H3 q3 R3 => by
     have rx := R3.top
     rcases q3 with ⟨z, rfl, hz, q⟩ | ⟨ds, il, q⟩
     · cases rx
       exact .inl ⟨z, rfl, hz, k _ _ _ _ q R3.pop (.str _)⟩
     · obtain ⟨p, us, rfl, e1, rr⟩ := il.sq R3.pop rx
       refine .inr ⟨p, us, rfl, SqL.of e1, fun p hp => ?_⟩
       have hc : Reps M3.F H3 (cutV us l u) (cutD ds l u) := by
         unfold cutV cutD
         rw [rr.length]
         exact (((Reps.cut rr _).2).cut _).1
       obtain ⟨R', r'⟩ := R3.pop.lstV hc hp
       exact k _ _ _ _ q R' r'
theorem SlD.str {z : Str} {l u : Option Int} (hz : z.length ≤ sizeLine) (k : Φ (.str (cutS z l u)) M) : SlD (.str z) l u M Φ := .inl ⟨z, rfl, hz, k⟩
theorem SlD.lst {ds : List D} {l u : Option Int} (h : IsL M x ds) (k : Φ (.lst (cutD ds l u)) M) : SlD x l u M Φ := .inr ⟨ds, h, k⟩
theorem DPt.no {Φ : Option Int → Mem → Prop} (k : Φ none M) : DPt B X none δ M Φ := k
theorem DPt.so {Φ : Option Int → Mem → Prop} (k : DE B X e δ M fun d M' => ∃ i, d = .int i ∧ Φ (some i) M') : DPt B X (some e) δ M Φ := k
theorem cut_to {α : Type} {xs : List α} {i : Int} (h : 0 ≤ i) : cutD xs none (some i) = xs.take i.toNat := by
 unfold cutD
 show (xs.drop 0).take ((if i < 0 then _ else min i.toNat xs.length) - 0) = _
 rw [if_neg (by omega), List.drop_zero, Nat.sub_zero]
 by_cases hl : i.toNat ≤ xs.length
 · rw [Nat.min_eq_left hl]
 · rw [Nat.min_eq_right (by omega), List.take_length, List.take_of_length_le (by omega)]
theorem cut_from {α : Type} {xs : List α} {i : Int} (h : 0 ≤ i) : cutD xs (some i) none = xs.drop i.toNat := by
 unfold cutD
 show (xs.drop (if i < 0 then _ else min i.toNat xs.length)).take (xs.length - (if i < 0 then _ else min i.toNat xs.length)) = _
 rw [if_neg (by omega)]
 by_cases hl : i.toNat ≤ xs.length
 · rw [Nat.min_eq_left hl]
   exact List.take_of_length_le (by simp)
 · rw [Nat.min_eq_right (by omega), List.drop_of_length_le (by omega), List.drop_of_length_le (by omega), List.take_nil]
theorem cutS_len (z : Str) (l u : Option Int) : (cutS z l u).length ≤ z.length := by
 show (((z.cps.toList.drop _).take _).toArray).size ≤ _
 rw [List.size_toArray, List.length_take, List.length_drop]
 show _ ≤ z.cps.size
 rw [← Array.length_toList]
 omega
theorem de_tuple {p : Pos} (g : Gn X "tuple") (h : DE B X a δ M fun x M1 => ∃ ds, IsL M1 x ds ∧ Φ (.tup ds) M1) (he : starEach [a] X.env = (false, eval a X.env) :: starEach [] X.env := by rfl) : DE B X (.Call (.Name "tuple" p) [a] [] pos) δ M Φ :=
 .of (pe_tupleOf g.gl g.no cE he) fun κ σ H Q hb R k => h κ σ H _ hb R fun v x M1 H1 ⟨ds, il, q⟩ R1 r1 => by
   obtain ⟨a, us, rfl, e1, rr⟩ := il.sq R1 r1
   refine .inl ⟨a, us, rfl, SqL.of e1, fun q' hq => ?_⟩
   obtain ⟨R', r'⟩ := R1.tupV rr hq
   exact k _ _ _ _ q R' r'
end
end Hl
namespace Hl
open PySem L2
open PyProof.Rows hiding St
def rMaxDef (K : PySem.W.Frag) : List V → List V → Hp → VK → Prop := fun vs zs H Q => ∃ (a : Addr) (ns : List Int) (d : Int), vs = [V.ref a] ∧ zs = [.int d] ∧ SqL K H a (ns.map V.int) ∧ (ns = [] → Q (.int d) H) ∧ ∀ m, m ∈ ns → (∀ y, y ∈ ns → y ≤ m) → Q (.int m) H
theorem foldmax (n : Int) (ns : List Int) : ns.foldl max n ∈ n :: ns ∧ ∀ y, y ∈ n :: ns → y ≤ ns.foldl max n := by
 induction ns generalizing n with
 | nil => exact ⟨List.mem_cons_self, fun y hy => by have : y = n := by simpa using hy
                                                    subst this; exact Int.le_refl _⟩
 | cons k ns ih =>
   obtain ⟨h1, h2⟩ := ih (max n k)
   rw [List.foldl_cons]
   refine ⟨?_, fun y hy => ?_⟩
   · rcases List.mem_cons.mp h1 with e | e
     · rw [e]
       rcases Int.le_total n k with q | q
       · rw [Int.max_eq_right q]; simp
       · rw [Int.max_eq_left q]; simp
     · exact List.mem_cons_of_mem _ (List.mem_cons_of_mem _ e)
   · have hm := h2 (max n k) List.mem_cons_self
     rcases List.mem_cons.mp hy with e | e
     · subst e; omega
     · rcases List.mem_cons.mp e with e | e
       · subst e; omega
       · exact h2 y (List.mem_cons_of_mem _ e)
theorem cr_maxDef {X : Cx} (hc : X.calm = true) (hu : X.A.units + 64 < cLine) : CallRK X (.builtin "max") [Str.ofString "default"] (rMaxDef X.K) := by
 intro pins s σ H vs zs us ws Q I r rz h
 obtain ⟨a, ns, d, rfl, rfl, hs, q0, q⟩ := h
 obtain ⟨its, rv, hl, _⟩ := I.list hs
 rw [Vals.ref1 r]
 cases rz with
 | cons r1 r2 =>
   cases r2
   obtain ⟨t, rfl⟩ := r1
   have hi := rv.ints
   have hr : ReadsAll s.heap its.toArray.toList (ns.map PyData.int) [] := by simpa using PySem.W.readsAll_of_ints hi
   have hd : PyData.depthAll (ns.map PyData.int) = 0 := by
     have : ∀ ns : List Int, PyData.depthAll (ns.map PyData.int) = 0 := fun ns => by
      induction ns with
      | nil => rfl
      | cons n ns ih => show max 0 _ = 0; rw [ih]; rfl
     exact this ns
   refine PySem.W.max_list_default (xs := ns.map PyData.int) (I.ok.hd hc) hl.isList hr ⟨fun x hx y hy => ?_, fun x hx => ?_⟩ (by rw [hd]; omega) (fun e h' tk hk => ?_) fun y ys i v h' tk bs e hv hrd hk => ?_
   · obtain ⟨n, _, rfl⟩ := List.mem_map.mp hx
     obtain ⟨m, _, rfl⟩ := List.mem_map.mp hy
     rfl
   · obtain ⟨n, _, rfl⟩ := List.mem_map.mp hx
     exact fun e => nomatch e
   · exact ⟨.int d, H, I.kept hk, ⟨_, rfl⟩, q0 (List.map_eq_nil_iff.mp e)⟩
   · cases ns with
     | nil => cases e
     | cons n ns =>
       rw [List.map_cons] at e
       cases e
       rw [PySem.W.maxD_ints] at hrd
       obtain ⟨h1, h2⟩ := foldmax n ns
       cases hrd
       exact ⟨.int _, H, I.kept hk, ⟨_, rfl⟩, q _ h1 h2⟩
section
variable {B : Bx} {X : Cx} {e a b c o : Expr} {es rest : List Expr} {st : Stmt} {sts : List Stmt} {δ δ' : Env'} {M : Mem} {Φ : D → Mem → Prop} {Ψ : DEnds} {te ta tb : TE} {tt : TT} {pos pos' apos kpos : Pos} {d x y : D} {ΦB : Bool → Mem → Prop} {ΦL : List D → Mem → Prop}
theorem de_maxDef {p : Pos} {n : Nat} {kws : List Keyword} (z : Cz X n) (g : Gn X "max") (h : DE B X a δ M fun x M1 => DK B X kws δ M1 fun ds M2 => ∃ ns d, IsL M2 x (ns.map .int) ∧ ds = [.int d] ∧ (ns = [] → Φ (.int d) M2) ∧ ∀ m, m ∈ ns → (∀ y, y ∈ ns → y ≤ m) → Φ (.int m) M2)
   (hu : X.A.units + 64 < cLine) (he : starEach [a] X.env = (false, eval a X.env) :: starEach [] X.env := by rfl) (he2 : backTo pos (starEach [a] X.env) = (false, eval a X.env) :: backTo pos (starEach [] X.env) := by rfl) (hpl : (backTo pos (starEach [a] X.env)).any (·.1) = false := by rfl)
   (hall : (backToKw pos (keywordEach kws X.env)).all (·.1.isSome) = true := by rfl) (hnone : (backToKw pos (keywordEach kws X.env)).any (·.1.isNone) = false := by rfl) (hks : (backToKw pos (keywordEach kws X.env)).filterMap (·.1) = [Str.ofString "default"] := by rfl) : DE B X (.Call (.Name "max" p) [a] kws pos) δ M Φ :=
 .of (pe_callBK (cr_maxDef z.calm hu) g.gl g.no boot_max (pa_cons cE pa_nil he) cK (by decide) (by decide) he2 hpl hall hnone hks) fun κ σ H Q hb R k => h κ σ H _ hb R fun v x M1 H1 q1 R1 r1 =>
   q1 ((v, x) :: κ) σ H1 _ (fun q hq => List.mem_cons_of_mem _ (hb q hq)) (R1.push r1) fun ws ds M2 H2 ⟨ns, d, il, ed, k0, k1⟩ R2 r2 => by
     subst ed
     obtain ⟨a, us, rfl, e1, rr⟩ := il.sq R2.pop R2.top
     have := rr.ints
     subst this
     cases r2 with
     | cons r2 r3 =>
       cases r3
       cases r2
       exact ⟨a, ns, d, rfl, rfl, SqL.of e1, fun e => k _ _ _ _ (k0 e) R2.pop (.int _), fun m h1 h2 => k _ _ _ _ (k1 m h1 h2) R2.pop (.int _)⟩
theorem de_minL {n : Nat} (z : Cz X n) {p : Pos} (g : Gn X "min") (h : DA B X [a] δ M fun ds M1 => CallD (rMin X.K) ds M1 Φ) (he : starEach [a] X.env = (false, eval a X.env) :: starEach [] X.env := by rfl) (hpl : (backTo pos (starEach [] X.env)).any (·.1) = false := by rfl) : DE B X (.Call (.Name "min" p) [a] [] pos) δ M Φ := de_blt (cr_min z.calm) g boot_min h (by decide) (by decide) he hpl
theorem de_maxL {n : Nat} (z : Cz X n) {p : Pos} (g : Gn X "max") (h : DA B X [a] δ M fun ds M1 => CallD (rMax X.K) ds M1 Φ) (he : starEach [a] X.env = (false, eval a X.env) :: starEach [] X.env := by rfl) (hpl : (backTo pos (starEach [] X.env)).any (·.1) = false := by rfl) : DE B X (.Call (.Name "max" p) [a] [] pos) δ M Φ := de_blt (cr_max z.calm) g boot_max h (by decide) (by decide) he hpl
theorem reps_bls {F : List Addr} {H : Hp} : ∀ {vs : List V} {zs : List Bool}, Reps F H vs (zs.map .bl) → vs = zs.map .bl
 | _, [], r => by cases r; rfl
 | _, z :: zs, r => by
   cases r with
   | cons r1 r2 => cases r1; rw [reps_bls r2]; rfl
theorem de_all {n : Nat} (z : Cz X n) {p : Pos} (g : Gn X "all") (h : DA B X [a] δ M fun ds M1 => CallD (rAll X.K) ds M1 Φ) (he : starEach [a] X.env = (false, eval a X.env) :: starEach [] X.env := by rfl) (hpl : (backTo pos (starEach [] X.env)).any (·.1) = false := by rfl) : DE B X (.Call (.Name "all" p) [a] [] pos) δ M Φ := de_blt (cr_all z.calm) g boot_all h (by decide) (by decide) he hpl
theorem cd_all {K : PySem.W.Frag} {bs : List Bool} (h : IsL M x (bs.map .bl)) (k : Φ (.bl (bs.all id)) M) : CallD (rAll K) [x] M Φ := fun κ δ σ H vs Q R rs f => by
 cases rs with
 | cons r1 r2 =>
   cases r2
   obtain ⟨a, us, rfl, e1, rr⟩ := h.sq R r1
   have := reps_bls rr
   subst this
   exact ⟨a, bs, rfl, SqL.of e1, f _ _ _ _ k R (.bl _)⟩
end
end Hl
namespace Hl
open PySem PySem.Spec L2
open PyProof.Rows hiding St
def rSetL (K : PySem.W.Frag) (w : World) : List V → Hp → VK → Prop := fun xs H Q => ∃ (l : Addr) (ns : List Int), xs = [V.ref l] ∧ SqL K H l (ns.map V.int) ∧ ns.length ≤ 1000 ∧ ∀ p c, H p = none → c ≤ ns.length → Q (.ref p) (upd H p (SetO w p (fun j => decide (j ∈ ns)) c))
end Hl
namespace Hl
open PySem L2
open PyProof.Rows hiding St
def XRep (F : List Addr) (H : Hp) (dx : Option Addr) (ns : List Str) (ds : List D) : Prop :=
 (dx = none ∧ ns = [] ∧ ds = []) ∨ ∃ d vs, dx = some d ∧ d ∉ F ∧ H d = some (.xd (ns.zip vs)) ∧ ns.length = vs.length ∧ Reps F H vs ds
theorem XRep.fwd {F F' : List Addr} {H H' : Hp} {dx : Option Addr} {ns : List Str} {ds : List D} (h : XRep F H dx ns ds) (k : Fwd F H F' H') : XRep F' H' dx ns ds := by
 rcases h with h | ⟨d, vs, e, hn, hd, hl, r⟩
 · exact .inl h
 · exact .inr ⟨d, vs, e, (k _ _ hn hd (fun _ z => nomatch z)).1, (k _ _ hn hd (fun _ z => nomatch z)).2, hl, r.fwd k⟩
theorem XRep.held {F : List Addr} {H : Hp} {dx : Option Addr} {ns : List Str} {ds : List D} {a C : Addr} (h : XRep F H dx ns ds) (hn : a ∉ F) (hf : H a = none) : Rep F (upd H a (XO (.ref C) dx a)) (.ref a) (.exn C ns ds) := by
 rcases h with ⟨rfl, rfl, rfl⟩ | ⟨d, vs, rfl, hd, e, hl, r⟩
 · exact .exn0 hn upd_same
 · exact .exn hn upd_same hd (by rw [upd_ne (ne_of_none e hf)]; exact e) hl (r.fwd (Fwd.new hf))
def wishX (B : Bx) : WX := fun cls dx σ H => ∃ C ns ds δ M κ, cls = .ref C ∧ B.ex C ns ds δ M ∧ (∀ q ∈ B.ps, q ∈ κ) ∧ Rs κ δ M σ H ∧ XRep M.F H dx ns ds
def Tks (X : Cx) (B : Bx) : Prop := Takes X (wishX B)
abbrev XPost := Addr → List Str → List D → Mem → Prop
abbrev DSpE := List D → Mem → (D → Mem → Prop) → XPost → Prop
def noX : XPost := fun _ _ _ _ => False
def liftE (p : DSpE) : Sp := fun vs H Q E => ∃ κ ds M Φ Ξ, Rs κ [] M [] H ∧ Reps M.F H vs ds ∧ p ds M Φ Ξ ∧ (∀ v d M' H', Φ d M' → Rs κ [] M' [] H' → Rep M'.F H' v d → Q v H') ∧
 ∀ C ns es M' H' dx, Ξ C ns es M' → Rs κ [] M' [] H' → XRep M'.F H' dx ns es → E (.ref C) dx H'
def DVal : D → Value → Prop
 | .non, u => u = .none
 | .bl b, u => u = .bool b
 | .int i, u => ∃ t, u = .int i t
 | .str z, u => ∃ t, u = .str z t
 | _, _ => False
def dV : D → V
 | .bl b => .bl b
 | .int i => .int i
 | .str z => .str z
 | _ => .non
theorem dval_rel {d : D} {u : Value} (h : DVal d u) : RelV (dV d) u := by
 cases d <;> first | exact h | exact h.elim
theorem dval_rep {d : D} {u : Value} (h : DVal d u) (F : List Addr) (H : Hp) : Rep F H (dV d) d := by
 cases d <;> first | exact .non | exact .bl _ | exact .int _ | exact .str _ | exact h.elim
abbrev Sel := List (Nat ⊕ D)
def selD (sel : Sel) (ds : List D) : List D := sel.map fun | .inl j => ds.getD j .non | .inr d => d
def selV (sel : Sel) (vs : List V) : List V := sel.map fun | .inl j => vs.getD j .non | .inr d => dV d
inductive SelOk (us : List Value) : Sel → List Value → Prop
 | nil : SelOk us [] []
 | at {j : Nat} {u : Value} {sel : Sel} {all : List Value} : us[j]? = some u → SelOk us sel all → SelOk us (.inl j :: sel) (u :: all)
 | dflt {d : D} {u : Value} {sel : Sel} {all : List Value} : DVal d u → SelOk us sel all → SelOk us (.inr d :: sel) (u :: all)
theorem SelOk.vals {vs : List V} {us : List Value} (r : Vals vs us) : ∀ {sel : Sel} {all : List Value}, SelOk us sel all → Vals (selV sel vs) all
 | _, _, .nil => .nil
 | _, _, .at (j := j) e t => by
   refine .cons ?_ (SelOk.vals r t)
   have hj : j < us.length := (List.getElem?_eq_some_iff.mp e).1
   have hv : j < vs.length := by rw [r.length]; exact hj
   obtain ⟨u', e1, r1⟩ := Vals.get r (i := j) (x := vs[j]) (by simp [hv])
   rw [e] at e1
   cases e1
   have a1 : vs.getD j .non = vs[j] := by simp [List.getD, hv]
   show RelV (vs.getD j .non) _
   rw [a1]; exact r1
 | _, _, .dflt h t => .cons (dval_rel h) (SelOk.vals r t)
theorem SelOk.reps {us : List Value} {vs : List V} {ds : List D} {F : List Addr} {H : Hp} (hl : vs.length = us.length) (r : Reps F H vs ds) : ∀ {sel : Sel} {all : List Value}, SelOk us sel all → Reps F H (selV sel vs) (selD sel ds)
 | _, _, .nil => .nil
 | _, _, .at (j := j) e t => by
   refine .cons ?_ (SelOk.reps hl r t)
   have hj : j < us.length := (List.getElem?_eq_some_iff.mp e).1
   have hv : j < vs.length := by omega
   obtain ⟨d, e1, r1⟩ := r.get (i := j) (v := vs[j]) (by simp [hv])
   have a1 : vs.getD j .non = vs[j] := by simp [List.getD, hv]
   have a2 : ds.getD j .non = d := by simp [List.getD, e1]
   show Rep F H (vs.getD j .non) (ds.getD j .non)
   rw [a1, a2]; exact r1
 | _, _, .dflt h t => .cons (dval_rep h F H) (SelOk.reps hl r t)
structure CallB (K : PySem.W.Frag) (fd : FuncData) (ps : List Str) (n : Nat) (ks : List Str) (sel : Sel) : Prop where
 to : ∀ (s : Shared) (us ws : List Value), K.In s.heap → us.length = n → ws.length = ks.length → ∃ all, SelOk (us ++ ws) sel all ∧ BindsTo s fd ⟨us, ks.zip ws⟩ (ps.zip all)
structure FnD (P : Program) (w : World) (K : PySem.W.Frag) (mg : Str → Option Value) (base : Heap) (k : Nat) (f : Addr) (n : Nat) (ks : List Str) (sel : Sel) (p : DSpE) : Prop where
 ex : ∃ fd ps, CallB K fd ps n ks sel ∧ FnOk P w K mg base (L2.CX P w) k f fd ps (liftE p)
structure DefE (P : Program) (w : World) (K : PySem.W.Frag) (mg : Str → Option Value) (base : Heap) (k : Nat) (x : Str) (n : Nat) (ks : List Str) (sel : Sel) (p : DSpE) : Prop where
 ex : ∃ f, mg x = some (.ref f) ∧ PySem.W.keepIn K (.ref f) = true ∧ FnD P w K mg base k f n ks sel p
structure MethE (P : Program) (w : World) (K : PySem.W.Frag) (mg : Str → Option Value) (base : Heap) (k : Nat) (C : Addr) (m : Str) (n : Nat) (ks : List Str) (sel : Sel) (p : DSpE) : Prop where
 ex : ∃ f, Cls K C ∧ Meth K C m f ∧ FnD P w K mg base k f (n + 1) ks sel p
structure MakeE (P : Program) (w : World) (K : PySem.W.Frag) (mg : Str → Option Value) (base : Heap) (k : Nat) (x : Str) (C : Addr) (n : Nat) (ks : List Str) (sel : Sel) (p : DSpE) : Prop where
 ex : ∃ f, mg x = some (.ref C) ∧ Mk K C f ∧ FnD P w K mg base k f (n + 1) ks sel p
abbrev DefEX (X : Cx) := DefE X.prog X.w X.K X.mg X.base
abbrev MethEX (X : Cx) := MethE X.prog X.w X.K X.mg X.base
abbrev MakeEX (X : Cx) := MakeE X.prog X.w X.K X.mg X.base
section
variable {X : Cx} {k n : Nat} {f : Addr} {ks : List Str} {sel : Sel} {p : DSpE} {pins : List (Addr × Obj)} {σ : St} {H : Hp} {s : Shared} {Q : VK} {E : XK} {us ws : List Value} {vs zs : List V}
theorem run_E (F : FnD X.prog X.w X.K X.mg X.base k f n ks sel p) (hr : Room k X.A) (hx : PassesAt (L2.CX X.prog X.w) X σ E) (I : Inv X pins σ H s) (r : Vals vs us) (rz : Vals zs ws) (h1 : vs.length = n) (h2 : zs.length = ks.length)
   (h : ∀ us all, Vals (vs ++ zs) us → SelOk us sel all → liftE p (selV sel (vs ++ zs)) H Q E) : wpAny (model X.prog X.w) X.A (call (.ref f) us (ks.zip ws)) (EP X pins σ Q) X.xe s := by
 obtain ⟨fd, ps, cb, F⟩ := F.ex
 obtain ⟨all, so, b⟩ := cb.to s us ws I.kIn (by rw [← r.length]; exact h1) (by rw [← rz.length]; exact h2)
 have r2 := so.vals (r.append rz)
 have hq := h _ all (r.append rz) so
 refine wpAny_call (codeAny_mono (F.run X.A X.stack s H ⟨us, ks.zip ws⟩ all _ Q E hr I.env0 b r2 hq) fun r s' hq => ?_)
 cases r with
 | error e => exact hx pins H s e s' I hq
 | ok fl =>
   cases fl with
   | ret u => exact I.after hq
   | next => exact False.elim hq
   | brk => exact False.elim hq
   | cont => exact False.elim hq
theorem run_makeE {C : Addr} (Mk_ : Mk X.K C f) (F : FnD X.prog X.w X.K X.mg X.base k f (n + 1) ks sel p) (hr : Room (k + 1) X.A) (hx : PassesAt (L2.CX X.prog X.w) X σ E) (I : Inv X pins σ H s) (r : Vals vs us) (rz : Vals zs ws) (h1 : vs.length = n) (h2 : zs.length = ks.length)
   (h : ∀ x dx, H x = none → H dx = none → dx ≠ x → ∀ us all, Vals (.ref x :: vs ++ zs) us → SelOk us sel all → liftE p (selV sel (.ref x :: vs ++ zs)) (upd (upd H dx (.own x)) x (.ins C dx [])) (fun v H2 => v = .non ∧ Q (.ref x) H2) E) :
   wpAny (model X.prog X.w) X.A (call (.ref C) us (ks.zip ws)) (EP X pins σ Q) X.xe s := by
 obtain ⟨fd, ps, cb, F⟩ := F.ex
 have I2 := Inv.made (C := C) I
 obtain ⟨all, so, b⟩ := cb.to _ (.ref (s.heap.objs.size + 1) :: us) ws I2.kIn (by rw [List.length_cons, ← r.length, h1]) (by rw [← rz.length]; exact h2)
 have r1 : Vals (V.ref (s.heap.objs.size + 1) :: vs ++ zs) (Value.ref (s.heap.objs.size + 1) :: us ++ ws) := .cons rfl (r.append rz)
 have r2 := so.vals r1
 have hq := h (s.heap.objs.size + 1) s.heap.objs.size (I.hok.fresh (Nat.le_succ _)) (I.hok.fresh (Nat.le_refl _)) (Nat.ne_of_lt (Nat.lt_succ_self _)) _ all r1 so
 refine wpAny_call (make_map (f := f) I.kIn Mk_.makes Mk_.init (beq_iff_eq.mp Mk_.fn) (codeAny_mono (F.run _ X.stack _ _ ⟨Value.ref (s.heap.objs.size + 1) :: us, ks.zip ws⟩ all _ _ E (hr.make C us (ks.zip ws))
   (I2.env0.make C us (ks.zip ws)) b r2 hq) fun r s' hq' => ?_))
 cases r with
 | error e => exact hx pins _ _ e s' I2 hq'
 | ok fl =>
   cases fl with
   | ret u =>
     obtain ⟨v, H', I3, rv, ev, q3⟩ := I2.after hq'
     subst ev
     exact ⟨rv, ⟨V.ref (s.heap.objs.size + 1), H', I3, rfl, q3⟩⟩
   | next => exact False.elim hq'
   | brk => exact False.elim hq'
   | cont => exact False.elim hq'
end
end Hl
namespace Hl
open PySem L2
open PyProof.Rows hiding St
def DAK (B : Bx) (X : Cx) : List Expr → List Keyword → Env' → Mem → (List D → List D → Mem → Prop) → Prop
 | [], [], _, M, Φ => Φ [] [] M
 | e :: es, [], δ, M, Φ => DA B X (e :: es) δ M fun ds M1 => Φ ds [] M1
 | [], k :: kws, δ, M, Φ => DK B X (k :: kws) δ M fun zs M1 => Φ [] zs M1
 | e :: es, k :: kws, δ, M, Φ => DA B X (e :: es) δ M fun ds M1 => DK B X (k :: kws) δ M1 fun zs M2 => Φ ds zs M2
def PlA (X : Cx) (pos : Pos) : List Expr → List Keyword → List Str → Prop
 | [], [], ks => ks = []
 | e :: es, [], ks => ks = [] ∧ starEach (e :: es) X.env = (false, eval e X.env) :: starEach es X.env ∧ (backTo pos (starEach es X.env)).any (·.1) = false
 | [], k :: kws, ks => (backToKw pos (keywordEach (k :: kws) X.env)).filterMap (·.1) = ks ∧ (backToKw pos (keywordEach (k :: kws) X.env)).all (·.1.isSome) = true ∧ ((backTo pos (starEach [] X.env)).any (·.1) || (backToKw pos (keywordEach (k :: kws) X.env)).any (·.1.isNone)) = false
 | e :: es, k :: kws, ks => (backToKw pos (keywordEach (k :: kws) X.env)).filterMap (·.1) = ks ∧ (backToKw pos (keywordEach (k :: kws) X.env)).all (·.1.isSome) = true ∧ ((backTo pos (starEach (e :: es) X.env)).any (·.1) || (backToKw pos (keywordEach (k :: kws) X.env)).any (·.1.isNone)) = false ∧
     starEach (e :: es) X.env = (false, eval e X.env) :: starEach es X.env
section
variable {B : Bx} {X : Cx} {e a b c o : Expr} {es rest : List Expr} {kw : Keyword} {kws : List Keyword} {st : Stmt} {sts : List Stmt} {δ δ' : Env'} {M : Mem} {Φ : D → Mem → Prop} {Ψ : DEnds} {pos pos' apos pp : Pos} {d x y : D} {ΦA : List D → List D → Mem → Prop}
theorem dak_nn (h : ΦA [] [] M) : DAK B X [] [] δ M ΦA := h
theorem dak_en (h : DA B X (e :: es) δ M fun ds M1 => ΦA ds [] M1) : DAK B X (e :: es) [] δ M ΦA := h
theorem dak_nk (h : DK B X (kw :: kws) δ M fun zs M1 => ΦA [] zs M1) : DAK B X [] (kw :: kws) δ M ΦA := h
theorem dak_ek (h : DA B X (e :: es) δ M fun ds M1 => DK B X (kw :: kws) δ M1 fun zs M2 => ΦA ds zs M2) : DAK B X (e :: es) (kw :: kws) δ M ΦA := h
theorem held {κ : List (V × D)} {vs : List V} {ds : List D} {δ : Env'} {M : Mem} {σ : St} {H : Hp} : Reps M.F H vs ds → Rs κ δ M σ H → ∃ κ', (∀ q ∈ κ, q ∈ κ') ∧ Rs κ' δ M σ H ∧ ∀ {δ' : Env'} {M' : Mem} {σ' : St} {H' : Hp}, Rs κ' δ' M' σ' H' → Reps M'.F H' vs ds := by
 induction vs generalizing ds with
 | nil => intro r R; cases r; exact ⟨κ, fun _ h => h, R, fun _ => .nil⟩
 | cons v vs ih =>
   intro r R
   cases r with
   | cons r1 r2 =>
     obtain ⟨κ', h1, R', h2⟩ := ih r2 R
     rename_i d ds
     exact ⟨(v, d) :: κ', fun q hq => List.mem_cons_of_mem _ (h1 q hq), R'.push r1, fun R => .cons R.top (h2 R.pop)⟩
theorem dak_run {ks : List Str} {f : Value} {first : List Value} {pins : List (Addr × Obj)} {s : Shared} {κ : List (V × D)} {σ : St} {H : Hp} {Rq : Value → Shared → Prop} (hk : PySem.W.keepIn X.K f = true) (pl : PlA X pos es kws ks) (h : DAK B X es kws δ M ΦA) (I : Inv X pins σ H s)
   (hb : ∀ q ∈ B.ps, q ∈ κ) (R : Rs κ δ M σ H)
   (q : ∀ us ws s2 vs zs ds es M2 H2, Inv X pins σ H2 s2 → Vals vs us → Vals zs ws → ΦA ds es M2 → Rs κ δ M2 σ H2 → Reps M2.F H2 vs ds → Reps M2.F H2 zs es → wpAny (model X.prog X.w) X.A (call f (first ++ us) (ks.zip ws)) Rq X.xe s2) :
   wpAny (model X.prog X.w) X.A (callWith pos f first (backTo pos (starEach es X.env)) (backToKw pos (keywordEach kws X.env))) Rq X.xe s := by
 match es, kws, pl, h with
 | [], [], pl, h =>
   have pl : ks = [] := pl
   subst pl
   exact PySem.W.callWith_K0 I.kIn hk (q [] [] s [] [] [] [] M H I .nil .nil h R .nil .nil)
 | e :: es, [], ⟨e1, e2, e3⟩, h =>
   subst e1
   refine PySem.W.callWith_K (h₀ := X.base) I.ok.mod.kin hk (thn ((cA (X := X) (es := e :: es)).run pos pins s σ H (fun vs H1 => ∃ ds M1, ΦA ds [] M1 ∧ Rs κ δ M1 σ H1 ∧ Reps M1.F H1 vs ds) I (h κ σ H _ hb R fun vs ds M1 H1 q1 R1 r1 => ⟨ds, M1, q1, R1, r1⟩)) fun us s1 ⟨vs, H1, I1, r, ds, M1, q1, R1, r1⟩ => ⟨I1.kIn, ?_⟩) e2 e3
   exact q us [] s1 vs [] ds [] M1 H1 I1 r .nil q1 R1 r1 .nil
 | [], k :: kws, ⟨e1, e2, e3⟩, h =>
   refine PySem.W.callWith_KW0 (h₀ := X.base) I.ok.mod.kin hk e2 (thn ((cK (X := X) (kws := k :: kws)).run pos pins s σ H (fun vs H1 => ∃ ds M1, ΦA [] ds M1 ∧ Rs κ δ M1 σ H1 ∧ Reps M1.F H1 vs ds) I (h κ σ H _ hb R fun vs ds M1 H1 q1 R1 r1 => ⟨ds, M1, q1, R1, r1⟩)) fun ws s1 ⟨zs, H1, I1, r, ds, M1, q1, R1, r1⟩ => ⟨I1.kIn, ?_⟩) e3
   rw [e1]
   exact q [] ws s1 [] zs [] ds M1 H1 I1 .nil r q1 R1 .nil r1
 | e :: es, k :: kws, ⟨e1, e2, e3, e4⟩, h =>
   refine PySem.W.callWith_KW (h₀ := X.base) I.ok.mod.kin hk e2 (thn ((cA (X := X) (es := e :: es)).run pos pins s σ H (fun vs H1 => ∃ ds M1, (DK B X (k :: kws) δ M1 fun zs M2 => ΦA ds zs M2) ∧ Rs κ δ M1 σ H1 ∧ Reps M1.F H1 vs ds) I (h κ σ H _ hb R fun vs ds M1 H1 q1 R1 r1 => ⟨ds, M1, q1, R1, r1⟩)) fun us s1 ⟨vs, H1, I1, r, ds, M1, q1, R1, r1⟩ => ?_) e3 e4
   obtain ⟨κ', k1, R2, k2⟩ := held r1 R1
   refine thn ((cK (X := X) (kws := k :: kws)).run pos pins s1 σ H1 (fun zs H2 => ∃ es M2, ΦA ds es M2 ∧ Rs κ' δ M2 σ H2 ∧ Reps M2.F H2 zs es) I1 (q1 κ' σ H1 _ (fun q hq => k1 q (hb q hq)) R2 fun zs es M2 H2 q2 R3 r3 => ⟨es, M2, q2, R3, r3⟩)) fun ws s2 ⟨zs, H2, I2, rz, es, M2, q2, R3, r3⟩ => ⟨I2.kIn, ?_⟩
   rw [e1]
   exact q us ws s2 vs zs ds es M2 H2 I2 r rz q2 (R3.sub k1) (k2 R3) r3
theorem liftE_of {p : DSpE} {sel : Sel} {κ : List (V × D)} {σ : St} {H : Hp} {Q : VK} {vs : List V} {ds us} {all} {Ξ : XPost} {E : XK} (so : SelOk us sel all) (hl : vs.length = us.length) (R : Rs κ δ M σ H) (r : Reps M.F H vs ds) (q : p (selD sel ds) M Φ Ξ)
   (k : ∀ v d M' H', Φ d M' → Rs κ δ M' σ H' → Rep M'.F H' v d → Q v H') (kx : ∀ C ns es M' H' dx, Ξ C ns es M' → Rs κ δ M' σ H' → XRep M'.F H' dx ns es → E (.ref C) dx H') : liftE p (selV sel vs) H Q E :=
 ⟨κ ++ sk σ δ, _, M, Φ, Ξ, R.pack, so.reps hl r, q, fun v d M' H' q' R' r' => k v d M' H' q' (R.unpack R') r', fun C ns es M' H' dx q' R' x => kx C ns es M' H' dx q' (R.unpack R') x⟩
def atX (B : Bx) (δ : Env') : XPost := fun C ns ds M => B.ex C ns ds δ M
structure Lets (X : Cx) (B : Bx) (δ : Env') (Ξ : XPost) : Prop where
 ex : ∃ W, Takes X W ∧ ∀ κ σ C ns es M' H' dx, (∀ q ∈ B.ps, q ∈ κ) → Ξ C ns es M' → Rs κ δ M' σ H' → XRep M'.F H' dx ns es → W (.ref C) dx σ H'
theorem lets_at (tk : Tks X B) : Lets X B δ (atX B δ) := ⟨wishX B, tk, fun κ σ C ns es M' H' dx hb e R x => ⟨C, ns, es, δ, M', κ, rfl, e, hb, R, x⟩⟩
theorem lets_no : Lets X B δ noX := ⟨fun _ _ _ _ => False, takes0, fun _ _ _ _ _ _ _ _ _ e _ _ => e⟩
variable {k n m : Nat} {x : Str} {ks : List Str} {sel : Sel} {p : DSpE} {Ξ : XPost} {C : Addr}
theorem de_fE (z : Cz X m) (f : DefEX X k x n ks sel p) (hk : k ≤ m) (hg : Gl X x) (lt : Lets X B δ Ξ)
   (h : DAK B X es kws δ M fun ds zs M' => ds.length = n ∧ zs.length = ks.length ∧ p (selD sel (ds ++ zs)) M' Φ Ξ) (pl : PlA X pos es kws ks) (hdb : (x == ("__debug__" : Str)) = false := by decide) : DE B X (.Call (.Name x pp) es kws pos) δ M Φ := by
 obtain ⟨fa, h1, h2, h3⟩ := f.ex
 obtain ⟨W, tk, hx⟩ := lt
 intro κ σ H Q hb R kk
 unfold tE
 intro pins s I
 refine wpAny_Call_Name_kw (ld_glob I hg h1 ?_ hdb)
 refine dak_run (first := []) h2 pl h I hb R fun us ws s2 vs zs ds es M2 H2 I2 rv rz ⟨l1, l2, q⟩ R2 r1 r2 => ?_
 refine run_E h3 (z.room.mono hk) (passAt tk σ) I2 rv rz (by rw [r1.length]; exact l1) (by rw [r2.length]; exact l2) fun us' all rr so => ?_
 exact liftE_of so rr.length R2 (r1.append r2) q kk fun C ns es M' H' dx e R' x => hx κ σ C ns es M' H' dx hb e R' x
inductive IsO (M : Mem) : D → Addr → List Str → List D → Prop
 | val (C : Addr) (ns : List Str) (ds : List D) : IsO M (.obj C ns ds) C ns ds
 | cell {p C : Addr} {ns : List Str} {ds : List D} (j : Nat) (h : M[j]? = some (p, .obj C ns ds)) : IsO M (.raw (.ref p)) C ns ds
 | inm {p C : Addr} {ns : List Str} {ds : List D} (h : InM M p (.obj C ns ds)) : IsO M (.raw (.ref p)) C ns ds
theorem IsO.sq {κ : List (V × D)} {σ : St} {H : Hp} {v : V} {x : D} {C : Addr} {ns : List Str} {ds : List D} (h : IsO M x C ns ds) (R : Rs κ δ M σ H) (r : Rep M.F H v x) : ∃ p dx vs, v = .ref p ∧ H p = some (.ins C dx (ns.zip vs)) ∧ ns.length = vs.length ∧ Reps M.F H vs ds := by
 cases h with
 | val C ns ds => cases r with | obj h1 e1 l1 r1 => exact ⟨_, _, _, rfl, e1, l1, r1⟩
 | cell j h =>
   cases r
   obtain ⟨dx, vs, e1, l1, r1⟩ := R.at h
   exact ⟨_, dx, vs, rfl, e1, l1, r1⟩
 | inm h =>
   cases r
   obtain ⟨dx, vs, e1, l1, r1⟩ := h.ok R
   exact ⟨_, dx, vs, rfl, e1, l1, r1⟩
theorem lookup_zip {β : Type} {f : Str} : ∀ {ns : List Str} {vs : List β}, ns.contains f = false → (ns.zip vs).lookup f = none
 | [], _, _ => by simp
 | _ :: _, [], _ => by simp
 | n :: ns, v :: vs, h => by
   rw [List.contains_cons, Bool.or_eq_false_iff] at h
   rw [List.zip_cons_cons, List.lookup_cons, h.1]
   exact lookup_zip h.2
theorem de_kE {x : Str} (j : Nat) (z : Cz X m) (f : MakeEX X k x C n ks sel p) (hk : k + 1 ≤ m) (hg : Gl X x) (lt : Lets X B δ Ξ)
   (h : DAK B X es kws δ M fun ds zs M' => ds.length = n ∧ zs.length = ks.length ∧ ∀ a, p (selD sel (.raw (.ref a) :: ds ++ zs)) (insM j (a, .obj C [] []) M') (fun d M2 => d = .non ∧ Φ (.raw (.ref a)) M2) Ξ) (pl : PlA X pos es kws ks) (hdb : (x == ("__debug__" : Str)) = false := by decide) : DE B X (.Call (.Name x pp) es kws pos) δ M Φ := by
 obtain ⟨fa, h1, mk, h3⟩ := f.ex
 obtain ⟨W, tk, hx⟩ := lt
 intro κ σ H Q hb R kk
 unfold tE
 intro pins s I
 refine wpAny_Call_Name_kw (ld_glob I hg h1 ?_ hdb)
 refine dak_run (first := []) mk.kp pl h I hb R fun us ws s2 vs zs ds es M2 H2 I2 rv rz ⟨l1, l2, q⟩ R2 r1 r2 => ?_
 refine run_makeE mk h3 (z.room.mono hk) (passAt tk σ) I2 rv rz (by rw [r1.length]; exact l1) (by rw [r2.length]; exact l2) fun a dx ha hdx hne us' all rr so => ?_
 have R3 : Rs κ δ M2 σ (upd H2 dx (.own a)) := R2.new hdx
 have R4 : Rs κ δ (insM j (a, .obj C [] []) M2) σ (upd (upd H2 dx (.own a)) a (.ins C dx [])) := (R3.add (p := a) (o := .ins C dx []) (c := .obj C [] []) (by rw [upd_ne (Ne.symm hne)]; exact ha) rfl ⟨dx, [], upd_same, rfl, .nil⟩).perm insM_perm
 have fw : Fwd M2.F H2 (Mem.F (insM j (a, .obj C [] []) M2)) (upd (upd H2 dx (.own a)) a (.ins C dx [])) := by
   intro b o hb e _
   have n1 : b ≠ dx := fun z => by rw [z, hdx] at e; cases e
   have n2 : b ≠ a := fun z => by rw [z, ha] at e; cases e
   refine ⟨fun z => ?_, by rw [upd_ne n2, upd_ne n1]; exact e⟩
   have z2 : b ∈ Mem.F ((a, Cell.obj C [] []) :: M2) := (F_perm insM_perm).mem_iff.mpr z
   rcases List.mem_append.mp (show b ∈ own a (Cell.obj C [] []) ++ Mem.F M2 from z2) with y | y
   · exact n2 (by simpa [own] using y)
   · exact hb y
 have r5 : Reps (Mem.F (insM j (a, .obj C [] []) M2)) (upd (upd H2 dx (.own a)) a (.ins C dx [])) (.ref a :: vs ++ zs) (.raw (.ref a) :: ds ++ es) := (Reps.cons (.raw _) (r1.fwd fw)).append (r2.fwd fw)
 refine liftE_of so rr.length R4 r5 (q a) (fun v d M' H' ⟨e, q'⟩ R' r' => ?_) fun C ns es M' H' dx e R' x => hx κ σ C ns es M' H' dx hb e R' x
 subst e
 cases r'
 exact ⟨rfl, kk _ _ _ _ q' R' (.raw _)⟩
end
structure InDefE (P : Program) (w : World) (K : PySem.W.Frag) (mg : Str → Option Value) (base : Heap) (N : List Str) (sc : Scope) (k : Nat) (X : Cx) (B : Bx) : Prop where
 prog : X.prog = P
 wd : X.w = w
 K : X.K = K
 mg : X.mg = mg
 base : X.base = base
 N : X.N = N
 sc : X.env.scope = sc
 fn : X.fn = fun _ => true
 z : Cz X k
 hp : PassesOwn (model X.prog X.w) X.A X.env X.xe
 tk : Tks X B
 st : X.stack = X.env :: X.outer
 fr : X.env.frame = some X.env.locals
def VwX (ns : List Str) (ds : List D) (M : Mem) (ds2 : List D) (M2 : Mem) : Prop := ∀ κ δ σ H dx, Rs κ δ M σ H → XRep M.F H dx ns ds → Rs κ δ M2 σ H ∧ XRep M2.F H dx ns ds2
theorem VwX.refl {ns : List Str} {ds : List D} {M : Mem} : VwX ns ds M ds M := fun _ _ _ _ _ R x => ⟨R, x⟩
theorem VwX.sub {ns : List Str} {ds : List D} {M M2 : Mem} (h : M2.Sublist M) : VwX ns ds M ds M2 := fun _ _ _ _ _ R x => ⟨R.less h, x.fwd (Fwd.less fun x hx => (F_sub h).subset hx)⟩
end Hl
namespace Hl
open PySem L2
open PyProof.Rows hiding St
section
variable {X : Cx} {pins : List (Addr × Obj)} {σ : St} {H : Hp} {sI s' : Shared} {B : Heap} {a : Addr} {o : HO}
theorem xo_ok {P : Program} {w : World} {H : Hp} {h : Heap} {a : Addr} {cls : Value} {d : Option Addr} {oe : Obj} {vs : Array Value} (e : h.get? a = some oe) (z : Zc cls d oe) (hd : oe.data = .fields vs) : ObjOk P w H h a (XO cls d a) :=
 ⟨⟨oe, vs, e, z, hd⟩, ⟨oe, e⟩, fun _ _ ⟨o, v, q, r⟩ k => ⟨o, v, k o q, r⟩⟩
theorem Inv.landedX (I : Inv X pins σ H sI) (nb : ∀ b o, sI.heap.get? b = some o → b ∉ frs X.stack → B.get? b = some o) (st : B.StaysIn s'.heap) (up : sI.heap.UpToSlots s'.heap) (os : s'.os = sI.os) (ag : AllBare s'.gens)
   (na : H a = none) (n0 : sI.heap.get? a = none) (ok : ObjOk X.prog X.w (upd H a o) s'.heap a o) : Inv X pins σ (upd H a o) s' := by
 have nf : ∀ b ∈ frs X.stack, ∀ o, sI.heap.get? b = some o → ∃ sl, s'.heap.get? b = some { o with slots := sl } := fun b hb o e => by
   obtain ⟨_, o', e', hd⟩ := I.stack.mem hb
   rw [e] at e'; cases e'
   exact up b o e hd
 have J := I.call (ch := []) (h' := s'.heap) (g' := s'.gens) (t' := s'.toks) (d' := s'.drawn) (H' := upd H a o)
   ⟨fun b o e _ hb _ => st b o (nb b o e hb), fun b o e _ hb _ => nf b hb o e, fun b o e n _ => by rw [upd_ne (fun z => by rw [z, n0] at e; cases e)]; exact n, fun b o e _ => by
     by_cases hb : b ∈ frs X.stack
     · obtain ⟨sl, q⟩ := nf b hb o e
       exact ⟨_, q⟩
     · exact ⟨o, st b o (nb b o e hb)⟩, fun b xs e => by rw [upd_ne (ne_of_none e na)]; exact e, fun b o u e => by rw [upd_ne (ne_of_none e na)]; exact e, fun b ps e => ⟨#[], by rw [upd_ne (ne_of_none e na), e]; simp⟩⟩
   (HOk.laidN ((I.inGround nb).kept st) (fun _ _ q => q) na ok) ag (fun _ z => nomatch z)
 obtain ⟨a1, a2, a3, a4, a5⟩ := s'
 have e5 : a5 = sI.os := os
 subst e5
 exact J
theorem Inv.suiteX (I : Inv X pins σ H s') {a : Addr} : Inv (X.suite a (X.pn ++ pins)) [] σ H s' :=
 ⟨I.ok.suite _ _, I.os, I.bare, I.base, I.loc, I.cell, I.free, I.freeC, fun p hp => by rw [List.append_nil] at hp; exact I.pin p hp, I.hok, I.len⟩
theorem Inv.unsuiteX {a : Addr} {pn' : List (Addr × Obj)} (I : Inv (X.suite a (X.pn ++ pins)) pn' σ H s') (ok : X.Ok) : Inv X pins σ H s' :=
 ⟨ok, I.os, I.bare, I.base, I.loc, I.cell, I.free, I.freeC, fun p hp => I.pin p (List.mem_append_left _ hp), I.hok, I.len⟩
end
abbrev Hd1 := Value × Option Nat × TS
def endsAs (i : Nat) (D : Ends) : Ends := { nx := fun σ' H' => D.nx (σ'.set i none) H', rt := D.rt, bk := fun σ' H' => D.bk (σ'.set i none) H', ct := fun σ' H' => D.ct (σ'.set i none) H' }
def wHds (K : PySem.W.Frag) (Wout : WX) (D : Ends) : List Hd1 → WX
 | [] => Wout
 | (c, none, ts) :: r => fun cls d σ H => ∃ b, PySem.W.exmOne K cls c = some b ∧ (b = true → ∀ a, H a = none → ts D σ (upd H a (XO cls d a))) ∧ (b = false → wHds K Wout D r cls d σ H)
 | (c, some i, ts) :: r => fun cls d σ H => ∃ b, PySem.W.exmOne K cls c = some b ∧ (b = true → ∀ a, H a = none → ts (endsAs i D) (σ.set i (some (.ref a))) (upd H a (XO cls d a))) ∧ (b = false → wHds K Wout D r cls d σ H)
inductive HdsX (X : Cx) : List ExceptHandler → List Hd1 → Prop
 | nil : HdsX X [] []
 | cons {x : Str} {c : Value} {ts : TS} {b₀ : Stmt} {suite : List Stmt} {np pos' : Pos} {hds : List ExceptHandler} {l : List Hd1} (hc : Names X x c)
     (hsu : ∀ (a : Addr) (pn : List (Addr × Obj)), PSs (X.suite a pn) (b₀ :: suite) ts) (r : HdsX X hds l) : HdsX X (.ExceptHandler (some (.Name x np)) none (b₀ :: suite) pos' :: hds) ((c, none, ts) :: l)
 | consAs {x n : Str} {i : Nat} {c : Value} {ts : TS} {b₀ : Stmt} {suite : List Stmt} {np pos' : Pos} {hds : List ExceptHandler} {l : List Hd1} (hc : Names X x c) (hi : X.N[i]? = some n) (hln : X.env.kindOf n = some .local)
     (hsu : ∀ (a : Addr) (pn : List (Addr × Obj)), PSs (X.suite a pn) (b₀ :: suite) ts) (r : HdsX X hds l) : HdsX X (.ExceptHandler (some (.Name x np)) (some n) (b₀ :: suite) pos' :: hds) ((c, some i, ts) :: l)
theorem ps_tryX {X : Cx} {body : List Stmt} {h₀ : ExceptHandler} {hds : List ExceptHandler} {l : List Hd1} {pos : Pos} {tb : WX → TS} {Wout : WX} (hs : X.stack = X.env :: X.outer) (hf : X.env.frame = some X.env.locals) (hN : X.N.Nodup) (tk : Takes X Wout)
   (hb : ∀ (W : WX) (pn : List (Addr × Obj)) (xe : Value → Shared → Prop), Takes (X.tr pn xe) W → PassesOwn (model X.prog X.w) X.A X.env xe → PSs (X.tr pn xe) body (tb W))
   (hh : HdsX X (h₀ :: hds) l) : PS X (.Try body (h₀ :: hds) [] [] pos) (fun D σ H => tb (wHds X.K Wout D l) D σ H) := by
 refine ⟨fun pins s σ H D I h => ?_⟩
 have ok := I.ok
 have hfr : X.A.frames = some (X.env :: X.outer) := by rw [ok.frames, hs]
 refine wpAny_Try_except ?_
 refine wpAny_mono ((hb (wHds X.K Wout D l) (X.pn ++ pins) (fun e s₁ => wpAny (model X.prog X.w) X.A (noteFrame e X.env) (fun _ s₂ => wpAny (model X.prog X.w) X.A (setFlight e none) (fun _ s₃ =>
   wpAny (model X.prog X.w) X.A (handleBy e X.env (h₀ :: hds)) (SP X pins D) X.xe s₃) X.xe s₂) X.xe s₁) (fun u s' xx => ?_) PassesOwn.looking).run [] s σ H D (I.toTry _) h) (fun f s1 hsp => ?_) (fun e s1 he => he)
 · obtain ⟨a, B, sI, pins', σ', H', cls, d, rfl, J', nb, up, sky, na, os, ag, w⟩ := xx
   have J : Inv X pins σ' H' sI := J'.ofTry ok
   have sky' : Sky B (X.env :: X.outer) a (Zc cls d) X.env.locals s'.heap := by rw [← hs]; exact sky
   show wpAny (model X.prog X.w) X.A (noteFrame (.ref a) X.env) _ _ _
   refine Sky.land Zc.steady hfr hf sky' fun h3 fl3 up3 => ?_
   have J3 : Inv X pins σ' H' { s' with heap := h3 } := J.landed nb fl3.1 (up.trans up3) os ag
   obtain ⟨oe3, vs3, he3, hz3, hd3⟩ := fl3.there
   have notFr : ∀ {h : Heap} {o : Obj} {vs : Array Value}, h.FunFrames B (X.env :: X.outer) → h.get? a = some o → o.data = .fields vs → a ∉ frs (X.env :: X.outer) := fun {h o vs} ff e dd hm => by
     obtain ⟨_, o', e', hnf⟩ := ff.mem hm
     rw [e] at e'; cases e'
     exact hnf _ dd
   have nfr := notFr fl3.2.2.1 he3 hd3
   have nL : a ≠ X.env.locals := fun z => nfr (List.mem_filterMap.mpr ⟨X.env, List.mem_cons_self, by rw [hf, z]⟩)
   have nF : a ∉ X.fs := fun hm => by
     obtain ⟨e, he, q⟩ := List.mem_filterMap.mp hm
     exact nfr (List.mem_filterMap.mpr ⟨e, List.mem_cons_of_mem _ he, q⟩)
   have n0 : sI.heap.get? a = none := by
     cases e : sI.heap.get? a with
     | none => rfl
     | some ob =>
       have z := nb a ob e (by rw [hs]; exact nfr)
       rw [fl3.2.1] at z
       cases z
   have S3 := J3.suite he3 hd3 na nL nF
   have LT : PySem.W.Looks (model X.prog X.w) h3 (typeOf (.ref a)) cls := fun A Q E s k q => wpAny_typeOf_ref (k _ _ he3) (by rw [hz3.1]; exact q)
   have go : ∀ {hds' : List ExceptHandler} {l' : List Hd1}, HdsX X hds' l' → wHds X.K Wout D l' cls d σ' H' →
       wpAny (model X.prog X.w) X.A (handleBy (.ref a) X.env hds') (SP X pins D) X.xe { s' with heap := h3 } := by
     intro hds' l' hk
     have test : ∀ {x : Str} {c : Value} {np : Pos} {Q : Value → Shared → Prop} {E : Value → Shared → Prop}, Names X x c → Q c { s' with heap := h3 } → wpAny (model X.prog X.w) (X.A.mark (some (.ref a))) (eval (.Name x np) X.env) Q E { s' with heap := h3 } := fun {x c np Q E} hc q => by
       obtain ⟨hg, hdbg, hm | ⟨hm, hv, hnn⟩⟩ := hc
       · exact ld_glob (X := X.suite a ((a, oe3) :: (X.pn ++ pins))) S3 hg hm q hdbg
       · exact ld_blt (X := X.suite a ((a, oe3) :: (X.pn ++ pins))) S3 hg hm hv q hnn hdbg
     induction hk with
     | nil =>
       intro w
       refine wpAny_handleBy_nil ?_
       obtain ⟨k1, k2, k3, oe, vs, T, oT, ts', he, hz, hd, h1, hr⟩ := id fl3
       unfold PySem.passOn
       refine wpAny_bind (wpAny_field he hd h1 ?_)
       rw [if_neg (show ¬ ((Value.ref T == Value.none) = true) from by simp)]
       have fin : wpAny (model X.prog X.w) X.A (setFlight (.ref a) X.env.frame) (fun _ s4 => wpAny (model X.prog X.w) X.A (throw (.ref a) : Sem Flow) (SP X pins D) X.xe s4) X.xe { s' with heap := h3 } := by
         rw [hf]
         refine HandSPX.setFlight_upZ fl3 fun h4 hh4 up4 => wpAny_throw (tk _ _ ?_)
         exact ⟨a, B, sI, pins, σ', H', cls, d, rfl, J, nb, (up.trans up3).trans up4, .inr (.inr (by rw [hs]; exact hh4)), na, os, ag, w⟩
       first
         | exact wpAny_bind (wpAny_pure (wpAny_bind fin))
         | exact wpAny_bind fin
     | @cons x c ts b₀ suite np pos' hds2 l2 hc hsu r ih =>
       intro w
       obtain ⟨b, hb1, hyes, hno⟩ := w
       refine wpAny_handleBy_cons (codeAny_handlers_test ?_) (by intro q; cases q)
       have LM := PySem.W.exm_one (M := model X.prog X.w) (J3.kIn) LT hb1
       refine test hc (LM.here ?_)
       cases b with
       | true =>
         refine codeAny_handlers_suite ?_
         refine HandSPX.lands_againZ fl3 fun h4 fl4 up4 => ?_
         obtain ⟨oe4, vs4, he4, hz4, hd4⟩ := fl4.there
         have J4 : Inv X pins σ' (upd H' a (XO cls d a)) { s' with heap := h4 } := Inv.landedX J nb fl4.1 ((up.trans up3).trans up4) os ag na n0 (xo_ok he4 hz4 hd4)
         have S4 := Inv.suiteX J4 (a := a)
         refine wpAny_mono ((hsu a (X.pn ++ pins)).run [] _ _ _ _ S4 (hyes rfl a na)) (fun f s6 hsp => ?_) (fun _ _ z => False.elim z)
         cases f with
         | next =>
           obtain ⟨σ6, H6, S6, q6⟩ := hsp
           exact ⟨_, _, Inv.unsuiteX S6 ok, q6⟩
         | brk =>
           obtain ⟨σ6, H6, S6, q6⟩ := hsp
           exact ⟨_, _, Inv.unsuiteX S6 ok, q6⟩
         | cont =>
           obtain ⟨σ6, H6, S6, q6⟩ := hsp
           exact ⟨_, _, Inv.unsuiteX S6 ok, q6⟩
         | ret u =>
           obtain ⟨v6, σ6, H6, S6, r6, q6⟩ := hsp
           exact ⟨_, _, _, Inv.unsuiteX S6 ok, r6, q6⟩
       | false =>
         show wpAny _ X.A (handleBy (.ref a) X.env hds2) _ _ _
         exact ih (hno rfl)
     | @consAs x n i c ts b₀ suite np pos' hds2 l2 hc hi hln hsu r ih =>
       intro w
       obtain ⟨b, hb1, hyes, hno⟩ := w
       refine wpAny_handleBy_cons (codeAny_handlers_test ?_) (by intro q; cases q)
       have LM := PySem.W.exm_one (M := model X.prog X.w) (J3.kIn) LT hb1
       refine test hc (LM.here ?_)
       cases b with
       | true =>
         refine codeAny_handlers_suite_as ?_
         refine HandSPX.lands_againZ fl3 fun h4 fl4 up4 => ?_
         obtain ⟨oe4, vs4, he4, hz4, hd4⟩ := fl4.there
         have J4 : Inv X pins σ' (upd H' a (XO cls d a)) { s' with heap := h4 } := Inv.landedX J nb fl4.1 ((up.trans up3).trans up4) os ag na n0 (xo_ok he4 hz4 hd4)
         have S4 := Inv.suiteX J4 (a := a)
         refine store_ok (X := X.suite a (X.pn ++ pins)) (v := .ref a) S4 hN hi (.inl hln) rfl (fun s5 S5 => ?_) (.inr hln)
         refine wpAny_mono ((hsu a (X.pn ++ pins)).run [] s5 _ _ _ S5 (hyes rfl a na)) (fun f s6 hsp => ?_) (fun _ _ z => False.elim z)
         have end_ : ∀ {σ6 : St} {H6 : Hp} {Q : Shared → Prop}, Inv (X.suite a (X.pn ++ pins)) [] σ6 H6 s6 → (∀ s7, Inv X pins (σ6.set i none) H6 s7 → Q s7) →
             wpAny (model X.prog X.w) X.A (do bindName X.env n .none; unbindBehindTheSuite X.env n pos') (fun _ s7 => Q s7) X.xe s6 := fun {σ6 H6 Q} S6 hq => gone_ok (Inv.unsuiteX S6 ok) hN hi hln hq
         cases f with
         | next =>
           obtain ⟨σ6, H6, S6, q6⟩ := hsp
           exact end_ S6 fun s7 J7 => ⟨_, _, J7, q6⟩
         | brk =>
           obtain ⟨σ6, H6, S6, q6⟩ := hsp
           exact end_ S6 fun s7 J7 => ⟨_, _, J7, q6⟩
         | cont =>
           obtain ⟨σ6, H6, S6, q6⟩ := hsp
           exact end_ S6 fun s7 J7 => ⟨_, _, J7, q6⟩
         | ret u =>
           obtain ⟨v6, σ6, H6, S6, r6, q6⟩ := hsp
           exact end_ S6 fun s7 J7 => ⟨_, _, _, J7, r6, q6⟩
       | false =>
         show wpAny _ X.A (handleBy (.ref a) X.env hds2) _ _ _
         exact ih (hno rfl)
   exact go hh w
 · cases f with
   | next =>
     obtain ⟨σ', H', J', q⟩ := hsp
     exact wpAny_execs_nil ⟨σ', H', J'.ofTry ok, q⟩
   | brk =>
     obtain ⟨σ', H', J', q⟩ := hsp
     exact ⟨σ', H', J'.ofTry ok, q⟩
   | cont =>
     obtain ⟨σ', H', J', q⟩ := hsp
     exact ⟨σ', H', J'.ofTry ok, q⟩
   | ret u =>
     obtain ⟨v, σ', H', J', r, q⟩ := hsp
     exact ⟨v, σ', H', J'.ofTry ok, r, q⟩
end Hl
namespace Hl
open PySem L2
open PyProof.Rows hiding St
section
variable {B : Bx} {X : Cx} {e a b c o : Expr} {es rest : List Expr} {kw : Keyword} {kws : List Keyword} {st : Stmt} {sts body suite : List Stmt} {δ δ' : Env'} {M : Mem} {Φ : D → Mem → Prop} {Ψ : DEnds} {pos pos' apos pp np : Pos} {d x y : D} {ΦL : List D → Mem → Prop}
abbrev HdD := Addr × Option Nat × List Stmt
def endsD (oi : Option Nat) (Ψ : DEnds) : DEnds := match oi with
 | none => Ψ
 | some i => { nx := fun δ M => Ψ.nx (δ.set i none) M, rt := Ψ.rt, bk := fun δ M => Ψ.bk (δ.set i none) M, ct := fun δ M => Ψ.ct (δ.set i none) M }
def envD (oi : Option Nat) (δ : Env') (d : D) : Env' := match oi with
 | none => δ
 | some i => δ.set i (some d)
def exH (B : Bx) (X : Cx) (Ψ : DEnds) : List HdD → Addr → List Str → List D → Env' → Mem → Prop
 | [] => B.ex
 | (c0, oi, suite) :: r => fun C ns ds δ M => ∃ b, PySem.W.exmOne X.K (.ref C) (.ref c0) = some b ∧ (b = true → ∀ a pn kp, DSs ⟨kp, fun _ _ _ _ _ => False⟩ (X.suite a pn) suite (envD oi δ (.exn C ns ds)) M (endsD oi Ψ)) ∧ (b = false → exH B X Ψ r C ns ds δ M)
def HdsOkD (X : Cx) : List ExceptHandler → List HdD → Prop
 | [], [] => True
 | .ExceptHandler (some (.Name x _)) n (b₀ :: su) _ :: hds, (c0, oi, suite) :: l => (Gl X x ∧ (x == ("__debug__" : Str)) = false ∧ X.mg x = some (.ref c0)) ∧ suite = b₀ :: su ∧ (match n, oi with
     | none, none => True
     | some n, some i => X.N[i]? = some n ∧ X.env.kindOf n = some .local
     | _, _ => False) ∧ HdsOkD X hds l
 | _, _ => False
def tsSu (X : Cx) (suite : List Stmt) : TS := fun D σ H => ∀ a pn, tSs (X.suite a pn) suite D σ H
def toHd (X : Cx) (l : List HdD) : List Hd1 := l.map fun h => (.ref h.1, h.2.1, tsSu X h.2.2)
theorem hds_of : ∀ {hds : List ExceptHandler} {l : List HdD}, HdsOkD X hds l → HdsX X hds (toHd X l)
 | [], [], _ => .nil
 | .ExceptHandler (some (.Name x _)) none (b₀ :: su) _ :: hds, (c0, none, suite) :: l, ⟨⟨h1, h2, h3⟩, e, _, r⟩ => by
   subst e
   exact .cons ⟨h1, h2, .inl h3⟩ (fun a pn => ⟨fun pins s σ H D I h => cSs.run pins s σ H D I (h a pn)⟩) (hds_of r)
 | .ExceptHandler (some (.Name x _)) (some n) (b₀ :: su) _ :: hds, (c0, some i, suite) :: l, ⟨⟨h1, h2, h3⟩, e, ⟨h4, h5⟩, r⟩ => by
   subst e
   exact .consAs ⟨h1, h2, .inl h3⟩ h4 h5 (fun a pn => ⟨fun pins s σ H D I h => cSs.run pins s σ H D I (h a pn)⟩) (hds_of r)
 | .ExceptHandler (some (.Name x _)) none (b₀ :: su) _ :: hds, (c0, some i, suite) :: l, ⟨_, _, h, _⟩ => h.elim
 | .ExceptHandler (some (.Name x _)) (some n) (b₀ :: su) _ :: hds, (c0, none, suite) :: l, ⟨_, _, h, _⟩ => h.elim
theorem ends_as {κ : List (V × D)} {E : Ends} {i : Nat} (k : EndsOk κ Ψ E) : EndsOk κ (endsD (some i) Ψ) (endsAs i E) :=
 ⟨fun δ M σ H q R => k.nx _ M _ H q (R.wipe1 i none), k.rt, fun δ M σ H q R => k.bk _ M _ H q (R.wipe1 i none), fun δ M σ H q R => k.ct _ M _ H q (R.wipe1 i none)⟩
theorem wish_hds {κ κ' : List (V × D)} {E : Ends} {C : Addr} {ns : List Str} {ds : List D} {M : Mem} {σ : St} {H : Hp} {dx : Option Addr} (hbk : ∀ q ∈ B.ps, q ∈ κ) (hk : ∀ q ∈ κ, q ∈ κ') (k : EndsOk κ Ψ E) (R : Rs κ' δ M σ H) (xr : XRep M.F H dx ns ds) :
   ∀ {l : List HdD}, exH B X Ψ l C ns ds δ M → wHds X.K (wishX B) E (toHd X l) (.ref C) dx σ H
 | [], h => ⟨C, ns, ds, δ, M, κ', rfl, h, fun q hq => hk q (hbk q hq), R, xr⟩
 | (c0, none, suite) :: l, ⟨b, h1, h2, h3⟩ => by
   refine ⟨b, h1, fun eb a na a' pn => ?_, fun eb => wish_hds hbk hk k R xr (h3 eb)⟩
   exact h2 eb a' pn κ κ' σ _ E hk (R.new na) (k.sub hk)
 | (c0, some i, suite) :: l, ⟨b, h1, h2, h3⟩ => by
   refine ⟨b, h1, fun eb a na a' pn => ?_, fun eb => wish_hds hbk hk k R xr (h3 eb)⟩
   exact h2 eb a' pn κ κ' _ _ _ hk ((R.new na).put i (xr.held (R.fresh na) na)) (ends_as (k.sub hk))
theorem ds_try {h₀ : ExceptHandler} {hds : List ExceptHandler} (l : List HdD) (hst : X.stack = X.env :: X.outer) (hfr : X.env.frame = some X.env.locals) (nd : X.N.Nodup) (tk : Tks X B) (hok : HdsOkD X (h₀ :: hds) l)
   (h : ∀ pn xe kp, PassesOwn (model X.prog X.w) X.A X.env xe → Tks (X.tr pn xe) ⟨kp, exH B X Ψ l⟩ → DSs ⟨kp, exH B X Ψ l⟩ (X.tr pn xe) body δ M Ψ) : DS B X (.Try body (h₀ :: hds) [] [] pos) δ M Ψ := by
 refine .of (ps_tryX (tb := fun W D σ H => ∀ pn xe, Takes (X.tr pn xe) W → PassesOwn (model X.prog X.w) X.A X.env xe → tSs (X.tr pn xe) body D σ H) hst hfr nd tk (fun W pn xe tk' po => ⟨fun pins s σ H D I h => cSs.run pins s σ H D I (h pn xe tk' po)⟩) (hds_of hok)) fun κ σ H E hb R k => ?_
 intro pn xe tk' po
 refine h pn xe κ po (Takes.imp tk' fun cls dx σ' H' hw => ?_) κ σ H E (fun _ h => h) R k
 obtain ⟨C, ns, ds, δ', M', κ', rfl, hx, hb', R', xr⟩ := hw
 exact wish_hds hb hb' k R' xr hx
structure Ex0 (K : PySem.W.Frag) (mg : Str → Option Value) (x : Str) (C : Addr) : Prop where
 gC : mg x = some (.ref C)
 q : PySem.W.excIn K C [.type "ValueError", .type "Exception", .type "BaseException", .type "object"] "ValueError.__new__" = true
 kC : PySem.W.keepIn K (.ref C) = true
 sub : PySem.W.subIn K (.ref C) (.type "BaseException") = some true
 ty : PySem.W.typeIn K (.ref C) = some (.type "type")
theorem pmk_own0 {C : Addr} {x : Str} {p : Pos} (T : Ex0 X.K X.mg x C) (hg : Gl X x) (hdb : (x == ("__debug__" : Str)) = false := by decide) : PMk X (.Call (.Name x p) [] [] pos) (fun σ H Q => Q (.ref C) none H) := by
 intro pins s σ H Q I h
 refine wpAny_Call_Name_kw (ld_glob I hg T.gC ?_ hdb)
 refine PySem.W.callWith_K0 I.kIn T.kC ?_
 show wpAny _ _ (call (.ref C) []) _ _ _
 obtain ⟨bm, N, nm, qn, bs, hdct, sn, sub, ab, col, dd, k0, k1, k2, k3, k5, mN, hC, hN, hni, T'⟩ := exc_obj I.kIn T.q
 refine wpAny_call_exc_subT PySem.F.excBase_ValueError T' hC hN hni (fun h' e hm => ?_) (by show 0 ≤ sizeLine; exact Nat.zero_le _)
 exact mk_of I hm (raises_own T.sub T.ty) h (I.hok.gone hm.new)
theorem ds_raise0 {C : Addr} {x : Str} {p : Pos} {n : Nat} (z : Cz X n) (tk : Tks X B) (T : Ex0 X.K X.mg x C) (hg : Gl X x) (h : B.ex C [] [] δ M) (hdb : (x == ("__debug__" : Str)) = false := by decide) : DS B X (.Raise (some (.Call (.Name x p) [] [] pos)) none pos') δ M Ψ :=
 .of (ps_raise z.calm tk (pmk_own0 T hg hdb)) fun κ σ H E hb R k => ⟨C, [], [], δ, M, κ, rfl, h, hb, R, .inl ⟨rfl, rfl, rfl⟩⟩
theorem ds_raise {C : Addr} {x : Str} {p : Pos} {n : Nat} (z : Cz X n) (tk : Tks X B) (T : Ex0 X.K X.mg x C) (hg : Gl X x) (h : DA B X (e :: es) δ M fun ds M' => ds.length ≤ sizeLine ∧ B.ex C [] [] δ M')
   (hdb : (x == ("__debug__" : Str)) = false := by decide) (he : starEach (e :: es) X.env = (false, eval e X.env) :: starEach es X.env := by rfl) (hpl : (backTo pos (starEach es X.env)).any (·.1) = false := by rfl) : DS B X (.Raise (some (.Call (.Name x p) (e :: es) [] pos)) none pos') δ M Ψ :=
 .of (ps_raise z.calm tk (pmk_ownA PySem.F.excBase_ValueError T.q T.gC T.kC (raises_own T.sub T.ty) hg cA hdb he hpl)) fun κ σ H E hb R k => h κ σ H _ hb R fun vs ds M1 H1 ⟨hl, q⟩ R1 r1 =>
   ⟨by rw [r1.length]; exact hl, C, [], [], δ, M1, κ, rfl, q, hb, R1, .inl ⟨rfl, rfl, rfl⟩⟩
def spXI (C : Addr) (ns : List Str) : Sp := fun vs H Q _ => ∃ a args, vs = .ref a :: args ∧ args.length = ns.length ∧ H a = some (exo a C none) ∧
 ∀ dx H', H dx = none → dx ≠ a → H' a = some (exo a C (some dx)) → H' dx = some (exd dx (ns.reverse.zip args.reverse)) → (∀ b, b ≠ a → b ≠ dx → H' b = H b) → Q .non H'
structure ExI (P : Program) (w : World) (K : PySem.W.Frag) (mg : Str → Option Value) (base : Heap) (x : Str) (C : Addr) (ns : List Str) : Prop where
 gC : mg x = some (.ref C)
 T : OexC K C
 ex : ∃ fI fd ps, PySem.W.findIn K (.ref C) "__init__" = some (some (.ref fI)) ∧ PySem.W.typeIn K (.ref fI) = some (.type "function") ∧ Binds K fd ps [] ∧ FnOk P w K mg base CX0 1 fI fd ps (spXI C ns)
theorem Reps.reverse {F : List Addr} {H : Hp} : ∀ {vs : List V} {ds : List D}, Reps F H vs ds → Reps F H vs.reverse ds.reverse
 | _, _, .nil => .nil
 | _, _, .cons r t => by
   rw [List.reverse_cons, List.reverse_cons]
   exact (Reps.reverse t).append (.cons r .nil)
theorem ds_raiseI {C : Addr} {x : Str} {p : Pos} {n : Nat} {ns : List Str} (z : Cz X n) (hn : 2 ≤ n) (tk : Tks X B) (T : ExI X.prog X.w X.K X.mg X.base x C ns) (hg : Gl X x) (h : DA B X (e :: es) δ M fun ds M' => ds.length = ns.length ∧ ds.length ≤ 1000 ∧ B.ex C ns.reverse ds.reverse δ M')
   (hdb : (x == ("__debug__" : Str)) = false := by decide) (he : starEach (e :: es) X.env = (false, eval e X.env) :: starEach es X.env := by rfl) (hpl : (backTo pos (starEach es X.env)).any (·.1) = false := by rfl) : DS B X (.Raise (some (.Call (.Name x p) (e :: es) [] pos)) none pos') δ M Ψ := by
 obtain ⟨fI, fd, ps, h1, h2, h3, h4⟩ := T.ex
 refine .of (ps_raise z.calm tk (pmk_oex T.T h1 h2 h4 (z.room.mono hn) h3 .nil pass0 hg T.gC cA hdb he hpl)) fun κ σ H E hb R k => h κ σ H _ hb R fun vs ds M1 H1 ⟨hl, hl2, q⟩ R1 r1 => ?_
 refine ⟨by rw [r1.length]; exact hl2, fun a na => ⟨a, vs, by rw [List.append_nil], by rw [r1.length]; exact hl, upd_same, fun dx H' n1 n2 e1 e2 e3 => ?_⟩⟩
 have ndx : H1 dx = none := by rw [upd_ne n2] at n1; exact n1
 refine ⟨rfl, dx, _, e1, e2, ndx, ?_⟩
 have eq : upd (del H' a) dx (.xd (ns.reverse.zip vs.reverse)) = upd H1 dx (.xd (ns.reverse.zip vs.reverse)) := by
   funext b
   by_cases hb : b = dx
   · subst hb; rw [upd_same, upd_same]
   · rw [upd_ne hb, upd_ne hb]
     by_cases ha : b = a
     · subst ha; rw [del_same, na]
     · rw [del_ne ha, e3 b ha hb, upd_ne ha]
 rw [eq]
 exact ⟨C, ns.reverse, ds.reverse, δ, M1, κ, rfl, q, hb, R1.new ndx, .inr ⟨dx, vs.reverse, rfl, R1.fresh ndx, upd_same, by rw [List.length_reverse, List.length_reverse, r1.length, hl], (Reps.reverse r1).fwd (Fwd.new ndx)⟩⟩
structure FldP (K : PySem.W.Frag) (C : Addr) (f : Str) : Prop where
 c : Cls K C
 n : NoAttr K C f
structure XfP (K : PySem.W.Frag) (C : Addr) (f : Str) : Prop where
 ga : PySem.W.findIn K (.ref C) "__getattribute__" = some (some (.builtin "BaseException.__getattribute__"))
 gg : PySem.W.findIn K (.ref C) "__getattr__" = some none
 exC : PySem.W.subIn K (.ref C) (.type "BaseException") = some true
 hdC : PySem.W.hasDictIn K C = true
 no : PySem.W.findIn K (.ref C) f = some none
def tFldU (K : PySem.W.Frag) (ta : TE) (f : Str) : TE := fun σ H Q => ta σ H fun x H1 => (∃ a C dx fs v, x = .ref a ∧ H1 a = some (.ins C dx fs) ∧ FldP K C f ∧ fs.lookup f = some v ∧ Q v H1) ∨
 ∃ a C d fs v, x = .ref a ∧ H1 a = some (XO (.ref C) (some d) a) ∧ H1 d = some (.xd fs) ∧ XfP K C f ∧ fs.lookup f = some v ∧ Q v H1
theorem pe_fldU {f : Str} {ta : TE} (he : PE X e ta) (hb : attributeBase e f X.env (eval e X.env) = eval e X.env) : PE X (.Attribute e f pos) (tFldU X.K ta f) := by
 refine ⟨fun pins s σ H Q I h => ?_⟩
 refine attr_of hb (thn (he.run pins s σ H _ I h) fun u s1 ⟨x, H1, I1, rx, q⟩ => ?_)
 rcases q with ⟨a, C, dx, fs, v, ex, ea, ff, l, q⟩ | ⟨a, C, dd, fs, v, ex, ea, ed, T, l, q⟩
 · subst ex
   obtain rfl : u = Value.ref a := rx
   exact getattr_ok I1 ea ff.c ff.n l fun u' s2 I2 ru => ⟨v, H1, I2, ru, q⟩
 · subst ex
   obtain rfl : u = Value.ref a := rx
   obtain ⟨⟨oe, vs, ha, hz, hd⟩, _, _⟩ := I1.hok a _ ea
   have hx : ObjOk X.prog X.w H1 s1.heap dd (.xd fs) := I1.hok dd _ ed
   obtain ⟨mA, hns, hr⟩ := hx
   obtain ⟨od, ho, hl⟩ := lookIn_ns hns
   obtain ⟨u, hu, ru⟩ := RelO.some_of (v := v) (o := mA f) (by rw [← l]; exact hr f)
   have J : PySem.W.InstAt s1.heap a oe C (some od) := ⟨ha, hz.1, by unfold PySem.W.notCls; rw [hd] <;> rfl, by rw [hz.2]; exact ho⟩
   exact HandSPX.exc_get I1.kIn J T.ga T.gg T.exC (PySem.W.findObj_own T.hdC T.no rfl (by rw [hl, hu])) (handed_of ru) ⟨v, H1, I1.tok _, ru, q⟩
theorem reps_lookup {F : List Addr} {H : Hp} {f : Str} : ∀ {ns : List Str} {vs : List V} {ds : List D} {d : D}, Reps F H vs ds → (ns.zip ds).lookup f = some d → ∃ v, (ns.zip vs).lookup f = some v ∧ Rep F H v d
 | [], _, _, _, _, h => by simp at h
 | _ :: _, _, _, _, .nil, h => by simp at h
 | n :: ns, v :: vs, d0 :: ds, d, .cons r t, h => by
   rw [List.zip_cons_cons, List.lookup_cons] at h
   rw [List.zip_cons_cons, List.lookup_cons]
   cases e : f == n with
   | true => rw [e] at h; cases h; exact ⟨v, rfl, r⟩
   | false => rw [e] at h; exact reps_lookup t h
def FldD (K : PySem.W.Frag) (f : Str) (x : D) (M : Mem) (Φ : D → Mem → Prop) : Prop := (∃ C ns fs d, IsO M x C ns fs ∧ FldP K C f ∧ (ns.zip fs).lookup f = some d ∧ Φ d M) ∨ ∃ C ns fs d, x = .exn C ns fs ∧ XfP K C f ∧ (ns.zip fs).lookup f = some d ∧ Φ d M
theorem de_fld {f : Str} (h : DE B X o δ M fun x M1 => FldD X.K f x M1 Φ) (hb : attributeBase o f X.env (eval o X.env) = eval o X.env := by rfl) : DE B X (.Attribute o f pos) δ M Φ :=
 .of (pe_fldU cE hb) fun κ σ H Q hb R k => h κ σ H _ hb R fun v x M1 H1 q R1 r1 => by
   rcases q with ⟨C, ns, fs, d, io, ff, l, q⟩ | ⟨C, ns, fs, d, ex, T, l, q⟩
   · obtain ⟨a, dx, vs, rfl, ea, hl, rr⟩ := io.sq R1 r1
     obtain ⟨v, l2, rv⟩ := reps_lookup rr l
     exact .inl ⟨a, C, dx, _, v, rfl, ea, ff, l2, k _ _ _ _ q R1 rv⟩
   · subst ex
     cases r1 with
     | exn0 h1 e1 => simp at l
     | exn h1 e1 h2 e2 hl rr =>
       obtain ⟨v, l2, rv⟩ := reps_lookup rr l
       exact .inr ⟨_, C, _, _, v, rfl, e1, e2, T, l2, k _ _ _ _ q R1 rv⟩
theorem fld_v {K : PySem.W.Frag} {f : Str} {C : Addr} {ns : List Str} {fs : List D} (ff : FldP K C f) (l : (ns.zip fs).lookup f = some d) (k : Φ d M) : FldD K f (.obj C ns fs) M Φ := .inl ⟨C, ns, fs, d, .val _ _ _, ff, l, k⟩
theorem fld_c {K : PySem.W.Frag} {f : Str} {C p : Addr} {ns : List Str} {fs : List D} (j : Nat) (hm : M[j]? = some (p, .obj C ns fs)) (ff : FldP K C f) (l : (ns.zip fs).lookup f = some d) (k : Φ d M) : FldD K f (.raw (.ref p)) M Φ := .inl ⟨C, ns, fs, d, .cell j hm, ff, l, k⟩
theorem fld_x {K : PySem.W.Frag} {f : Str} {C : Addr} {ns : List Str} {fs : List D} (T : XfP K C f) (l : (ns.zip fs).lookup f = some d) (k : Φ d M) : FldD K f (.exn C ns fs) M Φ := .inr ⟨C, ns, fs, d, rfl, T, l, k⟩
def putN (f : Str) (d : D) : List Str → List D → List Str × List D
 | n :: ns, x :: ds => if n = f then (n :: ns, d :: ds) else (n :: (putN f d ns ds).1, x :: (putN f d ns ds).2)
 | _, _ => ([f], [d])
theorem putN_rep {F : List Addr} {H : Hp} {f : Str} {v : V} {d : D} (rv : Rep F H v d) : ∀ {ns : List Str} {vs : List V} {ds : List D}, ns.length = vs.length → Reps F H vs ds → ∃ vs', putF f v (ns.zip vs) = (putN f d ns ds).1.zip vs' ∧ (putN f d ns ds).1.length = vs'.length ∧ Reps F H vs' (putN f d ns ds).2
 | [], [], _, _, .nil => ⟨[v], rfl, rfl, .cons rv .nil⟩
 | [], _ :: _, _, h, _ => by cases h
 | _ :: _, [], _, h, _ => by cases h
 | n :: ns, w :: vs, x :: ds, h, .cons r t => by
   unfold putN
   rw [List.zip_cons_cons]
   unfold putF
   by_cases e : n = f
   · rw [if_pos e, if_pos e]
     exact ⟨v :: vs, rfl, h, .cons rv t⟩
   · rw [if_neg e, if_neg e]
     obtain ⟨vs', h1, h2, h3⟩ := putN_rep (f := f) rv (ns := ns) (vs := vs) (ds := ds) (by simpa using h) t
     exact ⟨w :: vs', by rw [h1]; rfl, by simp [h2], .cons r h3⟩
theorem ds_fld {f : Str} (h : DE B X e δ M fun d M1 => DE B X o δ M1 fun x M2 => ∃ p C ns fs M3, x = .raw (.ref p) ∧ Rpl p (.obj C ns fs) (.obj C (putN f d ns fs).1 (putN f d ns fs).2) M2 M3 ∧ FldP X.K C f ∧ ns.length < 1000 ∧ Ψ.nx δ M3)
   (hs : swapsWith e (some (.Attribute o f pos')) pos.line X.env = pure false := by rfl) : DS B X (.Assign [.Attribute o f pos'] e pos) δ M Ψ :=
 .of (ps_fld cE cE hs) fun κ σ H E hb R k => h κ σ H _ hb R fun v d M1 H1 q1 R1 r1 => q1 ((v, d) :: κ) σ H1 _ (fun q hq => List.mem_cons_of_mem _ (hb q hq)) (R1.push r1) fun w x M2 H2 ⟨p, C, ns, fs, M3, ex, hr, ff, hl, q⟩ R2 r2 => by
   subst ex
   cases r2
   obtain ⟨dx, vs, e1, l1, rr⟩ := hr.inM.ok R2
   obtain ⟨vs', h1, h2, h3⟩ := putN_rep (f := f) R2.top l1 rr
   refine ⟨p, C, dx, _, rfl, e1, ff.c, ff.n, by simp [l1]; omega, k.nx _ _ _ _ q ?_⟩
   have hp : ∀ x, x ∉ M2.F → upd H2 p (.ins C dx (putF f v (ns.zip vs))) x = H2 x := fun x hx => upd_ne fun z => hx (z ▸ hr.inM.mem)
   exact R2.pop.rpl hr (fun x hx => upd_ne hx) ⟨dx, vs', by rw [upd_same, h1], h2, h3.fwd (Fwd.same hp)⟩
structure ExcP (K : PySem.W.Frag) (C : Addr) : Prop where
 cl : (PySem.W.clsIn K C).isSome = true
 ga : PySem.W.findIn K (.ref C) "__getattribute__" = some (some (.builtin "BaseException.__getattribute__"))
 gg : PySem.W.findIn K (.ref C) "__getattr__" = some none
 hs : PySem.W.subIn K (.ref C) (.type "BaseException") = some true
 ha : PySem.W.findIn K (.ref C) "__class__" = some (some (.builtin "object.__class__"))
 hn : PySem.W.specialIn K (.builtin "object.__class__") "__get__" = some (some (.builtin "getset_descriptor.__get__"))
 ht : PySem.W.takesIn K (.builtin "object.__class__") = some true
 hm : PySem.W.mroIn K C (.type "object") = some true
structure InsP (K : PySem.W.Frag) (C : Addr) : Prop where
 cl : Cls K C
 ha : PySem.W.findIn K (.ref C) "__class__" = some (some (.builtin "object.__class__"))
 hn : PySem.W.specialIn K (.builtin "object.__class__") "__get__" = some (some (.builtin "getset_descriptor.__get__"))
 ht : PySem.W.takesIn K (.builtin "object.__class__") = some true
 hm : PySem.W.mroIn K C (.type "object") = some true
def rIsX (K : PySem.W.Frag) : List V → Hp → VK → Prop := fun xs H Q => ∃ (a C : Addr) (dx : Option Addr) (c : V) (u : Value) (b : Bool), xs = [.ref a, c] ∧ ClsV c u ∧ H a = some (XO (.ref C) dx a) ∧ (dx = none ∨ ∃ d fs, dx = some d ∧ H d = some (.xd fs)) ∧ ExcP K C ∧ PySem.W.kitOne K (.ref C) u = some b ∧ Q (.bl b) H
def rIsiU (K : PySem.W.Frag) : List V → Hp → VK → Prop := fun xs H Q => rIsi K xs H Q ∨ rIsX K xs H Q
theorem call_isX : CallR X (.builtin "isinstance") (rIsX X.K) := by
 intro pins s σ H xs us Q I r h
 obtain ⟨a, C, dx, c, u, b, rfl, k, ea, hd, T, e, q⟩ := h
 cases r with
 | cons rx rr =>
   cases rr with
   | cons rt rr =>
     cases rr
     cases rx
     have ec := k.eq rt
     subst ec
     obtain ⟨⟨oe, vs, ha, hz, hdt⟩, _, _⟩ := I.hok a _ ea
     have J : ∃ od, PySem.W.InstAt s.heap a oe C od := by
       rcases hd with rfl | ⟨d, fs, rfl, ed⟩
       · exact ⟨none, ha, hz.1, by unfold PySem.W.notCls; rw [hdt] <;> rfl, by rw [hz.2]; trivial⟩
       · have hx : ObjOk X.prog X.w H s.heap d (.xd fs) := I.hok d _ ed
         obtain ⟨mA, hns, hr⟩ := hx
         obtain ⟨od, ho, hl⟩ := lookIn_ns hns
         exact ⟨some od, ha, hz.1, by unfold PySem.W.notCls; rw [hdt] <;> rfl, by rw [hz.2]; exact ho⟩
     obtain ⟨od, J⟩ := J
     exact PySem.W.kia_one (PySem.W.kitx_exc T.cl T.ga T.gg T.hs T.ha T.hn T.ht T.hm) I.kIn J e (fun z => nomatch z) fun tk => ⟨.bl b, H, I.kept (t' := tk) fun _ _ z => z, rfl, q⟩
theorem ClsD {c : V} {F : List Addr} {H : Hp} {v : V} (r : Rep F H v (.raw c)) : v = c := by cases r; rfl
theorem isx_x {K : PySem.W.Frag} {C : Addr} {ns : List Str} {fs : List D} {c : V} {u : Value} {b : Bool} (T : ExcP K C) (hc : ClsV c u) (hk : PySem.W.kitOne K (.ref C) u = some b) (k : Φ (.bl b) M) : CallD (rIsiU K) [.exn C ns fs, .raw c] M Φ := .inr fun κ δ σ H vs Q R rs f => by
 cases rs with
 | cons r1 r2 =>
   cases r2 with
   | cons r2 r3 =>
     cases r3
     have := ClsD r2
     subst this
     cases r1 with
     | exn0 h1 e1 => exact ⟨_, C, none, _, u, b, rfl, hc, e1, .inl rfl, T, hk, f _ _ _ _ k R (.bl _)⟩
     | exn h1 e1 h2 e2 hl rr => exact ⟨_, C, _, _, u, b, rfl, hc, e1, .inr ⟨_, _, rfl, e2⟩, T, hk, f _ _ _ _ k R (.bl _)⟩
theorem isx_o {K : PySem.W.Frag} {C : Addr} {ns : List Str} {fs : List D} {c : V} {u : Value} {b : Bool} (h : IsO M x C ns fs) (T : InsP K C) (hc : ClsV c u) (hk : PySem.W.kitOne K (.ref C) u = some b) (k : Φ (.bl b) M) : CallD (rIsiU K) [x, .raw c] M Φ := .inl fun κ δ σ H vs Q R rs f => by
 cases rs with
 | cons r1 r2 =>
   cases r2 with
   | cons r2 r3 =>
     cases r3
     have := ClsD r2
     subst this
     obtain ⟨p, dx, vs, rfl, ea, hl, rr⟩ := h.sq R r1
     exact ⟨_, _, .ref C, u, b, rfl, hc, .base (.ins ea T.cl T.ha T.hn T.ht T.hm), hk, f _ _ _ _ k R (.bl _)⟩
theorem isx_b {K : PySem.W.Frag} {S : String} {c : V} {u : Value} {b : Bool} (hx : tyD x = some S) (hc : ClsV c u) (hk : PySem.W.kitOne K (.type S) u = some b) (k : Φ (.bl b) M) : CallD (rIsiU K) [x, .raw c] M Φ := .inl fun κ δ σ H vs Q R rs f => by
 cases rs with
 | cons r1 r2 =>
   cases r2 with
   | cons r2 r3 =>
     cases r3
     have := ClsD r2
     subst this
     refine ⟨_, _, .type S, u, b, rfl, hc, ?_, hk, f _ _ _ _ k R (.bl _)⟩
     cases r1 with
     | non => cases hx; exact .base .non
     | bl b => cases hx; exact .base (.bl b)
     | int i => cases hx; exact .base (.int i)
     | str i => cases hx; exact .base (.str i)
     | lst h1 e1 _ => cases hx; exact .base (.lst e1)
     | tup h1 e1 _ => cases hx; exact .base (.tup e1)
     | obj _ _ _ _ => cases hx
     | raw _ => cases hx
     | scrH _ _ => cases hx
     | scrK _ => cases hx
     | exn0 _ _ => cases hx
     | exn _ _ _ _ _ _ => cases hx
     | fd _ _ _ _ _ => cases hx
     | hp _ _ _ => cases hx
     | fn _ _ _ _ _ _ _ _ _ => cases hx
theorem de_gcls {x : Str} {C : Addr} (hg : Gl X x) (hm : X.mg x = some (.ref C)) (k : Φ (.raw (.ref C)) M) (hd : (x == ("__debug__" : Str)) = false := by decide) : DE B X (.Name x pos) δ M Φ := de_glob (v := .ref C) ⟨hg, ⟨_, hm, rfl⟩, hd⟩ (fun _ _ => .raw _) k
end
end Hl
namespace Hl
open PySem L2
open PyProof.Rows hiding St
structure FunG (K : PySem.W.Frag) (x qual : Str) (st : Stmt) (f : Addr) (fd : FuncData) : Prop where
 ex : ∃ (oc : Value) (od : Option Addr) (dV kV doc pm : Value) (an : Option Addr) (cdv ct : Value) (osl : Array (Option Value)),
   fd = PySem.W.fnOf x qual (defArgs st) (defBody st) (defScope st) dV kV doc pm an cdv ct ∧ K.lookup f = some ⟨oc, od, .func fd, osl⟩ ∧ PySem.W.codeIn K cdv qual = true
theorem fung_mk {K : PySem.W.Frag} {x qual : Str} {st : Stmt} {f : Addr} {oc : Value} {od an : Option Addr} {osl : Array (Option Value)} {dV kV doc pm cdv ct : Value} (l : K.lookup f = some ⟨oc, od, .func (PySem.W.fnOf x qual (defArgs st) (defBody st) (defScope st) dV kV doc pm an cdv ct), osl⟩)
   (c : PySem.W.codeIn K cdv qual = true) : FunG K x qual st f (PySem.W.fnOf x qual (defArgs st) (defBody st) (defScope st) dV kV doc pm an cdv ct) := ⟨oc, od, dV, kV, doc, pm, an, cdv, ct, osl, rfl, l, c⟩
theorem fnokG_of {P : Program} {w : World} {K : PySem.W.Frag} {mg : Str → Option Value} {base : Heap} {x qual : Str} {st : Stmt} {f : Addr} {fd : FuncData} {N ps : List Str} {k : Nat} {p : DSpE} (F : FunG K x qual st f fd) (S : FnScope N ps (defScope st))
   (len : ∀ ds M Φ Ξ, p ds M Φ Ξ → ds.length = ps.length)
   (h : ∀ X kp ds M Φ Ξ, p ds M Φ Ξ → InDefE P w K mg base N (defScope st) k X ⟨kp, fun C ns es _ M' => ∃ es2 M2, VwX ns es M' es2 M2 ∧ Ξ C ns es2 M2⟩ → DSs ⟨kp, fun C ns es _ M' => ∃ es2 M2, VwX ns es M' es2 M2 ∧ Ξ C ns es2 M2⟩ X (defBody st) (startD N.length ds) M { nx := fun _ M' => ∃ d2 M2, Vw .non M' d2 M2 ∧ Φ d2 M2, rt := fun d M' => ∃ d2 M2, Vw d M' d2 M2 ∧ Φ d2 M2 }) : FnOk P w K mg base (L2.CX P w) (k + 1) f fd ps (liftE p) := by
 obtain ⟨oc, od, dV, kV, doc, pm, an, cdv, ct, osl, rfl, lk, hcd⟩ := F.ex
 refine fn_of lk hcd S (fun vs H Q E hl => ?_) fun A outer s H vs Q E hr hl => ?_
 · obtain ⟨κ, ds, M, Φ, Ξ, R, r, q, _⟩ := hl
   rw [r.length]; exact len ds M Φ Ξ q
 · obtain ⟨κ, ds, M, Φ, Ξ, R, r, q, kk, kx⟩ := hl
   refine ⟨_, cSs, ?_⟩
   refine h _ κ ds M Φ Ξ q ⟨rfl, rfl, rfl, rfl, rfl, rfl, rfl, rfl, ⟨S.nd, rfl, hr⟩, PassesOwn.leaving, ?_, rfl, rfl⟩ κ _ H _ (fun _ h => h) (start_rs R r) ⟨fun δ M' σ H' ⟨d2, M2, h1, h2⟩ R' => ?_, fun v d M' δ σ H' ⟨d2, M2, h1, h2⟩ R' r' => ?_, fun _ _ _ _ z => z.elim, fun _ _ _ _ z => z.elim⟩
   · refine Takes.imp (takes_of (E := E) rfl rfl rfl rfl) fun cls dx σ H' hw => ?_
     obtain ⟨C, ns, es, δ, M', κ', rfl, ⟨es2, M2, hv, hX⟩, hb, R', x'⟩ := hw
     obtain ⟨R2, x2⟩ := hv κ' δ σ H' dx R' x'
     exact kx C ns es2 M2 H' dx hX ⟨fun q hq => R2.kp q (hb q hq), .nil, R2.cl, R2.nd⟩ x2
   · obtain ⟨R2, r2⟩ := h1 _ _ _ _ _ R' .non
     exact kk .non d2 M2 H' h2 ⟨R2.kp, .nil, R2.cl, R2.nd⟩ r2
   · obtain ⟨R2, r2⟩ := h1 _ _ _ _ _ R' r'
     exact kk v d2 M2 H' h2 ⟨R2.kp, .nil, R2.cl, R2.nd⟩ r2
section
variable {X X' : Cx} {scope : Scope} {k : Nat} {x f : Str} {n : Nat} {ks : List Str} {sel : Sel} {p : DSpE} {C : Addr}
theorem Bk.mE (h : Bk X X' scope) (d : MethEX X k C x n ks sel p) : MethEX X' k C x n ks sel p := by unfold MethEX; rw [h.prog, h.wd, h.K, h.mg, h.base]; exact d
end
def putAll (δ : Env') : List Nat → List (Option D) → Env'
 | i :: is, v :: vs => putAll (δ.set i v) is vs
 | _, _ => δ
theorem set_self {α : Type} {l : List (Option α)} {i : Nat} : l.set i (l.getD i none) = l := by
 apply List.ext_getElem?
 intro n
 by_cases hn : i = n
 · subst hn
   by_cases hl : i < l.length
   · rw [List.getElem?_set_self hl, List.getD_eq_getElem?_getD, List.getElem?_eq_getElem hl]; rfl
   · rw [List.getElem?_eq_none (by simpa using hl), List.getElem?_eq_none (by simpa using hl)]
 · rw [List.getElem?_set_ne hn]
theorem putAll_self {δ : Env'} : ∀ {cs : List Nat}, putAll δ cs (cs.map fun i => δ.getD i none) = δ
 | [] => rfl
 | c :: cs => by
   show putAll (δ.set c (δ.getD c none)) cs _ = δ
   rw [set_self]; exact putAll_self
section
variable {B : Bx} {X : Cx} {tg iter c : Expr} {st : Stmt} {sts body : List Stmt} {δ : Env'} {M : Mem} {Ψ : DEnds} {pos : Pos}
theorem ds_forC {n : Nat} (cs : List Nat) (z : Cz X n) (hp : PassesOwn (model X.prog X.w) X.A X.env X.xe)
   (h : DI B X tg iter δ M fun xs M' => ∃ Iv : Nat → List (Option D) → Mem → Prop, Iv 0 (cs.map fun i => δ.getD i none) M' ∧
     (∀ i x vs δ1 M1, xs[i]? = some x → Iv i vs M1 → δ1 = putAll δ cs vs → DG B X tg x δ1 M1 fun δ' M' => DSs B X body δ' M' { Ψ with nx := fun δ' M' => ∃ vs', δ' = putAll δ cs vs' ∧ Iv (i + 1) vs' M', ct := fun δ' M' => ∃ vs', δ' = putAll δ cs vs' ∧ Iv (i + 1) vs' M', bk := Ψ.nx }) ∧
     ∀ vs δ1 M1, Iv xs.length vs M1 → δ1 = putAll δ cs vs → Ψ.nx δ1 M1)
   (hs : ∀ x, foldedSetIterable iter X.env x = pure x := by intro _; rfl) : DS B X (.For tg iter body [] pos) δ M Ψ := by
 refine ds_for z hp ?_ hs
 obtain ⟨wi, pi, w⟩ := h
 refine ⟨wi, pi, fun κ σ H R hb Rr k => w κ σ H R hb Rr fun xs M' H' J κ' ⟨Iv, h0, h1, h2⟩ hk R' W => k xs M' H' J κ' ⟨fun i δ1 M1 => ∃ vs, δ1 = putAll δ cs vs ∧ Iv i vs M1, ⟨_, putAll_self.symm, h0⟩, fun i x δ1 M1 hx ⟨vs, e, hv⟩ => h1 i x vs δ1 M1 hx hv e, fun δ1 M1 ⟨vs, e, hv⟩ => h2 vs δ1 M1 hv e⟩ hk R' W⟩
theorem ds_cutC (cs : List Nat) (Mid : List (Option D) → Mem → Prop) (h1 : DS B X st δ M { Ψ with nx := fun δ' M' => ∃ vs, δ' = putAll δ cs vs ∧ Mid vs M' }) (h2 : ∀ vs δ1 M1, Mid vs M1 → δ1 = putAll δ cs vs → DSs B X sts δ1 M1 Ψ) : DSs B X (st :: sts) δ M Ψ :=
 ds_cut (fun δ1 M1 => ∃ vs, δ1 = putAll δ cs vs ∧ Mid vs M1) h1 fun δ1 M1 ⟨vs, e, hv⟩ => h2 vs δ1 M1 hv e
theorem ds_whileC (cs : List Nat) (hp : PassesOwn (model X.prog X.w) X.A X.env X.xe) (Iv : Nat → List (Option D) → Mem → Prop) (h0 : ∃ m, Iv m (cs.map fun i => δ.getD i none) M)
   (h : ∀ m vs δ1 M1, Iv m vs M1 → δ1 = putAll δ cs vs → DT B X c δ1 M1 fun t M2 => Br t (DSs B X body δ1 M2 { Ψ with nx := fun δ' M' => ∃ vs', δ' = putAll δ cs vs' ∧ ∃ m', m' < m ∧ Iv m' vs' M', ct := fun δ' M' => ∃ vs', δ' = putAll δ cs vs' ∧ ∃ m', m' < m ∧ Iv m' vs' M', bk := Ψ.nx }) (Ψ.nx δ1 M2)) : DS B X (.While c body [] pos) δ M Ψ := by
 refine ds_while hp (fun m δ1 M1 => ∃ vs, δ1 = putAll δ cs vs ∧ Iv m vs M1) ?_ fun m δ1 M1 ⟨vs, e, hv⟩ => ?_
 · obtain ⟨m, h0⟩ := h0
   exact ⟨m, _, putAll_self.symm, h0⟩
 · refine (h m vs δ1 M1 hv e).mono fun t M2 q => ⟨fun et => ?_, fun et => q.2 et⟩
   exact (q.1 et).mono (fun δ' M' ⟨vs', e', m', hm, hv'⟩ => ⟨m', hm, vs', e', hv'⟩) (fun _ _ q => q) (fun _ _ q => q) fun δ' M' ⟨vs', e', m', hm, hv'⟩ => ⟨m', hm, vs', e', hv'⟩
end
section
variable {K : PySem.W.Frag} {M : Mem} {Φ : D → Mem → Prop} {α : Type} {l : List α} {f : α → D} {i : Int}
theorem od_ixE (h : 0 ≤ i ∧ i < l.length) (k : ∀ y, l[i.toNat]? = some y → Φ (f y) M) : OpD (rIxU K) (.lst (l.map f)) (.int i) M Φ := by
 obtain ⟨y, h1, h2⟩ := at_map (f := f) h.1 h.2
 exact od_ixL h2 (k y h1)
end
end Hl
namespace Hl
open PySem L2
open PyProof.Rows hiding St
section
variable {B : Bx} {X : Cx} {e a b c o : Expr} {es rest : List Expr} {kw : Keyword} {kws : List Keyword} {st : Stmt} {sts body suite : List Stmt} {δ δ' : Env'} {M : Mem} {Φ : D → Mem → Prop} {Ψ : DEnds} {pos pos' apos pp np : Pos} {d x y : D} {ΦL : List D → Mem → Prop}
def selN (n : Nat) : Sel := (List.range n).map .inl
theorem selN_eq {ds : List D} {n : Nat} (h : ds.length = n) : selD (selN n) ds = ds := by
 subst h
 unfold selD selN
 rw [List.map_map]
 apply List.ext_getElem
 · simp
 · intro i h1 h2
   simp [List.getD, h2]
theorem ar_id {k : Nat} {p : DSpE} {ds : List D} {Ξ : XPost} (h : ds.length = k) (q : p ds M Φ Ξ) : ds.length = k ∧ ([] : List D).length = ([] : List Str).length ∧ p (selD (selN k) (ds ++ [])) M Φ Ξ := ⟨h, rfl, by rw [List.append_nil, selN_eq h]; exact q⟩
theorem ar_idM {k : Nat} {p : DSpE} {ds : List D} {Ξ : XPost} (h : ds.length = k) (q : p (x :: ds) M Φ Ξ) : ds.length = k ∧ ([] : List D).length = ([] : List Str).length ∧ p (selD (selN (k + 1)) (x :: ds ++ [])) M Φ Ξ := ⟨h, rfl, by rw [List.append_nil, selN_eq (by simp [h])]; exact q⟩
theorem ar_idN {k : Nat} {p : DSpE} {ds : List D} {Ξ : XPost} {Φ' : Addr → D → Mem → Prop} {Mm : Addr → Mem} (h : ds.length = k) (q : ∀ a, p (.raw (.ref a) :: ds) (Mm a) (Φ' a) Ξ) : ds.length = k ∧ ([] : List D).length = ([] : List Str).length ∧ ∀ a, p (selD (selN (k + 1)) (.raw (.ref a) :: ds ++ [])) (Mm a) (Φ' a) Ξ := ⟨h, rfl, fun a => by rw [List.append_nil, selN_eq (by simp [h])]; exact q a⟩
theorem ar_g {k : Nat} {p : DSpE} {ds zs : List D} {ks : List Str} {sel : Sel} {Ξ : XPost} (h : ds.length = k) (h2 : zs.length = ks.length) (q : p (selD sel (ds ++ zs)) M Φ Ξ) : ds.length = k ∧ zs.length = ks.length ∧ p (selD sel (ds ++ zs)) M Φ Ξ := ⟨h, h2, q⟩
theorem ar_gM {k : Nat} {p : DSpE} {ds zs : List D} {ks : List Str} {sel : Sel} {Ξ : XPost} (h : ds.length = k) (h2 : zs.length = ks.length) (q : p (selD sel (x :: ds ++ zs)) M Φ Ξ) : ds.length = k ∧ zs.length = ks.length ∧ p (selD sel (x :: ds ++ zs)) M Φ Ξ := ⟨h, h2, q⟩
theorem ar_gN {k : Nat} {p : DSpE} {ds zs : List D} {ks : List Str} {sel : Sel} {Ξ : XPost} {Φ' : Addr → D → Mem → Prop} {Mm : Addr → Mem} (h : ds.length = k) (h2 : zs.length = ks.length) (q : ∀ a, p (selD sel (.raw (.ref a) :: ds ++ zs)) (Mm a) (Φ' a) Ξ) : ds.length = k ∧ zs.length = ks.length ∧ ∀ a, p (selD sel (.raw (.ref a) :: ds ++ zs)) (Mm a) (Φ' a) Ξ := ⟨h, h2, q⟩
def MtE (B : Bx) (X : Cx) (m : Nat) (pos : Pos) (es : List Expr) (kws : List Keyword) (mn : Str) (δ : Env') (x : D) (M1 : Mem) (Φ : D → Mem → Prop) : Prop := ∃ C k n ks sel p Ξ, MethEX X k C mn n ks sel p ∧ k ≤ m ∧ Lets X B δ Ξ ∧ PlA X pos es kws ks ∧ (∃ ns fs, IsO M1 x C ns fs ∧ ns.contains mn = false) ∧
 DAK B X es kws δ M1 fun ds zs M' => ds.length = n ∧ zs.length = ks.length ∧ p (selD sel (x :: ds ++ zs)) M' Φ Ξ
theorem de_mU {pl_ : Sem Bool} {m : Nat} {mn : Str} (z : Cz X m) (h : DE B X o δ M fun x M1 => MtE B X m pos es kws mn δ x M1 Φ)
   (ht : eval (.Call (.Attribute o mn apos) es kws pos) X.env = (do
     let ov ← eval o X.env
     standAt apos.atName
     let (f, first) ← holding [ov] (getMethod ov mn pl_)
     callWith pos f first (backTo pos (starEach es X.env)) (backToKw pos (keywordEach kws X.env))) := by rfl) : DE B X (.Call (.Attribute o mn apos) es kws pos) δ M Φ := by
 intro κ σ H Q hb R kk
 unfold tE
 intro pins s I
 refine PySem.W.methodCall_KW (pl := pl_) (thn ((cE (X := X) (e := o)).run pins s σ H (fun v H1 => ∃ x M1, MtE B X m pos es kws mn δ x M1 Φ ∧ Rs κ δ M1 σ H1 ∧ Rep M1.F H1 v x) I (h κ σ H _ hb R fun v x M1 H1 q R1 r1 => ⟨x, M1, q, R1, r1⟩)) fun u s1 ⟨v, H1, I1, rv, x, M1, hm, R1, r1⟩ => ?_) ht
 obtain ⟨C, k, n, ks, sel, p, Ξ, f, hk, lt, pl, ⟨ns, fs, io, hn⟩, hd⟩ := hm
 obtain ⟨fa, c, hm, h3⟩ := f.ex
 obtain ⟨W, tk, hx⟩ := lt
 obtain ⟨a, dx, vs0, rfl, ea, hl, rr⟩ := io.sq R1 r1
 obtain rfl : u = Value.ref a := rv
 refine getmeth_ok I1 ea c hm (lookup_zip hn) ?_
 refine dak_run (κ := (.ref a, x) :: κ) (first := [.ref a]) hm.kp pl hd I1 (fun q hq => List.mem_cons_of_mem _ (hb q hq)) (R1.push r1) fun us ws s2 vs zs ds es M2 H2 I2 rv rz ⟨l1, l2, q⟩ R2 r3 r4 => ?_
 have rs : Vals (V.ref a :: vs) (Value.ref a :: us) := .cons rfl rv
 refine run_E h3 (z.room.mono hk) (passAt tk σ) I2 rs rz (by rw [List.length_cons, r3.length, l1]) (by rw [r4.length]; exact l2) fun us' all rr so => ?_
 exact liftE_of so rr.length R2.pop ((Reps.cons R2.top r3).append r4) q kk fun C ns es M' H' dx e R' x => hx κ σ C ns es M' H' dx hb e R' x
theorem mt_v {m k n : Nat} {mn : Str} {C : Addr} {ns ks : List Str} {fs : List D} {sel : Sel} {p : DSpE} {Ξ : XPost} (f : MethEX X k C mn n ks sel p) (hk : k ≤ m) (lt : Lets X B δ Ξ) (pl : PlA X pos es kws ks) (hn : ns.contains mn = false)
   (h : DAK B X es kws δ M fun ds zs M' => ds.length = n ∧ zs.length = ks.length ∧ p (selD sel (.obj C ns fs :: ds ++ zs)) M' Φ Ξ) : MtE B X m pos es kws mn δ (.obj C ns fs) M Φ := ⟨C, k, n, ks, sel, p, Ξ, f, hk, lt, pl, ⟨ns, fs, .val _ _ _, hn⟩, h⟩
theorem mt_c {m k n : Nat} {mn : Str} {C q : Addr} {ns ks : List Str} {fs : List D} {sel : Sel} {p : DSpE} {Ξ : XPost} (j : Nat) (hm : M[j]? = some (q, .obj C ns fs)) (f : MethEX X k C mn n ks sel p) (hk : k ≤ m) (lt : Lets X B δ Ξ) (pl : PlA X pos es kws ks) (hn : ns.contains mn = false)
   (h : DAK B X es kws δ M fun ds zs M' => ds.length = n ∧ zs.length = ks.length ∧ p (selD sel (.raw (.ref q) :: ds ++ zs)) M' Φ Ξ) : MtE B X m pos es kws mn δ (.raw (.ref q)) M Φ := ⟨C, k, n, ks, sel, p, Ξ, f, hk, lt, pl, ⟨ns, fs, .cell j hm, hn⟩, h⟩
theorem exh_yes {c0 C : Addr} {oi : Option Nat} {ns : List Str} {ds : List D} {r : List HdD} (hm : PySem.W.exmOne X.K (.ref C) (.ref c0) = some true) (h : ∀ a pn kp, DSs ⟨kp, fun _ _ _ _ _ => False⟩ (X.suite a pn) suite (envD oi δ (.exn C ns ds)) M (endsD oi Ψ)) : exH B X Ψ ((c0, oi, suite) :: r) C ns ds δ M := ⟨true, hm, (fun _ => h), (fun z => nomatch z)⟩
theorem exh_no {c0 C : Addr} {oi : Option Nat} {ns : List Str} {ds : List D} {r : List HdD} (hm : PySem.W.exmOne X.K (.ref C) (.ref c0) = some false) (h : exH B X Ψ r C ns ds δ M) : exH B X Ψ ((c0, oi, suite) :: r) C ns ds δ M := ⟨false, hm, (fun z => nomatch z), fun _ => h⟩
theorem kind_of {sc : Scope} {x : Str} (hs : X.env.scope = sc) (h : sc.names.lookup x = some .local) : X.env.kindOf x = some .local := by unfold Env.kindOf; rw [hs]; exact h
theorem len_andI {ds : List D} {ns : List Str} {P : Prop} (h1 : ds.length = ns.length) (h2 : ds.length ≤ 1000) (k : P) : ds.length = ns.length ∧ ds.length ≤ 1000 ∧ P := ⟨h1, h2, k⟩
theorem ds_setN {i : Nat} {x : Str} (nd : X.N.Nodup) (l : Lo X i x) (h : DE B X e δ M fun d M' => Sets δ i d fun δ' => Ψ.nx δ' M') (hs : swapsWith e (some (.Name x pos')) pos.line X.env = pure false := by rfl) : DS B X (.Assign [.Name x pos'] e pos) δ M Ψ :=
 .of (ps_set nd l.at_ l.loc cE hs l.fn) fun κ σ H E hb R k => h κ σ H _ hb R fun v d M' H' q R' r => k.nx _ _ _ _ q.get (R'.put i r)
def StF (K : PySem.W.Frag) (f : Str) (d x : D) (M : Mem) (Φ : Mem → Prop) : Prop := ∃ p C ns fs ns' fs' M', x = .raw (.ref p) ∧ Rpl p (.obj C ns fs) (.obj C ns' fs') M M' ∧ FldP K C f ∧ ns.length < 1000 ∧ putN f d ns fs = (ns', fs') ∧ Φ M'
theorem ds_fldU {f : Str} (h : DE B X e δ M fun d M1 => DE B X o δ M1 fun x M2 => StF X.K f d x M2 fun M3 => Ψ.nx δ M3)
   (hs : swapsWith e (some (.Attribute o f pos')) pos.line X.env = pure false := by rfl) : DS B X (.Assign [.Attribute o f pos'] e pos) δ M Ψ := ds_fld (h.mono fun d M1 h1 => h1.mono fun x M2 ⟨p, C, ns, fs, ns', fs', M3, e1, e2, ff, hl, hp, k⟩ => ⟨p, C, ns, fs, M3, e1, by rw [hp]; exact e2, ff, hl, k⟩) hs
theorem sf_n0 {K : PySem.W.Frag} {f : Str} {p C : Addr}   {ΦM : Mem → Prop} (j : Nat) (hm : M[j]? = some (p, .obj C [] [])) (ff : FldP K C f)  (k : ΦM (M.set j (p, .obj C [f] [d]))) : StF K f d (.raw (.ref p)) M ΦM := ⟨p, C, _, _, _, _, _, rfl, .cell j hm, ff, (by show 0 < 1000; decide), by simp [putN], k⟩
theorem sf_n1 {K : PySem.W.Frag} {f : Str} {p C : Addr} {n0 : Str} {x0 : D} {ΦM : Mem → Prop} (j : Nat) (hm : M[j]? = some (p, .obj C [n0] [x0])) (ff : FldP K C f) (h0 : (n0 = f) = False) (k : ΦM (M.set j (p, .obj C [n0, f] [x0, d]))) : StF K f d (.raw (.ref p)) M ΦM := ⟨p, C, _, _, _, _, _, rfl, .cell j hm, ff, (by show 1 < 1000; decide), by simp [putN, h0], k⟩
theorem sf_n2 {K : PySem.W.Frag} {f : Str} {p C : Addr} {n0 n1 : Str} {x0 x1 : D} {ΦM : Mem → Prop} (j : Nat) (hm : M[j]? = some (p, .obj C [n0, n1] [x0, x1])) (ff : FldP K C f) (h0 : (n0 = f) = False) (h1 : (n1 = f) = False) (k : ΦM (M.set j (p, .obj C [n0, n1, f] [x0, x1, d]))) : StF K f d (.raw (.ref p)) M ΦM := ⟨p, C, _, _, _, _, _, rfl, .cell j hm, ff, (by show 2 < 1000; decide), by simp [putN, h0, h1], k⟩
theorem sf_n3 {K : PySem.W.Frag} {f : Str} {p C : Addr} {n0 n1 n2 : Str} {x0 x1 x2 : D} {ΦM : Mem → Prop} (j : Nat) (hm : M[j]? = some (p, .obj C [n0, n1, n2] [x0, x1, x2])) (ff : FldP K C f) (h0 : (n0 = f) = False) (h1 : (n1 = f) = False) (h2 : (n2 = f) = False) (k : ΦM (M.set j (p, .obj C [n0, n1, n2, f] [x0, x1, x2, d]))) : StF K f d (.raw (.ref p)) M ΦM := ⟨p, C, _, _, _, _, _, rfl, .cell j hm, ff, (by show 3 < 1000; decide), by simp [putN, h0, h1, h2], k⟩
theorem sf_n4 {K : PySem.W.Frag} {f : Str} {p C : Addr} {n0 n1 n2 n3 : Str} {x0 x1 x2 x3 : D} {ΦM : Mem → Prop} (j : Nat) (hm : M[j]? = some (p, .obj C [n0, n1, n2, n3] [x0, x1, x2, x3])) (ff : FldP K C f) (h0 : (n0 = f) = False) (h1 : (n1 = f) = False) (h2 : (n2 = f) = False) (h3 : (n3 = f) = False) (k : ΦM (M.set j (p, .obj C [n0, n1, n2, n3, f] [x0, x1, x2, x3, d]))) : StF K f d (.raw (.ref p)) M ΦM := ⟨p, C, _, _, _, _, _, rfl, .cell j hm, ff, (by show 4 < 1000; decide), by simp [putN, h0, h1, h2, h3], k⟩
theorem sf_n5 {K : PySem.W.Frag} {f : Str} {p C : Addr} {n0 n1 n2 n3 n4 : Str} {x0 x1 x2 x3 x4 : D} {ΦM : Mem → Prop} (j : Nat) (hm : M[j]? = some (p, .obj C [n0, n1, n2, n3, n4] [x0, x1, x2, x3, x4])) (ff : FldP K C f) (h0 : (n0 = f) = False) (h1 : (n1 = f) = False) (h2 : (n2 = f) = False) (h3 : (n3 = f) = False) (h4 : (n4 = f) = False) (k : ΦM (M.set j (p, .obj C [n0, n1, n2, n3, n4, f] [x0, x1, x2, x3, x4, d]))) : StF K f d (.raw (.ref p)) M ΦM := ⟨p, C, _, _, _, _, _, rfl, .cell j hm, ff, (by show 5 < 1000; decide), by simp [putN, h0, h1, h2, h3, h4], k⟩
theorem isl_c {p : Addr} {ds : List D} {P : Prop} (j : Nat) (hm : M[j]? = some (p, .lst ds)) (k : P) : (∃ ds, IsL M (.raw (.ref p)) ds) ∧ P := ⟨⟨ds, .cell j hm⟩, k⟩
theorem idApp {K : PySem.W.Frag} {ds : List D} {r : V → List V → Hp → VK → Prop} (h : MtD K "list" r x ds M Φ) : MtD K "list" r x ds M Φ := h
theorem idFld {f : Str} {K : PySem.W.Frag} (h : FldD K f x M Φ) : FldD K f x M Φ := h
theorem idMt {m : Nat} {mn : Str} (h : MtE B X m pos es kws mn δ x M Φ) : MtE B X m pos es kws mn δ x M Φ := h
theorem idStF {f : Str} {K : PySem.W.Frag} {ΦM : Mem → Prop} (h : StF K f d x M ΦM) : StF K f d x M ΦM := h
theorem idDAK {ΦA : List D → List D → Mem → Prop} (h : DAK B X es kws δ M ΦA) : DAK B X es kws δ M ΦA := h
theorem idAttr {f : Str} (h : DE B X (.Attribute o f pos) δ M Φ) : DE B X (.Attribute o f pos) δ M Φ := h
theorem idRaise {e' : Option Expr} {e2 : Option Expr} (h : DS B X (.Raise e' e2 pos) δ M Ψ) : DS B X (.Raise e' e2 pos) δ M Ψ := h
end
def pLawE (K : PySem.W.Frag) : DSpE := fun ds M Φ Ξ => ∃ ns, ds = [.scr K ns] ∧ ns.length ≤ 63 ∧ Φ (.bl true) M
theorem law_startE {K : PySem.W.Frag} {H : Hp} {a : Addr} {ns : List Int} (hl : ns.length ≤ 63) (hS : SqL K H a (ns.map V.int)) : liftE (pLawE K) [.ref a] H (fun v _ => v = .bl true) (fun _ _ _ => False) := by
 refine ⟨[], [.scr K ns], [], fun d _ => d = .bl true, fun _ _ _ _ => False, ⟨by simp, .nil, by simp, .nil⟩, .cons ?_ .nil, ⟨ns, rfl, hl, rfl⟩, fun v d M' H' e R r => by subst e; cases r; rfl, fun _ _ _ _ _ _ z => z.elim⟩
 rcases hS with h | h
 · exact .scrH (by simp [Mem.F]) h
 · exact .scrK fun _ => .inr h
theorem law_out {P : Program} {w : World} {outer : List Env} {H : Hp} {s : Shared} {u : Value} {s' : Shared} (h : L2.CX P w outer H s (fun _ _ _ => False) u s') : False := by
 obtain ⟨_, _, _, _, _, _, _, _, _, _, _, _, z⟩ := h
 exact z
end Hl
namespace Hl
open PySem L2
open PyProof.Rows hiding St
section
variable {B : Bx} {X : Cx} {e a b c o : Expr} {es rest : List Expr} {δ δ' : Env'} {M : Mem} {Φ : D → Mem → Prop} {Ψ : DEnds} {pos pos' apos pp np : Pos} {d x y : D}
def rIsXT (K : PySem.W.Frag) : List V → Hp → VK → Prop := fun xs H Q => ∃ (a C tp : Addr) (dx : Option Addr) (cs : List V) (us : List Value) (b : Bool), xs = [.ref a, .ref tp] ∧ H tp = some (.tup cs) ∧ Paired ClsV cs us ∧ H a = some (XO (.ref C) dx a) ∧ (dx = none ∨ ∃ d fs, dx = some d ∧ H d = some (.xd fs)) ∧ ExcP K C ∧ PySem.W.kitAny K (.ref C) us = some b ∧ Q (.bl b) H
theorem call_isXT : CallR X (.builtin "isinstance") (rIsXT X.K) := by
 intro pins s σ H xs us Q I r h
 obtain ⟨a, C, tp, dx, cs, ws, b, rfl, hT, k, ea, hd, T, e, q⟩ := h
 obtain ⟨u1, u2, rfl, r1, r2⟩ := vals2 r
 cases (show u2 = Value.ref tp from r2)
 cases (show u1 = Value.ref a from r1)
 obtain ⟨⟨oe, vs, ha, hz, hdt⟩, _, _⟩ := I.hok a _ ea
 have J : ∃ od, PySem.W.InstAt s.heap a oe C od := by
   rcases hd with rfl | ⟨d, fs, rfl, ed⟩
   · exact ⟨none, ha, hz.1, by unfold PySem.W.notCls; rw [hdt] <;> rfl, by rw [hz.2]; trivial⟩
   · have hx : ObjOk X.prog X.w H s.heap d (.xd fs) := I.hok d _ ed
     obtain ⟨mA, hns, hr⟩ := hx
     obtain ⟨od, ho, hl⟩ := lookIn_ns hns
     exact ⟨some od, ha, hz.1, by unfold PySem.W.notCls; rw [hdt] <;> rfl, by rw [hz.2]; exact ho⟩
 obtain ⟨od, J⟩ := J
 obtain ⟨_, its, rv, o, h1, h2, n, h3⟩ := (show ObjOk X.prog X.w H s.heap tp (.tup cs) from I.hok tp _ hT)
 have e3 := ClsV.all k rv
 subst e3
 obtain ⟨oc, od2, dt, sl⟩ := o
 simp only at h2 h3
 subst h2 h3
 exact PySem.W.kia_tup (PySem.W.kitx_exc T.cl T.ga T.gg T.hs T.ha T.hn T.ht T.hm) I.kIn J h1 e (fun z => nomatch z) fun tk => ⟨.bl b, H, I.tok tk, rfl, q⟩
def rIsiV (K : PySem.W.Frag) : List V → Hp → VK → Prop := fun xs H Q => rIsiU K xs H Q ∨ rIsXT K xs H Q
theorem de_isiV {p : Pos} (g : Gn X "isinstance") (h : DA B X [a, b] δ M fun ds M1 => CallD (rIsiV X.K) ds M1 Φ) (he : starEach [a, b] X.env = (false, eval a X.env) :: starEach [b] X.env := by rfl) (hpl : (backTo pos (starEach [b] X.env)).any (·.1) = false := by rfl) : DE B X (.Call (.Name "isinstance" p) [a, b] [] pos) δ M Φ := de_blt ((call_isi.or call_isX).or call_isXT) g boot_isinstance h (by decide) (by decide) he hpl
theorem isx_t2 {K : PySem.W.Frag} {C : Addr} {ns : List Str} {fs : List D} {c1 c2 : V} {u1 u2 : Value} {b1 b2 : Bool} (T : ExcP K C) (h1 : ClsV c1 u1) (h2 : ClsV c2 u2) (k1 : PySem.W.kitOne K (.ref C) u1 = some b1) (k2 : PySem.W.kitOne K (.ref C) u2 = some b2) (k : Φ (.bl (b1 || b2)) M) : CallD (rIsiV K) [.exn C ns fs, .tup [.raw c1, .raw c2]] M Φ := .inr fun κ δ σ H vs Q R rs f => by
 cases rs with
 | cons r1 r2 =>
   cases r2 with
   | cons r2 r3 =>
     cases r3
     have kk : PySem.W.kitAny K (.ref C) [u1, u2] = some (b1 || b2) := by
       refine kitAny_cons k1 (fun e => ?_) fun e => by rw [e]; rfl
       rw [e]
       refine kitAny_cons k2 (fun e => ?_) fun e => by rw [e]; rfl
       rw [e]; exact kitAny_nil
     cases r2 with
     | tup hn e2 rr =>
       cases rr with
       | cons q1 rr =>
         cases rr with
         | cons q2 rr =>
           cases rr
           have := ClsD q1
           subst this
           have := ClsD q2
           subst this
           cases r1 with
           | exn0 h3 e1 => exact ⟨_, C, _, none, _, _, _, rfl, e2, .cons h1 (.cons h2 .nil), e1, .inl rfl, T, kk, f _ _ _ _ k R (.bl _)⟩
           | exn h3 e1 h4 e4 hl rr => exact ⟨_, C, _, _, _, _, _, rfl, e2, .cons h1 (.cons h2 .nil), e1, .inr ⟨_, _, rfl, e4⟩, T, kk, f _ _ _ _ k R (.bl _)⟩
end
def Uns (δ : Env') (i : Nat) (P : Env' → Prop) : Prop := P (δ.set i none)
theorem ua0 {P : Env' → Prop} {x0 : Option D} {r : Env'} (h : P (none :: r)) : Uns (x0 :: r) 0 P := h
theorem ua1 {P : Env' → Prop} {x0 x1 : Option D} {r : Env'} (h : P (x0 :: none :: r)) : Uns (x0 :: x1 :: r) 1 P := h
theorem ua2 {P : Env' → Prop} {x0 x1 x2 : Option D} {r : Env'} (h : P (x0 :: x1 :: none :: r)) : Uns (x0 :: x1 :: x2 :: r) 2 P := h
theorem ua3 {P : Env' → Prop} {x0 x1 x2 x3 : Option D} {r : Env'} (h : P (x0 :: x1 :: x2 :: none :: r)) : Uns (x0 :: x1 :: x2 :: x3 :: r) 3 P := h
theorem ua4 {P : Env' → Prop} {x0 x1 x2 x3 x4 : Option D} {r : Env'} (h : P (x0 :: x1 :: x2 :: x3 :: none :: r)) : Uns (x0 :: x1 :: x2 :: x3 :: x4 :: r) 4 P := h
theorem ua5 {P : Env' → Prop} {x0 x1 x2 x3 x4 x5 : Option D} {r : Env'} (h : P (x0 :: x1 :: x2 :: x3 :: x4 :: none :: r)) : Uns (x0 :: x1 :: x2 :: x3 :: x4 :: x5 :: r) 5 P := h
theorem ua6 {P : Env' → Prop} {x0 x1 x2 x3 x4 x5 x6 : Option D} {r : Env'} (h : P (x0 :: x1 :: x2 :: x3 :: x4 :: x5 :: none :: r)) : Uns (x0 :: x1 :: x2 :: x3 :: x4 :: x5 :: x6 :: r) 6 P := h
theorem ua7 {P : Env' → Prop} {x0 x1 x2 x3 x4 x5 x6 x7 : Option D} {r : Env'} (h : P (x0 :: x1 :: x2 :: x3 :: x4 :: x5 :: x6 :: none :: r)) : Uns (x0 :: x1 :: x2 :: x3 :: x4 :: x5 :: x6 :: x7 :: r) 7 P := h
theorem ua8 {P : Env' → Prop} {x0 x1 x2 x3 x4 x5 x6 x7 x8 : Option D} {r : Env'} (h : P (x0 :: x1 :: x2 :: x3 :: x4 :: x5 :: x6 :: x7 :: none :: r)) : Uns (x0 :: x1 :: x2 :: x3 :: x4 :: x5 :: x6 :: x7 :: x8 :: r) 8 P := h
theorem ua9 {P : Env' → Prop} {x0 x1 x2 x3 x4 x5 x6 x7 x8 x9 : Option D} {r : Env'} (h : P (x0 :: x1 :: x2 :: x3 :: x4 :: x5 :: x6 :: x7 :: x8 :: none :: r)) : Uns (x0 :: x1 :: x2 :: x3 :: x4 :: x5 :: x6 :: x7 :: x8 :: x9 :: r) 9 P := h
theorem ua10 {P : Env' → Prop} {x0 x1 x2 x3 x4 x5 x6 x7 x8 x9 x10 : Option D} {r : Env'} (h : P (x0 :: x1 :: x2 :: x3 :: x4 :: x5 :: x6 :: x7 :: x8 :: x9 :: none :: r)) : Uns (x0 :: x1 :: x2 :: x3 :: x4 :: x5 :: x6 :: x7 :: x8 :: x9 :: x10 :: r) 10 P := h
theorem ua11 {P : Env' → Prop} {x0 x1 x2 x3 x4 x5 x6 x7 x8 x9 x10 x11 : Option D} {r : Env'} (h : P (x0 :: x1 :: x2 :: x3 :: x4 :: x5 :: x6 :: x7 :: x8 :: x9 :: x10 :: none :: r)) : Uns (x0 :: x1 :: x2 :: x3 :: x4 :: x5 :: x6 :: x7 :: x8 :: x9 :: x10 :: x11 :: r) 11 P := h
theorem ua12 {P : Env' → Prop} {x0 x1 x2 x3 x4 x5 x6 x7 x8 x9 x10 x11 x12 : Option D} {r : Env'} (h : P (x0 :: x1 :: x2 :: x3 :: x4 :: x5 :: x6 :: x7 :: x8 :: x9 :: x10 :: x11 :: none :: r)) : Uns (x0 :: x1 :: x2 :: x3 :: x4 :: x5 :: x6 :: x7 :: x8 :: x9 :: x10 :: x11 :: x12 :: r) 12 P := h
theorem ua13 {P : Env' → Prop} {x0 x1 x2 x3 x4 x5 x6 x7 x8 x9 x10 x11 x12 x13 : Option D} {r : Env'} (h : P (x0 :: x1 :: x2 :: x3 :: x4 :: x5 :: x6 :: x7 :: x8 :: x9 :: x10 :: x11 :: x12 :: none :: r)) : Uns (x0 :: x1 :: x2 :: x3 :: x4 :: x5 :: x6 :: x7 :: x8 :: x9 :: x10 :: x11 :: x12 :: x13 :: r) 13 P := h
theorem ua14 {P : Env' → Prop} {x0 x1 x2 x3 x4 x5 x6 x7 x8 x9 x10 x11 x12 x13 x14 : Option D} {r : Env'} (h : P (x0 :: x1 :: x2 :: x3 :: x4 :: x5 :: x6 :: x7 :: x8 :: x9 :: x10 :: x11 :: x12 :: x13 :: none :: r)) : Uns (x0 :: x1 :: x2 :: x3 :: x4 :: x5 :: x6 :: x7 :: x8 :: x9 :: x10 :: x11 :: x12 :: x13 :: x14 :: r) 14 P := h
theorem ua15 {P : Env' → Prop} {x0 x1 x2 x3 x4 x5 x6 x7 x8 x9 x10 x11 x12 x13 x14 x15 : Option D} {r : Env'} (h : P (x0 :: x1 :: x2 :: x3 :: x4 :: x5 :: x6 :: x7 :: x8 :: x9 :: x10 :: x11 :: x12 :: x13 :: x14 :: none :: r)) : Uns (x0 :: x1 :: x2 :: x3 :: x4 :: x5 :: x6 :: x7 :: x8 :: x9 :: x10 :: x11 :: x12 :: x13 :: x14 :: x15 :: r) 15 P := h
theorem ua16 {P : Env' → Prop} {x0 x1 x2 x3 x4 x5 x6 x7 x8 x9 x10 x11 x12 x13 x14 x15 x16 : Option D} {r : Env'} (h : P (x0 :: x1 :: x2 :: x3 :: x4 :: x5 :: x6 :: x7 :: x8 :: x9 :: x10 :: x11 :: x12 :: x13 :: x14 :: x15 :: none :: r)) : Uns (x0 :: x1 :: x2 :: x3 :: x4 :: x5 :: x6 :: x7 :: x8 :: x9 :: x10 :: x11 :: x12 :: x13 :: x14 :: x15 :: x16 :: r) 16 P := h
theorem ua17 {P : Env' → Prop} {x0 x1 x2 x3 x4 x5 x6 x7 x8 x9 x10 x11 x12 x13 x14 x15 x16 x17 : Option D} {r : Env'} (h : P (x0 :: x1 :: x2 :: x3 :: x4 :: x5 :: x6 :: x7 :: x8 :: x9 :: x10 :: x11 :: x12 :: x13 :: x14 :: x15 :: x16 :: none :: r)) : Uns (x0 :: x1 :: x2 :: x3 :: x4 :: x5 :: x6 :: x7 :: x8 :: x9 :: x10 :: x11 :: x12 :: x13 :: x14 :: x15 :: x16 :: x17 :: r) 17 P := h
theorem ua18 {P : Env' → Prop} {x0 x1 x2 x3 x4 x5 x6 x7 x8 x9 x10 x11 x12 x13 x14 x15 x16 x17 x18 : Option D} {r : Env'} (h : P (x0 :: x1 :: x2 :: x3 :: x4 :: x5 :: x6 :: x7 :: x8 :: x9 :: x10 :: x11 :: x12 :: x13 :: x14 :: x15 :: x16 :: x17 :: none :: r)) : Uns (x0 :: x1 :: x2 :: x3 :: x4 :: x5 :: x6 :: x7 :: x8 :: x9 :: x10 :: x11 :: x12 :: x13 :: x14 :: x15 :: x16 :: x17 :: x18 :: r) 18 P := h
theorem ua19 {P : Env' → Prop} {x0 x1 x2 x3 x4 x5 x6 x7 x8 x9 x10 x11 x12 x13 x14 x15 x16 x17 x18 x19 : Option D} {r : Env'} (h : P (x0 :: x1 :: x2 :: x3 :: x4 :: x5 :: x6 :: x7 :: x8 :: x9 :: x10 :: x11 :: x12 :: x13 :: x14 :: x15 :: x16 :: x17 :: x18 :: none :: r)) : Uns (x0 :: x1 :: x2 :: x3 :: x4 :: x5 :: x6 :: x7 :: x8 :: x9 :: x10 :: x11 :: x12 :: x13 :: x14 :: x15 :: x16 :: x17 :: x18 :: x19 :: r) 19 P := h
theorem ua20 {P : Env' → Prop} {x0 x1 x2 x3 x4 x5 x6 x7 x8 x9 x10 x11 x12 x13 x14 x15 x16 x17 x18 x19 x20 : Option D} {r : Env'} (h : P (x0 :: x1 :: x2 :: x3 :: x4 :: x5 :: x6 :: x7 :: x8 :: x9 :: x10 :: x11 :: x12 :: x13 :: x14 :: x15 :: x16 :: x17 :: x18 :: x19 :: none :: r)) : Uns (x0 :: x1 :: x2 :: x3 :: x4 :: x5 :: x6 :: x7 :: x8 :: x9 :: x10 :: x11 :: x12 :: x13 :: x14 :: x15 :: x16 :: x17 :: x18 :: x19 :: x20 :: r) 20 P := h
theorem ua21 {P : Env' → Prop} {x0 x1 x2 x3 x4 x5 x6 x7 x8 x9 x10 x11 x12 x13 x14 x15 x16 x17 x18 x19 x20 x21 : Option D} {r : Env'} (h : P (x0 :: x1 :: x2 :: x3 :: x4 :: x5 :: x6 :: x7 :: x8 :: x9 :: x10 :: x11 :: x12 :: x13 :: x14 :: x15 :: x16 :: x17 :: x18 :: x19 :: x20 :: none :: r)) : Uns (x0 :: x1 :: x2 :: x3 :: x4 :: x5 :: x6 :: x7 :: x8 :: x9 :: x10 :: x11 :: x12 :: x13 :: x14 :: x15 :: x16 :: x17 :: x18 :: x19 :: x20 :: x21 :: r) 21 P := h
theorem ua22 {P : Env' → Prop} {x0 x1 x2 x3 x4 x5 x6 x7 x8 x9 x10 x11 x12 x13 x14 x15 x16 x17 x18 x19 x20 x21 x22 : Option D} {r : Env'} (h : P (x0 :: x1 :: x2 :: x3 :: x4 :: x5 :: x6 :: x7 :: x8 :: x9 :: x10 :: x11 :: x12 :: x13 :: x14 :: x15 :: x16 :: x17 :: x18 :: x19 :: x20 :: x21 :: none :: r)) : Uns (x0 :: x1 :: x2 :: x3 :: x4 :: x5 :: x6 :: x7 :: x8 :: x9 :: x10 :: x11 :: x12 :: x13 :: x14 :: x15 :: x16 :: x17 :: x18 :: x19 :: x20 :: x21 :: x22 :: r) 22 P := h
theorem ua23 {P : Env' → Prop} {x0 x1 x2 x3 x4 x5 x6 x7 x8 x9 x10 x11 x12 x13 x14 x15 x16 x17 x18 x19 x20 x21 x22 x23 : Option D} {r : Env'} (h : P (x0 :: x1 :: x2 :: x3 :: x4 :: x5 :: x6 :: x7 :: x8 :: x9 :: x10 :: x11 :: x12 :: x13 :: x14 :: x15 :: x16 :: x17 :: x18 :: x19 :: x20 :: x21 :: x22 :: none :: r)) : Uns (x0 :: x1 :: x2 :: x3 :: x4 :: x5 :: x6 :: x7 :: x8 :: x9 :: x10 :: x11 :: x12 :: x13 :: x14 :: x15 :: x16 :: x17 :: x18 :: x19 :: x20 :: x21 :: x22 :: x23 :: r) 23 P := h
theorem endA {Ψ : DEnds} {i : Nat} {δ : Env'} {M : Mem} (h : Uns δ i fun δ' => Ψ.nx δ' M) : (endsD (some i) Ψ).nx δ M := h
theorem idUns {δ : Env'} {i : Nat} {P : Env' → Prop} (h : Uns δ i P) : Uns δ i P := h
section
variable {M : Mem} {Φ : D → Mem → Prop} {y : D}
theorem inV_ints (z : Int) : ∀ zs : List Int, inV (.int z) (zs.map .int) = decide (z ∈ zs)
 | [] => by simp [inV]
 | w :: zs => by
   have ih := inV_ints z zs
   unfold inV at ih ⊢
   rw [List.map_cons, List.any_cons, ih]
   show ((w == z) || _) = _
   by_cases h : w = z
   · subst h; simp
   · simp [h, Ne.symm h, beq_eq_false_iff_ne.mpr h]
theorem flat_ints : ∀ zs : List Int, (zs.map V.int).all flatV = true
 | [] => rfl
 | _ :: zs => flat_ints zs
theorem od_inN {K : PySem.W.Frag} {z : Int} {zs : List Int} (h : IsL M y (zs.map .int)) (k : Φ (.bl (decide (z ∈ zs))) M) : OpD (rInU K) (.int z) y M Φ := .inr (OpD.inl (fun κ δ σ H v w Q R rv rw' f => by
 cases rv
 obtain ⟨p, us, rfl, e1, rr⟩ := h.sq R rw'
 have := rr.ints
 subst this
 refine ⟨p, _, rfl, .inl (SqL.of e1), rfl, flat_ints zs, ?_⟩
 show Q (.bl (inV _ _)) H
 rw [inV_ints]
 exact f _ _ M H k R (.bl _)))
theorem od_notinN {K : PySem.W.Frag} {z : Int} {zs : List Int} (h : IsL M y (zs.map .int)) (k : Φ (.bl (!decide (z ∈ zs))) M) : OpD (rNotInU K) (.int z) y M Φ := .inr (OpD.inl (fun κ δ σ H v w Q R rv rw' f => by
 cases rv
 obtain ⟨p, us, rfl, e1, rr⟩ := h.sq R rw'
 have := rr.ints
 subst this
 refine ⟨p, _, rfl, .inl (SqL.of e1), rfl, flat_ints zs, ?_⟩
 show Q (.bl (!inV _ _)) H
 rw [inV_ints]
 exact f _ _ M H k R (.bl _)))
end
end Hl
namespace Hl
open PySem L2
section
variable {K : PySem.W.Frag} {C : Addr} {cls : Value} {b : Bool}
theorem kcls_ref (hd : PySem.W.hasDictIn K C = true) (ht : PySem.W.typeIn K (.ref C) = some (.type "type")) (h : PySem.W.subIn K cls (.ref C) = some b) : PySem.W.kitCls K cls (.ref C) = some b := by
 obtain ⟨cd, hc, _⟩ := PySem.W.any_some hd
 have e2 : ((PySem.W.clsIn K C).isSome && PySem.W.typeIn K (.ref C) == some (.type "type")) = true := by rw [hc, ht] <;> rfl
 show (if ((PySem.W.clsIn K C).isSome && PySem.W.typeIn K (.ref C) == some (.type "type")) = true then PySem.W.subIn K cls (.ref C) else none) = some b
 rw [if_pos e2]
 exact h
theorem exm_mk (h1 : PySem.W.subIn K (.ref C) (.type "BaseException") = some true) (hd : PySem.W.hasDictIn K C = true) (ht : PySem.W.typeIn K (.ref C) = some (.type "type")) (h : PySem.W.subIn K cls (.ref C) = some b) : PySem.W.exmOne K cls (.ref C) = some b := by
 have e1 : (PySem.W.subIn K (.ref C) (.type "BaseException") == some true) = true := by rw [h1] <;> rfl
 unfold PySem.W.exmOne
 rw [if_pos e1]
 exact kcls_ref hd ht h
theorem kit_ref (hd : PySem.W.hasDictIn K C = true) (ht : PySem.W.typeIn K (.ref C) = some (.type "type")) (h : PySem.W.subIn K cls (.ref C) = some b) (hs : PySem.W.subIn K (.ref C) (.ref C) = some true) : PySem.W.kitOne K cls (.ref C) = some b := by
 unfold PySem.W.kitOne
 split
 · next e =>
   have e := beq_iff_eq.mp e
   cases b with
   | true => rfl
   | false =>
     rw [e, hs] at h
     cases h
 · exact kcls_ref hd ht h
theorem kit_same : PySem.W.kitOne K (.ref C) (.ref C) = some true := by
 unfold PySem.W.kitOne
 rw [if_pos (beq_self_eq_true _)]
end
end Hl
namespace Hl
open PySem L2
open PyProof.Rows hiding St
section
variable {B : Bx} {X : Cx} {e a b c o : Expr} {es rest : List Expr} {st : Stmt} {sts : List Stmt} {δ δ' : Env'} {M : Mem} {Φ : D → Mem → Prop} {Ψ : DEnds} {pos pos' apos cpos pp np : Pos} {d x y : D} {ΦB : Bool → Mem → Prop}
theorem look_none {k : Key} : ∀ {ws : List (Key × V)} {kvs : List (Key × D)}, ws.map (·.1) = kvs.map (·.1) → lookD kvs k = none → valV ws k = none
 | [], [], _, _ => rfl
 | [], _ :: _, h, _ => by cases h
 | _ :: _, [], h, _ => by cases h
 | (k1, v) :: ws, (k2, d') :: kvs, h, e => by
   have h1 : k1 = k2 := (List.cons.inj h).1
   have h2 : ws.map (·.1) = kvs.map (·.1) := (List.cons.inj h).2
   subst h1
   unfold lookD at e
   unfold valV
   by_cases hk : k1 = k
   · rw [List.find?_cons_of_pos (by simpa using hk)] at e
     cases e
   · rw [List.find?_cons_of_neg (by simpa using hk)] at e ⊢
     exact look_none h2 e
inductive IsDc (M : Mem) : D → List (Key × D) → Prop
 | cell {p : Addr} {kvs : List (Key × D)} (j : Nat) (h : M[j]? = some (p, .dct kvs)) : IsDc M (.raw (.ref p)) kvs
 | lock {p : Addr} {o : Obj} {ws : List (Key × V)} {kvs : List (Key × D)} (j : Nat) (h : M[j]? = some (p, .fdc o ws kvs)) : IsDc M (.raw (.ref p)) kvs
 | inm {p : Addr} {kvs : List (Key × D)} (h : InM M p (.dct kvs)) : IsDc M (.raw (.ref p)) kvs
 | inmL {p : Addr} {o : Obj} {ws : List (Key × V)} {kvs : List (Key × D)} (h : InM M p (.fdc o ws kvs)) : IsDc M (.raw (.ref p)) kvs
 | val (kvs : List (Key × D)) : IsDc M (.fd (kvs.map (·.1)) (kvs.map (·.2))) kvs
theorem IsDc.sq {κ : List (V × D)} {σ : St} {H : Hp} {v : V} {x : D} {kvs : List (Key × D)} (h : IsDc M x kvs) (R : Rs κ δ M σ H) (r : Rep M.F H v x) : ∃ p ws, v = .ref p ∧ Rd H p (.dK ws) ∧ ws.map (·.1) = kvs.map (·.1) ∧ Reps M.F H (ws.map (·.2)) (kvs.map (·.2)) := by
 cases h with
 | cell j h =>
   cases r
   obtain ⟨ws, e1, e2, r1⟩ := R.at h
   exact ⟨_, ws, rfl, .inl e1, e2, r1⟩
 | lock j h =>
   cases r
   obtain ⟨e1, e2, r1⟩ := R.at h
   exact ⟨_, _, rfl, .inr ⟨_, e1⟩, e2, r1⟩
 | inm h =>
   cases r
   obtain ⟨ws, e1, e2, r1⟩ := h.ok R
   exact ⟨_, ws, rfl, .inl e1, e2, r1⟩
 | inmL h =>
   cases r
   obtain ⟨e1, e2, r1⟩ := h.ok R
   exact ⟨_, _, rfl, .inr ⟨_, e1⟩, e2, r1⟩
 | val kvs =>
   cases r with
   | fd h e e1 e2 r1 => subst e2; exact ⟨_, _, rfl, .inr ⟨_, e⟩, e1, r1⟩
theorem val_rep {F : List Addr} {H : Hp} {k : Key} {ws : List (Key × V)} {kvs : List (Key × D)} (h : ws.map (·.1) = kvs.map (·.1)) (r : Reps F H (ws.map (·.2)) (kvs.map (·.2))) : (lookD kvs k = none ∧ valV ws k = none) ∨ ∃ v d, valV ws k = some v ∧ lookD kvs k = some d ∧ Rep F H v d := by
 cases e : lookD kvs k with
 | none => exact .inl ⟨rfl, look_none h e⟩
 | some d =>
   obtain ⟨v, e1, r1⟩ := look_rep h r e
   exact .inr ⟨v, d, e1, rfl, r1⟩
def GtD (x y w : D) (M : Mem) (Φ : D → Mem → Prop) : Prop := ∃ kvs k, IsDc M x kvs ∧ y = kD k ∧ Φ ((lookD kvs k).getD w) M
theorem de_dget2 {n : Nat} (z : Cz X n) (h : DE B X o δ M fun x M1 => (∃ kvs, IsDc M1 x kvs) ∧ DE B X a δ M1 fun y M2 => DE B X b δ M2 fun w M3 => GtD x y w M3 Φ)
   (hbase : attributeBase o "get" X.env (eval o X.env) = eval o X.env := by rfl)
   (hfew : ((backTo cpos (starEach [a, b] X.env)).all (fun x => !x.1) && (backToKw cpos (keywordEach [] X.env)).all (fun x => x.1.isSome)
     && decide (([a, b] : List Expr).length + ([] : List Keyword).length + (if ([] : List Keyword).isEmpty then 0 else 1) < 30)) = true := by rfl)
   (hline : (apos.endLine == cpos.line) = true := by rfl) (htr : backTo cpos (starEach [a, b] X.env) = [(false, eval a X.env), (false, eval b X.env)] := by rfl) : DE B X (.Call (.Attribute o "get" apos) [a, b] [] cpos) δ M Φ :=
 .of (pe_dget2 (un1 z) cE cE cE ⟨hbase, hfew, hline, htr⟩) fun κ σ H Q hb R kk => h κ σ H _ hb R fun v x M1 H1 ⟨⟨kvs0, d0⟩, q1⟩ R1 r1 => by
   obtain ⟨p, ws0, rfl, e0, _⟩ := d0.sq R1 r1
   refine ⟨p, rfl, .inl ⟨ws0, e0⟩, q1 ((.ref p, x) :: κ) σ H1 _ (fun q hq => List.mem_cons_of_mem _ (hb q hq)) (R1.push r1) fun vy y M2 H2 q2 R2 r2 => ?_⟩
   refine q2 ((vy, y) :: (.ref p, x) :: κ) σ H2 _ (fun q hq => List.mem_cons_of_mem _ (List.mem_cons_of_mem _ (hb q hq))) (R2.push r2) fun vw w M3 H3 ⟨kvs, k, hd, ey, q3⟩ R3 r3 => ?_
   obtain ⟨p', ws, ep, e1, e2, rr⟩ := hd.sq R3 R3.pop.top
   cases ep
   have hy := R3.top
   subst ey
   have := rep_k hy
   subst this
   refine ⟨_, .inl ⟨ws, k, e1, rfl, rfl⟩, ?_⟩
   rcases val_rep (k := k) e2 rr with ⟨n1, n2⟩ | ⟨v, d, s1, s2, rv⟩
   · rw [n1] at q3; rw [n2]; exact kk _ _ _ _ q3 R3.pop.pop r3
   · rw [s2] at q3; rw [s1]; exact kk _ _ _ _ q3 R3.pop.pop rv
theorem isd_c {p : Addr} {kvs : List (Key × D)} {P : Prop} (j : Nat) (hm : M[j]? = some (p, .dct kvs)) (k : P) : (∃ kvs, IsDc M (.raw (.ref p)) kvs) ∧ P := ⟨⟨kvs, .cell j hm⟩, k⟩
theorem dg_i {p : Addr} {kvs : List (Key × D)} {i : Int} (j : Nat) (hm : M[j]? = some (p, .dct kvs)) (k : Φ ((lookD kvs (.inl i)).getD d) M) : GtD (.raw (.ref p)) (.int i) d M Φ := ⟨kvs, .inl i, .cell j hm, rfl, k⟩
theorem dg_s {p : Addr} {kvs : List (Key × D)} {i : Str} (j : Nat) (hm : M[j]? = some (p, .dct kvs)) (k : Φ ((lookD kvs (.inr i)).getD d) M) : GtD (.raw (.ref p)) (.str i) d M Φ := ⟨kvs, .inr i, .cell j hm, rfl, k⟩
end
end Hl
namespace Hl
open PySem L2
section
variable {M : Mem} {Φ : D → Mem → Prop} {ΦM : Mem → Prop} {x d : D} {α : Type} {l : List α} {f : α → D} {i : Int} {p : Addr} {K : PySem.W.Frag}
theorem od_ixEC (j : Nat) (hm : M[j]? = some (p, .lst (l.map f))) (h : 0 ≤ i ∧ i < l.length) (k : ∀ y, l[i.toNat]? = some y → Φ (f y) M) : OpD (rIxU K) (.raw (.ref p)) (.int i) M Φ := by
 obtain ⟨y, h1, h2⟩ := at_map (f := f) h.1 h.2
 exact od_ixC hm h2 (k y h1)
theorem cd_lenLM (h : IsL M x (l.map f)) (k : Φ (.int (l.length : Nat)) M) : CallD (rLenU K) [x] M Φ := cd_lenL h (by rw [List.length_map]; exact k)
theorem sd_listE {y : α} (j : Nat) (hm : M[j]? = some (p, .lst (l.map f))) (h : 0 ≤ i ∧ i < l.length) (hd : d = f y) (k : ΦM (M.set j (p, .lst ((l.set i.toNat y).map f)))) : SetD (.raw (.ref p)) (.int i) d M ΦM := by
 refine sd_list (m := i.toNat) hm ?_ (by rw [hd, ← List.map_set]; exact k)
 rw [List.length_map]
 obtain ⟨n, rfl⟩ : ∃ n : Nat, i = (n : Int) := ⟨i.toNat, by omega⟩
 exact ixN_nat' (by omega)
theorem sd_dictI {kvs : List (Key × D)} (j : Nat) (hm : M[j]? = some (p, .dct kvs)) (hl : kvs.length < sizeLine) (k : ΦM (M.set j (p, .dct (putD kvs (.inl i) d)))) : SetD (.raw (.ref p)) (.int i) d M ΦM := sd_dict (k := .inl i) j hm rfl hl k
theorem sd_dictS {kvs : List (Key × D)} {z : Str} (j : Nat) (hm : M[j]? = some (p, .dct kvs)) (hl : kvs.length < sizeLine) (k : ΦM (M.set j (p, .dct (putD kvs (.inr z) d)))) : SetD (.raw (.ref p)) (.str z) d M ΦM := sd_dict (k := .inr z) j hm rfl hl k
end
end Hl
namespace Hl
open PySem L2
open PyProof.Rows hiding St
def relOf : CmpOp → R2
 | .Lt => rLtU
 | .LtE => rLeU
 | .Gt => rGtU
 | .GtE => rGeU
 | _ => fun _ _ _ _ => False
theorem op_rel {X : Cx} : ∀ op : CmpOp, OpR X (compareOp op) (relOf op)
 | .Lt => op_lt
 | .LtE => op_le
 | .Gt => op_gt
 | .GtE => op_ge
 | .Eq => fun _ _ _ _ _ _ _ _ _ _ _ _ h => h.elim
 | .NotEq => fun _ _ _ _ _ _ _ _ _ _ _ _ h => h.elim
 | .Is => fun _ _ _ _ _ _ _ _ _ _ _ _ h => h.elim
 | .IsNot => fun _ _ _ _ _ _ _ _ _ _ _ _ h => h.elim
 | .In => fun _ _ _ _ _ _ _ _ _ _ _ _ h => h.elim
 | .NotIn => fun _ _ _ _ _ _ _ _ _ _ _ _ h => h.elim
def DLk (B : Bx) (X : Cx) : List CmpOp → List Expr → D → Env' → Mem → (Bool → Mem → Prop) → Prop
 | [op], [b], x, δ, M, Φ => DE B X b δ M fun y M1 => OpD (relOf op) x y M1 (toB Φ)
 | op :: op' :: ops, b :: b' :: bs, x, δ, M, Φ => DE B X b δ M fun y M1 => OpD (relOf op) x y M1 (toB fun t M2 => Br t (DLk B X (op' :: ops) (b' :: bs) y δ M2 Φ) (Φ false M2))
 | _, _, _, _, _, _ => False
section
variable {B : Bx} {X : Cx} {a b b' : Expr} {bs : List Expr} {op op' : CmpOp} {ops : List CmpOp} {δ : Env'} {M : Mem} {Φ : D → Mem → Prop} {ΦB : Bool → Mem → Prop} {pos : Pos} {x : D}
theorem lk_test : ∀ {ops : List CmpOp} {bs : List Expr} {x : D} {v : V} {u : Value} {M : Mem} {κ : List (V × D)} {σ : St} {H : Hp} {s : Shared} {pins : List (Addr × Obj)} {Q : Bool → Hp → Prop}, DLk B X ops bs x δ M ΦB → Inv X pins σ H s → RelV v u → (∀ q ∈ B.ps, q ∈ κ) → Rs κ δ M σ H → Rep M.F H v x → (∀ t M' H', ΦB t M' → Rs κ δ M' σ H' → Q t H') →
   wpAny (model X.prog X.w) X.A (testChain pos u ops (evalEach bs X.env)) (TP X pins σ Q) X.xe s
 | [op], [b], x, v, u, M, κ, σ, H, s, pins, Q, h, I, rv, hb, R, r, k => by
   refine test_last (thn ((cE (X := X) (e := b)).run pins s σ H (fun w H1 => ∃ y M1, OpD (relOf op) x y M1 (toB ΦB) ∧ Rs ((v, x) :: κ) δ M1 σ H1 ∧ Rep M1.F H1 w y) I (h ((v, x) :: κ) σ H _ (fun q hq => List.mem_cons_of_mem _ (hb q hq)) (R.push r) fun w y M1 H1 q R1 r1 => ⟨y, M1, q, R1, r1⟩)) fun u' s1 ⟨w, H1, I1, rw', y, M1, q, R1, r1⟩ => ?_)
   refine thn (op_rel op pins s1 σ H1 v w u u' (fun z H2 => ∃ t, z = .bl t ∧ Q t H2) I1 rv rw' (q κ δ σ H1 v w _ R1.pop R1.top r1 fun z d M2 H2 ⟨t, ed, q2⟩ R2 r2 => by subst ed; cases r2; exact ⟨t, rfl, k t M2 H2 q2 R2⟩)) fun c s2 ⟨z, H2, I2, r2, t, e, q2⟩ => ?_
   subst e
   cases r2
   exact wpAny_truthy_bool ⟨H2, I2, q2⟩
 | op :: op' :: ops, b :: b' :: bs, x, v, u, M, κ, σ, H, s, pins, Q, h, I, rv, hb, R, r, k => by
   refine test_link (thn ((cE (X := X) (e := b)).run pins s σ H (fun w H1 => ∃ y M1, OpD (relOf op) x y M1 (toB fun t M2 => Br t (DLk B X (op' :: ops) (b' :: bs) y δ M2 ΦB) (ΦB false M2)) ∧ Rs ((v, x) :: κ) δ M1 σ H1 ∧ Rep M1.F H1 w y) I (h ((v, x) :: κ) σ H _ (fun q hq => List.mem_cons_of_mem _ (hb q hq)) (R.push r) fun w y M1 H1 q R1 r1 => ⟨y, M1, q, R1, r1⟩)) fun u' s1 ⟨w, H1, I1, rw', y, M1, q, R1, r1⟩ => ?_)
   refine thn (op_rel op pins s1 σ H1 v w u u' (fun z H2 => ∃ t M2, z = .bl t ∧ Br t (DLk B X (op' :: ops) (b' :: bs) y δ M2 ΦB) (ΦB false M2) ∧ Rs ((w, y) :: κ) δ M2 σ H2) I1 rv rw' (q ((w, y) :: κ) δ σ H1 v w _ (R1.pop.push r1) R1.top r1 fun z d M2 H2 ⟨t, ed, q2⟩ R2 r2 => by subst ed; cases r2; exact ⟨t, M2, rfl, q2, R2⟩)) fun c s2 ⟨z, H2, I2, r2, t, M2, e, q2, R2⟩ => ?_
   subst e
   cases r2
   refine wpAny_truthy_bool ?_
   cases t with
   | false => exact ite_ff ⟨H2, I2, k _ _ _ (q2.2 rfl) R2.pop⟩
   | true => exact ite_tt (lk_test (q2.1 rfl) I2 rw' hb R2.pop R2.top k)
 | [], _, _, _, _, _, _, _, _, _, _, _, h, _, _, _, _, _, _ => h.elim
 | [_], [], _, _, _, _, _, _, _, _, _, _, h, _, _, _, _, _, _ => h.elim
 | [_], _ :: _ :: _, _, _, _, _, _, _, _, _, _, _, h, _, _, _, _, _, _ => h.elim
 | _ :: _ :: _, [], _, _, _, _, _, _, _, _, _, _, h, _, _, _, _, _, _ => h.elim
 | _ :: _ :: _, [_], _, _, _, _, _, _, _, _, _, _, h, _, _, _, _, _, _ => h.elim
theorem lk_val : ∀ {ops : List CmpOp} {bs : List Expr} {x : D} {v : V} {u : Value} {M : Mem} {κ : List (V × D)} {σ : St} {H : Hp} {s : Shared} {pins : List (Addr × Obj)} {Q : VK}, DLk B X ops bs x δ M ΦB → Inv X pins σ H s → RelV v u → (∀ q ∈ B.ps, q ∈ κ) → Rs κ δ M σ H → Rep M.F H v x → (∀ t M' H', ΦB t M' → Rs κ δ M' σ H' → Q (.bl t) H') →
   wpAny (model X.prog X.w) X.A (compareChain pos u ops (evalEach bs X.env)) (EP X pins σ Q) X.xe s
 | [op], [b], x, v, u, M, κ, σ, H, s, pins, Q, h, I, rv, hb, R, r, k => by
   refine chain_last (thn ((cE (X := X) (e := b)).run pins s σ H (fun w H1 => ∃ y M1, OpD (relOf op) x y M1 (toB ΦB) ∧ Rs ((v, x) :: κ) δ M1 σ H1 ∧ Rep M1.F H1 w y) I (h ((v, x) :: κ) σ H _ (fun q hq => List.mem_cons_of_mem _ (hb q hq)) (R.push r) fun w y M1 H1 q R1 r1 => ⟨y, M1, q, R1, r1⟩)) fun u' s1 ⟨w, H1, I1, rw', y, M1, q, R1, r1⟩ => ?_)
   exact op_rel op pins s1 σ H1 v w u u' Q I1 rv rw' (q κ δ σ H1 v w _ R1.pop R1.top r1 fun z d M2 H2 ⟨t, ed, q2⟩ R2 r2 => by subst ed; cases r2; exact k t M2 H2 q2 R2)
 | op :: op' :: ops, b :: b' :: bs, x, v, u, M, κ, σ, H, s, pins, Q, h, I, rv, hb, R, r, k => by
   refine chain_link (thn ((cE (X := X) (e := b)).run pins s σ H (fun w H1 => ∃ y M1, OpD (relOf op) x y M1 (toB fun t M2 => Br t (DLk B X (op' :: ops) (b' :: bs) y δ M2 ΦB) (ΦB false M2)) ∧ Rs ((v, x) :: κ) δ M1 σ H1 ∧ Rep M1.F H1 w y) I (h ((v, x) :: κ) σ H _ (fun q hq => List.mem_cons_of_mem _ (hb q hq)) (R.push r) fun w y M1 H1 q R1 r1 => ⟨y, M1, q, R1, r1⟩)) fun u' s1 ⟨w, H1, I1, rw', y, M1, q, R1, r1⟩ => ?_)
   refine thn (op_rel op pins s1 σ H1 v w u u' (fun z H2 => ∃ t M2, z = .bl t ∧ Br t (DLk B X (op' :: ops) (b' :: bs) y δ M2 ΦB) (ΦB false M2) ∧ Rs ((w, y) :: κ) δ M2 σ H2) I1 rv rw' (q ((w, y) :: κ) δ σ H1 v w _ (R1.pop.push r1) R1.top r1 fun z d M2 H2 ⟨t, ed, q2⟩ R2 r2 => by subst ed; cases r2; exact ⟨t, M2, rfl, q2, R2⟩)) fun c s2 ⟨z, H2, I2, r2, t, M2, e, q2, R2⟩ => ?_
   subst e
   cases r2
   refine wpAny_truthy_bool ?_
   cases t with
   | false => exact ite_ff ⟨.bl false, H2, I2, rfl, k _ _ _ (q2.2 rfl) R2.pop⟩
   | true => exact ite_tt (lk_val (q2.1 rfl) I2 rw' hb R2.pop R2.top k)
 | [], _, _, _, _, _, _, _, _, _, _, _, h, _, _, _, _, _, _ => h.elim
 | [_], [], _, _, _, _, _, _, _, _, _, _, h, _, _, _, _, _, _ => h.elim
 | [_], _ :: _ :: _, _, _, _, _, _, _, _, _, _, _, h, _, _, _, _, _, _ => h.elim
 | _ :: _ :: _, [], _, _, _, _, _, _, _, _, _, _, h, _, _, _, _, _, _ => h.elim
 | _ :: _ :: _, [_], _, _, _, _, _, _, _, _, _, _, h, _, _, _, _, _, _ => h.elim
theorem dt_chn (h : DE B X a δ M fun x M1 => DLk B X (op :: op' :: ops) (b :: b' :: bs) x δ M1 ΦB) (hm : lastMarks (op :: op' :: ops) (b :: b' :: bs) = false := by with_unfolding_all rfl) : DT B X (.Compare a (op :: op' :: ops) (b :: b' :: bs) pos) δ M ΦB := by
 intro κ σ H Q hb R k
 unfold tT
 intro pins s I
 refine isTrue_chain (thn ((cE (X := X) (e := a)).run pins s σ H (fun v H1 => ∃ x M1, DLk B X (op :: op' :: ops) (b :: b' :: bs) x δ M1 ΦB ∧ Rs κ δ M1 σ H1 ∧ Rep M1.F H1 v x) I (h κ σ H _ hb R fun v x M1 H1 q R1 r1 => ⟨x, M1, q, R1, r1⟩)) fun u s1 ⟨v, H1, I1, rv, x, M1, q, R1, r1⟩ => ?_) hm
 exact lk_test q I1 rv hb R1 r1 fun t M' H' q' R' => k t M' H' q' R'
theorem de_chn (h : DE B X a δ M fun x M1 => DLk B X (op :: op' :: ops) (b :: b' :: bs) x δ M1 fun t M2 => Φ (.bl t) M2) (hm : lastMarks (op :: op' :: ops) (b :: b' :: bs) = false := by with_unfolding_all rfl) : DE B X (.Compare a (op :: op' :: ops) (b :: b' :: bs) pos) δ M Φ := by
 intro κ σ H Q hb R k
 unfold tE
 intro pins s I
 refine Compare_chain (thn ((cE (X := X) (e := a)).run pins s σ H (fun v H1 => ∃ x M1, (DLk B X (op :: op' :: ops) (b :: b' :: bs) x δ M1 fun t M2 => Φ (.bl t) M2) ∧ Rs κ δ M1 σ H1 ∧ Rep M1.F H1 v x) I (h κ σ H _ hb R fun v x M1 H1 q R1 r1 => ⟨x, M1, q, R1, r1⟩)) fun u s1 ⟨v, H1, I1, rv, x, M1, q, R1, r1⟩ => ?_) hm
 exact lk_val q I1 rv hb R1 r1 fun t M' H' q' R' => k _ _ M' H' q' R' (.bl _)
theorem lk1le {i : Int} (h : DE B X b δ M fun y M1 => OpD rLeU (.int i) y M1 (toB ΦB)) : DLk B X [.LtE] [b] (.int i) δ M ΦB := h
theorem lk1lt {i : Int} (h : DE B X b δ M fun y M1 => OpD rLtU (.int i) y M1 (toB ΦB)) : DLk B X [.Lt] [b] (.int i) δ M ΦB := h
theorem lk1gt {i : Int} (h : DE B X b δ M fun y M1 => OpD rGtU (.int i) y M1 (toB ΦB)) : DLk B X [.Gt] [b] (.int i) δ M ΦB := h
theorem lk1ge {i : Int} (h : DE B X b δ M fun y M1 => OpD rGeU (.int i) y M1 (toB ΦB)) : DLk B X [.GtE] [b] (.int i) δ M ΦB := h
theorem lkle (h : DE B X b δ M fun y M1 => OpD rLeU x y M1 (toB fun t M2 => Br t (DLk B X (op' :: ops) (b' :: bs) y δ M2 ΦB) (ΦB false M2))) : DLk B X (.LtE :: op' :: ops) (b :: b' :: bs) x δ M ΦB := h
theorem lklt (h : DE B X b δ M fun y M1 => OpD rLtU x y M1 (toB fun t M2 => Br t (DLk B X (op' :: ops) (b' :: bs) y δ M2 ΦB) (ΦB false M2))) : DLk B X (.Lt :: op' :: ops) (b :: b' :: bs) x δ M ΦB := h
theorem lkgt (h : DE B X b δ M fun y M1 => OpD rGtU x y M1 (toB fun t M2 => Br t (DLk B X (op' :: ops) (b' :: bs) y δ M2 ΦB) (ΦB false M2))) : DLk B X (.Gt :: op' :: ops) (b :: b' :: bs) x δ M ΦB := h
theorem lkge (h : DE B X b δ M fun y M1 => OpD rGeU x y M1 (toB fun t M2 => Br t (DLk B X (op' :: ops) (b' :: bs) y δ M2 ΦB) (ΦB false M2))) : DLk B X (.GtE :: op' :: ops) (b :: b' :: bs) x δ M ΦB := h
theorem idLk (h : DLk B X ops bs x δ M ΦB) : DLk B X ops bs x δ M ΦB := h
end
end Hl
namespace Hl
open PySem L2
open PyProof.Rows hiding St
section
variable {B : Bx} {X : Cx} {e a b c o : Expr} {es rest : List Expr} {kw : Keyword} {kws : List Keyword} {st : Stmt} {sts body suite : List Stmt} {δ δ' : Env'} {M : Mem} {Φ : D → Mem → Prop} {Ψ : DEnds} {pos pos' apos pp np : Pos} {d x y : D} {ΦL : List D → Mem → Prop}
theorem fld_o {K : PySem.W.Frag} {f : Str} {C : Addr} {ns : List Str} {fs : List D} (io : IsO M x C ns fs) (ff : FldP K C f) (l : (ns.zip fs).lookup f = some d) (k : Φ d M) : FldD K f x M Φ := .inl ⟨C, ns, fs, d, io, ff, l, k⟩
theorem mt_o {m k n : Nat} {mn : Str} {C : Addr} {ns ks : List Str} {fs : List D} {sel : Sel} {p : DSpE} {Ξ : XPost} (io : IsO M x C ns fs) (f : MethEX X k C mn n ks sel p) (hk : k ≤ m) (lt : Lets X B δ Ξ) (pl : PlA X pos es kws ks) (hn : ns.contains mn = false)
   (h : DAK B X es kws δ M fun ds zs M' => ds.length = n ∧ zs.length = ks.length ∧ p (selD sel (x :: ds ++ zs)) M' Φ Ξ) : MtE B X m pos es kws mn δ x M Φ := ⟨C, k, n, ks, sel, p, Ξ, f, hk, lt, pl, ⟨ns, fs, io, hn⟩, h⟩
theorem DE.vw (h : DE B X e δ M fun d M' => ∃ d2 M2, Vw d M' d2 M2 ∧ Φ d2 M2) : DE B X e δ M Φ := fun κ σ H Q hb R k => h κ σ H Q hb R fun v d M' H' ⟨d2, M2, hv, q⟩ R' r' => let ⟨R2, r2⟩ := hv κ δ σ H' v R' r'; k v d2 M2 H' q R2 r2
def Made (a : Addr) (Φ : D → Mem → Prop) : D → Mem → Prop := fun d M2 => d = .non ∧ ∃ d2 M3, Vw (.raw (.ref a)) M2 d2 M3 ∧ Φ d2 M3
theorem de_kU {k m n : Nat} {x : Str} {ks : List Str} {sel : Sel} {p : DSpE} {Ξ : XPost} {C : Addr} (j : Nat) (z : Cz X m) (f : MakeEX X k x C n ks sel p) (hk : k + 1 ≤ m) (hg : Gl X x) (lt : Lets X B δ Ξ)
   (h : DAK B X es kws δ M fun ds zs M' => ds.length = n ∧ zs.length = ks.length ∧ ∀ a, p (selD sel (.raw (.ref a) :: ds ++ zs)) (insM j (a, .obj C [] []) M') (Made a Φ) Ξ) (pl : PlA X pos es kws ks) (hdb : (x == ("__debug__" : Str)) = false := by decide) : DE B X (.Call (.Name x pp) es kws pos) δ M Φ :=
 .vw (de_kE j z f hk hg lt h pl hdb)
theorem Made.cell {a : Addr} (k : Φ (.raw (.ref a)) M) : Made a Φ .non M := ⟨rfl, _, _, .refl, k⟩
theorem Made.val {a C : Addr} {ns : List Str} {ds : List D} (j : Nat) (hm : M[j]? = some (a, .obj C ns ds)) (k : Φ (.obj C ns ds) (M.eraseIdx j)) : Made a Φ .non M := ⟨rfl, _, _, .frzO j hm, k⟩
end
end Hl
namespace Hl
open PySem L2
open PyProof.Rows hiding St
section
variable {B : Bx} {X : Cx} {e a b c o : Expr} {es rest : List Expr} {st : Stmt} {sts body suite : List Stmt} {δ δ' : Env'} {M : Mem} {Φ : D → Mem → Prop} {Ψ : DEnds} {pos pos' apos pp np px py pz pt pt2 : Pos} {d : D} {x y w : Str} {kt k2 : Nat}
theorem sws2 (hx : X.env.kindOf x = some .local) (hy : X.env.kindOf y = some .local) (hk : X.env.blockKind = .function) (hne : (x == y) = false) (hl : (py.line == px.line) = true) (h1 : ([a, b].any fun | .Starred .. => true | _ => false) = false) (h2 : [a, b].all (foldedForSure 8) = false) (h3 : [a, b].all (constantsAlone 8) = false) :
   swappedStores [.Tuple [.Name x px, .Name y py] kt pt] (.Tuple [a, b] k2 pt2) X.env = pure (some [x, y]) := by
 have hyx : (y == x) = false := by
   rw [Bool.eq_false_iff] at hne ⊢
   intro h; exact hne (by rw [beq_iff_eq] at h ⊢; exact h.symm)
 unfold swappedStores
 simp only [bind_pure_comp, pure_bind]
 rw [if_neg (by simp [hk])]
 rw [if_neg (by intro h; exact absurd (h1.symm.trans h) (by decide))]
 have hn : ([Expr.Name x px, Expr.Name y py].filterMap fun
   | .Name id pos => if X.env.kindOf id == some .local && pos.line == (([Expr.Name x px, Expr.Name y py].head?.map (·.pos.line)).getD 0) then some id else none
   | _ => none) = [x, y] := by
   have e2 : (([Expr.Name x px, Expr.Name y py].head?.map (·.pos.line)).getD 0) = px.line := rfl
   rw [e2]
   simp [hx, hy, beq_iff_eq.mp hl]
 generalize hg : List.filterMap _ _ = L
 have hL : L = [x, y] := hg.symm.trans hn
 subst hL
 rw [if_neg (by simp [List.eraseDups_cons, hyx]), if_neg (by rw [h2]; decide), if_neg (by rw [h3]; decide)]
theorem sws3 (hx : X.env.kindOf x = some .local) (hy : X.env.kindOf y = some .local) (hw : X.env.kindOf w = some .local) (hk : X.env.blockKind = .function) (h12 : (y == x) = false) (h13 : (w == x) = false) (h23 : (w == y) = false) (hl : (py.line == px.line) = true) (hl2 : (pz.line == px.line) = true) (h1 : ([a, b, c].any fun | .Starred .. => true | _ => false) = false) (h2 : [a, b, c].all (foldedForSure 8) = false) (h3 : [a, b, c].all (constantsAlone 8) = false) :
   swappedStores [.Tuple [.Name x px, .Name y py, .Name w pz] kt pt] (.Tuple [a, b, c] k2 pt2) X.env = pure (some [x, y, w]) := by
 unfold swappedStores
 simp only [bind_pure_comp, pure_bind]
 rw [if_neg (by simp [hk])]
 rw [if_neg (by intro h; exact absurd (h1.symm.trans h) (by decide))]
 have hn : ([Expr.Name x px, Expr.Name y py, Expr.Name w pz].filterMap fun
   | .Name id pos => if X.env.kindOf id == some .local && pos.line == (([Expr.Name x px, Expr.Name y py, Expr.Name w pz].head?.map (·.pos.line)).getD 0) then some id else none
   | _ => none) = [x, y, w] := by
   have e2 : (([Expr.Name x px, Expr.Name y py, Expr.Name w pz].head?.map (·.pos.line)).getD 0) = px.line := rfl
   rw [e2]
   simp [hx, hy, hw, beq_iff_eq.mp hl, beq_iff_eq.mp hl2]
 generalize hg : List.filterMap _ _ = L
 have hL : L = [x, y, w] := hg.symm.trans hn
 subst hL
 rw [if_neg (by simp [List.eraseDups_cons, h12, h13, h23]), if_neg (by rw [h2]; decide), if_neg (by rw [h3]; decide)]
theorem swsC {ts vs : List Expr} (h2 : vs.all (foldedForSure 8) = true) (h1 : (vs.any fun | .Starred .. => true | _ => false) = false) : swappedStores [.Tuple ts kt pt] (.Tuple vs k2 pt2) X.env = pure none := by
 unfold swappedStores
 simp only [bind_pure_comp, pure_bind]
 split
 · rfl
 · split
   · rfl
   · split
     · rfl
     · rfl
theorem blk_of {sc : Scope} (hs : X.env.scope = sc) (h : sc.kind = .function) : X.env.blockKind = .function := by
 unfold Env.blockKind
 rw [hs, h]; rfl
theorem ds_par2 {n i j : Nat} (z : Cz X n) (li : Lo X i x) (lj : Lo X j y) (hij : i ≠ j) (hx : X.env.kindOf x = some .local) (hy : X.env.kindOf y = some .local) (hk : X.env.blockKind = .function) (hne : (x == y) = false)
   (h : DA B X [a, b] δ M fun ds M1 => ∃ d1 d2, ds = [d1, d2] ∧ Sets δ i d1 fun δ1 => Sets δ1 j d2 fun δ2 => Ψ.nx δ2 M1)
   (hl : (py.line == px.line) = true := by rfl) (h1 : ([a, b].any fun | .Starred .. => true | _ => false) = false := by rfl) (h2 : [a, b].all (foldedForSure 8) = false := by rfl) (h3 : [a, b].all (constantsAlone 8) = false := by rfl)
   (hs : swapsWithSole [.Tuple [.Name x px, .Name y py] kt pt] (.Tuple [a, b] k2 pt2) pos.line X.env = pure false := by rfl) : DS B X (.Assign [.Tuple [.Name x px, .Name y py] kt pt] (.Tuple [a, b] k2 pt2) pos) δ M Ψ :=
 .of (ps_par z.calm z.nd li.at_ lj.at_ hij hx hy cA (sws2 hx hy hk hne hl h1 h2 h3) hs) fun κ σ H E hb R k => h κ σ H _ hb R fun vs ds M1 H1 ⟨d1, d2, e, q⟩ R1 r1 => by
   subst e
   cases r1 with
   | cons r1 r2 =>
     cases r2 with
     | cons r2 r3 =>
       cases r3
       exact ⟨_, _, rfl, k.nx _ _ _ _ q.get.get ((R1.put i r1).put j r2)⟩
theorem ds_par3 {n i j l : Nat} (z : Cz X n) (li : Lo X i x) (lj : Lo X j y) (ll : Lo X l w) (hij : i ≠ j) (hil : i ≠ l) (hjl : j ≠ l) (hx : X.env.kindOf x = some .local) (hy : X.env.kindOf y = some .local) (hw : X.env.kindOf w = some .local) (hk : X.env.blockKind = .function) (h12 : (y == x) = false) (h13 : (w == x) = false) (h23 : (w == y) = false)
   (h : DA B X [a, b, c] δ M fun ds M1 => ∃ d1 d2 d3, ds = [d1, d2, d3] ∧ Sets δ i d1 fun δ1 => Sets δ1 j d2 fun δ2 => Sets δ2 l d3 fun δ3 => Ψ.nx δ3 M1)
   (hl : (py.line == px.line) = true := by rfl) (hl2 : (pz.line == px.line) = true := by rfl) (h1 : ([a, b, c].any fun | .Starred .. => true | _ => false) = false := by rfl) (h2 : [a, b, c].all (foldedForSure 8) = false := by rfl) (h3 : [a, b, c].all (constantsAlone 8) = false := by rfl)
   (hs : swapsWithSole [.Tuple [.Name x px, .Name y py, .Name w pz] kt pt] (.Tuple [a, b, c] k2 pt2) pos.line X.env = pure false := by rfl) : DS B X (.Assign [.Tuple [.Name x px, .Name y py, .Name w pz] kt pt] (.Tuple [a, b, c] k2 pt2) pos) δ M Ψ :=
 .of (ps_par3 z.calm z.nd li.at_ lj.at_ ll.at_ hij hil hjl hx hy hw cA (sws3 hx hy hw hk h12 h13 h23 hl hl2 h1 h2 h3) hs) fun κ σ H E hb R k => h κ σ H _ hb R fun vs ds M1 H1 ⟨d1, d2, d3, e, q⟩ R1 r1 => by
   subst e
   cases r1 with
   | cons r1 r2 =>
     cases r2 with
     | cons r2 r3 =>
       cases r3 with
       | cons r3 r4 =>
         cases r4
         exact ⟨_, _, _, rfl, k.nx _ _ _ _ q.get.get.get (((R1.put i r1).put j r2).put l r3)⟩
theorem ex_2 {d1 d2 : D} {P : D → D → Prop} (h : P d1 d2) : ∃ a b, [d1, d2] = [a, b] ∧ P a b := ⟨d1, d2, rfl, h⟩
theorem ex_3 {d1 d2 d3 : D} {P : D → D → D → Prop} (h : P d1 d2 d3) : ∃ a b c, [d1, d2, d3] = [a, b, c] ∧ P a b c := ⟨d1, d2, d3, rfl, h⟩
theorem ds_asgC {ts vs : List Expr} {kt k2 : Nat} (h : DE B X (.Tuple vs k2 pt2) δ M fun d M' => DG B X (.Tuple ts kt pt) d δ M' Ψ.nx) (h2 : vs.all (foldedForSure 8) = true := by rfl) (h1 : (vs.any fun | .Starred .. => true | _ => false) = false := by rfl) (hs : swapsWithSole [.Tuple ts kt pt] (.Tuple vs k2 pt2) pos.line X.env = pure false := by rfl) (h3 : (assignEach [.Tuple ts kt pt] X.env).map (·.2) = [assign (.Tuple ts kt pt) X.env] := by rfl) : DS B X (.Assign [.Tuple ts kt pt] (.Tuple vs k2 pt2) pos) δ M Ψ := ds_asg h hs (swsC h2 h1) h3
end
end Hl
namespace Hl
open PySem L2
open PyProof.Rows hiding St
section
variable {B : Bx} {X : Cx} {e a b c o : Expr} {es rest : List Expr} {kw : Keyword} {kws : List Keyword} {st : Stmt} {sts body suite : List Stmt} {δ δ' : Env'} {M : Mem} {Φ : D → Mem → Prop} {Ψ : DEnds} {pos pos' apos pp np : Pos} {d x y : D} {ΦL : List D → Mem → Prop}
def kwN : List Keyword → List Str
 | [] => []
 | ⟨some n, _, _⟩ :: ks => n :: kwN ks
 | ⟨none, _, _⟩ :: ks => kwN ks
theorem de_fS {k m : Nat} {x : Str} {sel : Sel} {p : DSpE} {Ξ : XPost} (z : Cz X m) (f : DefEX X k x es.length (kwN kws) sel p) (hk : k ≤ m) (hg : Gl X x) (lt : Lets X B δ Ξ)
   (h : DAK B X es kws δ M fun ds zs M' => ds.length = es.length ∧ zs.length = (kwN kws).length ∧ p (selD sel (ds ++ zs)) M' Φ Ξ) (pl : PlA X pos es kws (kwN kws)) (hdb : (x == ("__debug__" : Str)) = false := by decide) : DE B X (.Call (.Name x pp) es kws pos) δ M Φ := de_fE z f hk hg lt h pl hdb
theorem de_kS {k m : Nat} {x : Str} {sel : Sel} {p : DSpE} {Ξ : XPost} {C : Addr} (j : Nat) (z : Cz X m) (f : MakeEX X k x C es.length (kwN kws) sel p) (hk : k + 1 ≤ m) (hg : Gl X x) (lt : Lets X B δ Ξ)
   (h : DAK B X es kws δ M fun ds zs M' => ds.length = es.length ∧ zs.length = (kwN kws).length ∧ ∀ a, p (selD sel (.raw (.ref a) :: ds ++ zs)) (insM j (a, .obj C [] []) M') (Made a Φ) Ξ) (pl : PlA X pos es kws (kwN kws)) (hdb : (x == ("__debug__" : Str)) = false := by decide) : DE B X (.Call (.Name x pp) es kws pos) δ M Φ := de_kU j z f hk hg lt h pl hdb
theorem mt_vS {m k : Nat} {mn : Str} {C : Addr} {ns : List Str} {fs : List D} {sel : Sel} {p : DSpE} {Ξ : XPost} (f : MethEX X k C mn es.length (kwN kws) sel p) (hk : k ≤ m) (lt : Lets X B δ Ξ) (pl : PlA X pos es kws (kwN kws)) (hn : ns.contains mn = false)
   (h : DAK B X es kws δ M fun ds zs M' => ds.length = es.length ∧ zs.length = (kwN kws).length ∧ p (selD sel (.obj C ns fs :: ds ++ zs)) M' Φ Ξ) : MtE B X m pos es kws mn δ (.obj C ns fs) M Φ := mt_v f hk lt pl hn h
theorem mt_cS {m k : Nat} {mn : Str} {C q : Addr} {ns : List Str} {fs : List D} {sel : Sel} {p : DSpE} {Ξ : XPost} (j : Nat) (hm : M[j]? = some (q, .obj C ns fs)) (f : MethEX X k C mn es.length (kwN kws) sel p) (hk : k ≤ m) (lt : Lets X B δ Ξ) (pl : PlA X pos es kws (kwN kws)) (hn : ns.contains mn = false)
   (h : DAK B X es kws δ M fun ds zs M' => ds.length = es.length ∧ zs.length = (kwN kws).length ∧ p (selD sel (.raw (.ref q) :: ds ++ zs)) M' Φ Ξ) : MtE B X m pos es kws mn δ (.raw (.ref q)) M Φ := mt_c j hm f hk lt pl hn h
theorem mt_oS {m k : Nat} {mn : Str} {C : Addr} {ns : List Str} {fs : List D} {sel : Sel} {p : DSpE} {Ξ : XPost} (io : IsO M x C ns fs) (f : MethEX X k C mn es.length (kwN kws) sel p) (hk : k ≤ m) (lt : Lets X B δ Ξ) (pl : PlA X pos es kws (kwN kws)) (hn : ns.contains mn = false)
   (h : DAK B X es kws δ M fun ds zs M' => ds.length = es.length ∧ zs.length = (kwN kws).length ∧ p (selD sel (x :: ds ++ zs)) M' Φ Ξ) : MtE B X m pos es kws mn δ x M Φ := mt_o io f hk lt pl hn h
end
end Hl
namespace Hl
open PySem L2
open PyProof.Rows hiding St
section
variable {B : Bx} {X : Cx} {e a b c o : Expr} {es rest : List Expr} {kw : Keyword} {kws : List Keyword} {st : Stmt} {sts body suite : List Stmt} {δ δ' : Env'} {M : Mem} {Φ : D → Mem → Prop} {Ψ : DEnds} {pos pos' apos pp np : Pos} {d x y : D} {ΦL : List D → Mem → Prop}
theorem Reps.rev {F : List Addr} {H : Hp} {vs : List V} {ds : List D} (r : Reps F H vs ds) : Reps F H vs.reverse ds.reverse := by
 induction ds generalizing vs with
 | nil => cases r; exact .nil
 | cons d ds ih =>
   cases r with
   | cons r1 r2 =>
     rw [List.reverse_cons, List.reverse_cons]
     exact (ih r2).append (.cons r1 .nil)
theorem de_rev {k : Nat} {p1 p2 p3 : Pos} (h : DE B X a δ M fun x M1 => ∃ ds, IsL M1 x ds ∧ Φ (.lst ds.reverse) M1) : DE B X (.Subscript a (.Slice none none (some (.UnaryOp .USub (.Constant (.int 1) k p1) p2)) p3) pos) δ M Φ :=
 .of (pe_revL cE) fun κ σ H Q hb R k => h κ σ H _ hb R fun v x M1 H1 ⟨ds, il, q⟩ R1 r1 => by
   obtain ⟨a, us, rfl, e1, rr⟩ := il.sq R1 r1
   refine ⟨a, us, rfl, SqL.of e1, fun p hp => ?_⟩
   obtain ⟨R', r'⟩ := R1.lstV rr.rev hp
   exact k _ _ _ _ q R' r'
theorem de_min3 {n : Nat} (z : Cz X n) {p : Pos} (g : Gn X "min") (h : DA B X [a, b, c] δ M fun ds M1 => CallD (rNuC3 nuMin3) ds M1 Φ) (he : starEach [a, b, c] X.env = (false, eval a X.env) :: starEach [b, c] X.env := by rfl) (hpl : (backTo pos (starEach [b, c] X.env)).any (·.1) = false := by rfl) : DE B X (.Call (.Name "min" p) [a, b, c] [] pos) δ M Φ := de_blt (call_min3Nu z.calm) g boot_min h (by decide) (by decide) he hpl
theorem cd_min3 {i j l : Int} (k : Φ (.int (min (min i j) l)) M) : CallD (rNuC3 nuMin3) [.int i, .int j, .int l] M Φ := fun κ δ σ H vs Q R rs f => by
 cases rs with
 | cons r1 r2 =>
   cases r1
   cases r2 with
   | cons r2 r3 =>
     cases r2
     cases r3 with
     | cons r3 r4 =>
       cases r3
       cases r4
       refine ⟨_, _, _, .int (min (min i j) l), rfl, ?_, f _ _ _ _ k R (.int _)⟩
       have h2 : ∀ a b : Int, nuMin2 (.int a) (.int b) = some (.int (min a b)) := fun a b => by
         show some (if decide (b < a) = true then V.int b else V.int a) = _
         by_cases h : b < a
         · rw [if_pos (by simpa using h), Int.min_eq_right (by omega)]
         · rw [if_neg (by simpa using h), Int.min_eq_left (by omega)]
       unfold nuMin3
       rw [h2]
       exact h2 _ _
theorem de_repD {p : Pos} (h : DE B X (.List es p) δ M fun x M1 => DE B X b δ M1 fun y M2 => OpD rRep x y M2 Φ) : DE B X (.BinOp (.List es p) .Mult b pos) δ M Φ := de_bin op_rep h
end
end Hl
namespace Hl
open PySem L2
open PyProof.Rows hiding St
section
variable {B : Bx} {X : Cx} {e a b c o : Expr} {es rest : List Expr} {kw : Keyword} {kws : List Keyword} {st : Stmt} {sts body suite : List Stmt} {δ δ' : Env'} {M : Mem} {Φ : D → Mem → Prop} {ΦB : Bool → Mem → Prop} {Ψ : DEnds} {pos pos' apos pp np : Pos} {d x y : D} {ΦL : List D → Mem → Prop}
def rIsBl : R2 := fun x y H Q => ∃ a b, x = .bl a ∧ y = .bl b ∧ Q (.bl (decide (a = b))) H
def rNotBl : R2 := fun x y H Q => ∃ a b, x = .bl a ∧ y = .bl b ∧ Q (.bl (!decide (a = b))) H
theorem od_isB {i j : Bool} (k : Φ (.bl (decide (i = j))) M) : OpD rIsBl (.bl i) (.bl j) M Φ := fun κ δ σ H v w Q R rv rw' h => by
 cases rv; cases rw'
 exact ⟨i, j, rfl, rfl, h _ _ M H k R (.bl _)⟩
theorem od_notB {i j : Bool} (k : Φ (.bl (!decide (i = j))) M) : OpD rNotBl (.bl i) (.bl j) M Φ := fun κ δ σ H v w Q R rv rw' h => by
 cases rv; cases rw'
 exact ⟨i, j, rfl, rfl, h _ _ M H k R (.bl _)⟩
theorem de_isB {t : Bool} {n : Nat} {p : Pos} (h : DE B X a δ M fun x M1 => OpD rIsBl x (.bl t) M1 Φ) : DE B X (.Compare a [.Is] [.Constant (.bool t) n p] pos) δ M Φ := de_cmp op_is_bl (nomark _) (h.mono fun _ _ q => de_bl q)
theorem de_isnotB {t : Bool} {n : Nat} {p : Pos} (h : DE B X a δ M fun x M1 => OpD rNotBl x (.bl t) M1 Φ) : DE B X (.Compare a [.IsNot] [.Constant (.bool t) n p] pos) δ M Φ := de_cmp op_isnot_bl (nomark _) (h.mono fun _ _ q => de_bl q)
theorem dt_isB {t : Bool} {n : Nat} {p : Pos} (h : DE B X a δ M fun x M1 => OpD rIsBl x (.bl t) M1 (toB ΦB)) : DT B X (.Compare a [.Is] [.Constant (.bool t) n p] pos) δ M ΦB := dt_cmp op_is_bl (nomark _) (h.mono fun _ _ q => de_bl q)
theorem dt_isnotB {t : Bool} {n : Nat} {p : Pos} (h : DE B X a δ M fun x M1 => OpD rNotBl x (.bl t) M1 (toB ΦB)) : DT B X (.Compare a [.IsNot] [.Constant (.bool t) n p] pos) δ M ΦB := dt_cmp op_isnot_bl (nomark _) (h.mono fun _ _ q => de_bl q)
end
end Hl
namespace Hl
open PySem L2
section
variable {B : Bx} {X : Cx} {e a b c o : Expr} {es rest : List Expr} {st : Stmt} {sts : List Stmt} {δ δ' : Env'} {M : Mem} {Φ : D → Mem → Prop} {Ψ : DEnds} {te ta tb : TE} {tt : TT} {pos pos' apos : Pos} {d x y : D} {ΦB : Bool → Mem → Prop} {ΦL : List D → Mem → Prop}
variable {tg iter : Expr}
structure WalkC (c : Addr) (κ : List (V × D)) (xs : List D) (J : It) : Prop where
 goes : ∀ i δ M σ H, i < xs.length → (c, Cell.lst xs) ∈ M → Rs κ δ M σ H → J.go i H
 stops : ∀ δ M σ H, (c, Cell.lst xs) ∈ M → Rs κ δ M σ H → J.stop xs.length H
 yields : ∀ i δ M σ H x H', i < xs.length → (c, Cell.lst xs) ∈ M → Rs κ δ M σ H → J.yld i H x H' → ∃ d, xs[i]? = some d ∧ Rs κ δ M σ H' ∧ Rep M.F H' x d
def WIC (B : Bx) (wi : TI) (δ : Env') (M : Mem) (Φ : Addr → List D → Mem → Prop) : Prop := ∀ κ σ H R, (∀ q ∈ B.ps, q ∈ κ) → Rs κ δ M σ H → (∀ c xs M' H' J κ', Φ c xs M' → (∀ q ∈ κ, q ∈ κ') → Rs κ' δ M' σ H' → WalkC c κ' xs J → R J H') → wi σ H R
def DIC (B : Bx) (X : Cx) (tg iter : Expr) (δ : Env') (M : Mem) (Φ : Addr → List D → Mem → Prop) : Prop := ∃ wi, PI X tg iter wi ∧ WIC B wi δ M Φ
theorem wc_list {κ : List (V × D)} {a : Addr} {ds : List D} {K : PySem.W.Frag} : WalkC a κ ds (Itl K a) where
 goes := fun i δ M σ H hi hm R => by
   obtain ⟨vs, e, r⟩ := R.cl _ hm
   obtain ⟨d, hd⟩ := lt_some hi
   obtain ⟨v, hv, _⟩ := r.get' hd
   exact ⟨_, v, SqL.of e, hv⟩
 stops := fun δ M σ H hm R => by
   obtain ⟨vs, e, r⟩ := R.cl _ hm
   exact ⟨_, SqL.of e, by rw [r.length]; exact Nat.le_refl _⟩
 yields := fun i δ M σ H x H' hi hm R y => by
   obtain ⟨rfl, y⟩ := y
   obtain ⟨vs, e, r⟩ := R.cl _ hm
   obtain ⟨d, hd, rd⟩ := r.get (y _ (SqL.of e))
   exact ⟨d, hd, R, rd⟩
theorem di_cell {ΦC : Addr → List D → Mem → Prop} (h : DE B X iter δ M fun d M' => ∃ p ds, d = .raw (.ref p) ∧ (∃ j : Nat, M'[j]? = some (p, .lst ds)) ∧ ΦC p ds M') : DIC B X tg iter δ M ΦC := ⟨_, pi_list cE, fun κ σ H R hb Rr k => h κ σ H _ hb Rr fun v d M1 H1 ⟨p, ds, ed, ⟨j, hm⟩, q⟩ R1 r1 => by
 subst ed
 cases r1
 obtain ⟨vs, e1, rr⟩ := R1.at hm
 exact ⟨_, rfl, ⟨_, SqL.of e1⟩, k p ds M1 H1 _ _ q (fun q hq => hq) R1 wc_list⟩⟩
def LcHC (k : Nat) (B : Bx) (X : Cx) (scope : Scope) (elt : Expr) (ifs : List Expr) (own : List (Str × Nat)) (tk : Tk) (δ : Env') (c : Addr) (xs : List D) (M' : Mem) (ΦL : List D → Mem → Prop) : Prop :=
 ∃ Iv : Nat → List D → Mem → Prop, Iv 0 [] M' ∧ (∀ (p : Addr) i x acc M1, xs[i]? = some x → Iv i acc M1 → acc.length < sizeLine ∧ ∃ δ2, bindK tk x (wipeD δ (own.map (·.2))) = some δ2 ∧
       Turn1 B X scope elt ifs δ2 (insM k (p, .lst acc) M1) fun od M2 => ∃ M3, M2 = insM k (p, .lst acc) M3 ∧ Iv (i + 1) (acc ++ od.toList) M3) ∧ (∀ acc M1, Iv xs.length acc M1 → ΦL acc M1) ∧ ∀ i acc M1, Iv i acc M1 → (c, Cell.lst xs) ∈ M1
theorem wf_lcC {elt : Expr} {ifs : List Expr} {scope : Scope} {wi : TI} {k : Nat} (own : List (Str × Nat)) (tk : Tk) (hv : ∀ i ∈ slotsK tk, i ∈ own.map (·.2))
   (w : WIC B wi δ M fun c xs M' => LcHC k B X scope elt ifs own tk δ c xs M' ΦL) : WF B (tLc wi (gK X.K tk) (ttA X scope ifs) (teA X scope elt) (own.map (·.2))) δ M ΦL := by
 intro κ σ H Q hb R kk
 refine w κ σ H _ hb R fun c xs M1 H1 J κ' ⟨Iv, h0, hst, hd, hme⟩ hk R1 W => ?_
 intro p hp
 have hin : ∀ {p : Addr} {acc : List D} {M : Mem}, (c, Cell.lst xs) ∈ M → (c, Cell.lst xs) ∈ insM k (p, .lst acc) M := fun h => (insM_perm.mem_iff).mp (List.mem_cons_of_mem _ h)
 have R1p : Rs κ' δ (insM k (p, .lst []) M1) σ (upd H1 p (.lst [])) := (R1.lst .nil hp).perm insM_perm
 refine ⟨fun i m H => m = xs.length - i ∧ i ≤ xs.length ∧ ∃ acc M, Iv i acc M ∧ Rs κ' δ (insM k (p, .lst acc) M) σ H, ⟨xs.length, by simp, Nat.zero_le _, [], M1, h0, R1p⟩, ?_⟩
 rintro i m H ⟨rfl, hi, acc, M, q, R⟩
 by_cases hlt : i < xs.length
 · refine .inr ⟨W.goes i δ _ σ H hlt (hin (hme _ _ _ q)) R, fun H' => ∃ acc' M', Iv (i + 1) acc' M' ∧ Rs κ' δ (insM k (p, .lst acc') M') σ H', fun H' ⟨acc', M', q', R'⟩ => ⟨xs.length - (i + 1), by omega, rfl, hlt, acc', M', q', R'⟩, fun x H' y => ?_⟩
   obtain ⟨d, hd1, R2, r2⟩ := W.yields i δ _ σ H x H' hlt (hin (hme _ _ _ q)) R y
   obtain ⟨hlen, δ2, eb, tu⟩ := hst p i d acc M hd1 q
   have Rw := (R2.push r2)
   let κ2 := κ' ++ sk σ δ
   have back : ∀ {M' : Mem} {H' : Hp}, (∀ q ∈ κ2, Rep M'.F H' q.1 q.2) → (∀ q ∈ M', CellOk M'.F H' q.1 q.2) → M'.F.Nodup → Rs κ' δ M' σ H' := fun h1 h2 h3 => ⟨fun q hq => h1 q (List.mem_append.mpr (.inl hq)), sk_back R2.sl fun q hq => h1 q (List.mem_append.mpr (.inr hq)), h2, h3⟩
   have R3 : Rs κ2 (wipeD δ (own.map (·.2))) (insM k (p, .lst acc) M) (L2.wipe σ (own.map (·.2))) H' := by
     have := R2.wipe (own.map (·.2))
     exact ⟨fun q hq => by
       rcases List.mem_append.mp hq with h | h
       · exact R2.kp q h
       · exact sk_rep R2.sl q h, this.sl, R2.cl, R2.nd⟩
   refine gK_run R3 r2 eb hv fun σ2 hw R4 => ⟨by rw [hw, wipe_none], ?_⟩
   have hb2 : ∀ q ∈ B.ps, q ∈ κ2 := fun q hq => List.mem_append.mpr (.inl (hk q (hb q hq)))
   have fin : ∀ {u : V} {d : D} {M2 : Mem} {H2 : Hp}, (∃ M3, M2 = insM k (p, .lst acc) M3 ∧ Iv (i + 1) (acc ++ [d]) M3) → Rs κ2 δ2 M2 σ2 H2 → Rep M2.F H2 u d → ∃ ac, H2 p = some (.lst ac) ∧ ac.length < sizeLine ∧ ∃ acc' M', Iv (i + 1) acc' M' ∧ Rs κ' δ (insM k (p, .lst acc') M') σ (upd H2 p (.lst (ac ++ [u]))) := by
     rintro u d M2 H2 ⟨M3, rfl, q3⟩ R5 r5
     have R6 := (back R5.kp R5.cl R5.nd).perm insM_perm.symm
     have r5 : Rep (Mem.F ((p, Cell.lst acc) :: M3)) H2 u d := r5.fwd (Fwd.less fun x hx => (F_perm insM_perm).mem_iff.mp hx)
     have hm : ((p, Cell.lst acc) :: M3)[0]? = some (p, .lst acc) := rfl
     obtain ⟨vs, e1, rr⟩ := R6.at hm
     refine ⟨vs, e1, by rw [rr.length]; exact hlen, acc ++ [d], M3, q3, ?_⟩
     have hpF : ∀ x, x ∉ (Mem.F ((p, Cell.lst acc) :: M3)) → upd H2 p (.lst (vs ++ [u])) x = H2 x := fun x hx => upd_ne fun z => hx (z ▸ R6.mem hm p (by simp [Hl.own]))
     have := R6.cell (c' := .lst (acc ++ [d])) hm rfl (H' := upd H2 p (.lst (vs ++ [u]))) (fun x hx => upd_ne (by simpa [Hl.own] using hx)) ⟨_, upd_same, (rr.append (.cons r5 .nil)).fwd (Fwd.same hpF)⟩
     exact Rs.perm this insM_perm
   match ifs, tu with
   | [], tu =>
     show (if true = true then teA X scope elt σ2 H' (fun y H4 => ∃ ac, H4 p = some (.lst ac) ∧ ac.length < sizeLine ∧ (∃ acc' M', Iv (i + 1) acc' M' ∧ Rs κ' δ (insM k (p, .lst acc') M') σ (upd H4 p (.lst (ac ++ [y]))))) else (∃ acc' M', Iv (i + 1) acc' M' ∧ Rs κ' δ (insM k (p, .lst acc') M') σ H'))
     rw [if_pos rfl]
     intro X' bk
     exact tu X' bk κ2 σ2 H' _ hb2 R4 fun u d M2 H2 q2 R5 r5 => fin q2 R5 r5
   | [c], tu =>
     intro X' bk
     refine tu X' bk κ2 σ2 H' _ hb2 R4 fun t M2 H2 q2 R5 => Br.ite ⟨fun e X2 bk2 => ?_, fun e => ?_⟩
     · exact q2.1 e X2 bk2 κ2 σ2 H2 _ hb2 R5 fun u d M3 H3 q3 R6 r6 => fin q3 R6 r6
     · obtain ⟨M3, rfl, q3⟩ := q2.2 e
       exact ⟨acc, M3, by simpa using q3, back R5.kp R5.cl R5.nd⟩
   | _ :: _ :: _, tu => exact tu.elim
 · have e : i = xs.length := by omega
   subst e
   refine .inl ⟨W.stops δ _ σ H (hin (hme _ _ _ q)) R, ?_⟩
   exact kk p acc M H (hd acc M q) ((R.sub hk).perm insM_perm.symm)
theorem df_lcC {tg iter elt : Expr} {ifs : List Expr} {scope sc : Scope} {N : List Str} {n : Nat} (k : Nat) (z : Cz X n) (hN : X.N = N) (hs : X.env.scope = sc) (own : List (Str × Nat)) (tk : Tk) (ok : blkC N sc scope own = true) (hv : ∀ i ∈ slotsK tk, i ∈ own.map (·.2)) (hg : ∀ X', Bk X X' scope → PG X' tg (gK X.K tk))
   (h : DIC B X tg iter δ M fun c xs M' => LcHC k B X scope elt ifs own tk δ c xs M' ΦL) (hf : ∀ x, foldedSetIterable iter X.env x = pure x := by intro _; rfl) : DF B X (.ListComp elt [⟨tg, iter, ifs, 0⟩] scope pos) δ M ΦL := by
 obtain ⟨wi, pi, w⟩ := h
 exact .of (pe_lc z.calm z.nd pi (blkOk_by (by rw [hN, hs]; exact ok)) (fun s H C cl fp => hg _ bk_blk) (fun s H C cl fp => pts_A) (fun s H C cl fp => pe_A) hf) (wf_lcC own tk hv w)
theorem LcHC.pureT {α β : Type} {scope : Scope} {elt : Expr} {ifs : List Expr} {own : List (Str × Nat)} {tk : Tk} {k : Nat} {c : Addr} (l : List α) (f : α → D) (G : α → Option β) (g : β → D) (hl : l.length ≤ sizeLine)
   (h : ∀ (p : Addr) acc a, a ∈ l → ∃ δ2, bindK tk (f a) (wipeD δ (own.map (·.2))) = some δ2 ∧ Turn1 B X scope elt ifs δ2 (insM k (p, .lst acc) M) fun od M2 => od = (G a).map g ∧ M2 = insM k (p, .lst acc) M)
   (hc : (c, Cell.lst (l.map f)) ∈ M) (q : ΦL ((l.filterMap G).map g) M) : LcHC k B X scope elt ifs own tk δ c (l.map f) M ΦL := by
 refine ⟨fun i acc M1 => M1 = M ∧ acc = ((l.take i).filterMap G).map g ∧ acc.length ≤ i, ⟨rfl, rfl, Nat.le_refl _⟩, ?_, ?_, fun i acc M1 h => by rw [h.1]; exact hc⟩
 · rintro p i x acc M1 hx ⟨rfl, ha, hal⟩
   obtain ⟨a, ea, rfl⟩ := map_get hx
   have hi : i < l.length := (List.getElem?_eq_some_iff.mp ea).1
   obtain ⟨δ2, e1, tu⟩ := h p acc a (List.mem_of_getElem? ea)
   have fin : ∀ (od : Option D) M2, od = (G a).map g ∧ M2 = insM k (p, .lst acc) M1 → ∃ M3, M2 = insM k (p, .lst acc) M3 ∧ M3 = M1 ∧ acc ++ od.toList = ((l.take (i + 1)).filterMap G).map g ∧ (acc ++ od.toList).length ≤ i + 1 := by
     rintro od M2 ⟨rfl, rfl⟩
     refine ⟨M1, rfl, rfl, ?_, ?_⟩
     · rw [List.take_add_one, ea, List.filterMap_append, List.map_append, ← ha]
       cases e : G a <;> simp [e]
     · rw [List.length_append]
       cases G a <;> simp <;> omega
   refine ⟨by omega, δ2, e1, ?_⟩
   unfold Turn1 at tu ⊢
   match ifs, tu with
   | [], tu => exact fun X' bk => (tu X' bk).mono fun d M2 q => fin _ _ q
   | [c], tu => exact fun X' bk => (tu X' bk).mono fun t M2 q => ⟨fun e X2 bk2 => (q.1 e X2 bk2).mono fun d M3 q => fin _ _ q, fun e => fin _ _ (q.2 e)⟩
   | _ :: _ :: _, tu => exact tu.elim
 · rintro acc M1 ⟨rfl, rfl, _⟩
   rw [List.length_map, List.take_length]
   exact q
theorem LcHC.mapT {α β : Type} {scope : Scope} {elt : Expr} {own : List (Str × Nat)} {tk : Tk} {k : Nat} {c : Addr} (l : List α) (f : α → D) (G : α → β) (g : β → D) (hl : l.length ≤ sizeLine)
   (h : ∀ (p : Addr) acc a, a ∈ l → ∃ δ2, bindK tk (f a) (wipeD δ (own.map (·.2))) = some δ2 ∧ ∀ X', Bk X X' scope → DE B X' elt δ2 (insM k (p, .lst acc) M) fun d M2 => d = g (G a) ∧ M2 = insM k (p, .lst acc) M)
   (hc : (c, Cell.lst (l.map f)) ∈ M) (q : ΦL ((l.map G).map g) M) : LcHC k B X scope elt [] own tk δ c (l.map f) M ΦL := by
 refine LcHC.pureT l f (fun a => some (G a)) g hl (fun p acc a ha => ?_) hc (by rw [List.filterMap_eq_map']; exact q)
 obtain ⟨δ2, e, tu⟩ := h p acc a ha
 exact ⟨δ2, e, fun X' bk => (tu X' bk).mono fun d M2 ⟨e1, e2⟩ => ⟨by rw [e1]; rfl, e2⟩⟩
end
end Hl
namespace Hl
open PySem L2
open PyProof.Rows hiding St
section
variable {B : Bx} {X : Cx} {e a b c o : Expr} {es rest : List Expr} {kw : Keyword} {kws : List Keyword} {st : Stmt} {sts body suite : List Stmt} {δ δ' : Env'} {M : Mem} {Φ : D → Mem → Prop} {ΦB : Bool → Mem → Prop} {Ψ : DEnds} {pos pos' apos pp np : Pos} {d x y : D} {ΦL : List D → Mem → Prop}
def rIns : V → List V → Hp → VK → Prop := fun x vs H Q => ∃ (l : Addr) (xs : List V) (i : Int) (y : V), x = .ref l ∧ vs = [.int i, y] ∧ H l = some (.lst xs) ∧ xs.length < sizeLine ∧ 0 ≤ i ∧ i < 2 ^ 63 ∧
   Q .non (upd H l (.lst (xs.take i.toNat ++ [y] ++ xs.drop i.toNat)))
theorem de_insert {cpos : Pos} (h : DE B X o δ M fun x M1 => (∃ ds, IsL M1 x ds) ∧ DA B X [a, b] δ M1 fun ys M2 => MtD X.K "list" rIns x ys M2 Φ)
   (hbase : attributeBase o "insert" X.env (eval o X.env) = eval o X.env := by rfl)
   (hfew : ((backTo cpos (starEach [a, b] X.env)).all (fun x => !x.1) && (backToKw cpos (keywordEach [] X.env)).all (fun x => x.1.isSome)
     && decide (([a, b] : List Expr).length + ([] : List Keyword).length + (if ([] : List Keyword).isEmpty then 0 else 1) < 30)) = true := by rfl)
   (hline : (apos.endLine == cpos.line) = true := by rfl) (hs : starEach [a, b] X.env = (false, eval a X.env) :: starEach [b] X.env := by rfl) (hplain : (backTo cpos (starEach [b] X.env)).any (·.1) = false := by rfl) :
   DE B X (.Call (.Attribute o "insert" apos) [a, b] [] cpos) δ M Φ := de_bml PySem.F.slot_list_insert PySem.F.type_list_insert mt_insert h hbase hfew hline hs hplain
theorem okDs_all : ∀ {ds : List D}, (∀ d ∈ ds, okD d = true) → okDs ds = true
 | [], _ => rfl
 | d :: ds, h => by
   show (_ && _) = true
   rw [h d List.mem_cons_self, okDs_all fun x hx => h x (List.mem_cons_of_mem _ hx)]; rfl
end
end Hl
namespace Hl
open PySem L2
open PyProof.Rows hiding St
section
variable {B : Bx} {X : Cx} {e a b c o : Expr} {es rest : List Expr} {δ δ' : Env'} {M : Mem} {Φ : D → Mem → Prop} {Ψ : DEnds} {d x y : D} {ΦL : List D → Mem → Prop}
theorem LcH.drawT {β : Type} {scope : Scope} {elt : Expr} {own : List (Str × Nat)} {tk : Tk} {k : Nat} {s g : Addr} {b : Nat} {n : Nat} (P : β → Prop) (f : β → D) (c : Nat) (hn : n ≤ 1000) (hb : c * n ≤ b)
   (h : ∀ (p : Addr) acc (i : Nat) (b1 : Nat), i < n → c ≤ b1 → ∃ δ2, bindK tk (.int (0 + (i : Int))) (wipeD δ (own.map (·.2))) = some δ2 ∧ ∀ X', Bk X X' scope → DE B X' elt δ2 (insM k (p, .lst acc) ((s, .st g b1) :: M)) fun d M2 => ∃ y b2, P y ∧ b1 ≤ b2 + c ∧ d = f y ∧ M2 = insM k (p, .lst acc) ((s, .st g b2) :: M))
   (q : ∀ (ys : List β) b', ys.length = n → (∀ y ∈ ys, P y) → b ≤ b' + c * n → ΦL (ys.map f) ((s, .st g b') :: M)) : LcH k B X scope elt [] own tk δ (rangeD 0 n) ((s, .st g b) :: M) ΦL := by
 refine ⟨fun i acc M1 => ∃ (ys : List β) (b1 : Nat), acc = ys.map f ∧ M1 = (s, .st g b1) :: M ∧ ys.length = i ∧ (∀ y ∈ ys, P y) ∧ b ≤ b1 + c * i, ⟨[], b, rfl, rfl, rfl, (fun y hy => nomatch hy), by omega⟩, ?_, ?_⟩
 · rintro p i x acc M1 hx ⟨ys, b1, rfl, rfl, hl, hP, hbb⟩
   obtain ⟨hi, rfl⟩ := range_get hx
   have hci : c * i + c ≤ c * n := by have := Nat.mul_le_mul_left c (show i + 1 ≤ n by omega); rw [Nat.mul_add, Nat.mul_one] at this; exact this
   obtain ⟨δ2, e1, tu⟩ := h p (ys.map f) i b1 hi (by omega)
   refine ⟨by rw [List.length_map]; exact Nat.lt_of_lt_of_le (show ys.length < 1001 by omega) (by decide), δ2, e1, fun X' bk => (tu X' bk).mono ?_⟩
   rintro d M2 ⟨y, b2, hy, hb2, rfl, rfl⟩
   refine ⟨_, rfl, ys ++ [y], b2, by simp, rfl, by simp [hl], fun z hz => ?_, by rw [Nat.mul_add, Nat.mul_one]; omega⟩
   rcases List.mem_append.mp hz with hz | hz
   · exact hP z hz
   · rw [List.mem_singleton.mp hz]; exact hy
 · rintro acc M1 ⟨ys, b1, rfl, rfl, hl, hP, hbb⟩
   rw [range_len] at hl hbb
   exact q ys b1 hl hP hbb
end
end Hl
namespace Hl
open PySem L2
open PyProof.Rows hiding St
section
variable {B : Bx} {X : Cx} {e a b c o : Expr} {es rest : List Expr} {δ δ' : Env'} {M : Mem} {Φ : D → Mem → Prop} {Ψ : DEnds} {pos : Pos} {d x y : D} {ΦL : List D → Mem → Prop}
theorem de_sortedI {p : Pos} (g : Gn X "sorted") (h : DA B X [a] δ M fun ds M1 => CallD (rSortedI X.K) ds M1 Φ) (he : starEach [a] X.env = (false, eval a X.env) :: starEach [] X.env := by rfl) (hpl : (backTo pos (starEach [] X.env)).any (·.1) = false := by rfl) : DE B X (.Call (.Name "sorted" p) [a] [] pos) δ M Φ := de_sorted cr_sortedI g h he hpl
theorem reps_ints {F : List Addr} {H : Hp} : ∀ ns : List Int, Reps F H (ns.map V.int) (ns.map D.int)
 | [] => .nil
 | n :: ns => .cons (.int n) (reps_ints ns)
theorem cd_sortedI {K : PySem.W.Frag} {ns : List Int} (h : IsL M x (ns.map .int)) (k : ∀ ms : List Int, ms.Perm ns → ms.Pairwise (· ≤ ·) → Φ (.lst (ms.map .int)) M) : CallD (rSortedI K) [x] M Φ := fun κ δ σ H vs Q R rs f => by
 cases rs with
 | cons r1 r2 =>
   cases r2
   obtain ⟨a, us, rfl, e1, rr⟩ := h.sq R r1
   have := rr.ints
   subst this
   refine ⟨a, ns, rfl, SqL.of e1, fun ms p h1 h2 hp => ?_⟩
   obtain ⟨R', r'⟩ := R.lstV (reps_ints ms) hp
   exact f _ _ _ _ (k ms h1 h2) R' r'
end
end Hl
namespace Hl
open PySem L2
end Hl
namespace Hl
open PySem L2
open PyProof.Rows hiding St
section
variable {B : Bx} {X : Cx} {e a b c o : Expr} {es rest : List Expr} {kw : Keyword} {kws : List Keyword} {st : Stmt} {sts body suite : List Stmt} {δ δ' : Env'} {M : Mem} {Φ : D → Mem → Prop} {ΦB : Bool → Mem → Prop} {Ψ : DEnds} {pos pos' apos pp np : Pos} {d x y : D} {ΦL : List D → Mem → Prop}
theorem Reps.put {F : List Addr} {H : Hp} {d : D} : ∀ {vs : List V} {ds : List D} {i : Nat} {v : V}, Reps F H vs ds → vs[i]? = some v → Rep F H v d → Reps F H vs (ds.set i d)
 | _, _, _, _, .nil, _, _ => .nil
 | _, _, 0, _, .cons _ t, e, r => by simp at e; subst e; exact .cons r t
 | _, _, i + 1, _, .cons q t, e, r => .cons q (Reps.put (i := i) t (by simpa using e) r)
theorem Vw.frzT {p : Addr} {M : Mem} {ds es : List D} (i j : Nat) (e : M[j]? = some (p, .lst es)) (h : ds[i]? = some (.raw (.ref p))) : Vw (.tup ds) M (.tup (ds.set i (.lst es))) (M.eraseIdx j) := fun _ _ _ H _ R r => by
 cases r with
 | tup h1 e1 r1 =>
   obtain ⟨R2, r2⟩ := R.frz e
   refine ⟨R2, ?_⟩
   have k : Fwd M.F H (Mem.F (M.eraseIdx j)) H := Fwd.less fun x hx => (F_sub erase_sub).subset hx
   obtain ⟨v, ev, rv⟩ := r1.get' h
   cases rv
   exact .tup (k _ _ h1 e1 (fun _ z => nomatch z)).1 e1 (Reps.put (r1.fwd k) ev r2)
end
end Hl
namespace Hl
open PySem L2
open PyProof.Rows hiding St
end Hl
namespace Hl
open PySem L2
open PyProof.Rows hiding St
mutual
inductive Up (q : Addr) (es : List D) : D → D → Prop
 | here : Up q es (.raw (.ref q)) (.lst es)
 | tup {ds ds' : List D} : Ups q es ds ds' → Up q es (.tup ds) (.tup ds')
 | same (d : D) : Up q es d d
inductive Ups (q : Addr) (es : List D) : List D → List D → Prop
 | nil : Ups q es [] []
 | cons {d d' : D} {ds ds' : List D} : Up q es d d' → Ups q es ds ds' → Ups q es (d :: ds) (d' :: ds')
end
inductive UpO (q : Addr) (es : List D) : List (Option D) → List (Option D) → Prop
 | nil : UpO q es [] []
 | some {d d' : D} {ds ds' : List (Option D)} : Up q es d d' → UpO q es ds ds' → UpO q es (some d :: ds) (some d' :: ds')
 | none {ds ds' : List (Option D)} : UpO q es ds ds' → UpO q es (none :: ds) (none :: ds')
 | any {o : Option D} {ds ds' : List (Option D)} : UpO q es ds ds' → UpO q es (o :: ds) (o :: ds')
section
variable {F F' : List Addr} {H : Hp} {q : Addr} {es : List D}
mutual
theorem Rep.up (k : Fwd F H F' H) (r0 : Rep F' H (.ref q) (.lst es)) : ∀ {d d' : D} {v : V}, Up q es d d' → Rep F H v d → Rep F' H v d'
 | _, _, _, .here, r => by cases r; exact r0
 | _, _, _, .tup u, r => by
   cases r with
   | tup h e rs => exact .tup (k _ _ h e (fun _ z => nomatch z)).1 e (Reps.ups k r0 u rs)
 | _, _, _, .same _, r => r.fwd k
theorem Reps.ups (k : Fwd F H F' H) (r0 : Rep F' H (.ref q) (.lst es)) : ∀ {ds ds' : List D} {vs : List V}, Ups q es ds ds' → Reps F H vs ds → Reps F' H vs ds'
 | _, _, _, .nil, r => by cases r; exact .nil
 | _, _, _, .cons u us, r => by
   cases r with
   | cons r1 rs => exact .cons (Rep.up k r0 u r1) (Reps.ups k r0 us rs)
end
theorem slots_up (k : Fwd F H F' H) (r0 : Rep F' H (.ref q) (.lst es)) : ∀ {δ δ' : List (Option D)} {σ : St}, UpO q es δ δ' → Paired (SlotOk F H) σ δ → Paired (SlotOk F' H) σ δ'
 | _, _, _, .nil, p => by cases p; exact .nil
 | _, _, _, .some u us, p => by
   cases p with
   | cons h t => exact .cons (fun d e => by cases e; obtain ⟨v, ev, r⟩ := h _ rfl; exact ⟨v, ev, Rep.up k r0 u r⟩) (slots_up k r0 us t)
 | _, _, _, .none us, p => by
   cases p with
   | cons h t => exact .cons (fun d e => by cases e) (slots_up k r0 us t)
 | _, _, _, .any us, p => by
   cases p with
   | cons h t => exact .cons (h.fwd k) (slots_up k r0 us t)
end
section
variable {B : Bx} {X : Cx} {δ δ' : Env'} {M : Mem} {Ψ : DEnds} {d x y : D}
theorem ws_up {ts : TS} {q : Addr} {es : List D} (j : Nat) (e : M[j]? = some (q, .lst es)) (hu : UpO q es δ δ') (h : WS B ts δ' (M.eraseIdx j) Ψ) : WS B ts δ M Ψ := fun κ σ H E hb R k => by
 obtain ⟨R2, r2⟩ := R.frz e
 refine h κ σ H E hb ?_ k
 exact R2.slots (slots_up (Fwd.less fun x hx => (F_sub erase_sub).subset hx) r2 hu R.sl)
theorem ws_upE {ts : TS} {q : Addr} {es : List D} (j : Nat) (e : M[j]? = some (q, .lst es)) (h : ∃ δ', UpO q es δ δ' ∧ WS B ts δ' (M.eraseIdx j) Ψ) : WS B ts δ M Ψ := let ⟨_, hu, h⟩ := h; ws_up j e hu h
theorem Vw.up {q : Addr} {es : List D} (j : Nat) (e : M[j]? = some (q, .lst es)) (hu : Up q es d x) : Vw d M x (M.eraseIdx j) := fun _ _ _ H _ R r => by
 obtain ⟨R2, r2⟩ := R.frz e
 exact ⟨R2, Rep.up (Fwd.less fun x hx => (F_sub erase_sub).subset hx) r2 hu r⟩
end
mutual
inductive IsD (M : Mem) : D → D → Prop
 | val (d : D) : IsD M d d
 | cell {p : Addr} {ds ds' : List D} (j : Nat) (h : M[j]? = some (p, .lst ds)) : IsDs M ds ds' → IsD M (.raw (.ref p)) (.lst ds')
 | lst {ds ds' : List D} : IsDs M ds ds' → IsD M (.lst ds) (.lst ds')
 | tup {ds ds' : List D} : IsDs M ds ds' → IsD M (.tup ds) (.tup ds')
inductive IsDs (M : Mem) : List D → List D → Prop
 | nil : IsDs M [] []
 | cons {d d' : D} {ds ds' : List D} : IsD M d d' → IsDs M ds ds' → IsDs M (d :: ds) (d' :: ds')
end
theorem IsDs.refl {M : Mem} : ∀ ds : List D, IsDs M ds ds
 | [] => .nil
 | d :: ds => .cons (.val d) (IsDs.refl ds)
theorem IsDs.map {M : Mem} {α : Type} {f g : α → D} : ∀ {l : List α}, (∀ x ∈ l, IsD M (f x) (g x)) → IsDs M (l.map f) (l.map g)
 | [], _ => .nil
 | x :: l, h => .cons (h x List.mem_cons_self) (IsDs.map fun y hy => h y (List.mem_cons_of_mem _ hy))
section
variable {M : Mem} {δ : Env'} {κ : List (V × D)} {σ : St} {H : Hp} {K : PySem.W.Frag}
mutual
theorem IsD.dp (R : Rs κ δ M σ H) : ∀ {x d : D} {v : V}, IsD M x d → Rep M.F H v x → okD d = true → Dp K H v (toPy d)
 | _, _, _, .val _, r, k => rep_dp r k
 | _, _, _, .cell j h hs, r, k => by
   cases r
   obtain ⟨vs, e, rs⟩ := R.at h
   exact .lst (SqL.of e) (IsDs.dp R hs rs k)
 | _, _, _, .lst hs, r, k => by
   cases r with
   | lst h e rs => exact .lst (SqL.of e) (IsDs.dp R hs rs k)
 | _, _, _, .tup hs, r, k => by
   cases r with
   | tup h e rs => exact .tup (SqT.of e) (IsDs.dp R hs rs k)
theorem IsDs.dp (R : Rs κ δ M σ H) : ∀ {xs ds : List D} {vs : List V}, IsDs M xs ds → Reps M.F H vs xs → okDs ds = true → DpAll K H vs (toPys ds)
 | _, _, _, .nil, r, _ => by cases r; exact .nil
 | _, _, _, .cons h hs, r, k => by
   cases r with
   | cons r rs =>
     have k := Bool.and_eq_true_iff.mp (show (_ && _) = true from k)
     exact .cons (IsD.dp R h r k.1) (IsDs.dp R hs rs k.2)
end
end
end Hl
namespace Hl
open PySem L2
open PyProof.Rows hiding St
end Hl
namespace Hl
open PySem L2
end Hl
namespace Hl
open PySem L2
end Hl
namespace Hl
open PySem L2
section
variable {B : Bx} {X : Cx} {e a b c o : Expr} {es rest : List Expr} {st : Stmt} {sts body : List Stmt} {δ δ' : Env'} {M : Mem} {Φ : D → Mem → Prop} {Ψ : DEnds} {te ta tb : TE} {tt : TT} {pos pos' apos : Pos} {d x y : D} {ΦB : Bool → Mem → Prop} {ΦL : List D → Mem → Prop}
variable {tg iter : Expr}
def Anc (P : Mem → Prop) : Prop := ∀ M M' : Mem, (∀ x ∈ M, x ∈ M') → P M → P M'
structure WalkA (P : Mem → Prop) (κ : List (V × D)) (xs : List D) (J : It) : Prop where
 goes : ∀ i δ M σ H, i < xs.length → P M → Rs κ δ M σ H → J.go i H
 stops : ∀ δ M σ H, P M → Rs κ δ M σ H → J.stop xs.length H
 yields : ∀ i δ M σ H x H', i < xs.length → P M → Rs κ δ M σ H → J.yld i H x H' → ∃ d, xs[i]? = some d ∧ Rs κ δ M σ H' ∧ Rep M.F H' x d
def WIA (B : Bx) (wi : TI) (δ : Env') (M : Mem) (Φ : (Mem → Prop) → List D → Mem → Prop) : Prop := ∀ κ σ H R, (∀ q ∈ B.ps, q ∈ κ) → Rs κ δ M σ H → (∀ P xs M' H' J κ', Anc P → Φ P xs M' → (∀ q ∈ κ, q ∈ κ') → Rs κ' δ M' σ H' → WalkA P κ' xs J → R J H') → wi σ H R
def DIA (B : Bx) (X : Cx) (tg iter : Expr) (δ : Env') (M : Mem) (Φ : (Mem → Prop) → List D → Mem → Prop) : Prop := ∃ wi, PI X tg iter wi ∧ WIA B wi δ M Φ
theorem ds_forDA {n : Nat} (z : Cz X n) (hp : PassesOwn (model X.prog X.w) X.A X.env X.xe)
   (h : DIA B X tg iter δ M fun P xs M' => ∃ Iv : Nat → Env' → Mem → Prop, (Iv 0 δ M' ∧ ∀ i δ M, Iv i δ M → P M) ∧ (∀ i x δ M, xs[i]? = some x → Iv i δ M → DG B X tg x δ M fun δ' M' => DSs B X body δ' M' { Ψ with nx := Iv (i + 1), ct := Iv (i + 1), bk := Ψ.nx }) ∧ ∀ δ M, Iv xs.length δ M → Ψ.nx δ M)
   (hs : ∀ x, foldedSetIterable iter X.env x = pure x := by intro _; rfl) : DS B X (.For tg iter body [] pos) δ M Ψ := by
 obtain ⟨wi, pi, w⟩ := h
 refine .of (ps_for hp z.calm pi cG cSs hs) fun κ σ H E hb R k => ?_
 refine w κ σ H _ hb R fun P xs M1 H1 J κ' an ⟨Iv, ⟨h0, hme⟩, hst, hd⟩ hk R1 W => ?_
 refine ⟨fun i m σ H => m = xs.length - i ∧ i ≤ xs.length ∧ ∃ δ M, Iv i δ M ∧ Rs κ' δ M σ H, ⟨xs.length, by simp, Nat.zero_le _, δ, M1, h0, R1⟩, ?_⟩
 rintro i m σ H ⟨rfl, hi, δ, M, q, R⟩
 by_cases hlt : i < xs.length
 · refine .inr ⟨W.goes i δ M σ H hlt (hme _ _ _ q) R, fun σ' H' => ∃ δ' M', Iv (i + 1) δ' M' ∧ Rs κ' δ' M' σ' H', fun σ' H' p' => ⟨xs.length - (i + 1), by omega, rfl, hlt, p'⟩, fun x H' y => ?_⟩
   obtain ⟨d, hd1, R2, r2⟩ := W.yields i δ M σ H x H' hlt (hme _ _ _ q) R y
   refine hst i d δ M hd1 q κ' σ H' x _ (fun q hq => hk q (hb q hq)) R2 r2 fun δ2 M2 σ2 H2 q2 R3 => ?_
   exact q2 κ' σ2 H2 _ (fun q hq => hk q (hb q hq)) R3 ⟨fun δ3 M3 σ3 H3 q3 R4 => ⟨δ3, M3, q3, R4⟩, fun v d M δ σ H q R r => k.rt v d M δ σ H q (R.sub hk) r, fun δ M σ H q R => k.nx δ M σ H q (R.sub hk), fun δ3 M3 σ3 H3 q3 R4 => ⟨δ3, M3, q3, R4⟩⟩
 · have e : i = xs.length := by omega
   subst e
   exact .inl ⟨W.stops δ M σ H (hme _ _ _ q) R, k.nx δ M σ H (hd δ M q) (R.sub hk)⟩
theorem ds_forCA {n : Nat} (cs : List Nat) (z : Cz X n) (hp : PassesOwn (model X.prog X.w) X.A X.env X.xe)
   (h : DIA B X tg iter δ M fun P xs M' => ∃ Iv : Nat → List (Option D) → Mem → Prop, (Iv 0 (cs.map fun i => δ.getD i none) M' ∧ ∀ i vs M1, Iv i vs M1 → P M1) ∧
     (∀ i x vs δ1 M1, xs[i]? = some x → Iv i vs M1 → δ1 = putAll δ cs vs → DG B X tg x δ1 M1 fun δ' M' => DSs B X body δ' M' { Ψ with nx := fun δ' M' => ∃ vs', δ' = putAll δ cs vs' ∧ Iv (i + 1) vs' M', ct := fun δ' M' => ∃ vs', δ' = putAll δ cs vs' ∧ Iv (i + 1) vs' M', bk := Ψ.nx }) ∧
     ∀ vs δ1 M1, Iv xs.length vs M1 → δ1 = putAll δ cs vs → Ψ.nx δ1 M1)
   (hs : ∀ x, foldedSetIterable iter X.env x = pure x := by intro _; rfl) : DS B X (.For tg iter body [] pos) δ M Ψ := by
 refine ds_forDA z hp ?_ hs
 obtain ⟨wi, pi, w⟩ := h
 exact ⟨wi, pi, fun κ σ H R hb Rr k => w κ σ H R hb Rr fun P xs M' H' J κ' an ⟨Iv, ⟨h0, hm⟩, h1, h2⟩ hk R' W => k P xs M' H' J κ' an ⟨fun i δ1 M1 => ∃ vs, δ1 = putAll δ cs vs ∧ Iv i vs M1, ⟨⟨_, putAll_self.symm, h0⟩, fun i δ1 M1 ⟨vs, e, hv⟩ => hm i vs M1 hv⟩, fun i x δ1 M1 hx ⟨vs, e, hv⟩ => h1 i x vs δ1 M1 hx hv e, fun δ1 M1 ⟨vs, e, hv⟩ => h2 vs δ1 M1 hv e⟩ hk R' W⟩
end
end Hl
namespace Hl
open PySem L2
mutual
inductive UpV (q : Addr) (y : D) : D → D → Prop
 | here : UpV q y (.raw (.ref q)) y
 | tup {ds ds' : List D} : UpVs q y ds ds' → UpV q y (.tup ds) (.tup ds')
 | same (d : D) : UpV q y d d
inductive UpVs (q : Addr) (y : D) : List D → List D → Prop
 | nil : UpVs q y [] []
 | cons {d d' : D} {ds ds' : List D} : UpV q y d d' → UpVs q y ds ds' → UpVs q y (d :: ds) (d' :: ds')
end
inductive UpVO (q : Addr) (y : D) : List (Option D) → List (Option D) → Prop
 | nil : UpVO q y [] []
 | some {d d' : D} {ds ds' : List (Option D)} : UpV q y d d' → UpVO q y ds ds' → UpVO q y (some d :: ds) (some d' :: ds')
 | none {ds ds' : List (Option D)} : UpVO q y ds ds' → UpVO q y (none :: ds) (none :: ds')
 | any {o : Option D} {ds ds' : List (Option D)} : UpVO q y ds ds' → UpVO q y (o :: ds) (o :: ds')
section
variable {B : Bx} {X : Cx} {e a b c o : Expr} {es rest : List Expr} {st : Stmt} {sts body : List Stmt} {δ δ' : Env'} {M : Mem} {Φ : D → Mem → Prop} {Ψ : DEnds} {te ta tb : TE} {tt : TT} {pos pos' apos : Pos} {d x y : D} {ΦB : Bool → Mem → Prop} {ΦL : List D → Mem → Prop} {kvs : List (Key × D)} {k : Key}
variable {tg iter : Expr}
theorem Rpl.F {p : Addr} {c c' : SC} {M' : Mem} (r : Rpl p c c' M M') : M'.F = M.F := by
 cases r with
 | cell j h => exact F_set h (by rw [own_up, own_up])
 | head j h => exact F_set h rfl
 | @part N b c0 j i h h2 => exact F_set h (by show b :: _ = b :: _; rw [map_set_fst h2])
theorem fld_h {K : PySem.W.Frag} {f : Str} {C p : Addr} {ns : List Str} {fs : List D} {N : List (Addr × SC)} (j : Nat) (hm : M[j]? = some (p, .grp (.obj C ns fs) N)) (ff : FldP K C f) (l : (ns.zip fs).lookup f = some d) (k : Φ d M) : FldD K f (.raw (.ref p)) M Φ := fld_o (.inm (.inr (.inl ⟨_, List.mem_of_getElem? hm⟩))) ff l k
theorem fld_p {K : PySem.W.Frag} {f : Str} {C p b : Addr} {ns : List Str} {fs : List D} {c0 : SC} {N : List (Addr × SC)} (j : Nat) (hm : M[j]? = some (b, .grp c0 N)) (hp : (p, SC.obj C ns fs) ∈ N) (ff : FldP K C f) (l : (ns.zip fs).lookup f = some d) (k : Φ d M) : FldD K f (.raw (.ref p)) M Φ := fld_o (.inm (.inr (.inr ⟨_, _, _, List.mem_of_getElem? hm, hp⟩))) ff l k
end
end Hl
namespace Hl
open PySem L2
section
variable {B : Bx} {X : Cx} {e a b c o : Expr} {es rest : List Expr} {kws : List Keyword} {st : Stmt} {sts body : List Stmt} {δ δ' : Env'} {M : Mem} {Φ : D → Mem → Prop} {Ψ : DEnds} {te ta tb : TE} {tt : TT} {pos pos' apos : Pos} {d x y : D} {ΦB : Bool → Mem → Prop} {ΦL : List D → Mem → Prop} {kvs : List (Key × D)} {k : Key}
theorem mt_hS {m k : Nat} {mn : Str} {C q : Addr} {ns : List Str} {fs : List D} {N : List (Addr × SC)} {sel : Sel} {p : DSpE} {Ξ : XPost} (j : Nat) (hm : M[j]? = some (q, .grp (.obj C ns fs) N)) (f : MethEX X k C mn es.length (kwN kws) sel p) (hk : k ≤ m) (lt : Lets X B δ Ξ) (pl : PlA X pos es kws (kwN kws)) (hn : ns.contains mn = false)
   (h : DAK B X es kws δ M fun ds zs M' => ds.length = es.length ∧ zs.length = (kwN kws).length ∧ p (selD sel (.raw (.ref q) :: ds ++ zs)) M' Φ Ξ) : MtE B X m pos es kws mn δ (.raw (.ref q)) M Φ := mt_o (.inm (.inr (.inl ⟨_, List.mem_of_getElem? hm⟩))) f hk lt pl hn h
theorem mt_pS {m k : Nat} {mn : Str} {C q b : Addr} {ns : List Str} {fs : List D} {c0 : SC} {N : List (Addr × SC)} {sel : Sel} {p : DSpE} {Ξ : XPost} (j : Nat) (hm : M[j]? = some (b, .grp c0 N)) (hp : (q, SC.obj C ns fs) ∈ N) (f : MethEX X k C mn es.length (kwN kws) sel p) (hk : k ≤ m) (lt : Lets X B δ Ξ) (pl : PlA X pos es kws (kwN kws)) (hn : ns.contains mn = false)
   (h : DAK B X es kws δ M fun ds zs M' => ds.length = es.length ∧ zs.length = (kwN kws).length ∧ p (selD sel (.raw (.ref q) :: ds ++ zs)) M' Φ Ξ) : MtE B X m pos es kws mn δ (.raw (.ref q)) M Φ := mt_o (.inm (.inr (.inr ⟨_, _, _, List.mem_of_getElem? hm, hp⟩))) f hk lt pl hn h
end
end Hl
namespace Hl
open PySem L2
section
variable {B : Bx} {X : Cx} {e a b c o : Expr} {es rest : List Expr} {kws : List Keyword} {st : Stmt} {sts body : List Stmt} {δ δ' : Env'} {M : Mem} {Φ : D → Mem → Prop} {Ψ : DEnds} {te ta tb : TE} {tt : TT} {pos pos' apos cpos : Pos} {d x y : D} {ΦB : Bool → Mem → Prop} {ΦL : List D → Mem → Prop} {kvs : List (Key × D)} {k : Key}
def rCountV (K : PySem.W.Frag) : V → List V → Hp → VK → Prop := fun x xs H Q => ∃ (a : Addr) (ys : List V) (y : V), x = V.ref a ∧ xs = [y] ∧ SqL K H a ys ∧ flatV y = true ∧ ys.all flatV = true ∧ Q (.int (ys.countP (fun z => eqV z y) : Nat)) H
theorem count_vals {y : V} : ∀ {ys : List V} {us : List Value}, Vals ys us → ys.all flatV = true → us.countP (eqU y) = ys.countP fun z => eqV z y
 | _, _, .nil, _ => rfl
 | z :: ys, u :: us, .cons r rs, f => by
   have f2 := Bool.and_eq_true_iff.mp (show (_ && _) = true from f)
   rw [List.countP_cons, List.countP_cons, count_vals rs f2.2, eqU_of r f2.1]
theorem mt_countV : MtR X "list.count" (rCountV X.K) := by
 intro pins s σ H x xs v us Q I rx rxs h
 obtain ⟨a, ys, y, rfl, rfl, hs, fy, fys, q⟩ := h
 cases rx
 cases rxs with
 | cons ry rt =>
   rename_i uy ut
   cases rt
   obtain ⟨its, rv, ⟨⟨cls, dd, data, sl⟩, n, ho, hc, hdn, hd⟩, hlen⟩ := I.list hs
   simp only at hc hd
   subst hc hd
   refine call_meets PySem.F.slot_list_count ⟨_, ho, rfl⟩ PySem.F.entry_list_count (PySem.F.args_list_count_2 _ _)
     (SeqAt.list_countAt a its.toArray n dd sl uy (eqU y)) ⟨ho, fun u' hu' => mem_eqAt ry fy rv fys u' (by simpa using hu'), ?_⟩
   refine ⟨.int _, H, I.tok _, ⟨s.toks, ?_⟩, q⟩
   show Value.int ((its.toArray.toList.countP (eqU y) : Nat) : Int) s.toks = _
   rw [List.toList_toArray, count_vals rv fys]
theorem de_count (h : DE B X o δ M fun x M1 => (∃ ds, IsL M1 x ds) ∧ DA B X [a] δ M1 fun ys M2 => MtD X.K "list" (rCountV X.K) x ys M2 Φ)
   (hbase : attributeBase o "count" X.env (eval o X.env) = eval o X.env := by rfl)
   (hfew : ((backTo cpos (starEach [a] X.env)).all (fun x => !x.1) && (backToKw cpos (keywordEach [] X.env)).all (fun x => x.1.isSome)
     && decide (([a] : List Expr).length + ([] : List Keyword).length + (if ([] : List Keyword).isEmpty then 0 else 1) < 30)) = true := by rfl)
   (hline : (apos.endLine == cpos.line) = true := by rfl) (hs : starEach [a] X.env = (false, eval a X.env) :: starEach [] X.env := by rfl) (hplain : (backTo cpos (starEach [] X.env)).any (·.1) = false := by rfl) :
   DE B X (.Call (.Attribute o "count" apos) [a] [] cpos) δ M Φ := de_bml PySem.F.slot_list_count PySem.F.type_list_count mt_countV h hbase hfew hline hs hplain
theorem de_index (h : DE B X o δ M fun x M1 => (∃ ds, IsL M1 x ds) ∧ DA B X [a] δ M1 fun ys M2 => MtD X.K "list" (rIndex X.K) x ys M2 Φ)
   (hbase : attributeBase o "index" X.env (eval o X.env) = eval o X.env := by rfl)
   (hfew : ((backTo cpos (starEach [a] X.env)).all (fun x => !x.1) && (backToKw cpos (keywordEach [] X.env)).all (fun x => x.1.isSome)
     && decide (([a] : List Expr).length + ([] : List Keyword).length + (if ([] : List Keyword).isEmpty then 0 else 1) < 30)) = true := by rfl)
   (hline : (apos.endLine == cpos.line) = true := by rfl) (hs : starEach [a] X.env = (false, eval a X.env) :: starEach [] X.env := by rfl) (hplain : (backTo cpos (starEach [] X.env)).any (·.1) = false := by rfl) :
   DE B X (.Call (.Attribute o "index" apos) [a] [] cpos) δ M Φ := de_bml PySem.F.slot_list_index PySem.F.type_list_index mt_index h hbase hfew hline hs hplain
theorem de_join (h : DE B X o δ M fun x M1 => ∃ z, x = .str z ∧ DE B X a δ M1 fun y M2 => ∃ ys : List Str, IsL M2 y (ys.map .str) ∧ (ys.map (·.length)).sum + ys.length * z.length ≤ 16777216 ∧ Φ (.str (Txt.join z ys)) M2)
   (hs : starEach [a] X.env = [(false, eval a X.env)] := by rfl) (hbase : attributeBase o "join" X.env (eval o X.env) = eval o X.env := by rfl) (hline : (apos.endLine == pos.line) = true := by rfl) : DE B X (.Call (.Attribute o "join" apos) [a] [] pos) δ M Φ :=
 .of (pe_join cE cE hs hbase hline) fun κ σ H Q hb R k => h κ σ H _ hb R fun v x M1 H1 ⟨z, ez, q1⟩ R1 r1 => by
   subst ez
   cases r1
   refine ⟨⟨z, rfl⟩, q1 κ σ H1 _ hb R1 fun vy y M2 H2 ⟨ys, il, hl, q2⟩ R2 r2 => ?_⟩
   obtain ⟨p, us, rfl, e1, rr⟩ := il.sq R2 r2
   have := rr.strs
   subst this
   exact ⟨z, p, ys, rfl, rfl, .inl (SqL.of e1), hl, k _ _ _ _ q2 R2 (.str _)⟩
end
theorem join_signs (y : Str) (ys : List Str) : (Txt.join y ys).cps.toList = TL.joinL y.cps.toList (ys.map fun z => z.cps.toList) := by
 have e := TL.tl_join y ys
 rw [← TL.join_eq y ys] at e
 exact e
theorem joinL_nil : ∀ l : List (List Nat), TL.joinL [] l = l.flatten
 | [] => rfl
 | [p] => by simp [TL.joinL]
 | p :: q :: r => by
   show p ++ ([] ++ TL.joinL [] (q :: r)) = _
   rw [joinL_nil (q :: r)]; simp
end Hl
namespace Hl
open PySem L2
structure KitP (K : PySem.W.Frag) (t u : Value) (b : Bool) : Prop where
 is : PySem.W.kitOne K t u = some b
structure ExmP (K : PySem.W.Frag) (t u : Value) (b : Bool) : Prop where
 is : PySem.W.exmOne K t u = some b
structure MgP (mg : Str → Option Value) (x : Str) (C : Addr) : Prop where
 is : mg x = some (.ref C)
section
variable {B : Bx} {X X' : Cx} {δ : Env'} {M : Mem} {Φ : D → Mem → Prop} {Ψ : DEnds} {d x y : D} {scope : Scope} {suite : List Stmt} {pos : Pos}
theorem isx_xP {K : PySem.W.Frag} {C : Addr} {ns : List Str} {fs : List D} {c : V} {u : Value} {b : Bool} (T : ExcP K C) (hc : ClsV c u) (hk : KitP K (.ref C) u b) (k : Φ (.bl b) M) : CallD (rIsiU K) [.exn C ns fs, .raw c] M Φ := isx_x T hc hk.is k
theorem isx_oP {K : PySem.W.Frag} {C : Addr} {ns : List Str} {fs : List D} {c : V} {u : Value} {b : Bool} (h : IsO M x C ns fs) (T : InsP K C) (hc : ClsV c u) (hk : KitP K (.ref C) u b) (k : Φ (.bl b) M) : CallD (rIsiU K) [x, .raw c] M Φ := isx_o h T hc hk.is k
theorem isx_bP {K : PySem.W.Frag} {S : String} {c : V} {u : Value} {b : Bool} (hx : tyD x = some S) (hc : ClsV c u) (hk : KitP K (.type S) u b) (k : Φ (.bl b) M) : CallD (rIsiU K) [x, .raw c] M Φ := isx_b hx hc hk.is k
theorem isx_t2P {K : PySem.W.Frag} {C : Addr} {ns : List Str} {fs : List D} {c1 c2 : V} {u1 u2 : Value} {b1 b2 : Bool} (T : ExcP K C) (h1 : ClsV c1 u1) (h2 : ClsV c2 u2) (k1 : KitP K (.ref C) u1 b1) (k2 : KitP K (.ref C) u2 b2) (k : Φ (.bl (b1 || b2)) M) : CallD (rIsiV K) [.exn C ns fs, .tup [.raw c1, .raw c2]] M Φ := isx_t2 T h1 h2 k1.is k2.is k
theorem exh_yesP {c0 C : Addr} {oi : Option Nat} {ns : List Str} {ds : List D} {r : List HdD} (hm : ExmP X.K (.ref C) (.ref c0) true) (h : ∀ a pn kp, DSs ⟨kp, fun _ _ _ _ _ => False⟩ (X.suite a pn) suite (envD oi δ (.exn C ns ds)) M (endsD oi Ψ)) : exH B X Ψ ((c0, oi, suite) :: r) C ns ds δ M := exh_yes hm.is h
theorem exh_noP {c0 C : Addr} {oi : Option Nat} {ns : List Str} {ds : List D} {r : List HdD} (hm : ExmP X.K (.ref C) (.ref c0) false) (h : exH B X Ψ r C ns ds δ M) : exH B X Ψ ((c0, oi, suite) :: r) C ns ds δ M := exh_no hm.is h
theorem de_gclsP {x : Str} {C : Addr} (hg : Gl X x) (hm : MgP X.mg x C) (k : Φ (.raw (.ref C)) M) (hd : (x == ("__debug__" : Str)) = false := by decide) : DE B X (.Name x pos) δ M Φ := de_gcls hg hm.is k hd
end
end Hl
namespace Hl
open PySem L2
def zipD (xs ys : List D) : List D := (xs.zip ys).map fun p => .tup [p.1, p.2]
end Hl
namespace Hl
open PySem L2
open PyProof.Rows hiding St
inductive IsSq (M : Mem) : D → List D → Prop
 | lst (ds : List D) : IsSq M (.lst ds) ds
 | tup (ds : List D) : IsSq M (.tup ds) ds
 | cell {p : Addr} {ds : List D} (h : InM M p (.lst ds)) : IsSq M (.raw (.ref p)) ds
theorem anc_sq {y : D} {ds : List D} : Anc fun M => IsSq M y ds := fun M M' h k => by
 cases k with
 | lst => exact .lst _
 | tup => exact .tup _
 | cell h' => exact .cell (h'.mono h)
theorem IsSq.sq {κ : List (V × D)} {δ : Env'} {M : Mem} {σ : St} {H : Hp} {v : V} {x : D} {ds : List D} (h : IsSq M x ds) (R : Rs κ δ M σ H) (r : Rep M.F H v x) : ∃ p vs, v = .ref p ∧ (H p = some (.lst vs) ∨ H p = some (.tup vs)) ∧ Reps M.F H vs ds := by
 cases h with
 | lst => cases r with | lst h1 e1 r1 => exact ⟨_, _, rfl, .inl e1, r1⟩
 | tup => cases r with | tup h1 e1 r1 => exact ⟨_, _, rfl, .inr e1, r1⟩
 | cell h =>
   cases r
   obtain ⟨vs, e1, r1⟩ := h.ok R
   exact ⟨_, _, rfl, .inl e1, r1⟩
section
variable {B : Bx} {X : Cx} {e a b c o : Expr} {es rest : List Expr} {st : Stmt} {sts body : List Stmt} {δ δ' : Env'} {M : Mem} {Φ : D → Mem → Prop} {Ψ : DEnds} {te ta tb : TE} {tt : TT} {pos pos' apos : Pos} {d x y : D} {ΦB : Bool → Mem → Prop} {ΦL : List D → Mem → Prop}
variable {tg iter : Expr}
def iEnSq (K : PySem.W.Frag) (ta : TA) : TI := fun σ H R => ta σ H fun vs H1 => ∃ a xs, vs = [.ref a] ∧ ((SqL K H1 a xs ∧ R (Ite K a) H1) ∨ (SqT K H1 a xs ∧ R (IteT K a) H1))
theorem pi_enSq {X : Cx} {e : Expr} {ta : TA} {p pos tpos : Pos} {elts : List Expr} {kk : Nat} (hg : Gl X "enumerate") (hm : X.mg "enumerate" = none) (ha : PA X [e] ta) (hs : starEach [e] X.env = [(false, eval e X.env)] := by rfl) :
   PI X (.Tuple elts kk tpos) (.Call (.Name "enumerate" p) [e] [] pos) (iEnSq X.K ta) := by
 refine ⟨fun pins s σ H R I h => ?_⟩
 refine Call_ (ld_blt I hg hm boot_enumerate (PyProof.Rows.callWith_type1 (thn (ha.run pos pins s σ H _ I h) fun us s1 ⟨vs, H1, I1, r1, q1⟩ => ?_) hs rfl))
 obtain ⟨a, xs, ex, ⟨hq, q⟩ | ⟨hq, q⟩⟩ := q1
 · subst ex
   cases r1 with
   | cons r rr =>
     cases rr
     cases r
     obtain ⟨its, rv, p', hz⟩ := I1.list hq
     refine call_enumerate_list p'.isList fun h' he hit hsz hk => wpAny_pyIter_enum he ?_
     have I2 : Inv X pins σ H1 { s1 with heap := h' } := I1.kept (t' := s1.toks) hk
     refine ⟨s1.heap.objs.size + 1, [s1.heap.objs.size + 1, s1.heap.objs.size], _, _, H1, rfl, I2, turn_enum a (s1.heap.objs.size + 1) s1.heap.objs.size, ⟨⟨.none, he⟩, hit, Nat.succ_ne_self _⟩, fun b hb => ?_, q⟩
     have e' : b = s1.heap.objs.size + 1 ∨ b = s1.heap.objs.size := by simpa using hb
     have hle : s1.heap.objs.size ≤ b := by
       rcases e' with z | z
       · rw [z]; exact Nat.le_add_right _ _
       · rw [z]; exact Nat.le_refl _
     exact I1.fpOk hle (I1.hok.fresh hle)
 · subst ex
   cases r1 with
   | cons r rr =>
     cases rr
     cases r
     obtain ⟨its, rv, p', hz⟩ := I1.tuple hq
     have hal : a < s1.heap.objs.size := by obtain ⟨_, q, _⟩ := p'; exact Heap.lt_size q
     refine enum_begins1 (begins_tuple a its.toArray) p' fun h' he hit hsz hk => wpAny_pyIter_enum he ?_
     have I2 : Inv X pins σ H1 { s1 with heap := h' } := I1.kept (t' := s1.toks) hk
     refine ⟨s1.heap.objs.size + 1, [s1.heap.objs.size + 1, s1.heap.objs.size], _, _, H1, rfl, I2, turn_enumT a (s1.heap.objs.size + 1) s1.heap.objs.size, ⟨⟨.none, he⟩, ⟨_, hit, rfl, rfl⟩, Nat.succ_ne_self _, Nat.ne_of_lt hal, Nat.ne_of_lt (Nat.lt_succ_of_lt hal)⟩, fun b hb => ?_, q⟩
     have e' : b = s1.heap.objs.size + 1 ∨ b = s1.heap.objs.size := by simpa using hb
     have hle : s1.heap.objs.size ≤ b := by
       rcases e' with z | z
       · rw [z]; exact Nat.le_add_right _ _
       · rw [z]; exact Nat.le_refl _
     exact I1.fpOk hle (I1.hok.fresh hle)
theorem wa_enL {κ : List (V × D)} {a : Addr} {y : D} {ds : List D} {K : PySem.W.Frag} (hy : ∀ M, IsSq M y ds → ∀ δ σ H, Rs ((.ref a, y) :: κ) δ M σ H → ∃ vs, H a = some (.lst vs) ∧ Reps M.F H vs ds) : WalkA (fun M => IsSq M y ds) ((.ref a, y) :: κ) (enumD ds) (Ite K a) where
 goes := fun i δ M σ H hi hm R => by
   obtain ⟨vs, e, r⟩ := hy M hm δ σ H R
   have hi : i < ds.length := by simpa [enumD] using hi
   exact (walk_enum (K := K) (a := a)).goes i H (by rw [r.length]; exact hi) (SqL.of e)
 stops := fun δ M σ H hm R => by
   obtain ⟨vs, e, r⟩ := hy M hm δ σ H R
   have := (walk_enum (K := K) (a := a)).stops H (SqL.of e)
   rw [r.length] at this
   simpa [enumD] using this
 yields := fun i δ M σ H x H' hi hm R y' => by
   obtain ⟨vs, e, r⟩ := hy M hm δ σ H R
   have hi : i < ds.length := by simpa [enumD] using hi
   obtain ⟨T, v2, rfl, hT, rfl, e2⟩ := y'
   obtain ⟨d, hd, rd⟩ := r.get (e2 _ (SqL.of e))
   refine ⟨.tup [.int (i : Nat), d], by simp [enumD, hi, (List.getElem?_eq_some_iff.mp hd).2], ?_⟩
   obtain ⟨R1, r1⟩ := R.tupV (p := T) (vs := [.int (i : Nat), v2]) (ds := [.int (i : Nat), d]) (.cons (.int _) (.cons rd .nil)) hT
   exact ⟨R1, r1⟩
theorem wa_enT {κ : List (V × D)} {a : Addr} {ds : List D} {K : PySem.W.Frag} : WalkA (fun M => IsSq M (.tup ds) ds) ((.ref a, .tup ds) :: κ) (enumD ds) (IteT K a) where
 goes := fun i δ M σ H hi hm R => (wd_enumT (κ := κ) (K := K)).goes i δ M σ H hi R
 stops := fun δ M σ H hm R => (wd_enumT (κ := κ) (K := K)).stops δ M σ H R
 yields := fun i δ M σ H x H' hi hm R y => (wd_enumT (κ := κ) (K := K)).yields i δ M σ H x H' hi R y
theorem di_enSq {p tpos : Pos} {elts : List Expr} {kk : Nat} {ΦC : (Mem → Prop) → List D → Mem → Prop} (g : Gn X "enumerate") (h : DE B X a δ M fun d M' => ∃ ds, IsSq M' d ds ∧ ΦC (fun M => IsSq M d ds) (enumD ds) M') (hs : starEach [a] X.env = [(false, eval a X.env)] := by rfl) : DIA B X (.Tuple elts kk tpos) (.Call (.Name "enumerate" p) [a] [] pos) δ M ΦC :=
 ⟨_, pi_enSq g.gl g.no (pa_cons cE pa_nil hs) hs, fun κ σ H R hb Rr k => h κ σ H _ hb Rr fun v d M1 H1 ⟨ds, hsq, q⟩ R1 r1 => by
   cases hsq with
   | lst =>
     cases r1 with
     | lst hn e1 rr =>
       refine ⟨_, _, rfl, .inl ⟨SqL.of e1, k _ _ M1 H1 _ _ anc_sq q (fun q hq => List.mem_cons_of_mem _ hq) (R1.push (.lst hn e1 rr)) (wa_enL fun M hm δ σ H R => ?_)⟩⟩
       cases R.top with
       | lst hn e r => exact ⟨_, e, r⟩
   | tup =>
     cases r1 with
     | tup hn e1 rr => exact ⟨_, _, rfl, .inr ⟨SqT.of e1, k _ _ M1 H1 _ _ anc_sq q (fun q hq => List.mem_cons_of_mem _ hq) (R1.push (.tup hn e1 rr)) wa_enT⟩⟩
   | cell hc =>
     cases r1
     obtain ⟨vs, e1, rr⟩ := hc.ok R1
     refine ⟨_, _, rfl, .inl ⟨SqL.of e1, k _ _ M1 H1 _ _ anc_sq q (fun q hq => List.mem_cons_of_mem _ hq) (R1.push (.raw _)) (wa_enL fun M hm δ σ H R => ?_)⟩⟩
     cases hm with
     | cell h => exact h.ok R⟩
theorem cd_lenSq {K : PySem.W.Frag} {ds : List D} (h : IsSq M x ds) (k : Φ (.int (ds.length : Nat)) M) : CallD (rLenU K) [x] M Φ := by
 cases h with
 | lst => exact cd_lenL (.val _) k
 | tup => exact cd_lenT k
 | cell h => exact cd_lenL (.inm h) k
end
end Hl
namespace Hl
open PySem L2
section
variable {B : Bx} {X : Cx} {δ δ' : Env'} {M : Mem} {Φ : D → Mem → Prop} {d x y : D} {α : Type} {l : List α} {f : α → D} {i : Int}
theorem od_ixTE {K : PySem.W.Frag} (h : 0 ≤ i ∧ i < l.length) (k : ∀ y, l[i.toNat]? = some y → Φ (f y) M) : OpD (rIxU K) (.tup (l.map f)) (.int i) M Φ := by
 have hi : i.toNat < l.length := by omega
 obtain ⟨n, rfl⟩ : ∃ n : Nat, i = (n : Int) := ⟨i.toNat, by omega⟩
 have hn : n < l.length := by omega
 exact od_ixT (d := f l[n]) (at_mapN (by simp [hn])) (k _ (by simp [hn]))
end
end Hl
namespace Hl
open PySem L2
end Hl
namespace Hl
open PySem L2
open PyProof.Rows hiding St
section
variable {B : Bx} {X : Cx} {e a b c o : Expr} {es rest : List Expr} {δ δ' : Env'} {M M' : Mem} {Φ : D → Mem → Prop} {Ψ : DEnds} {pos pos' apos cpos : Pos} {d x y : D} {ΦL : List D → Mem → Prop}
def rClear : V → List V → Hp → VK → Prop := fun x vs H Q => ∃ l xs, x = .ref l ∧ vs = [] ∧ H l = some (.lst xs) ∧ Q .non (upd H l (.lst []))
theorem mt_clear : MtR X "list.clear" rClear := by
 intro pins s σ H x vs v us Q I rx rv h
 obtain ⟨l, xs, rfl, rfl, hH, q⟩ := h
 cases rx
 have hus := rv.zero
 subst hus
 obtain ⟨z, its, n, r, hl, e⟩ := I.lstM hH
 refine call_meets F.slot_list_clear ⟨_, e, rfl⟩ F.entry_list_clear (F.args_list_clear_1 _) (AutoSeq1.list_clear_list_0 l its.toArray n (by rw [List.size_toArray]; omega)) ⟨e, ?_⟩
 exact ⟨.non, _, I.lset (its' := []) hH e (by simp) .nil (Nat.zero_le _), rfl, q⟩
theorem de_bml0 {name : Str} {id : String} {r : V → List V → Hp → VK → Prop} (slot : Slot "list" name id) (hty : typeOf (.builtin id) = pure (.type "method_descriptor")) (hm : MtR X id r)
   (h : DE B X o δ M fun x M1 => (∃ ds, IsL M1 x ds) ∧ MtD X.K "list" r x [] M1 Φ)
   (hbase : attributeBase o name X.env (eval o X.env) = eval o X.env := by rfl) (hline : (apos.endLine == cpos.line) = true := by rfl) :
   DE B X (.Call (.Attribute o name apos) [] [] cpos) δ M Φ := .of (pe_bm0 PySem.F.plainAttrs_list slot hty hm cE hbase hline) fun κ σ H Q hb R k =>
 h κ σ H _ hb R fun v x M1 H1 ⟨⟨ds, il⟩, q⟩ R1 r1 => by
   obtain ⟨p, vs, ev, e1, rr⟩ := il.sq R1 r1
   refine ⟨by subst ev; exact .inl ⟨rfl, vs, SqL.of e1⟩, ?_⟩
   exact q κ δ σ H1 v [] Q R1 r1 .nil k
theorem de_clear (h : DE B X o δ M fun x M1 => (∃ ds, IsL M1 x ds) ∧ MtD X.K "list" rClear x [] M1 Φ)
   (hbase : attributeBase o "clear" X.env (eval o X.env) = eval o X.env := by rfl) (hline : (apos.endLine == cpos.line) = true := by rfl) :
   DE B X (.Call (.Attribute o "clear" apos) [] [] cpos) δ M Φ := de_bml0 PySem.F.slot_list_clear PySem.F.type_list_clear mt_clear h hbase hline
end
theorem IsO.mono {M M' : Mem} {x : D} {C : Addr} {ns : List Str} {ds : List D} (h : IsO M x C ns ds) (k : ∀ c ∈ M, c ∈ M') : IsO M' x C ns ds := by
 cases h with
 | val => exact .val _ _ _
 | cell j h => exact .inm ((InM.mono (M := M) (.inl (List.mem_of_getElem? h))) k)
 | inm h => exact .inm (h.mono k)
theorem IsSq.mono {M M' : Mem} {x : D} {ds : List D} (h : IsSq M x ds) (k : ∀ c ∈ M, c ∈ M') : IsSq M' x ds := anc_sq M M' k h
end Hl
namespace PySem.W
open PySem PySem.Calls PyProof.Rows Builtin
end PySem.W
namespace Hl
open PySem L2
open PyProof.Rows hiding St
structure EqC (K : PySem.W.Frag) (C : Addr) : Prop where
 ne : PySem.W.findIn K (.ref C) "__ne__" = some (some (.builtin "object.__ne__"))
 ob : PySem.W.mroIn K C (.type "object") = some true
section
variable {B : Bx} {X : Cx} {e a b c o : Expr} {es rest : List Expr} {δ δ' : Env'} {M M' : Mem} {Φ : D → Mem → Prop} {ΦB : Bool → Mem → Prop} {pos pos' : Pos} {d x y : D} {C : Addr} {k m : Nat} {p : DSpE}
inductive OtD (C : Addr) (M : Mem) : D → Prop
 | own {y : D} {ns : List Str} {fs : List D} : IsO M y C ns fs → OtD C M y
 | str (z : Str) : OtD C M (.str z)
 | non : OtD C M .non
 | int (i : Int) : OtD C M (.int i)
 | tup (ds : List D) : OtD C M (.tup ds)
 | lst (ds : List D) : OtD C M (.lst ds)
def OtV (C : Addr) (y : V) (H : Hp) : Prop := (∃ b dy gs, y = .ref b ∧ H b = some (.ins C dy gs)) ∨ (∃ z, y = .str z) ∨ y = .non ∨ (∃ i, y = .int i) ∨ (∃ t vs, y = .ref t ∧ H t = some (.tup vs)) ∨ ∃ l vs, y = .ref l ∧ H l = some (.lst vs)
theorem OtD.v {κ : List (V × D)} {σ : St} {H : Hp} {w : V} (h : OtD C M y) (R : Rs κ δ M σ H) (r : Rep M.F H w y) : OtV C w H := by
 cases h with
 | own io =>
   obtain ⟨q, dx, vs, rfl, e1, _, _⟩ := io.sq R r
   exact .inl ⟨_, _, _, rfl, e1⟩
 | str z => cases r; exact .inr (.inl ⟨_, rfl⟩)
 | non => cases r; exact .inr (.inr (.inl rfl))
 | int i => cases r; exact .inr (.inr (.inr (.inl ⟨_, rfl⟩)))
 | tup ds => cases r with | tup h1 e1 r1 => exact .inr (.inr (.inr (.inr (.inl ⟨_, _, rfl, e1⟩))))
 | lst ds => cases r with | lst h1 e1 r1 => exact .inr (.inr (.inr (.inr (.inr ⟨_, _, rfl, e1⟩))))
theorem nf_ty {K : PySem.W.Frag} {T : String} {l : List Value} (h : fastBuiltinMro T = some l) (hn : l.contains (.ref C) = false) : PySem.W.notFirst K C (.type T) = true := by
 have e : PySem.W.subIn K (.type T) (.ref C) = some false := by
   show (fastBuiltinMro T).map _ = _
   rw [h]
   show some (l.contains (.ref C)) = _
   rw [hn]
 unfold PySem.W.notFirst
 rw [e]
 exact Bool.or_true _
theorem OtV.looks {pins : List (Addr × Obj)} {σ : St} {H : Hp} {s : Shared} {w : V} {u : Value} {Mo : Model} (h : OtV C w H) (I : Inv X pins σ H s) (r : RelV w u) : ∃ tb, PySem.W.Looks Mo s.heap (typeOf u) tb ∧ PySem.W.notFirst X.K C tb = true := by
 rcases h with ⟨b, dy, gs, rfl, e⟩ | ⟨z, rfl⟩ | rfl | ⟨i, rfl⟩ | ⟨t, vs, rfl, e⟩ | ⟨t, vs, rfl, e⟩
 · cases r
   obtain ⟨mB, J, _⟩ := ins_get I.hok e
   obtain ⟨od, J, _⟩ := J.look
   exact ⟨.ref C, J.type, by simp [PySem.W.notFirst]⟩
 · obtain ⟨t, rfl⟩ := r
   exact ⟨.type "str", PySem.W.Looks.of_pure rfl, nf_ty (l := [.type "str", .type "object"]) (by decide +kernel) rfl⟩
 · obtain rfl : u = Value.none := r
   exact ⟨.type "NoneType", PySem.W.Looks.of_pure rfl, nf_ty (l := [.type "NoneType", .type "object"]) (by decide +kernel) rfl⟩
 · obtain ⟨t, rfl⟩ := r
   exact ⟨.type "int", PySem.W.Looks.of_pure rfl, nf_ty (l := [.type "int", .type "object"]) (by decide +kernel) rfl⟩
 · cases r
   obtain ⟨its, rv, p', hz⟩ := I.tuple (SqT.of e)
   obtain ⟨o, h1, h2, _⟩ := p'
   refine ⟨.type "tuple", ?_, nf_ty (l := [.type "tuple", .type "object"]) (by decide +kernel) rfl⟩
   have q : PySem.W.Looks Mo s.heap (typeOf (.ref t)) o.cls := (PySem.W.Looks.ld h1).andThen .now
   rw [h2] at q; exact q
 · cases r
   obtain ⟨z, its, n, rr, hl, e⟩ := I.lstM e
   refine ⟨.type "list", ?_, nf_ty (l := [.type "list", .type "object"]) (by decide +kernel) rfl⟩
   exact (PySem.W.Looks.ld e).andThen .now
theorem run_EA {A : Around} {n : Nat} {f : Addr} {ks : List Str} {sel : Sel} {pins : List (Addr × Obj)} {σ : St} {H : Hp} {s : Shared} {Q : VK} {E : XK} {us ws : List Value} {vs zs : List V} (sb : Sub X k A) (F : FnD X.prog X.w X.K X.mg X.base k f n ks sel p) (hx : PassesAt (L2.CX X.prog X.w) X σ E) (I : Inv X pins σ H s) (r : Vals vs us) (rz : Vals zs ws) (h1 : vs.length = n) (h2 : zs.length = ks.length)
   (h : ∀ us all, Vals (vs ++ zs) us → SelOk us sel all → liftE p (selV sel (vs ++ zs)) H Q E) : wpAny (model X.prog X.w) A (call (.ref f) us (ks.zip ws)) (EP X pins σ Q) X.xe s := by
 obtain ⟨fd, ps, cb, F⟩ := F.ex
 obtain ⟨all, so, b⟩ := cb.to s us ws I.kIn (by rw [← r.length]; exact h1) (by rw [← rz.length]; exact h2)
 have r2 := so.vals (r.append rz)
 have hq := h _ all (r.append rz) so
 have e0 : Env0 X.prog X.w X.K X.mg X.base A X.stack s H := by
   have e := I.env0
   exact ⟨by rw [sb.fr]; exact e.frames, e.mod, e.bs, e.bsz, e.funs, e.frf, e.hok, e.bare⟩
 refine wpAny_call (codeAny_mono (F.run A X.stack s H ⟨us, ks.zip ws⟩ all _ Q E sb.room e0 b r2 hq) fun r s' hq => ?_)
 cases r with
 | error e => exact hx pins H s e s' I hq
 | ok fl =>
   cases fl with
   | ret u => exact I.after hq
   | next => exact False.elim hq
   | brk => exact False.elim hq
   | cont => exact False.elim hq
def rOwn (C : Addr) (p : DSpE) (neg : Bool) : R2 := fun x y H Q => (∃ a dx fs, x = .ref a ∧ H a = some (.ins C dx fs)) ∧ OtV C y H ∧ liftE p [x, y] H (fun v H' => ∃ t, v = .bl t ∧ Q (.bl (neg ^^ t)) H') fun _ _ _ => False
theorem op_ownEq (z : Cz X m) (f : MethEX X k C "__eq__" 1 [] (selN 2) p) (hk : k + 1 ≤ m) : OpR X (compareOp .Eq) (rOwn C p false) := by
 intro pins s σ H x y v u Q I rx ry hq
 obtain ⟨⟨a, dx, fs, rfl, ha⟩, oy, q⟩ := hq
 obtain ⟨fa, c, hm, h3⟩ := f.ex
 obtain rfl : v = Value.ref a := rx
 obtain ⟨mA, J, _⟩ := ins_get I.hok ha
 obtain ⟨od, J, _⟩ := J.look
 obtain ⟨tb, lt, hn⟩ := oy.looks (Mo := model X.prog X.w) I ry
 have sb : Sub X m X.A := ⟨z.room, rfl⟩
 obtain ⟨m', hF⟩ := I.fr
 show wpAny (model X.prog X.w) X.A (richCompare .Eq (.ref a) u) (EP X pins σ Q) X.xe s
 refine PySem.W.cmp_K (op := .Eq) (tb := tb) sb.room.units0 hF I.ok.mod.kin J lt hn hm.at_ hm.fn ?_
 have r2 : Vals [V.ref a, y] [Value.ref a, u] := .cons rfl (.cons ry .nil)
 refine wpAny_mono (run_EA (ws := []) (zs := []) (sb.mono (by omega)) h3 (passAt takes0 σ) I r2 .nil rfl rfl fun us all rr so => q) (fun r s' hq => ?_) fun _ _ x => x
 obtain ⟨v, H', I', rv, t, e, q'⟩ := hq
 subst e
 cases rv
 have e2 : (false ^^ t) = t := by cases t <;> rfl
 rw [e2] at q'
 exact ⟨.bl t, H', I', rfl, q'⟩
theorem od_own {ns : List Str} {fs : List D} {neg : Bool} (io : IsO M x C ns fs) (oy : OtD C M y) (h : p [x, y] M (fun d M3 => ∃ t, d = .bl t ∧ Φ (.bl (neg ^^ t)) M3) noX) : OpD (rOwn C p neg) x y M Φ := fun κ δ σ H v w Q R rv rw' kk => by
 obtain ⟨a, dx, vs, rfl, e1, _, _⟩ := io.sq R rv
 refine ⟨⟨a, dx, _, rfl, e1⟩, oy.v R rw', ?_⟩
 have so : SelOk [Value.none, Value.none] (selN 2) [Value.none, Value.none] := .at rfl (.at rfl .nil)
 refine liftE_of (sel := selN 2) (vs := [.ref a, w]) (ds := [x, y]) so rfl R (.cons rv (.cons rw' .nil)) h (fun v d M' H' ⟨t, e, q⟩ R' r' => ?_) fun C ns es M' H' dx e R' x => e
 subst e
 cases r'
 exact ⟨t, rfl, kk _ _ _ _ q R' (.bl _)⟩
theorem de_eqO (z : Cz X m) (f : MethEX X k C "__eq__" 1 [] (selN 2) p) (hk : k + 1 ≤ m) (h : DE B X a δ M fun x M1 => DE B X b δ M1 fun y M2 => OpD (rOwn C p false) x y M2 Φ) : DE B X (.Compare a [.Eq] [b] pos) δ M Φ := de_cmp (op_ownEq z f hk) (nomark _) h
end
end Hl
namespace Hl
open PySem L2
open PyProof.Rows hiding St
section
variable {B : Bx} {X : Cx} {e a b c o : Expr} {es rest : List Expr} {δ δ' : Env'} {M M' : Mem} {Φ : D → Mem → Prop} {pos pos' apos cpos : Pos} {d x y : D} {ΦL : List D → Mem → Prop}
theorem de_pop0 (h : DE B X o δ M fun x M1 => (∃ ds, IsL M1 x ds) ∧ MtD X.K "list" rPop x [] M1 Φ)
   (hbase : attributeBase o "pop" X.env (eval o X.env) = eval o X.env := by rfl) (hline : (apos.endLine == cpos.line) = true := by rfl) :
   DE B X (.Call (.Attribute o "pop" apos) [] [] cpos) δ M Φ := de_bml0 PySem.F.slot_list_pop PySem.F.type_list_pop mt_pop h hbase hline
theorem de_max3 {n : Nat} (z : Cz X n) {p : Pos} (g : Gn X "max") (h : DA B X [a, b, c] δ M fun ds M1 => CallD (rNuC3 nuMax3) ds M1 Φ) (he : starEach [a, b, c] X.env = (false, eval a X.env) :: starEach [b, c] X.env := by rfl) (hpl : (backTo pos (starEach [b, c] X.env)).any (·.1) = false := by rfl) : DE B X (.Call (.Name "max" p) [a, b, c] [] pos) δ M Φ := de_blt (call_max3Nu z.calm) g boot_max h (by decide) (by decide) he hpl
theorem cd_max3 {i j l : Int} (k : Φ (.int (max (max i j) l)) M) : CallD (rNuC3 nuMax3) [.int i, .int j, .int l] M Φ := fun κ δ σ H vs Q R rs f => by
 cases rs with
 | cons r1 r2 =>
   cases r1
   cases r2 with
   | cons r2 r3 =>
     cases r2
     cases r3 with
     | cons r3 r4 =>
       cases r3
       cases r4
       refine ⟨_, _, _, .int (max (max i j) l), rfl, ?_, f _ _ _ _ k R (.int _)⟩
       have h2 : ∀ a b : Int, nuMax2 (.int a) (.int b) = some (.int (max a b)) := fun a b => by
         show some (if decide (a < b) = true then V.int b else V.int a) = _
         by_cases h : a < b
         · rw [if_pos (by simpa using h), Int.max_eq_right (by omega)]
         · rw [if_neg (by simpa using h), Int.max_eq_left (by omega)]
       unfold nuMax3
       rw [h2]
       exact h2 _ _
end
end Hl
namespace Hl
open PySem L2
open PyProof.Rows hiding St
section
variable {X : Cx} {pins : List (Addr × Obj)} {σ : St} {H : Hp} {s s' : Shared}
theorem ep_mk {Q : XK} {Q' : VK} {u : Value} (m : MkP X pins σ Q u s') (q : ∀ cls d H' a, Q cls d H' → H' a = none → Q' (.ref a) (upd H' a (XO cls d a))) : EP X pins σ Q' u s' := by
 obtain ⟨a, oe, vs, sI, H', cls, d, rfl, J, k, hne, ha, hz, hd, h1, na, os, ag, r, q0⟩ := m
 refine ⟨.ref a, upd H' a (XO cls d a), ?_, rfl, q _ _ _ _ q0 na⟩
 exact Inv.landedX (B := PySem.W.hideAll sI.heap (frs X.stack)) J (fun b o e hb => PySem.W.hideAll_get _ e hb) (fun b o e => k b o (PySem.W.of_hideAll _ e)) (Heap.UpToSlots.of_keeps k) os ag na hne (xo_ok ha hz hd)
end
section
variable {X : Cx} {B : Bx} {δ : Env'} {M : Mem} {Φ : D → Mem → Prop} {e : Expr} {es : List Expr} {kws : List Keyword} {pos pp : Pos} {m : Nat}
theorem de_ofMk {t : St → Hp → XK → Prop} (hm : PMk X e t) (h : ∀ κ σ H, (∀ q ∈ B.ps, q ∈ κ) → Rs κ δ M σ H → t σ H fun cls d H' => ∃ C ns ds M', cls = .ref C ∧ Rs κ δ M' σ H' ∧ XRep M'.F H' d ns ds ∧ Φ (.exn C ns ds) M') : DE B X e δ M Φ := by
 intro κ σ H Q hb R k
 unfold tE
 intro pins s I
 refine wpAny_mono (hm pins s σ H _ I (h κ σ H hb R)) (fun u s1 mk => ep_mk mk fun cls d H' a ⟨C, ns, ds, M', e1, R1, x1, q⟩ na => ?_) fun _ _ x => x
 subst e1
 exact k _ _ M' _ q (R1.new na) (x1.held (R1.fresh na) na)
theorem de_exn0 {C : Addr} {x : Str} (T : Ex0 X.K X.mg x C) (hg : Gl X x) (h : Φ (.exn C [] []) M) (hdb : (x == ("__debug__" : Str)) = false := by decide) : DE B X (.Call (.Name x pp) [] [] pos) δ M Φ :=
 de_ofMk (pmk_own0 T hg hdb) fun κ σ H hb R => ⟨C, [], [], M, rfl, R, .inl ⟨rfl, rfl, rfl⟩, h⟩
end
section
open PySem.W PySem.Calls PySem.HandSPX PyProof
variable {prog : Program} {w : World} {A : Around} {E : Value → Shared → Prop} {R : Result → Shared → Prop} {h : Heap} {g : Array GenState} {d : Drawn} {t : Nat} {os : OsState}
variable {nm q : Str} {C N : Addr} {bs bm bmB : List Value} {hdct : Bool} {sn : List Str} {sub : List Value} {ab : Bool} {col : Option Bool} {dd : Option Addr} {k0 k1 k2 k3 k5 : Option Value} {B newId initId : String} {kw : List (Str × Value)}
theorem check_newK {M : Model} (F : ExcBaseFacts B newId initId bmB) (hT : ∀ X : String, bm.contains (.type X) = bmB.contains (.type X)) {rest : List Value} {Q : Unit → Shared → Prop}
   (hC : h.get? C = some (excClassObj nm q C N bs bm hdct sn sub ab col dd k0 k1 k2 k3 k5 newId)) (hq : Q () ⟨h, g, d, t, os⟩) : wpAny M A (checkBuiltinCall newId ⟨.ref C :: rest, kw⟩) Q E ⟨h, g, d, t, os⟩ := by
 have hcont : (Value.ref C :: bm).contains (.type B) = true := by rw [List.contains_cons, hT, F.hasB, Bool.or_true]
 have hstar := F.noStar
 simp only [checkBuiltinCall, F.newKind, F.newSplit, F.newRow]
 repeat (first | refine wpAny_loadPart_at hC ?_ | (refine wpAny_isSubtype_exc hC ?_; rw [hcont]) | refine wpAny_staticBase_exc hC ?_ | refine wpAny_madeBy_exc hC ?_ | simp only [bne_self_eq_false, Bool.false_eq_true, if_false] | wp_step)
 exact hq
theorem newK (F : ExcBaseFacts B newId initId bmB) (hT : ∀ X : String, bm.contains (.type X) = bmB.contains (.type X)) {rest : List Value}
   (hC : h.get? C = some (excClassObj nm q C N bs bm hdct sn sub ab col dd k0 k1 k2 k3 k5 newId))
   (hq : R (.ok (.ret (.ref (h.objs.size + 1)))) ⟨(h.push { cls := .type "tuple", data := .seq rest.toArray }).push
     { cls := .ref C, data := .fields #[.ref h.objs.size, .none, .none, .none, .bool false, .none] }, g, d, t, os⟩) (hrest : rest.length ≤ sizeLine) :
   codeAny (model prog w) A (.builtin newId ⟨.ref C :: rest, kw⟩) R ⟨h, g, d, t, os⟩ := by
 have hends := F.ends
 have hcB : (Value.ref C :: bm).contains (.type B) = true := by rw [List.contains_cons, hT, F.hasB, Bool.or_true]
 have hcA : (Value.ref C :: bm).contains (.type "AttributeError") = false := by rw [List.contains_cons, hT, F.noAttr]; rfl
 have hcN : (Value.ref C :: bm).contains (.type "NameError") = false := by rw [List.contains_cons, hT, F.noName]; rfl
 refine codeAny_builtinAt F.entry ?_
 unfold Builtin.«BaseException.__new__»
 refine PySem.wpAt_bind ?_
 show PySem.wpAt _ _ _ (stack >>= _) _ _ _
 refine PySem.wpAt_bind (PySem.wpAt_stack fun p below => PySem.wpAt_of_wpAny ?_)
 wp_walk
 refine PySem.wpAt_of_wpAny ?_
 rw [F.owner]
 repeat (first | with_reducible refine wpAny_madeHere_exc F.canon hC ?_ | with_reducible refine wpAny_loadPart_at hC ?_ | (with_reducible refine wpAny_isSubtype_exc hC ?_; first | rw [hcB] | rw [hcA] | rw [hcN]) | wp_step)
 show R _ _
 rw [Heap.size_push]
 exact hq
theorem type_callK (F : ExcBaseFacts B newId initId bmB) (hT : ∀ X : String, bm.contains (.type X) = bmB.contains (.type X)) {rest : List Value} {fI : Addr} {Q : Fin → Shared → Prop}
   (hC : h.get? C = some (excClassObj nm q C N bs bm hdct sn sub ab col dd k0 k1 k2 k3 k5 newId))
   (hi : W.Looks (model prog w) h (typeLookup (.ref C) "__init__") (some (.ref fI))) (hb : ∀ self, W.Looks (model prog w) h (bindSpecial (.ref fI) self) (.ref fI, [self])) (hrest : rest.length ≤ sizeLine)
   (hq : codeAny (model prog w) A (.call (.ref fI) ⟨.ref (h.objs.size + 1) :: rest, kw⟩)
     (fun r s' => match r with | .ok (.ret v) => v = .none ∧ Q (.done (.ret (.ref (h.objs.size + 1)))) s' | .ok _ => False | .error e => E e s')
     ⟨(h.push (W.kdv_tup rest)).push (excO C h.objs.size), g, d, t, os⟩) :
   wpAny (model prog w) A (Builtin.«type.__call__» ⟨.ref C :: rest, kw⟩) Q E ⟨h, g, d, t, os⟩ := by
 repeat (first | with_reducible refine wpAny_loadPart_at hC ?_ | with_reducible refine wpAny_madeBy_exc hC ?_ | wp_step)
 refine codeAny_call_builtin_code (Code.quiet_builtin _ F.quiet) (check_newK F hT hC ?_)
 refine newK F hT hC ?_ hrest
 show wpAny _ _ _ _ _ _
 have k : ∀ b o, h.get? b = some o → ((h.push (W.kdv_tup rest)).push (excO C h.objs.size)).get? b = some o := fun b o e => Heap.get?_push_of_some _ (Heap.get?_push_of_some _ e)
 have hC₁ := k _ _ hC
 have hget : ((h.push (W.kdv_tup rest)).push (excO C h.objs.size)).get? (h.objs.size + 1) = some (excO C h.objs.size) := by heap_get
 have hcC : (Value.ref C :: bm).contains (.ref C) = true := by simp
 have i1 := hi.keeps k
 have b1 := (hb (.ref (h.objs.size + 1))).keeps k
 unfold isInstance
 repeat (first | with_reducible refine wpAny_loadPart_at hget ?_ | (with_reducible refine wpAny_isSubtype_exc hC₁ ?_; rw [hcC]) | wp_step)
 show wpAny _ _ (typeLookup (.ref C) _) _ _ _
 refine i1.at ?_
 refine wpAny_holding (wpAny_bind (b1.at ?_))
 refine wpAny_bind (wpAny_call (codeAny_mono hq fun r s' z => ?_))
 rcases r with e | (v | _ | _ | _) <;> first | exact z | exact z.elim | skip
 obtain ⟨rfl, z⟩ := z
 first
   | exact wpAny_pure (wpAny_pure z)
   | (wp_walk; exact z)
theorem check_tcK {M : Model} {rest : List Value} {Q : Unit → Shared → Prop} (hC : h.get? C = some (excClassObj nm q C N bs bm hdct sn sub ab col dd k0 k1 k2 k3 k5 newId))
   (hq : Q () ⟨h, g, d, t, os⟩) : wpAny M A (checkBuiltinCall "type.__call__" ⟨.ref C :: rest, kw⟩) Q E ⟨h, g, d, t, os⟩ := by
 have f3 := tc_sub
 have hT : (⟨h, g, d, t, os⟩ : Shared).TypeIs (.ref C) "type" := ⟨_, hC, rfl⟩
 simp only [checkBuiltinCall, tc_kind, tc_split]
 repeat (any_goals (first | assumption | with_reducible refine wpAny_loadPart_at hC ?_ | with_reducible refine wpAny_onRaise ?_ | with_reducible refine wpAny_map ?_ | wp_step))
theorem call_ownK (F : ExcBaseFacts B newId initId bmB) (hT : ∀ X : String, bm.contains (.type X) = bmB.contains (.type X)) {rest : List Value} {fI : Addr}
   (hC : h.get? C = some (excClassObj nm q C N bs bm hdct sn sub ab col dd k0 k1 k2 k3 k5 newId))
   (hi : W.Looks (model prog w) h (typeLookup (.ref C) "__init__") (some (.ref fI))) (hb : ∀ self, W.Looks (model prog w) h (bindSpecial (.ref fI) self) (.ref fI, [self])) (hrest : rest.length ≤ sizeLine)
   (hq : codeAny (model prog w) (A.under (.builtin "type.__call__" ⟨.ref C :: rest, kw⟩)) (.call (.ref fI) ⟨.ref (h.objs.size + 1) :: rest, kw⟩) (W.InitBack (h.objs.size + 1) R)
     ⟨(h.push (W.kdv_tup rest)).push (excO C h.objs.size), g, d, t, os⟩) :
   codeAny (model prog w) A (.call (.ref C) ⟨rest, kw⟩) R ⟨h, g, d, t, os⟩ := by
 have f1 := tc_lookup
 have f2 := tc_bind (.ref C)
 have hTy : (⟨h, g, d, t, os⟩ : Shared).TypeIs (.ref C) "type" := ⟨_, hC, rfl⟩
 refine codeAny_of_tree ?_
 show wpAny _ _ (callAny (.ref C) _) _ _ _
 repeat (any_goals (first | assumption | with_reducible refine wpAny_loadPart_at hC ?_ | wp_step))
 refine ⟨rfl, ?_⟩
 refine codeAny_call_builtin_at (Code.quiet_builtin _ (by decide +kernel)) entry_typeCall (check_tcK hC (type_callK F hT hC hi hb hrest ?_))
 refine codeAny_mono hq fun r s' z => ?_
 rcases r with e | (v | _ | _ | _) <;> exact z
end
structure ExN (P : Program) (w : World) (K : PySem.W.Frag) (mg : Str → Option Value) (base : Heap) (x : Str) (C : Addr) (ns : List Str) (n : Nat) (ks : List Str) (sel : Sel) : Prop where
 gC : mg x = some (.ref C)
 T : OexC K C
 ex : ∃ fI fd ps, PySem.W.findIn K (.ref C) "__init__" = some (some (.ref fI)) ∧ PySem.W.typeIn K (.ref fI) = some (.type "function") ∧ CallB K fd ps (n + 1) ks (.inl 0 :: sel) ∧ FnOk P w K mg base CX0 1 fI fd ps (spXI C ns)
section
open PySem.W PySem.Calls PySem.HandSPX
variable {X : Cx} {B : Bx} {δ : Env'} {M : Mem} {Φ : D → Mem → Prop} {e : Expr} {es : List Expr} {kws : List Keyword} {pos pp : Pos} {m : Nat}
theorem de_exnN {C : Addr} {x : Str} {n : Nat} {ns ks : List Str} {sel : Sel} (z : Cz X m) (hn : 2 ≤ m) (T : ExN X.prog X.w X.K X.mg X.base x C ns n ks sel) (hg : Gl X x)
   (h : DAK B X es kws δ M fun ds zs M' => ds.length = n ∧ n ≤ 1000 ∧ zs.length = ks.length ∧ sel.length = ns.length ∧ ∀ x, Φ (.exn C ns.reverse (selD sel (x :: (ds ++ zs))).reverse) M') (pl : PlA X pos es kws ks)
   (hdb : (x == ("__debug__" : Str)) = false := by decide) : DE B X (.Call (.Name x pp) es kws pos) δ M Φ := by
 obtain ⟨fI, fd, ps, iC, tI, cb, F1⟩ := T.ex
 obtain ⟨nm, q, N, bs, bm, sn, sub, ab, col, dd, k0, k1, k2, k3, k5, hC, hbm⟩ := T.T.cls
 intro κ σ H Q hb R kk
 unfold tE
 intro pins s I
 refine wpAny_Call_Name_kw (ld_glob I hg T.gC ?_ hdb)
 refine dak_run (first := []) T.T.kC pl h I hb R fun us ws s2 vs zs ds zd M2 H2 I2 rv rz ⟨l1, l0, l2, l3, q⟩ R2 r1 r2 => ?_
 show wpAny _ _ (call (.ref C) us (ks.zip ws)) _ _ _
 obtain ⟨hp, g, dr, tk, os⟩ := s2
 have hsz : hp.objs.size ≤ hp.objs.size + 1 := Nat.le_succ _
 have na : H2 (hp.objs.size + 1) = none := I2.hok.fresh hsz
 have k2 : ∀ b o, hp.get? b = some o → ((hp.push (PySem.W.kdv_tup us)).push (PySem.HandSPX.excO C hp.objs.size)).get? b = some o := fun b o e => Heap.get?_push_of_some _ (Heap.get?_push_of_some _ e)
 have hget : ((hp.push (PySem.W.kdv_tup us)).push (PySem.HandSPX.excO C hp.objs.size)).get? (hp.objs.size + 1) = some (PySem.HandSPX.excO C hp.objs.size) := by heap_get
 have I3 : Inv X pins σ (upd H2 (hp.objs.size + 1) (exo (hp.objs.size + 1) C none)) ⟨(hp.push (PySem.W.kdv_tup us)).push (PySem.HandSPX.excO C hp.objs.size), g, dr, tk, os⟩ :=
   I2.laid (t' := tk) (a := hp.objs.size + 1) (o := exo (hp.objs.size + 1) C none) (h' := (hp.push (PySem.W.kdv_tup us)).push (PySem.HandSPX.excO C hp.objs.size)) k2 hsz (exo_ok hget)
 obtain ⟨a, ea0⟩ : ∃ a, a = hp.objs.size + 1 := ⟨_, rfl⟩
 rw [← ea0] at hsz na hget I3
 obtain ⟨all, so, b⟩ := cb.to ⟨_, g, dr, tk, os⟩ (.ref a :: us) ws I3.kIn (by rw [List.length_cons, ← rv.length, r1.length, l1]) (by rw [← rz.length, r2.length, l2])
 have rr : Vals (V.ref a :: (vs ++ zs)) (Value.ref a :: (us ++ ws)) := .cons rfl (rv.append rz)
 have r3 := so.vals rr
 obtain ⟨u0, all', rfl, so'⟩ : ∃ u0 all', all = u0 :: all' ∧ SelOk (.ref a :: (us ++ ws)) sel all' := by cases so; exact ⟨_, _, rfl, by assumption⟩
 have hR3 : Rs κ δ M2 σ (upd H2 a (exo a C none)) := R2.new na
 let QX : XK := fun cls d H' => ∃ C' ns' ds' M', cls = .ref C' ∧ Rs κ δ M' σ H' ∧ XRep M'.F H' d ns' ds' ∧ Φ (.exn C' ns' ds') M'
 have hl3 : (selV sel (V.ref a :: (vs ++ zs))).length = ns.length := by rw [← l3]; exact List.length_map ..
 have rp : Reps M2.F H2 (selV sel (V.ref a :: (vs ++ zs))) (selD sel (.raw (.ref a) :: (ds ++ zd))) :=
   SelOk.reps (us := .ref a :: (us ++ ws)) rr.length (.cons (.raw _) (r1.append r2)) so'
 have hq : spXI C ns (selV (.inl 0 :: sel) (V.ref a :: (vs ++ zs))) (upd H2 a (exo a C none)) (fun v H' => v = .non ∧ ∃ (d : Addr) (fs : List (Str × V)), H' a = some (exo a C (some d)) ∧ H' d = some (exd d fs) ∧ H2 d = none ∧ QX (.ref C) (some d) (upd (del H' a) d (.xd fs))) (fun _ _ _ => False) := by
   refine ⟨a, selV sel (V.ref a :: (vs ++ zs)), rfl, hl3, upd_same, fun dx H' n1 n2 e1 e2 e3 => ?_⟩
   have ndx : H2 dx = none := by rw [upd_ne n2] at n1; exact n1
   refine ⟨rfl, dx, _, e1, e2, ndx, ?_⟩
   have eq : upd (del H' a) dx (.xd (ns.reverse.zip (selV sel (V.ref a :: (vs ++ zs))).reverse)) = upd H2 dx (.xd (ns.reverse.zip (selV sel (V.ref a :: (vs ++ zs))).reverse)) := by
     funext b
     by_cases hb : b = dx
     · subst hb; rw [upd_same, upd_same]
     · rw [upd_ne hb, upd_ne hb]
       by_cases ha : b = a
       · subst ha; rw [del_same, na]
       · rw [del_ne ha, e3 b ha hb, upd_ne ha]
   rw [eq]
   exact ⟨C, ns.reverse, _, M2, rfl, R2.new ndx, .inr ⟨dx, _, rfl, R2.fresh ndx, upd_same, by rw [List.length_reverse, List.length_reverse, hl3], (Reps.reverse rp).fwd (Fwd.new ndx)⟩, q _⟩
 have hus : us.length ≤ sizeLine := by
   rw [← rv.length, r1.length, l1, sizeLine_eq]
   omega
 subst ea0
 refine wpAny_call (call_ownK F.excBase_ValueError (fun Y => PySem.HandSPX.refsVE_contains Y bm hbm) (I2.kIn _ _ hC) (PySem.W.looks_findIn I2.kIn iC) (fun self => PySem.W.bind_fn I2.kIn self tI) hus
   (codeAny_mono (F1.run _ X.stack _ _ ⟨Value.ref (hp.objs.size + 1) :: us, ks.zip ws⟩ _ _ _ (fun _ _ _ => False) ((z.room.mono hn).make C us (ks.zip ws)) (I3.env0.make C us (ks.zip ws)) b r3 hq) fun r s' hq' => ?_))
 cases r with
 | error er => exact hq'.elim
 | ok fl =>
   cases fl with
   | ret u =>
     obtain ⟨v, H3, os2, bare2, un2, hok2, rv', ev, d, fs, ea, ed, hd1, q2⟩ := hq'
     subst ev
     obtain ⟨h2, g2, d2, t2, os'⟩ := s'
     refine ⟨rv', ep_mk (mk_end (raises_own T.T.exC T.T.tyC) I2 (Nat.le_succ _) k2 un2 hok2 os2 bare2 ea ed hd1 q2) fun cls d' H' a' ⟨C', ns', ds', M', e1, R1', x1, q'⟩ na' => ?_⟩
     subst e1
     exact kk _ _ M' _ q' (R1'.new na') (x1.held (R1'.fresh na') na')
   | next => exact False.elim hq'
   | brk => exact False.elim hq'
   | cont => exact False.elim hq'
@[irreducible] def XnP (C : Addr) (ns : List Str) (sel : Sel) (n m : Nat) (Φ : D → Mem → Prop) (ds zs : List D) (M : Mem) : Prop := ds.length = n ∧ zs.length = m ∧ ∀ x, Φ (.exn C ns.reverse (selD sel (x :: (ds ++ zs))).reverse) M
theorem XnP.out {C : Addr} {ns : List Str} {sel : Sel} {n k : Nat} {ds zs : List D} (h : XnP C ns sel n k Φ ds zs M) : ds.length = n ∧ zs.length = k ∧ ∀ x, Φ (.exn C ns.reverse (selD sel (x :: (ds ++ zs))).reverse) M := by unfold XnP at h; exact h
theorem XnP.of {C : Addr} {ns : List Str} {sel : Sel} {n k : Nat} {ds zs : List D} (h : ds.length = n ∧ zs.length = k ∧ ∀ x, Φ (.exn C ns.reverse (selD sel (x :: (ds ++ zs))).reverse) M) : XnP C ns sel n k Φ ds zs M := by unfold XnP; exact h
theorem de_exnS {C : Addr} {x : Str} {ns : List Str} {sel : Sel} (z : Cz X m) (T : ExN X.prog X.w X.K X.mg X.base x C ns es.length (kwN kws) sel) (hn : 2 ≤ m) (h0 : es.length ≤ 1000) (h1 : sel.length = ns.length) (hg : Gl X x)
   (h : DAK B X es kws δ M fun ds zs M' => XnP C ns sel es.length (kwN kws).length Φ ds zs M') (pl : PlA X pos es kws (kwN kws))
   (hdb : (x == ("__debug__" : Str)) = false := by decide) : DE B X (.Call (.Name x pp) es kws pos) δ M Φ := by
 refine de_exnN z hn T hg ?_ pl hdb
 cases es <;> cases kws
 · have h := XnP.out h
   exact ⟨h.1, by simp, h.2.1, h1, h.2.2⟩
 · exact fun κ σ H Q hb R k => h κ σ H Q hb R fun vs ds M' H' q => k vs ds M' H' ⟨(XnP.out q).1, h0, (XnP.out q).2.1, h1, (XnP.out q).2.2⟩
 · exact fun κ σ H Q hb R k => h κ σ H Q hb R fun vs ds M' H' q => k vs ds M' H' ⟨(XnP.out q).1, h0, (XnP.out q).2.1, h1, (XnP.out q).2.2⟩
 · exact fun κ σ H Q hb R k => h κ σ H Q hb R fun vs ds M' H' q => k vs ds M' H' fun κ2 σ2 H2 Q2 hb2 R2 k2 => q κ2 σ2 H2 Q2 hb2 R2 fun vs2 ds2 M2 H2' q2 => k2 vs2 ds2 M2 H2' ⟨(XnP.out q2).1, h0, (XnP.out q2).2.1, h1, (XnP.out q2).2.2⟩
theorem xn_10 {C : Addr} {f : Str} {d : D} (h : Φ (.exn C [f] [d]) M) : XnP C [f] [.inl 1] 1 0 Φ [d] [] M := .of ⟨rfl, rfl, fun _ => h⟩
theorem xn_01 {C : Addr} {f : Str} {d : D} (h : Φ (.exn C [f] [d]) M) : XnP C [f] [.inl 1] 0 1 Φ [] [d] M := .of ⟨rfl, rfl, fun _ => h⟩
theorem xn_02 {C : Addr} {f g : Str} {d e : D} (h : Φ (.exn C [g, f] [d, e]) M) : XnP C [f, g] [.inl 2, .inl 1] 0 2 Φ [] [d, e] M := .of ⟨rfl, rfl, fun _ => h⟩
theorem xn_04 {C : Addr} {f g i j : Str} {d e a b : D} (h : Φ (.exn C [j, i, g, f] [e, d, b, a]) M) : XnP C [f, g, i, j] [.inl 3, .inl 4, .inl 1, .inl 2] 0 4 Φ [] [d, e, a, b] M := .of ⟨rfl, rfl, fun _ => h⟩
theorem idXn {C : Addr} {ns : List Str} {sel : Sel} {n k : Nat} {ds zs : List D} (h : XnP C ns sel n k Φ ds zs M) : XnP C ns sel n k Φ ds zs M := h
end
end Hl
namespace Hl
open PySem L2
open PyProof.Rows hiding St
end Hl
namespace Hl
open PySem L2
open PyProof.Rows hiding St
section
variable {B : Bx} {X : Cx} {e a b c o : Expr} {es rest : List Expr} {δ δ' : Env'} {M : Mem} {Φ : D → Mem → Prop} {Ψ : DEnds} {pos pos' : Pos} {d x y : D}
def FmD (x : D) (M : Mem) (Φ : D → Mem → Prop) : Prop := (∃ y : Str, x = .str y ∧ y.length ≤ sizeLine ∧ Φ (.str y) M) ∨ ∃ i : Int, x = .int i ∧ i.natAbs.log2 < 1920 ∧ Φ (.str (toString i)) M
theorem fm_s {z : Str} (h : z.length ≤ sizeLine) (k : Φ (.str z) M) : FmD (.str z) M Φ := .inl ⟨z, rfl, h, k⟩
theorem fm_i {i : Int} (h : i.natAbs.log2 < 1920) (k : Φ (.str (toString i)) M) : FmD (.int i) M Φ := .inr ⟨i, rfl, h, k⟩
theorem de_fmt (h : DE B X e δ M fun x M' => FmD x M' Φ) : DE B X (.FormattedValue e (-1) none pos) δ M Φ := DE.of (pe_fmt cE) fun κ σ H Q hb R k => h κ σ H _ hb R fun v x M1 H1 q R1 r1 => by
 rcases q with ⟨z, rfl, hz, q⟩ | ⟨i, rfl, hz, q⟩
 · cases r1
   exact .inl ⟨z, rfl, hz, k _ _ M1 _ q R1 (.str _)⟩
 · cases r1
   exact .inr ⟨i, rfl, hz, k _ _ M1 _ q R1 (.str _)⟩
@[irreducible] def JnD (x : D) (acc : Str) (Φ : Str → Prop) : Prop := ∃ z : Str, x = .str z ∧ (acc ++ z).length ≤ sizeLine ∧ Φ (acc ++ z)
theorem jn_mk {z acc : Str} {Φ : Str → Prop} (h : (acc ++ z).length ≤ sizeLine) (k : Φ (acc ++ z)) : JnD (.str z) acc Φ := by unfold JnD; exact ⟨z, rfl, h, k⟩
theorem JnD.out {acc : Str} {Φ : Str → Prop} (h : JnD x acc Φ) : ∃ z : Str, x = .str z ∧ (acc ++ z).length ≤ sizeLine ∧ Φ (acc ++ z) := by unfold JnD at h; exact h
def DJr (B : Bx) (X : Cx) (δ : Env') (Φ : Str → Mem → Prop) : List Expr → Str → Mem → Prop
 | [], acc, M => Φ acc M
 | e :: es, acc, M => DE B X e δ M fun x M' => JnD x acc fun out => DJr B X δ Φ es out M'
@[irreducible] def DJ (B : Bx) (X : Cx) (δ : Env') (Φ : Str → Mem → Prop) (es : List Expr) (acc : Str) (M : Mem) : Prop := DJr B X δ Φ es acc M
theorem DJ_eq : @DJ = @DJr := by
 funext B X δ Φ es acc M
 unfold DJ
 rfl
theorem dj_nil {Φ : Str → Mem → Prop} {acc : Str} (h : Φ acc M) : DJ B X δ Φ [] acc M := by rw [DJ_eq] at *; exact h
theorem dj_cons {Φ : Str → Mem → Prop} {acc : Str} (h : DE B X e δ M fun x M' => JnD x acc fun out => DJ B X δ Φ es out M') : DJ B X δ Φ (e :: es) acc M := by rw [DJ_eq] at *; exact h
theorem pj_c : ∀ es : List Expr, PJ X es (es.map fun e => tE X e)
 | [] => .nil
 | e :: es => .cons cE (pj_c es)
theorem dj_run {Φ : Str → Mem → Prop} {κ : List (V × D)} {σ : St} (hb : ∀ q ∈ B.ps, q ∈ κ) : ∀ (es : List Expr) (acc : Str) (M : Mem) (H : Hp) (Q : Str → Hp → Prop), DJ B X δ Φ es acc M → Rs κ δ M σ H → (∀ out M1 H1, Φ out M1 → Rs κ δ M1 σ H1 → Q out H1) → tJs (es.map fun e => tE X e) acc σ H Q
 | [], acc, M, H, Q, h, R, k => by rw [DJ_eq] at h; exact k _ _ _ h R
 | e :: es, acc, M, H, Q, h, R, k => by
   rw [DJ_eq] at h
   refine h κ σ H _ hb R fun v x M1 H1 jq R1 r1 => ?_
   obtain ⟨z, ex, hz, q⟩ := JnD.out jq
   subst ex
   cases r1
   exact ⟨z, rfl, hz, dj_run hb es _ M1 H1 Q (by rw [DJ_eq]; exact q) R1 k⟩
theorem de_joined {v1 v2 : Expr} (h : DJ B X δ (fun out M' => Φ (.str out) M') (v1 :: v2 :: rest) Str.empty M) : DE B X (.JoinedStr (v1 :: v2 :: rest) pos) δ M Φ := DE.of (pe_joined (pj_c _)) fun κ σ H Q hb R k => dj_run hb _ _ M H _ h R fun out M1 H1 q R1 => k _ _ M1 H1 q R1 (.str _)
theorem de_joined1 (h : DE B X e δ M Φ) : DE B X (.JoinedStr [e] pos) δ M Φ := DE.of (pe_joined1 cE) h
end
end Hl
namespace Hl
open PySem L2
open PyProof.Rows hiding St
section
variable {B : Bx} {X : Cx} {C : Addr} {p : DSpE} {m k : Nat} {a e : Expr} {es : List Expr} {δ : Env'} {M : Mem} {Φ : D → Mem → Prop} {pos p' : Pos} {x : D}
def rTxt (C : Addr) (p : DSpE) : List V → Hp → VK → Prop := fun xs H Q => ∃ a dx fs, xs = [.ref a] ∧ H a = some (.ins C dx fs) ∧ liftE p [.ref a] H (fun v H' => ∃ z, v = .str z ∧ Q (.str z) H') fun _ _ _ => False
theorem cd_txt {ns : List Str} {fs : List D} (io : IsO M x C ns fs) (h : p [x] M (fun d M3 => ∃ z, d = .str z ∧ Φ (.str z) M3) noX) : CallD (rTxt C p) [x] M Φ := fun κ δ σ H vs Q R rs kk => by
 cases rs with
 | cons rv rn =>
 cases rn
 obtain ⟨a, dx, vs, rfl, e1, _, _⟩ := io.sq R rv
 refine ⟨a, dx, _, rfl, e1, ?_⟩
 have so : SelOk [Value.none] (selN 1) [Value.none] := .at rfl .nil
 refine liftE_of (sel := selN 1) (vs := [.ref a]) (ds := [x]) so rfl R (.cons rv .nil) h (fun v d M' H' ⟨t, e, q⟩ R' r' => ?_) fun C ns es M' H' dx e R' x => e
 subst e
 cases r'
 exact ⟨t, rfl, kk _ _ _ _ q R' (.str _)⟩
def rStrI : List V → Hp → VK → Prop := fun xs H Q => ∃ i, xs = [.int i] ∧ i.natAbs.log2 < 1920 ∧ Q (.str (toString i)) H
theorem cd_strI {i : Int} (hi : i.natAbs.log2 < 1920) (k : Φ (.str (toString i)) M) : CallD rStrI [.int i] M Φ := fun κ δ σ H vs Q R rs kk => by
 cases rs with
 | cons rv rn =>
 cases rn
 cases rv
 exact ⟨i, rfl, hi, kk _ _ _ _ k R (.str _)⟩
theorem de_strI {p' : Pos} (g : Gn X "str") (h : DA B X [a] δ M fun ds M1 => CallD rStrI ds M1 Φ)
   (he : starEach [a] X.env = (false, eval a X.env) :: starEach [] X.env := by rfl) (hpl : (backTo pos (starEach [] X.env)).any (·.1) = false := by rfl) : DE B X (.Call (.Name "str" p') [a] [] pos) δ M Φ := de_ty call_str_int g PySem.Pv.boot_str h (by decide) (by decide) he hpl
end
end Hl
namespace Hl
open PySem L2
open PyProof.Rows hiding St
theorem str_ext {a b : Str} (h : a.cps.toList = b.cps.toList) : a = b := by
 cases a; cases b
 congr 1
 exact Array.toList_inj.mp h
theorem str_app (a b : Str) : (a ++ b).cps.toList = a.cps.toList ++ b.cps.toList := by
 show (a.cps ++ b.cps).toList = _
 rw [Array.toList_append]
theorem str_nil_add (a : Str) : Str.empty ++ a = a := str_ext (by rw [str_app]; rfl)
theorem join3 (z a b c : Str) : Txt.join z [a, b, c] = a ++ z ++ b ++ z ++ c := str_ext (by
 rw [join_signs]
 show TL.joinL z.cps.toList [a.cps.toList, b.cps.toList, c.cps.toList] = _
 simp only [TL.joinL, str_app, List.append_assoc])
section
variable {B : Bx} {X : Cx} {e a b c o : Expr} {es rest : List Expr} {δ δ' : Env'} {M : Mem} {Φ : D → Mem → Prop} {Ψ : DEnds} {pos pos' tpos : Pos} {d x y : D}
theorem od_eqTI {K : PySem.W.Frag} (ns ms : List Int) (k : Φ (.bl (decide (ns = ms))) M) : OpD (rEqU K) (.tup (ns.map .int)) (.tup (ms.map .int)) M Φ := od_eqD (.val _) (.val _) (okE_ints ns) (okE_ints ms) (by
 rw [show PyData.eqv (toPy (.tup (ns.map .int))) (toPy (.tup (ms.map .int))) = decide (ns = ms) from eqv_ints ns ms]; exact k)
theorem od_eq3 {K : PySem.W.Frag} {a b c a' b' c' : Int} (k : Φ (.bl (decide ([a, b, c] = [a', b', c']))) M) : OpD (rEqU K) (.tup [.int a, .int b, .int c]) (.tup [.int a', .int b', .int c']) M Φ := od_eqTI [a, b, c] [a', b', c'] k
end
end Hl
namespace Hl
open PySem L2
open PyProof.Rows hiding St
structure FmtC (K : PySem.W.Frag) (C : Addr) : Prop where
 fm : PySem.W.findIn K (.ref C) "__format__" = some (some (.builtin "object.__format__"))
 ob : PySem.W.mroIn K C (.type "object") = some true
theorem Bk.fmtC {X X' : Cx} {scope : Scope} {C : Addr} (h : Bk X X' scope) (d : FmtC X.K C) : FmtC X'.K C := by
 have e : X'.K = X.K := h.K
 rw [e]; exact d
section
variable {B : Bx} {X : Cx} {C : Addr} {p : DSpE} {m k : Nat} {a e : Expr} {es : List Expr} {δ : Env'} {M : Mem} {Φ : D → Mem → Prop} {pos p' : Pos} {x : D}
def tFmtO (C : Addr) (p : DSpE) (te : TE) : TE := fun σ H Q => te σ H fun x H1 => rTxt C p [x] H1 Q
theorem pe_fmtO {te : TE} (z : Cz X m) (c : FmtC X.K C) (f : MethEX X k C "__str__" 0 [] (selN 1) p) (hk : k + 1 ≤ m) (he : PE X e te) : PE X (.FormattedValue e (-1) none pos) (tFmtO C p te) := by
 refine ⟨fun pins s σ H Q I h => ?_⟩
 refine wpAny_FormattedValue_plain (thn (he.run pins s σ H _ I h) fun v s1 hv => ?_)
 obtain ⟨x, H1, I1, r1, q⟩ := hv
 obtain ⟨a, dx, fs, ex, ha, q⟩ := q
 obtain rfl : x = .ref a := by simpa using ex
 cases r1
 obtain ⟨fa, cc, hm, h3⟩ := f.ex
 obtain ⟨mA, J, _⟩ := ins_get I1.hok ha
 obtain ⟨od, J, _⟩ := J.look
 have sb : Sub X m X.A := ⟨z.room, rfl⟩
 have hu : X.A.in1.units < cLine := (z.room.mono hk).in1.units0
 refine PySem.W.kfo_fieldS hu I1.kIn J c.fm c.ob hm.at_ hm.fn ?_
 have r2 : Vals [V.ref a] [Value.ref a] := .cons rfl .nil
 refine wpAny_mono (run_EA (ws := []) (zs := []) ((sb.mono hk).in1) h3 (passAt takes0 σ) (I1.tok _) r2 .nil rfl rfl fun us all rr so => q) (fun r s' hq => ?_) fun _ _ x => x
 obtain ⟨v, H', I', rv, t, e, q'⟩ := hq
 subst e
 obtain ⟨tk, rfl⟩ := rv
 exact ⟨.str t, H', I', ⟨tk, rfl⟩, q'⟩
theorem de_fmtO (z : Cz X m) (c : FmtC X.K C) (f : MethEX X k C "__str__" 0 [] (selN 1) p) (hk : k + 1 ≤ m) (h : DE B X e δ M fun x M' => CallD (rTxt C p) [x] M' Φ) : DE B X (.FormattedValue e (-1) none pos) δ M Φ :=
 DE.of (pe_fmtO z c f hk cE) fun κ σ H Q hb R kk => h κ σ H _ hb R fun v x M1 H1 q R1 r1 => q κ δ σ H1 [v] Q R1 (.cons r1 .nil) kk
theorem dg_lst {ds : List D} {kk m n : Nat} {Φ : Env' → Mem → Prop} (z : Cz X n) (hl : ds.length = m) (h : DGs B X es ds δ M Φ) (hn : (assignEach es X.env).length = m := by rfl) (hst : (assignEach es X.env).findIdx? (·.1) = none := by rfl) : DG B X (.Tuple es kk pos) (.lst ds) δ M Φ :=
 .of (pg_unl z.calm cGs hn hst) fun κ σ H v Q hb R r k => by
   cases r with
   | lst h1 e1 r1 => exact ⟨_, _, rfl, SqL.of e1, by rw [r1.length]; exact hl, h κ σ H _ Q hb R r1 k⟩
theorem Vw.upO {q : Addr} {es ds ds' : List D} {ns : List Str} (j : Nat) (e : M[j]? = some (q, .lst es)) (hu : Ups q es ds ds') : Vw (.obj C ns ds) M (.obj C ns ds') (M.eraseIdx j) := fun _ _ _ H _ R r => by
 obtain ⟨R2, r2⟩ := R.frz e
 have kf : Fwd M.F H (Mem.F (M.eraseIdx j)) H := Fwd.less fun x hx => (F_sub erase_sub).subset hx
 refine ⟨R2, ?_⟩
 cases r with
 | obj h e1 l1 rs => exact .obj (kf _ _ h e1 (fun _ z => nomatch z)).1 e1 l1 (Reps.ups kf r2 hu rs)
end
end Hl
namespace Hl
open PySem L2
open PyProof.Rows hiding St
structure FunV (P : Program) (w : World) (K : PySem.W.Frag) (mg : Str → Option Value) (base : Heap) (k : Nat) (fa : Addr) (n : Nat) (ks : List Str) (sel : Sel) (p : DSpE) : Prop where
 kp : PySem.W.keepIn K (.ref fa) = true
 fn : FnD P w K mg base k fa n ks sel p
abbrev FunVX (X : Cx) := FunV X.prog X.w X.K X.mg X.base
theorem Bk.funV {X X' : Cx} {scope : Scope} {k n : Nat} {fa : Addr} {ks : List Str} {sel : Sel} {p : DSpE} (h : Bk X X' scope) (d : FunVX X k fa n ks sel p) : FunVX X' k fa n ks sel p := by unfold FunVX; rw [h.prog, h.wd, h.K, h.mg, h.base]; exact d
section
variable {B : Bx} {X : Cx} {es : List Expr} {kws : List Keyword} {δ : Env'} {M : Mem} {Φ : D → Mem → Prop} {pos pp : Pos} {k n m i : Nat} {x : Str} {ks : List Str} {sel : Sel} {p : DSpE} {Ξ : XPost} {fa : Addr}
theorem de_callL (z : Cz X m) (l : Nm X i x) (hd : δ[i]? = some (some (.raw (.ref fa)))) (f : FunVX X k fa n ks sel p) (hk : k ≤ m) (lt : Lets X B δ Ξ)
   (h : DAK B X es kws δ M fun ds zs M' => ds.length = n ∧ zs.length = ks.length ∧ p (selD sel (ds ++ zs)) M' Φ Ξ) (pl : PlA X pos es kws ks) : DE B X (.Call (.Name x pp) es kws pos) δ M Φ := by
 obtain ⟨h2, h3⟩ := f
 obtain ⟨W, tk, hx⟩ := lt
 intro κ σ H Q hb R kk
 unfold tE
 intro pins s I
 obtain ⟨v, ev, rv⟩ := R.get hd
 cases rv
 refine wpAny_Call_Name_kw (thn ((pe_var (pos := pp) l.at_ l.vis l.dbg l.cdc).run pins s σ H (fun v H1 => v = .ref fa ∧ H1 = H) I ⟨.ref fa, ev, rfl, rfl⟩) fun u s1 hv => ?_)
 obtain ⟨v, H1, I1, r1, e1, e2⟩ := hv
 subst e1
 rw [e2] at I1
 cases r1
 refine dak_run (first := []) h2 pl h I1 hb R fun us ws s2 vs zs ds es M2 H2 I2 rv rz q2 R2 r1 r2 => ?_
 obtain ⟨l1, l2, q⟩ := q2
 refine run_E h3 (z.room.mono hk) (passAt tk σ) I2 rv rz (by rw [r1.length]; exact l1) (by rw [r2.length]; exact l2) fun us' all rr so => ?_
 exact liftE_of so rr.length R2 (r1.append r2) q kk fun C ns es M' H' dx e R' x => hx κ σ C ns es M' H' dx hb e R' x
end
end Hl
namespace Hl
open PySem L2
open PyProof.Rows hiding St
section
variable {B : Bx} {X : Cx} {a e o : Expr} {δ : Env'} {M : Mem} {Φ : D → Mem → Prop} {ΦL : List D → Mem → Prop} {pos apos p' : Pos}
def rIntS : List V → Hp → VK → Prop := fun xs H Q => ∃ a n, xs = [.str a] ∧ PySem.intText? a = some n ∧ a.length ≤ 640 ∧ Q (.int n) H
theorem cd_intS {z : Str} {n : Int} (h : PySem.intText? z = some n) (hl : z.length ≤ 640) (k : Φ (.int n) M) : CallD rIntS [.str z] M Φ := fun κ δ σ H vs Q R rs kk => by
 cases rs with
 | cons rv rn =>
 cases rn
 cases rv
 exact ⟨z, n, rfl, h, hl, kk _ _ _ _ k R (.int _)⟩
theorem de_intS {p' : Pos} (g : Gn X "int") (h : DA B X [a] δ M fun ds M1 => CallD rIntS ds M1 Φ)
   (he : starEach [a] X.env = (false, eval a X.env) :: starEach [] X.env := by rfl) (hpl : (backTo pos (starEach [] X.env)).any (·.1) = false := by rfl) : DE B X (.Call (.Name "int" p') [a] [] pos) δ M Φ := de_ty call_int_str g boot_int h (by decide) (by decide) he hpl
theorem reps_of_strs {F : List Addr} {H : Hp} : ∀ ys : List Str, Reps F H (ys.map V.str) (ys.map D.str)
 | [] => .nil
 | _ :: ys => .cons (.str _) (reps_of_strs ys)
theorem df_split (h : DE B X o δ M fun x M1 => ∃ z, x = .str z ∧ DE B X e δ M1 fun y M2 => ∃ b : Str, y = .str b ∧ (b.length == 0) = false ∧ z.length + 2 ≤ sizeLine ∧ ΦL ((Txt.split z b).map .str) M2)
   (hs : starEach [e] X.env = [(false, eval e X.env)] := by rfl) (hbase : attributeBase o "split" X.env (eval o X.env) = eval o X.env := by rfl) (hline : (apos.endLine == pos.line) = true := by rfl) : DF B X (.Call (.Attribute o "split" apos) [e] [] pos) δ M ΦL :=
 .of (pe_split cE cE hs hbase hline) fun κ σ H Q hb R k => h κ σ H _ hb R fun v x M1 H1 ⟨z, ez, q1⟩ R1 r1 => by
   subst ez
   cases r1
   refine ⟨⟨z, rfl⟩, q1 κ σ H1 _ hb R1 fun vy y M2 H2 q2 R2 r2 => ?_⟩
   obtain ⟨b, eb, hb0, hl, q⟩ := q2
   subst eb
   cases r2
   exact ⟨z, b, rfl, rfl, hb0, hl, fun p hp => k p _ M2 _ q (R2.lst (reps_of_strs _) hp)⟩
def optI : Option Int → D
 | none => .non
 | some i => .int i
def optV : Option Int → V
 | none => .non
 | some i => .int i
theorem reps_opts {F : List Addr} {H : Hp} : ∀ {vs : List V} {os : List (Option Int)}, Reps F H vs (os.map optI) → vs = os.map optV
 | _, [], h => by cases h; rfl
 | _, o :: os, h => by
   cases h with
   | cons r1 r2 =>
     rw [reps_opts r2]
     cases o with
     | none => cases r1; rfl
     | some i => cases r1; rfl
theorem flat_opts : ∀ os : List (Option Int), (os.map optV).all flatV = true
 | [] => rfl
 | none :: os => flat_opts os
 | some _ :: os => flat_opts os
theorem inV_opts : ∀ os : List (Option Int), inV .non (os.map optV) = decide (none ∈ os)
 | [] => by simp [inV]
 | none :: os => by
   unfold inV
   rw [List.map_cons, List.any_cons]
   show (true || _) = _
   simp
 | some i :: os => by
   have ih := inV_opts os
   unfold inV at ih ⊢
   rw [List.map_cons, List.any_cons, ih]
   show (false || _) = _
   simp
theorem od_inNone {K : PySem.W.Frag} {y : D} {os : List (Option Int)} (h : IsL M y (os.map optI)) (k : Φ (.bl (decide (none ∈ os))) M) : OpD (rInU K) .non y M Φ := .inr (OpD.inl (fun κ δ σ H v w Q R rv rw' f => by
 cases rv
 obtain ⟨p, us, rfl, e1, rr⟩ := h.sq R rw'
 have := reps_opts rr
 subst this
 refine ⟨p, _, rfl, .inl (SqL.of e1), rfl, flat_opts os, ?_⟩
 show Q (.bl (inV _ _)) H
 rw [inV_opts]
 exact f _ _ M H k R (.bl _)))
end
end Hl
namespace Hl
open PySem L2
open PyProof.Rows hiding St
def ixs2 (a n : Nat) : List Nat := sliceRange ((min a n : Nat) : Int) (n : Int) 2
def step2 {α : Type} (a : Nat) (xs : List α) : List α := (ixs2 a xs.length).filterMap (xs[·]?)
theorem bounds2 (a n : Nat) : sliceBounds (some (a : Int)) none (some 2) n = (((min a n : Nat) : Int), (n : Int), 2) := by
 have h : ¬ ((a : Int) < 0) := by omega
 show ((max 0 (min (if (a : Int) < 0 then (a : Int) + n else (a : Int)) (n : Int)) : Int), (n : Int), (2 : Int)) = _
 rw [if_neg h]
 congr 1
 omega
theorem vals_pick {xs : List V} {its : List Value} (r : Vals xs its) : ∀ ix : List Nat, Vals (ix.filterMap (xs[·]?)) (ix.filterMap (its[·]?))
 | [] => .nil
 | i :: ix => by
   have hl := r.length
   by_cases h : i < xs.length
   · obtain ⟨u, hu, ru⟩ := r.get (List.getElem?_eq_getElem h)
     rw [List.filterMap_cons_some (List.getElem?_eq_getElem h), List.filterMap_cons_some hu]
     exact .cons ru (vals_pick r ix)
   · rw [List.filterMap_cons_none (List.getElem?_eq_none (by omega)), List.filterMap_cons_none (List.getElem?_eq_none (by omega))]
     exact vals_pick r ix
theorem reps_pick {F : List Addr} {H : Hp} : ∀ {vs : List V} {ds : List D}, Reps F H vs ds → ∀ i : Nat, (vs[i]? = none ∧ ds[i]? = none) ∨ ∃ v d, vs[i]? = some v ∧ ds[i]? = some d ∧ Rep F H v d
 | _, _, .nil, i => .inl ⟨by simp, by simp⟩
 | _, _, .cons r rs, 0 => .inr ⟨_, _, rfl, rfl, r⟩
 | _, _, .cons r rs, i + 1 => by
   simpa using reps_pick rs i
theorem reps_picks {F : List Addr} {H : Hp} {vs : List V} {ds : List D} (r : Reps F H vs ds) : ∀ ix : List Nat, Reps F H (ix.filterMap (vs[·]?)) (ix.filterMap (ds[·]?))
 | [] => .nil
 | i :: ix => by
   rcases reps_pick r i with ⟨h1, h2⟩ | ⟨v, d, h1, h2, h3⟩
   · rw [List.filterMap_cons_none h1, List.filterMap_cons_none h2]
     exact reps_picks r ix
   · rw [List.filterMap_cons_some h1, List.filterMap_cons_some h2]
     exact .cons h3 (reps_picks r ix)
def tStep2 (K : PySem.W.Frag) (a : Nat) (te : TE) : TE := fun σ H Q => te σ H fun x H1 => ∃ p xs, x = .ref p ∧ SqL K H1 p xs ∧ ∀ l, H1 l = none → Q (.ref l) (upd H1 l (.lst (step2 a xs)))
section
variable {B : Bx} {X : Cx} {e o : Expr} {δ : Env'} {M : Mem} {Φ : D → Mem → Prop} {ΦL : List D → Mem → Prop} {pos : Pos}
theorem pick_len {α : Type} (xs : List α) : ∀ ix : List Nat, (ix.filterMap (xs[·]?)).length ≤ ix.length := fun ix => List.length_filterMap_le _ _
theorem ixs2_len (a n : Nat) : (ixs2 a n).length ≤ n := by
 unfold ixs2 sliceRange
 rw [List.length_map, List.length_range]
 have : (2 : Int) > 0 := by decide
 simp only [this, if_true]
 split
 · omega
 · omega
theorem pe_step2 {te : TE} {a k0 k : Nat} {p0 p1 p3 : Pos} (he : PE X e te) : PE X (.Subscript e (.Slice (some (.Constant (.int (a : Int)) k0 p0)) none (some (.Constant (.int 2) k p1)) p3) pos) (tStep2 X.K a te) := by
 refine ⟨fun pins s σ H Q I h => ?_⟩
 refine Subscript_ (thn (he.run pins s σ H _ I h) fun v s1 ⟨x, H1, I1, r1, q1⟩ => ?_)
 obtain ⟨b, xs, ex, hx, q⟩ := q1
 subst ex
 cases r1
 have hlo : PO X (some (.Constant (.int (a : Int)) k0 p0)) (tPart (tC (.int (a : Int)))) := po_some pe_int
 have hst : PO X (some (.Constant (.int 2) k p1)) (tPart (tC (.int 2))) := po_some pe_int
 refine wpAny_Slice (thn (hlo.run pins s1 σ H1 (fun o H2 => o = some (a : Int) ∧ H2 = H1) I1 ⟨(a : Int), rfl, rfl, rfl⟩) fun vl s2 ⟨l, H2, I2, pl, el, e2⟩ => ?_)
 subst el e2
 refine thn (po_none.run pins s2 σ H2 (fun o H3 => o = none ∧ H3 = H2) I2 ⟨rfl, rfl⟩) fun vu s3 ⟨u, H3, I3, pu, eu, e3⟩ => ?_
 subst eu e3
 refine thn (hst.run pins s3 σ H3 (fun o H4 => o = some 2 ∧ H4 = H3) I3 ⟨2, rfl, rfl, rfl⟩) fun vs s4 ⟨o, H4, I4, ps, eo, e4⟩ => ?_
 subst eo e4
 have I5 : Inv X pins σ H4 { s4 with heap := s4.heap.push { cls := .type "slice", data := .fields #[vl, vu, vs] } } := I4.kept (t' := s4.toks) fun b ob q => Heap.get?_push_of_some _ q
 obtain ⟨its, r, ht, hz⟩ := I5.list hx
 have hlen := r.length
 show wpAny (model X.prog X.w) X.A (subscriptTail e (.Slice (some (.Constant (.int (a : Int)) k0 p0)) none (some (.Constant (.int 2) k p1)) p3) (.ref b) (.ref s4.heap.objs.size)) (EP X pins σ Q) X.xe { s4 with heap := s4.heap.push { cls := .type "slice", data := .fields #[vl, vu, vs] } }
 refine tail_any (ops := [.ref b, .ref s4.heap.objs.size]) ht.isList.typeIs (PySem.slot_list_getitem.lookup) ?_ (by with_unfolding_all rfl)
 refine wpAny_getItem_list_slice ht.isList (Heap.IsSliceOf.new _ vl vu vs) pl pu ps (by decide) ?_ (by rw [List.size_toArray]; omega)
 have ep : slicePick its.toArray (some (a : Int)) none (some 2) = ((ixs2 a its.length).filterMap (its[·]?)).toArray := by
   unfold slicePick
   rw [bounds2, List.size_toArray]
   show ((ixs2 a its.length).filterMap fun i => its.toArray[i]?).toArray = _
   simp
 rw [ep]
 have rv := vals_pick r (ixs2 a its.length)
 rw [← hlen] at rv ⊢
 refine ⟨.ref _, _, I5.laid (t' := s4.toks) (o := .lst (step2 a xs)) (fun b ob q => Heap.get?_push_of_some _ q) (Nat.le_refl _) ?_, rfl, q _ (I5.hok.fresh (Nat.le_refl _))⟩
 exact ⟨Nat.le_trans (Nat.le_trans (pick_len xs _) (ixs2_len _ _)) hz, _, 0, rv, Heap.get?_push_size _ rfl⟩
theorem df_step2 {a k0 k : Nat} {p0 p1 p3 : Pos} (h : DE B X e δ M fun x M1 => ∃ ds, IsL M1 x ds ∧ ΦL (step2 a ds) M1) : DF B X (.Subscript e (.Slice (some (.Constant (.int (a : Int)) k0 p0)) none (some (.Constant (.int 2) k p1)) p3) pos) δ M ΦL :=
 .of (pe_step2 cE) fun κ σ H Q hb R kk => h κ σ H _ hb R fun v x M1 H1 ⟨ds, il, q⟩ R1 r1 => by
   obtain ⟨p, us, rfl, e1, rr⟩ := il.sq R1 r1
   refine ⟨p, us, rfl, SqL.of e1, fun l hl => kk l _ M1 _ q (R1.lst ?_ hl)⟩
   have := reps_picks rr (ixs2 a us.length)
   unfold step2
   rw [← rr.length]
   exact this
end
end Hl
namespace Hl
open PySem L2
open PyProof.Rows hiding St
end Hl
namespace Hl
open PySem L2
open PyProof.Rows hiding St
end Hl
namespace Hl
open PySem L2
open PyProof.Rows hiding St
end Hl
namespace Hl
open PySem L2
open PyProof.Rows hiding St
end Hl
namespace Hl
open PySem L2
open PyProof.Rows hiding St
end Hl
namespace Hl
open PySem L2
open PyProof.Rows hiding St
section
variable {κ : List (V × D)} {δ : Env'} {M M0 M' : Mem} {σ : L2.St} {H H' : Hp} {l : List Addr} {a f : Addr} {o : HO} {W : FW} {fr : List Str} {as : List Addr} {cs : List D}
structure FncAt (H : Hp) (f : Addr) (W : FW) (as : List Addr) (fr : List Str) (c : Addr) (vs : List V) (od : Option Addr) (sl : Array (Option Value)) (doc pm ctv : Value) : Prop where
 fn : H f = some (Exact f (⟨.type "function", od, .func (W.fd (fr.zip as) c doc pm ctv), sl⟩ : Obj))
 len : fr.length = as.length
 nd : fr.Nodup
 vl : vs.length = as.length
 ce : ∀ p ∈ as.zip vs, ∃ (o : Obj) (u : Value), H p.1 = some (Exact p.1 o) ∧ o.data = .cell (some u) ∧ RelV p.2 u
theorem FncAt.ex {c : Addr} {vs : List V} {od : Option Addr} {sl : Array (Option Value)} {doc pm ctv : Value} (h : FncAt H f W as fr c vs od sl doc pm ctv) : ∀ a ∈ f :: as, ∃ o, H a = some (Exact a o) := fun a ha => by
 rcases List.mem_cons.mp ha with rfl | ha
 · exact ⟨_, h.fn⟩
 · obtain ⟨i, hi⟩ := List.mem_iff_getElem?.mp ha
   have hl : i < vs.length := by rw [h.vl]; exact (List.getElem?_eq_some_iff.mp hi).1
   obtain ⟨o, u, e2, _⟩ := h.ce (a, vs[i]) (List.mem_of_getElem? (i := i) (by rw [List.getElem?_zip_eq_some]; exact ⟨hi, by simp [hl]⟩))
   exact ⟨_, e2⟩
end
structure FunN (P : Program) (w : World) (K : PySem.W.Frag) (mg : Str → Option Value) (base : Heap) (W : FW) (fr : List Str) (k n : Nat) (p : List D → DSp) : Prop where
 run : ∀ (A : Around) (outer : List Env) (s : Shared) (H : Hp) (f c : Addr) (od : Option Addr) (sl : Array (Option Value)) (doc pm ctv : Value) (as : List Addr) (us : List Value) (vs cvs : List V) (cs ds : List D) (κ : List (V × D)) (M : Mem) (Φ : D → Mem → Prop),
   Room k A → Env0 P w K mg base A outer s H → s.heap.get? f = some (⟨.type "function", od, .func (W.fd (fr.zip as) c doc pm ctv), sl⟩ : Obj) → s.heap.CodeRec (.ref c) W.qual → NdefX.CellsAt (fr.zip as) fr (cvs.map some) s.heap H → Vals vs us → us.length = n →
   Rs κ [] M [] H → Reps M.F H cvs cs → Reps M.F H vs ds → p cs ds M Φ → codeAny (model P w) A (.call (.ref f) ⟨us, []⟩) (CR (L2.CX P w) outer P w H s (fun v H' => ∃ d M', Φ d M' ∧ Rs κ [] M' [] H' ∧ Rep M'.F H' v d) (fun _ _ _ => False)) s
theorem FunN.mono {P : Program} {w : World} {K : PySem.W.Frag} {mg : Str → Option Value} {base : Heap} {W : FW} {fr : List Str} {j k n : Nat} {p : List D → DSp} (F : FunN P w K mg base W fr j n p) (h : j ≤ k) : FunN P w K mg base W fr k n p :=
 ⟨fun A outer s H f c od sl doc pm ctv as us vs cvs cs ds κ M Φ hr => F.run A outer s H f c od sl doc pm ctv as us vs cvs cs ds κ M Φ (hr.mono h)⟩
section
variable {M : Mem} {Φ : D → Mem → Prop} {x : D}
theorem idJn {acc : Str} {Φ : Str → Prop} (h : JnD x acc Φ) : JnD x acc Φ := h
theorem idFm (h : FmD x M Φ) : FmD x M Φ := h
theorem idFmS {z : Str} (h : FmD (.str z) M Φ) : FmD (.str z) M Φ := h
end
end Hl
namespace Hl
open PySem L2
open PyProof.Rows hiding St
end Hl
namespace Hl
open PySem L2
open PyProof.Rows hiding St
end Hl
namespace Hl
open PySem L2
end Hl
namespace Hl
open PySem L2
open PyProof.Rows hiding St
end Hl
namespace Hl
open PySem L2
end Hl
namespace Hl
open PySem PySem.Spec PyProof.Rows
structure LpSrc (prog : Program) (w : World) (A : Around) (I d : Addr) (wr : List Addr) (n : Nat) (Rel : Nat → Value → Value → Prop) (St : Nat → Heap → Prop) : Prop where
 off : d ∉ wr
 frame : ∀ i h h', St i h → (∀ b o, b ≠ d → h.get? b = some o → h'.get? b = some o) → St i h'
 item : ∀ i (s : Shared) (Q : Option Value → Shared → Prop) (E : Value → Shared → Prop), i < n → St i s.heap → d < s.heap.objs.size →
   (∀ T k v h' tk, Rel i k v → IsPair h' T k v → s.heap.objs.size ≤ T → T < h'.objs.size → St (i + 1) h' → (∀ b o, b ∉ wr → s.heap.get? b = some o → h'.get? b = some o) → Q (some (.ref T)) { s with heap := h', toks := tk }) → wpAny (model prog w) A (pyNext (.ref I)) Q E s
 done : ∀ (s : Shared) (Q : Option Value → Shared → Prop) (E : Value → Shared → Prop), St n s.heap →
   (∀ h' tk, (∀ b o, b ∉ wr → s.heap.get? b = some o → h'.get? b = some o) → Q none { s with heap := h', toks := tk }) → wpAny (model prog w) A (pyNext (.ref I)) Q E s
section
variable {prog : Program} {w : World} {A : Around} {R : Result → Shared → Prop} {I S : Addr} {wr : List Addr} {n : Nat} {Rel : Nat → Value → Value → Prop} {St : Nat → Heap → Prop}
abbrev TsAt (h : Heap) (Rel : Nat → Value → Value → Prop) (base : Nat) (Ts : List Addr) : Prop := ∀ (j : Nat) (T : Addr), Ts[j]? = some T → base ≤ T ∧ T < h.objs.size ∧ ∃ k v, Rel j k v ∧ IsPair h T k v
theorem lp_loop (W : LpSrc prog w A.in1 I S wr n Rel St) (hn : n ≤ sizeLine) (res : Value) (base : Nat) (hwb : ∀ b ∈ wr, b < base) (hSb : S < base) : ∀ (k i : Nat) (s : Shared) (Ts : List Addr) (c : Nat), n - i = k → i ≤ n → Ts.length = i → base ≤ s.heap.objs.size → St i s.heap →
   s.heap.get? S = some { cls := .type "list", dict := none, data := .seq (Ts.map Value.ref).toArray c, slots := #[] } → TsAt s.heap Rel base Ts → Ts.Pairwise (· < ·) →
   (∀ h' tk Ts' c', (∀ b o, b ≠ S → b ∉ wr → s.heap.get? b = some o → h'.get? b = some o) → h'.get? S = some { cls := .type "list", dict := none, data := .seq (Ts'.map Value.ref).toArray c', slots := #[] } → Ts'.length = n → TsAt h' Rel base Ts' → Ts'.Pairwise (· < ·) → R (.ok (.ret res)) { s with heap := h', toks := tk }) →
   codeAny (model prog w) A (.builtin "list.extend.loop" ⟨[.ref S, .ref I, res], []⟩) R s := by
 have hSw : S ∉ wr := W.off
 intro k
 induction k with
 | zero =>
   intro i s Ts c hk hi hl hb hst hS hT hpw hR
   have hin : i = n := by omega
   subst hin
   refine codeAny_builtin F.entry_extend_loop ?_
   rw [Around.under_plainId F.plain_extend_loop _]
   show wpAny _ A.in1 (pyNext (.ref I) >>= _) _ _ s
   refine wpAny_bind (W.done s _ _ hst fun h' tk hm => ?_)
   refine wpAny_pure (hR h' tk Ts c (fun b o _ hw e => hm b o hw e) (hm S _ hSw hS) hl (fun j T hj => ?_) hpw)
   obtain ⟨h1, h2, kk, vv, h3, h4⟩ := hT j T hj
   have h5 := hm T _ (fun q => absurd (hwb T q) (Nat.not_lt.mpr h1)) h4
   exact ⟨h1, Heap.lt_size h5, kk, vv, h3, h5⟩
 | succ k ih =>
   intro i s Ts c hk hi hl hb hst hS hT hpw hR
   have hlt : i < n := by omega
   refine codeAny_builtin F.entry_extend_loop ?_
   rw [Around.under_plainId F.plain_extend_loop _]
   show wpAny _ A.in1 (pyNext (.ref I) >>= _) _ _ s
   refine wpAny_bind (W.item i s _ _ hlt hst (Heap.lt_size hS) fun T kk vv h' tk hrel hpair hge hlt2 hst' hm => ?_)
   have hS' := hm S _ hSw hS
   show wpAny _ A.in1 (updateSeq S (·.push (.ref T)) >>= _) _ _ _
   refine wpAny_bind ?_
   have hbT : base ≤ T := Nat.le_trans hb hge
   have hTS : T ≠ S := fun e => absurd hSb (by rw [← e]; exact Nat.not_lt.mpr hbT)
   have oth : ∀ b o, b ≠ S → h'.get? b = some o → (h'.update S (Obj.mapSeq (·.push (.ref T)))).get? b = some o := fun b o hb e => (Heap.get?_update_other _ _ (Ne.symm hb)).trans e
   have hpT := oth T _ hTS hpair
   have e1 : (Ts.map Value.ref).toArray.push (.ref T) = ((Ts ++ [T]).map Value.ref).toArray := by simp
   have hT2 : TsAt (h'.update S (Obj.mapSeq (·.push (.ref T)))) Rel base (Ts ++ [T]) := fun j U hj => by
     by_cases hjl : j < Ts.length
     · rw [List.getElem?_append_left hjl] at hj
       obtain ⟨h1, h2, k1, v1, h3, h4⟩ := hT j U hj
       have hUS : U ≠ S := fun e => absurd hSb (by rw [← e]; exact Nat.not_lt.mpr h1)
       have h5 := oth U _ hUS (hm U _ (fun q => absurd (hwb U q) (Nat.not_lt.mpr h1)) h4)
       exact ⟨h1, Heap.lt_size h5, k1, v1, h3, h5⟩
     · rw [List.getElem?_append_right (by omega)] at hj
       have hj0 : j = Ts.length := by
         have := (List.getElem?_eq_some_iff.mp hj).1
         rw [List.length_singleton] at this
         omega
       rw [hj0, Nat.sub_self] at hj
       cases hj
       refine ⟨hbT, Heap.lt_size hpT, kk, vv, ?_, hpT⟩
       rw [hj0, hl]; exact hrel
   have hpw2 : (Ts ++ [T]).Pairwise (· < ·) := by
     rw [List.pairwise_append]
     refine ⟨hpw, List.pairwise_singleton _ _, fun a ha b hb => ?_⟩
     rw [List.mem_singleton] at hb
     subst hb
     obtain ⟨j, hj⟩ := List.mem_iff_getElem?.mp ha
     exact Nat.lt_of_lt_of_le (hT j a hj).2.1 hge
   refine wpAny_updateSeq hS' rfl (wpAny_pure ⟨plainId_quiet F.plain_extend_loop _, ih (i + 1) _ (Ts ++ [T]) _ (by omega) hlt (by rw [List.length_append, hl]; rfl) (Nat.le_trans hbT (Nat.le_of_lt (Heap.lt_size hpT))) (W.frame _ h' _ hst' fun b o hb e => oth b o hb e) (by rw [← e1]; exact Heap.get?_update_self _ hS' rfl) hT2 hpw2 fun h'' tk' Ts' c' hm'' hS'' hl' hT' hpw' => ?_⟩)
     (by simp; omega) (by simp; omega)
   exact hR h'' tk' Ts' c' (fun b o hb hw e => hm'' b o hb hw (oth b o hb (hm b o hw e))) hS'' hl' hT' hpw'
end
structure ZFix (TI i1 i2 l1 l2 : Addr) (xs ys : Array Value) (h : Heap) : Prop where
 ti : IsPair h TI (.ref i1) (.ref i2)
 a : h.IsList l1 xs
 b : h.IsList l2 ys
theorem ZFix.keep {TI i1 i2 l1 l2 : Addr} {xs ys : Array Value} {h h' : Heap} (f : ZFix TI i1 i2 l1 l2 xs ys h) (k : ∀ c, c = TI ∨ c = l1 ∨ c = l2 → ∀ o, h.get? c = some o → h'.get? c = some o) : ZFix TI i1 i2 l1 l2 xs ys h' :=
 ⟨k _ (.inl rfl) _ f.ti, f.a.at (k _ (.inr (.inl rfl))), f.b.at (k _ (.inr (.inr rfl)))⟩
def ZOut (z TI TO i1 i2 S : Addr) (h : Heap) : Prop := (IsZip h z TI TO .none ∧ ∃ a b, IsPair h TO a b) ∨ ∃ T f o, IsZipHeld h z TI TO T f ∧ h.get? T = some o ∧ ¬ (T = z ∨ T = i1 ∨ T = i2 ∨ T = S)
structure ZAt (z TI TO i1 i2 l1 l2 S : Addr) (xs ys : Array Value) (i : Nat) (h : Heap) : Prop where
 fx : ZFix TI i1 i2 l1 l2 xs ys h
 p : h.IsListIter i1 l1 i
 q : h.IsListIter i2 l2 i
 out : ZOut z TI TO i1 i2 S h
theorem lp_zip {prog : Program} {w : World} {A : Around} (hA : A.handled = none) {z TI TO i1 i2 l1 l2 S : Addr} (D : ZipApart z TI TO i1 i2 l1 l2) (xs ys : Array Value) (hS : ¬ (S = z ∨ S = TI ∨ S = TO ∨ S = i1 ∨ S = i2 ∨ S = l1 ∨ S = l2)) :
   LpSrc prog w A z S [z, TO, i1, i2] (min xs.size ys.size) (fun i k v => xs[i]? = some k ∧ ys[i]? = some v) (ZAt z TI TO i1 i2 l1 l2 S xs ys) := by
 have off : S ∉ [z, TO, i1, i2] := fun m => by
   simp only [List.mem_cons, List.not_mem_nil, or_false] at m
   exact hS (by rcases m with m | m | m | m <;> simp [m])
 have wide : ∀ {h h' : Heap}, (∀ c o, c ≠ z → c ≠ TO → c ≠ i1 → c ≠ i2 → h.get? c = some o → h'.get? c = some o) → ∀ b o, b ∉ [z, TO, i1, i2] → h.get? b = some o → h'.get? b = some o := fun k b o m e => by
   simp only [List.mem_cons, List.not_mem_nil, or_false, not_or] at m
   exact k b o m.1 m.2.1 m.2.2.1 m.2.2.2 e
 have slim : ∀ {h h' : Heap}, (∀ c o, c ≠ z → c ≠ i1 → c ≠ i2 → h.get? c = some o → h'.get? c = some o) → ∀ c o, c ≠ z → c ≠ TO → c ≠ i1 → c ≠ i2 → h.get? c = some o → h'.get? c = some o := fun k c o c1 _ c3 c4 e => k c o c1 c3 c4 e
 have same : ∀ {h h' : Heap}, ZFix TI i1 i2 l1 l2 xs ys h → (∀ c o, c ≠ z → c ≠ TO → c ≠ i1 → c ≠ i2 → h.get? c = some o → h'.get? c = some o) → ZFix TI i1 i2 l1 l2 xs ys h' := fun f k => f.keep fun c hc o e => by
   rcases hc with rfl | rfl | rfl
   · exact k _ o D.TIz D.TITO D.TIi1 D.TIi2 e
   · exact k _ o D.l1z D.l1TO D.l1i1 D.l1i2 e
   · exact k _ o D.l2z D.l2TO D.l2i1 D.l2i2 e
 have ends : xs[min xs.size ys.size]? = none ∨ ys[min xs.size ys.size]? = none := by
   rcases Nat.le_total xs.size ys.size with h | h
   · exact .inl (Array.getElem?_eq_none (by omega))
   · exact .inr (Array.getElem?_eq_none (by omega))
 refine ⟨off, fun i h h' st k => ?_, fun i s Q E hi st hs hQ => ?_, fun s Q E st hQ => ?_⟩
 · have k2 : ∀ b, b = z ∨ b = TI ∨ b = TO ∨ b = i1 ∨ b = i2 ∨ b = l1 ∨ b = l2 → ∀ o, h.get? b = some o → h'.get? b = some o := fun b hb o e => k b o (fun q => hS (q ▸ hb)) e
   refine ⟨st.fx.keep fun c hc => k2 c (by rcases hc with q | q | q <;> simp [q]), st.p.at (k2 _ (by simp)), st.q.at (k2 _ (by simp)), ?_⟩
   rcases st.out with ⟨a, u, v, b⟩ | ⟨T, f, o, a, b, n⟩
   · exact .inl ⟨k2 _ (by simp) _ a, u, v, k2 _ (by simp) _ b⟩
   · exact .inr ⟨T, f, o, k2 _ (by simp) _ a, k T o (fun q => n (by simp [q])) b, n⟩
 · have ex := Array.getElem?_eq_getElem (show i < xs.size by omega)
   have ey := Array.getElem?_eq_getElem (show i < ys.size by omega)
   have new : ∀ {c o}, s.heap.get? c = some o → s.heap.objs.size ≠ c := fun e => Nat.ne_of_gt (Heap.lt_size e)
   have fresh : ∀ {oz}, s.heap.get? z = some oz → ¬ (s.heap.objs.size = z ∨ s.heap.objs.size = i1 ∨ s.heap.objs.size = i2 ∨ s.heap.objs.size = S) := fun ez q => by
     obtain ⟨_, e1, _⟩ := st.p
     obtain ⟨_, e2, _⟩ := st.q
     rcases q with q | q | q | q
     · exact new ez q
     · exact new e1 q
     · exact new e2 q
     · exact absurd hs (by rw [← q]; exact Nat.lt_irrefl _)
   rcases st.out with ⟨a, u, v, b⟩ | ⟨T, f, o, a, b, n⟩
   · refine wpAny_pyNext_zip_item D a st.fx.ti b st.p st.q st.fx.a st.fx.b ex ey fun h' a1 a2 a3 a4 a5 a6 k => ?_
     exact hQ _ _ _ h' s.toks ⟨ex, ey⟩ a5 (Nat.le_refl _) (Heap.lt_size a5) ⟨same st.fx k, a3, a4, .inr ⟨_, _, _, a1, a5, fresh a⟩⟩ (wide k)
   · refine wpAny_pyNext_zip_item_held D a b st.fx.ti st.p st.q st.fx.a st.fx.b ex ey fun h' a1 a3 a4 a5 a6 k => ?_
     exact hQ _ _ _ h' s.toks ⟨ex, ey⟩ a5 (Nat.le_refl _) (Heap.lt_size a5) ⟨same st.fx (slim k), a3, a4, .inr ⟨T, _, o, a1, k T o (fun q => n (.inl q)) (fun q => n (.inr (.inl q))) (fun q => n (.inr (.inr (.inl q)))) b, n⟩⟩ (wide (slim k))
 · rcases st.out with ⟨a, u, v, b⟩ | ⟨T, f, o, a, b, n⟩
   · exact wpAny_pyNext_zip_end hA D a st.fx.ti b st.p st.q st.fx.a st.fx.b ends fun h' k => hQ h' s.toks (wide k)
   · exact wpAny_pyNext_zip_end_held hA D a b st.fx.ti st.p st.q st.fx.a st.fx.b ends fun h' k => hQ h' s.toks (wide (slim k))
theorem zip_no_len : typeLookup (.type "zip") "__len__" = pure none := by rw [typeLookup_type, builtinLookup_eq_fast]; kernel_rfl
theorem zip_no_hint : typeLookup (.type "zip") "__length_hint__" = pure none := by rw [typeLookup_type, builtinLookup_eq_fast]; kernel_rfl
section
variable {prog : Program} {w : World} {A : Around} {z TI TO i1 i2 l1 l2 : Addr} {xs ys : Array Value}
abbrev Pr2 (xs ys : Array Value) : Nat → Value → Value → Prop := fun i k v => xs[i]? = some k ∧ ys[i]? = some v
def ZNew (z TI TO i1 i2 l1 l2 : Addr) (xs ys : Array Value) (h : Heap) : Prop := ZFix TI i1 i2 l1 l2 xs ys h ∧ h.IsListIter i1 l1 0 ∧ h.IsListIter i2 l2 0 ∧ IsZip h z TI TO .none ∧ ∃ a b, IsPair h TO a b
theorem ZNew.keep {h h' : Heap} (n : ZNew z TI TO i1 i2 l1 l2 xs ys h) {S : Addr} (hS : ¬ (S = z ∨ S = TI ∨ S = TO ∨ S = i1 ∨ S = i2 ∨ S = l1 ∨ S = l2)) (k : ∀ b o, b ≠ S → h.get? b = some o → h'.get? b = some o) : ZNew z TI TO i1 i2 l1 l2 xs ys h' := by
 obtain ⟨f, p, q, a, u, v, b⟩ := n
 have k2 : ∀ b, b = z ∨ b = TI ∨ b = TO ∨ b = i1 ∨ b = i2 ∨ b = l1 ∨ b = l2 → ∀ o, h.get? b = some o → h'.get? b = some o := fun b hb o e => k b o (fun q => hS (q ▸ hb)) e
 exact ⟨f.keep fun c hc => k2 c (by rcases hc with q | q | q <;> simp [q]), p.at (k2 _ (by simp)), q.at (k2 _ (by simp)), k2 _ (by simp) _ a, u, v, k2 _ (by simp) _ b⟩
theorem ZNew.lt {h : Heap} (n : ZNew z TI TO i1 i2 l1 l2 xs ys h) : ∀ b, b = z ∨ b = TI ∨ b = TO ∨ b = i1 ∨ b = i2 ∨ b = l1 ∨ b = l2 → b < h.objs.size := by
 obtain ⟨⟨f1, ⟨o3, f2, _⟩, ⟨o4, f3, _⟩⟩, ⟨o1, p, _⟩, ⟨o2, q, _⟩, a, u, v, b⟩ := n
 rintro c (rfl | rfl | rfl | rfl | rfl | rfl | rfl)
 · exact Heap.lt_size a
 · exact Heap.lt_size f1
 · exact Heap.lt_size b
 · exact Heap.lt_size p
 · exact Heap.lt_size q
 · exact Heap.lt_size f2
 · exact Heap.lt_size f3
theorem zl_extend {R : Result → Shared → Prop} {s : Shared} {S : Addr} {c0 : Nat} (hA : A.handled = none) (D : ZipApart z TI TO i1 i2 l1 l2) (hS : ¬ (S = z ∨ S = TI ∨ S = TO ∨ S = i1 ∨ S = i2 ∨ S = l1 ∨ S = l2)) (n : ZNew z TI TO i1 i2 l1 l2 xs ys s.heap) (hn : min xs.size ys.size ≤ sizeLine) (res : Value)
   (hSl : s.heap.get? S = some { cls := .type "list", dict := none, data := .seq #[] c0, slots := #[] })
   (hR : ∀ h' tk Ts c', (∀ b o, b ≠ S → b ∉ [z, TO, i1, i2] → s.heap.get? b = some o → h'.get? b = some o) → h'.get? S = some { cls := .type "list", dict := none, data := .seq (Ts.map Value.ref).toArray c', slots := #[] } → Ts.length = min xs.size ys.size → TsAt h' (Pr2 xs ys) s.heap.objs.size Ts → Ts.Pairwise (· < ·) → R (.ok (.ret res)) { s with heap := h', toks := tk }) :
   wpAny (model prog w) A.in1 (Builtin.List.listExtendWith (.ref S) (.ref z) res)
     (fun fin s' => match fin with | .done f => R (.ok f) s' | .again c' => c'.quiet = true ∧ codeAny (model prog w) A c' R s') (fun e s' => R (.error e) s') s := by
 have hT : ∀ {s' : Shared}, ZNew z TI TO i1 i2 l1 l2 xs ys s'.heap → s'.TypeIs (.ref z) "zip" := fun n => ⟨_, n.2.2.2.1, rfl⟩
 have loop : ∀ (h : Heap) (c : Nat), ZNew z TI TO i1 i2 l1 l2 xs ys h → h.objs.size = s.heap.objs.size → (∀ b o, b ≠ S → s.heap.get? b = some o → h.get? b = some o) → h.get? S = some { cls := .type "list", dict := none, data := .seq #[] c, slots := #[] } →
     codeAny (model prog w) A (.builtin "list.extend.loop" ⟨[.ref S, .ref z, res], []⟩) R { s with heap := h } := fun h c m hz k hSh => by
   refine lp_loop (lp_zip (A := A.in1) hA D xs ys hS) hn res s.heap.objs.size (fun b hb => ?_) (Heap.lt_size hSl) _ 0 _ [] c rfl (Nat.zero_le _) rfl (Nat.le_of_eq hz.symm) ⟨m.1, m.2.1, m.2.2.1, .inl m.2.2.2⟩ hSh (fun j T e => by simp at e) List.Pairwise.nil fun h' tk Ts c' k2 e1 e2 e3 e4 => ?_
   · simp only [List.mem_cons, List.not_mem_nil, or_false] at hb
     exact n.lt b (by rcases hb with q | q | q | q <;> simp [q])
   · exact hR h' tk Ts c' (fun b o b1 b2 e => k2 b o b1 b2 (k b o b1 e)) e1 e2 e3 e4
 have hSz : S ≠ z := fun e => hS (.inl e)
 have c1 : Builtin.List.listSameRef (.ref S) (.ref z) = false := by simp [Builtin.List.listSameRef, hSz]
 have c2 : (Value.type "zip" == Value.type "list") = false := by decide
 have c3 : (Value.type "zip" == Value.type "tuple") = false := by decide
 unfold Builtin.List.listExtendWith
 refine wpAny_bind (wpAny_typeOf (hT n) ?_)
 simp only [c1, c2, c3, Bool.or_false, Bool.false_eq_true, if_false]
 refine wpAny_bind (wpAny_pyIter_zip n.2.2.2.1 ?_)
 refine wpAny_bind (wpAny_holding ?_)
 unfold Builtin.List.listLengthHint
 refine wpAny_bind (wpAny_specialOf (hT n) zip_no_len ?_)
 show wpAny _ A.in1 (specialOf (Value.ref z) (Str.ofString "__length_hint__") >>= _) _ _ _
 refine wpAny_bind (wpAny_specialOf (hT n) zip_no_hint ?_)
 refine wpAny_pure ?_
 show wpAny _ A.in1 (rule "list.extend.makes-room" >>= fun _ => Builtin.List.listTouch (.ref S) >>= fun _ =>
   again (.builtin "list.extend.loop" ⟨[.ref S, .ref z, res], []⟩)) _ _ _
 refine wpAny_bind (wpAny_rule ?_)
 refine wpAny_bind ?_
 show wpAny _ A.in1 (updateSeq S (·.push .none) >>= fun _ => updateSeq S (·.pop)) _ _ _
 refine wpAny_bind (wpAny_updateSeq hSl rfl ?_)
 have e2 := Heap.get?_update_self (Obj.mapSeq (·.push Value.none)) hSl rfl
 refine wpAny_updateSeq (hz := by seq_fits) e2 rfl ?_
 have e3 := Heap.get?_update_self (Obj.mapSeq (·.pop)) e2 rfl
 have oth : ∀ b o, b ≠ S → s.heap.get? b = some o → ((s.heap.update S (Obj.mapSeq (·.push Value.none))).update S (Obj.mapSeq (·.pop))).get? b = some o :=
   fun b o hb e => (Heap.get?_update_other _ _ (Ne.symm hb)).trans ((Heap.get?_update_other _ _ (Ne.symm hb)).trans e)
 exact wpAny_pure ⟨plainId_quiet F.plain_extend_loop _, loop _ _ (n.keep hS oth) (by simp) oth e3⟩
theorem zl_call {Q : Value → Shared → Prop} {E : Value → Shared → Prop} {s : Shared} (hA : A.handled = none) (D : ZipApart z TI TO i1 i2 l1 l2) (n : ZNew z TI TO i1 i2 l1 l2 xs ys s.heap) (hn : min xs.size ys.size ≤ sizeLine)
   (hQ : ∀ h' tk Ts c', (∀ b o, b ∉ [z, TO, i1, i2] → s.heap.get? b = some o → h'.get? b = some o) → h'.get? s.heap.objs.size = some { cls := .type "list", dict := none, data := .seq (Ts.map Value.ref).toArray c', slots := #[] } → Ts.length = min xs.size ys.size → TsAt h' (Pr2 xs ys) (s.heap.objs.size + 1) Ts → Ts.Pairwise (· < ·) → Q (.ref s.heap.objs.size) { s with heap := h', toks := tk }) :
   wpAny (model prog w) A (call (.type "list") [.ref z]) Q E s := by
 have hS : ¬ (s.heap.objs.size = z ∨ s.heap.objs.size = TI ∨ s.heap.objs.size = TO ∨ s.heap.objs.size = i1 ∨ s.heap.objs.size = i2 ∨ s.heap.objs.size = l1 ∨ s.heap.objs.size = l2) := fun q => Nat.lt_irrefl _ (n.lt _ q)
 refine callType_codes (Q₁ := fun obj s₁ => obj = .ref s.heap.objs.size ∧ s₁ = { s with heap := s.heap.push { cls := .type "list", data := .seq #[] } }) F.called_list (F.typeCall_list_1 _) F.entry_list_init (code_list_new _ ⟨rfl, rfl⟩) fun obj s₁ h₁ => ?_
 obtain ⟨rfl, rfl⟩ := h₁
 have e0 : (s.heap.push { cls := .type "list", data := .seq #[] }).get? s.heap.objs.size = some { cls := .type "list", data := .seq #[] } := Heap.get?_push_size _ rfl
 have k0 : ∀ b o, s.heap.get? b = some o → (s.heap.push { cls := .type "list", data := .seq #[] }).get? b = some o := fun b o e => Heap.get?_push_of_some _ e
 refine ⟨⟨_, e0, rfl⟩, F.args_list_init_2 _ _, ?_⟩
 show wpAny _ _ (do let old ← Builtin.List.listItems (.ref s.heap.objs.size); Builtin.List.listUpdate (.ref s.heap.objs.size) (fun _ => #[]); letGo old.toList.reverse; Builtin.List.listExtendWith (.ref s.heap.objs.size) (.ref z) .none) _ _ _
 refine wpAny_bind ?_
 unfold Builtin.List.listItems
 refine wpAny_bind (wpAny_seqItems e0 rfl (wpAny_pure ?_))
 show wpAny _ _ (updateSeq s.heap.objs.size (fun _ => #[]) >>= fun _ => letGo (#[] : Array Value).toList.reverse >>= fun _ => Builtin.List.listExtendWith (.ref s.heap.objs.size) (.ref z) .none) _ _ _
 refine wpAny_bind (wpAny_updateSeq e0 rfl ?_)
 have e1 := Heap.get?_update_self (Obj.mapSeq (fun _ => (#[] : Array Value))) e0 rfl
 have k1 : ∀ b o, b ≠ s.heap.objs.size → s.heap.get? b = some o → ((s.heap.push { cls := .type "list", data := .seq #[] }).update s.heap.objs.size (Obj.mapSeq (fun _ => (#[] : Array Value)))).get? b = some o :=
   fun b o hb e => (Heap.get?_update_other _ _ (Ne.symm hb)).trans (k0 b o e)
 refine wpAny_bind (wpAny_letGo ?_)
 refine zl_extend (A := A.in1) hA D hS (n.keep hS k1) hn .none e1 fun h' tk Ts c' k2 a1 a2 a3 a4 => ?_
 exact ⟨rfl, hQ h' tk Ts c' (fun b o hb e => k2 b o (Nat.ne_of_lt (Heap.lt_size e)) hb (k1 b o (Nat.ne_of_lt (Heap.lt_size e)) e)) a1 a2 (fun j T e => by
   have := a3 j T e
   simpa [Heap.size_push] using this) a4⟩
end
end Hl
namespace Hl
open PySem PySem.Spec PyProof.Rows L2
def Lays : Hp → List Addr → List (V × V) → Hp → Prop
 | H, [], [], H' => H' = H
 | H, T :: Ts, p :: ps, H' => H T = none ∧ Lays (upd H T (.tup [p.1, p.2])) Ts ps H'
 | _, _, _, _ => False
theorem lay_pairs {X : Cx} {pins : List (Addr × Obj)} {σ : L2.St} {s : Shared} {h : Heap} : ∀ {Ts : List Addr} {ps : List (V × V)} {H : Hp} {g : Heap}, Inv X pins σ H { s with heap := g } → (∀ b o, g.get? b = some o → h.get? b = some o) → Ts.length = ps.length → Ts.Nodup → (∀ T ∈ Ts, g.get? T = none) → (∀ T ∈ Ts, H T = none) →
   (∀ (j : Nat) T p, Ts[j]? = some T → ps[j]? = some p → ∃ u v, IsPair h T u v ∧ RelV p.1 u ∧ RelV p.2 v) →
   ∃ g' H', Lays H Ts ps H' ∧ Inv X pins σ H' { s with heap := g' } ∧ (∀ b o, g'.get? b = some o → h.get? b = some o) ∧ (∀ b, b ∉ Ts → g.get? b = none → g'.get? b = none) ∧ ∀ b, b ∉ Ts → H' b = H b
 | [], [], H, g, I, sub, _, _, _, _, _ => ⟨g, H, rfl, I, sub, fun _ _ e => e, fun _ _ => rfl⟩
 | [], _ :: _, _, _, _, _, hl, _, _, _, _ => by simp at hl
 | _ :: _, [], _, _, _, _, hl, _, _, _, _ => by simp at hl
 | T :: Ts, p :: ps, H, g, I, sub, hl, hnd, hg, hH, hp => by
   rw [List.nodup_cons] at hnd
   obtain ⟨u, v, hpr, r1, r2⟩ := hp 0 T p rfl rfl
   have hgT := hg T (.head _)
   have hHT := hH T (.head _)
   obtain ⟨G, g1, g2⟩ := restrict h fun b => decide (b = T ∨ g.get? b ≠ none)
   have keep : ∀ b o, g.get? b = some o → G.get? b = some o := fun b o e => by
     rw [g1 b (decide_eq_true (.inr (by rw [e]; simp)))]
     exact sub b o e
   have GT : G.get? T = h.get? T := g1 T (decide_eq_true (.inl rfl))
   have subG : ∀ b o, G.get? b = some o → h.get? b = some o := fun b o e => by
     by_cases q : b = T ∨ g.get? b ≠ none
     · rw [← g1 b (decide_eq_true q)]; exact e
     · rw [g2 b (decide_eq_false q)] at e; cases e
   have I2 : Inv X pins σ (upd H T (.tup [p.1, p.2])) { s with heap := G, toks := s.toks } := Inv.laidN (s := { s with heap := g }) I keep hgT hHT ⟨show (2 : Nat) ≤ sizeLine by decide, [u, v], .cons r1 (.cons r2 .nil), _, GT.trans hpr, rfl, _, rfl⟩
   obtain ⟨g', H', a1, a2, a3, a4, a5⟩ := lay_pairs (Ts := Ts) (ps := ps) (g := G) I2 subG (by simpa using hl) hnd.2 (fun U hU => by
     have hne : U ≠ T := fun e => hnd.1 (e ▸ hU)
     exact g2 U (decide_eq_false fun q => q.elim hne fun z => z (hg U (.tail _ hU)))) (fun U hU => by
     rw [upd_ne (show U ≠ T from fun e => hnd.1 (e ▸ hU))]
     exact hH U (.tail _ hU)) fun j U q e1 e2 => hp (j + 1) U q e1 e2
   refine ⟨g', H', ⟨hHT, a1⟩, a2, a3, fun b hb e => ?_, fun b hb => ?_⟩
   · rw [List.mem_cons, not_or] at hb
     exact a4 b hb.2 (g2 b (decide_eq_false fun q => q.elim hb.1 fun z => z e))
   · rw [List.mem_cons, not_or] at hb
     rw [a5 b hb.2, upd_ne hb.1]
end Hl
namespace Hl
open PySem PySem.Spec PyProof.Rows L2
def ZPost (X : Cx) (pins : List (Addr × Obj)) (σ : L2.St) (K : List V → List V → Hp → Prop) : Value → Shared → Prop := fun x s' => ∃ (s1 : Shared) (h' : Heap) (a b : Addr) (xs ys : List V) (us vs : List Value) (H1 : Hp),
 x = .ref (s1.heap.objs.size + 4) ∧ s' = { s1 with heap := h' } ∧ Inv X pins σ H1 s1 ∧ (∀ b o, s1.heap.get? b = some o → h'.get? b = some o) ∧ ZipApart (s1.heap.objs.size + 4) (s1.heap.objs.size + 2) (s1.heap.objs.size + 3) s1.heap.objs.size (s1.heap.objs.size + 1) a b ∧
 ZNew (s1.heap.objs.size + 4) (s1.heap.objs.size + 2) (s1.heap.objs.size + 3) s1.heap.objs.size (s1.heap.objs.size + 1) a b us.toArray vs.toArray h' ∧ Vals xs us ∧ Vals ys vs ∧ xs.length ≤ sizeLine ∧ K xs ys H1
def tZp (X : Cx) (ta : TA) : L2.St → Hp → (List V → List V → Hp → Prop) → Prop := fun σ H K => ta σ H fun vs H1 => ∃ a b xs ys, vs = [.ref a, .ref b] ∧ SqL X.K H1 a xs ∧ SqL X.K H1 b ys ∧ K xs ys H1
theorem zip_eval {X : Cx} {e e2 : Expr} {ta : TA} {p pos : Pos} {pins : List (Addr × Obj)} {s : Shared} {σ : L2.St} {H : Hp} {K : List V → List V → Hp → Prop} (hg : Gl X "zip") (hm : X.mg "zip" = none) (ha : PA X [e, e2] ta) (I : Inv X pins σ H s) (h : tZp X ta σ H K)
   (hs : starEach [e, e2] X.env = (false, eval e X.env) :: starEach [e2] X.env := by rfl) (hpl : (backTo pos (starEach [e2] X.env)).any (·.1) = false := by rfl) :
   wpAny (model X.prog X.w) X.A (eval (.Call (.Name "zip" p) [e, e2] [] pos) X.env) (ZPost X pins σ K) X.xe s := by
 refine Call_ (ld_blt I hg hm PyProof.Rows.boot_zip (PyProof.Rows.callWith_type1 (thn (ha.run pos pins s σ H _ I h) fun us s1 ⟨vs, H1, I1, r1, q1⟩ => ?_) hs hpl))
 obtain ⟨a, b, xs, ys, ex, hqx, hqy, q⟩ := q1
 subst ex
 cases r1 with
 | cons r rr =>
   cases rr with
   | cons r' rr =>
     cases rr
     cases r
     cases r'
     obtain ⟨its, rv, p1, zx⟩ := I1.list hqx
     obtain ⟨its2, rv2, p2, _⟩ := I1.list hqy
     refine call_zip_2 p1.isList p2.isList fun h' hz hTI hTO h1 h2 hsz hk => ?_
     exact ⟨s1, h', a, b, xs, ys, its, its2, H1, rfl, rfl, I1, hk, PySem.W.ktu_apart s1.heap.objs.size a b p1.lt p2.lt, ⟨⟨hTI, p1.isList.at fun o e => hk _ o e, p2.isList.at fun o e => hk _ o e⟩, h1, h2, hz, _, _, hTO⟩, rv, rv2, zx, q⟩
def tLZ (X : Cx) (ta : TA) : TE := fun σ H Q => tZp X ta σ H fun xs ys H1 => ∀ (Ts : List Addr) (q : Addr) (H2 : Hp), Ts.length = min xs.length ys.length → q ∉ Ts → Ts.Nodup → Lays H1 Ts (xs.zip ys) H2 → H2 q = none → Q (.ref q) (upd H2 q (.lst (Ts.map V.ref)))
theorem get_none {h : Heap} {a : Addr} (hl : h.objs.size ≤ a) : h.get? a = none := by
 cases e : h.get? a with
 | none => rfl
 | some o => exact absurd (Heap.lt_size e) (Nat.not_lt.mpr hl)
theorem vals_at {xs : List V} {us : List Value} (r : Vals xs us) : xs.length = us.length ∧ ∀ (j : Nat) x u, xs[j]? = some x → us[j]? = some u → RelV x u := by
 induction r with
 | nil => exact ⟨rfl, fun j x u h => by simp at h⟩
 | cons r0 rs ih =>
   refine ⟨by rw [List.length_cons, List.length_cons, ih.1], fun j x u h1 h2 => ?_⟩
   cases j with
   | zero => cases h1; cases h2; exact r0
   | succ j => exact ih.2 j x u (by simpa using h1) (by simpa using h2)
theorem pe_listZip {X : Cx} {e e2 : Expr} {ta : TA} {p p2 pos pos2 : Pos} (hc : X.calm = true) (hgl : Gl X "list") (hml : X.mg "list" = none) (hg : Gl X "zip") (hm : X.mg "zip" = none) (ha : PA X [e, e2] ta)
   (na : starEach [.Call (.Name "zip" p2) [e, e2] [] pos2] X.env = (false, eval (.Call (.Name "zip" p2) [e, e2] [] pos2) X.env) :: starEach [] X.env := by rfl)
   (hs : starEach [e, e2] X.env = (false, eval e X.env) :: starEach [e2] X.env := by rfl) (hpl : (backTo pos2 (starEach [e2] X.env)).any (·.1) = false := by rfl) :
   PE X (.Call (.Name "list" p) [.Call (.Name "zip" p2) [e, e2] [] pos2] [] pos) (tLZ X ta) := by
 refine ⟨fun pins s σ H Q I h => ?_⟩
 refine Call_ (ld_blt I hgl hml boot_list (PyProof.Rows.callWith_type1 (args_cons (thn (zip_eval hg hm ha I h hs hpl) fun x s' ⟨s1, h', a, b, xs, ys, us, vs, H1, ex, es, I1, hk, D, n, rv, rv2, zx, q⟩ => args_nil ?_) na) na))
 subst ex es
 obtain ⟨l1, r1⟩ := vals_at rv
 obtain ⟨l2, r2⟩ := vals_at rv2
 have hge : s1.heap.objs.size ≤ h'.objs.size := Nat.le_of_lt (n.lt _ (.inr (.inr (.inr (.inl rfl)))))
 refine zl_call (I1.ok.hd hc) D n ?_ fun h'' tk Ts c' k2 e1 e2 e3 e4 => ?_
 · have : us.toArray.size = us.length := by simp
   exact Nat.le_trans (Nat.min_le_left _ _) (by rw [this, ← l1]; exact zx)
 have kall : ∀ b o, s1.heap.get? b = some o → h''.get? b = some o := fun b o eb => by
   have hlt := Heap.lt_size eb
   refine k2 b o (fun m => ?_) (hk b o eb)
   simp only [List.mem_cons, List.not_mem_nil, or_false] at m
   rcases m with rfl | rfl | rfl | rfl
   · exact absurd hlt (Nat.not_lt.mpr (Nat.le_add_right _ _))
   · exact absurd hlt (Nat.not_lt.mpr (Nat.le_add_right _ _))
   · exact absurd hlt (Nat.lt_irrefl _)
   · exact absurd hlt (Nat.not_lt.mpr (Nat.le_add_right _ _))
 have hTq : ∀ T ∈ Ts, h'.objs.size + 1 ≤ T := fun T hT => by
   obtain ⟨j, hj⟩ := List.mem_iff_getElem?.mp hT
   exact (e3 j T hj).1
 have hTs : ∀ T ∈ Ts, s1.heap.objs.size ≤ T := fun T hT => Nat.le_trans hge (Nat.le_trans (Nat.le_add_right _ 1) (hTq T hT))
 have hqn : h'.objs.size ∉ Ts := fun m => absurd (hTq _ m) (Nat.not_le.mpr (Nat.lt_succ_self _))
 have hnd : Ts.Nodup := e4.imp fun h e => absurd (e ▸ h) (Nat.lt_irrefl _)
 have hlen : Ts.length = (xs.zip ys).length := by rw [e2, List.length_zip, l1, l2]; simp
 obtain ⟨g', H2, a1, a2, a3, a4, a5⟩ := lay_pairs (s := s1) (h := h'') (g := s1.heap) (Ts := Ts) (ps := xs.zip ys) (H := H1) I1 kall hlen hnd (fun T hT => get_none (hTs T hT)) (fun T hT => I1.hok.fresh (hTs T hT)) fun j T pr hT hp => by
   obtain ⟨_, _, u, v, ⟨q1, q2⟩, q3⟩ := e3 j T hT
   obtain ⟨hx, hy⟩ := List.getElem?_zip_eq_some.mp hp
   exact ⟨u, v, q3, r1 j _ u hx (by simpa using q1), r2 j _ v hy (by simpa using q2)⟩
 have hqH : H2 h'.objs.size = none := (a5 _ hqn).trans (I1.hok.fresh hge)
 exact ⟨.ref h'.objs.size, _, Inv.laidN (s := { s1 with heap := g' }) (o := .lst (Ts.map V.ref)) (t' := tk) a2 a3 (a4 _ hqn (get_none hge)) hqH ⟨by rw [List.length_map, hlen, List.length_zip]; exact Nat.le_trans (Nat.min_le_left _ _) zx, Ts.map Value.ref, c', vals_refs Ts, e1⟩, rfl, q Ts _ H2 (by rw [e2, l1, l2]; simp) hqn hnd a1 hqH⟩
end Hl
namespace Hl
open PySem L2
theorem lays_data {κ : List (V × D)} {δ : Env'} {M : Mem} {σ : St} : ∀ {Ts : List Addr} {xs ys : List V} {dx dy : List D} {H H' : Hp}, Rs κ δ M σ H → Reps M.F H xs dx → Reps M.F H ys dy → Lays H Ts (xs.zip ys) H' → Rs κ δ M σ H' ∧ Reps M.F H' (Ts.map V.ref) (zipD dx dy) ∧ Fwd M.F H M.F H'
 | [], [], _, _, _, H, H', R, .nil, _, e => by
   obtain rfl : H' = H := e
   exact ⟨R, .nil, Fwd.refl⟩
 | [], _ :: _, [], _, _, H, H', R, .cons _ _, .nil, e => by
   obtain rfl : H' = H := e
   exact ⟨R, .nil, Fwd.refl⟩
 | [], _ :: _, _ :: _, _, _, _, _, _, _, _, e => e.elim
 | _ :: _, [], _, _, _, _, _, _, _, _, e => e.elim
 | _ :: _, _ :: _, [], _, _, _, _, _, _, _, e => e.elim
 | T :: Ts, x :: xs, y :: ys, _, _, H, H', R, .cons r1 rs1, .cons r2 rs2, ⟨hT, e⟩ => by
   obtain ⟨R1, t1⟩ := R.tupV (p := T) (.cons r1 (.cons r2 .nil)) hT
   have fw : Fwd M.F H M.F (upd H T (.tup [x, y])) := Fwd.new hT
   obtain ⟨R2, t2, f2⟩ := lays_data R1 (rs1.fwd fw) (rs2.fwd fw) e
   exact ⟨R2, .cons (t1.fwd f2) t2, fw.trans f2⟩
section
variable {B : Bx} {X : Cx} {a b : Expr} {δ : Env'} {M : Mem} {Φ : D → Mem → Prop}
theorem de_listZip {n : Nat} {p p2 pos pos2 : Pos} (z : Cz X n) (gl : Gn X "list") (g : Gn X "zip") (h : DA B X [a, b] δ M fun ds M1 => ∃ xs ys, ds = [.lst xs, .lst ys] ∧ Φ (.lst (zipD xs ys)) M1)
   (na : starEach [.Call (.Name "zip" p2) [a, b] [] pos2] X.env = (false, eval (.Call (.Name "zip" p2) [a, b] [] pos2) X.env) :: starEach [] X.env := by rfl)
   (hs : starEach [a, b] X.env = (false, eval a X.env) :: starEach [b] X.env := by rfl) (hpl : (backTo pos2 (starEach [b] X.env)).any (·.1) = false := by rfl) :
   DE B X (.Call (.Name "list" p) [.Call (.Name "zip" p2) [a, b] [] pos2] [] pos) δ M Φ :=
 .of (pe_listZip z.calm gl.gl gl.no g.gl g.no cA na hs hpl) fun κ σ H Q hb R k => h κ σ H _ hb R fun vs ds M1 H1 ⟨xs, ys, ed, q⟩ R1 r1 => by
   subst ed
   cases r1 with
   | cons ra rr =>
     cases rr with
     | cons rb rr =>
       cases rr
       cases ra with
       | lst hn e1 r1 =>
         cases rb with
         | lst hn2 e2 r2 =>
           refine ⟨_, _, _, _, rfl, SqL.of e1, SqL.of e2, fun Ts q9 H2 _ _ _ hlay hq => ?_⟩
           obtain ⟨R2, t2, _⟩ := lays_data R1 r1 r2 hlay
           obtain ⟨R3, t3⟩ := R2.lstV t2 hq
           exact k _ _ M1 _ q R3 t3
end
end Hl
namespace GQ
open PySem PySem.SeqAt
open AutoSeq1 (wpAny_loadPart')
open MeetsSeq MeetsSeq2 MeetsSeq3 SeqRoads2
section
variable {prog : Program} {w : World} {A : Around} {R : Result → Shared → Prop}
theorem all_get : ∀ {bs : List Bool}, (∀ j, j < bs.length → bs[j]? = some true) → bs.all id = true
 | [], _ => rfl
 | b :: bs, h => by
   have h0 := h 0 (by simp)
   simp at h0
   subst h0
   have := all_get (bs := bs) fun j hj => by
     have := h (j + 1) (by simpa using hj)
     simpa using this
   simpa using this
theorem all_not : ∀ {bs : List Bool} {i : Nat}, bs[i]? = some false → bs.all id = false
 | [], i, h => by simp at h
 | b :: bs, 0, h => by
   simp at h
   subst h
   rfl
 | b :: bs, i + 1, h => by
   have := all_not (bs := bs) (i := i) (by simpa using h)
   rw [List.all_cons, this, Bool.and_false]
def ListB (prog : Program) (w : World) (A : Around) (E : Value → Shared → Prop) (l b : Addr) (N N2 : Nat) (bs : List Bool) (I : Shared → Prop) : Prop :=
 ∀ s, I s → ∃ (items items2 : Array Value) (n n2 : Nat), s.heap.get? l = some { cls := .type "list", data := .seq items n } ∧ s.heap.get? b = some { cls := .type "list", data := .seq items2 n2 } ∧ items.size = N ∧ items2.size = N2 ∧
   ∀ i (h1 : i < items.size) (h2 : i < items2.size), wpAny (model prog w) A.in1 (eqBool items[i] items2[i]) (fun r s' => bs[i]? = some r ∧ I s') E s
theorem eq_loopB (l b : Addr) (N : Nat) (bs : List Bool) (hbs : bs.length = N) (I : Shared → Prop) (hl : ListB prog w A (fun e s' => R (.error e) s') l b N N bs I)
   (fin : ∀ s, I s → R (.ok (.ret (.bool (bs.all id)))) s) (k : Nat) :
   ∀ i : Nat, N - i = k → i ≤ N → (∀ j, j < i → bs[j]? = some true) → ∀ s, I s →
     wpAny (model prog w) A.in1 (Builtin.«list.__eq__.loop» ⟨[.ref l, .ref b, rawInt i, rawInt 2], []⟩) (FinOf prog w A R) (fun e s' => R (.error e) s') s := by
 induction k with
 | zero =>
   intro i hk hi hall s h
   obtain ⟨items, items2, n, n2, hl1, hb1, hs1, hs2, _⟩ := hl _ h
   have hi' : i = N := by omega
   have ha : bs.all id = true := all_get fun j hj => hall j (by omega)
   have hR : R (.ok (.ret (.bool true))) s := ha ▸ fin s h
   obtain ⟨hp, g, d, tk, os⟩ := s
   wp_walk using wpAny_loadPart' hl1, wpAny_loadPart' hb1
   have hi1 : items[((i : Nat) : Int).toNat]? = none := by simp; omega
   have hi2 : items2[((i : Nat) : Int).toNat]? = none := by simp; omega
   rw [hi1, hi2]
   wp_walk using wpAny_loadPart' hl1, wpAny_loadPart' hb1
   show R (.ok (.ret (.bool (items.size == items2.size)))) _
   rw [hs1, hs2]
   simpa using hR
 | succ k ih =>
   intro i hk hi hall s h
   obtain ⟨items, items2, n, n2, hl1, hb1, hs1, hs2, turn⟩ := hl _ h
   have hlt : i < items.size := by omega
   have hlt2 : i < items2.size := by omega
   have ht := turn i hlt hlt2
   obtain ⟨hp, g, d, tk, os⟩ := s
   wp_walk using wpAny_loadPart' hl1, wpAny_loadPart' hb1
   have hi1 : items[((i : Nat) : Int).toNat]? = some items[i] := by simp [hlt]
   have hi2 : items2[((i : Nat) : Int).toNat]? = some items2[i] := by simp [hlt2]
   have hc : ((i : Int) + 1) = ((i + 1 : Nat) : Int) := by omega
   rw [hi1, hi2]
   refine wpAny_bind (wpAny_mono ht (fun r s2 h2 => ?_) fun _ _ x => x)
   obtain ⟨hr, h2⟩ := h2
   cases r with
   | true =>
     have hrec := ih (i + 1) (by omega) (by omega) (fun j hj => by
       rcases Nat.lt_or_ge j i with q | q
       · exact hall j q
       · have : j = i := by omega
         rw [this]; exact hr) s2 h2
     obtain ⟨hp2, g2, d2, tk2, os2⟩ := s2
     wp_walk
     rw [hc]
     exact ⟨plainId_quiet plain_eq_loop _, codeAny_builtin entry_eq_loop (by
       rw [Around.under_plainId plain_eq_loop _]
       exact hrec)⟩
   | false =>
     have hR : R (.ok (.ret (.bool false))) s2 := all_not hr ▸ fin s2 h2
     obtain ⟨items3, items4, n3, n4, hl3, hb3, hs3, hs4, _⟩ := hl _ h2
     obtain ⟨hp2, g2, d2, tk2, os2⟩ := s2
     wp_walk using wpAny_loadPart' hl3, wpAny_loadPart' hb3
     have hi3 : items3[((i : Nat) : Int).toNat]? = some (items3[i]'(by omega)) := by simp
     have hi4 : items4[((i : Nat) : Int).toNat]? = some (items4[i]'(by omega)) := by simp
     rw [hi3, hi4]
     wp_walk
     exact hR
theorem list_eqB (l b : Addr) (N : Nat) (bs : List Bool) (hbs : bs.length = N) (I : Shared → Prop) (hl : ListB prog w A (fun e s' => R (.error e) s') l b N N bs I)
   (fin : ∀ s, I s → R (.ok (.ret (.bool (bs.all id)))) s) {s : Shared} (h : I s) :
   wpAny (model prog w) A.in1 (Builtin.«list.__eq__» ⟨[.ref l, .ref b], []⟩) (FinOf prog w A R) (fun e s' => R (.error e) s') s := by
 obtain ⟨items, items2, n, n2, hl1, hb1, hs1, hs2, _⟩ := hl _ h
 have hrec := eq_loopB (A := A) (R := R) l b N bs hbs I hl fin _ 0 rfl (Nat.zero_le _) (fun j hj => absurd hj (by omega)) s h
 obtain ⟨hp, g, d, tk, os⟩ := s
 have f3 := AutoSeq1.sub_list_list
 have hne : ¬ (items.size != items2.size) = true := by simp [hs1, hs2]
 wp_walk using wpAny_loadPart' hl1, wpAny_loadPart' hb1
 exact ⟨plainId_quiet plain_eq_loop _, codeAny_builtin entry_eq_loop (by
   rw [Around.under_plainId plain_eq_loop _]
   exact hrec)⟩
theorem list_eqL (l b : Addr) {items items2 : Array Value} {n n2 : Nat} {s : Shared} (hl1 : s.heap.get? l = some { cls := .type "list", data := .seq items n }) (hb1 : s.heap.get? b = some { cls := .type "list", data := .seq items2 n2 }) (hne : items.size ≠ items2.size)
   (fin : R (.ok (.ret (.bool false))) s) :
   wpAny (model prog w) A.in1 (Builtin.«list.__eq__» ⟨[.ref l, .ref b], []⟩) (FinOf prog w A R) (fun e s' => R (.error e) s') s := by
 obtain ⟨hp, g, d, tk, os⟩ := s
 have f3 := AutoSeq1.sub_list_list
 have hne : (items.size != items2.size) = true := by simp [hne]
 wp_walk using wpAny_loadPart' hl1, wpAny_loadPart' hb1
 all_goals first | exact fin | skip
theorem tuple_eqB (l b : Addr) (items items2 : Array Value) (n n2 : Nat) (dd dd2 : Option Addr) (sl sl2 : Array (Option Value)) (bs : List Bool) (hbs : bs.length = min items.size items2.size) (I : Shared → Prop)
   (turn : ∀ i (h1 : i < items.size) (h2 : i < items2.size) s, I s → wpAny (model prog w) A.in1 (eqBool items[i] items2[i]) (fun r s' => bs[i]? = some r ∧ I s') (fun e s' => R (.error e) s') s)
   (fin : ∀ s, I s → R (.ok (.ret (.bool (bs.all id && (items.size == items2.size))))) s) {s : Shared} (hl1 : s.heap.get? l = some { cls := .type "tuple", dict := dd, data := .seq items n, slots := sl }) (hb1 : s.heap.get? b = some { cls := .type "tuple", dict := dd2, data := .seq items2 n2, slots := sl2 }) (h : I s) :
   wpAny (model prog w) A.in1 (Builtin.«tuple.__eq__» ⟨[.ref l, .ref b], []⟩) (FinOf prog w A R) (fun e s' => R (.error e) s') s := by
 have f2 := AutoSeq1.sub_tuple_tuple
 have hZ : (items.toList.zip items2.toList).length = min items.size items2.size := by simp
 have h0 := h
 obtain ⟨hp, g, d, tk, os⟩ := s
 wp_walk using wpAny_loadPart' hl1, wpAny_loadPart' hb1, wpAny_forIn_list _ (fun rest b s' => b.1 = none ∧ ∃ i, rest = (items.toList.zip items2.toList).drop i ∧ i ≤ min items.size items2.size ∧ (∀ j, j < i → bs[j]? = some true) ∧ I s') _
 case turn =>
   rintro ⟨y, x⟩ rest b s' ⟨hb', i, hz, hi, hall, hI⟩
   have hlt : i < (items.toList.zip items2.toList).length := by
     rcases Nat.lt_or_ge i (items.toList.zip items2.toList).length with h' | h'
     · exact h'
     · rw [List.drop_of_length_le h'] at hz; cases hz
   have h1 : i < items.size := by omega
   have h2 : i < items2.size := by omega
   rw [List.drop_eq_getElem_cons hlt] at hz
   injection hz with hyx hrest
   have hy : y = items[i] := by have := congrArg Prod.fst hyx; simpa using this
   have hx : x = items2[i] := by have := congrArg Prod.snd hyx; simpa using this
   subst hy hx
   refine wpAny_bind (wpAny_mono (turn i h1 h2 s' hI) (fun r s2 q2 => ?_) fun _ _ x => x)
   obtain ⟨hr, q2⟩ := q2
   cases r with
   | true =>
     wp_walk
     exact ⟨rfl, i + 1, hrest, by omega, fun j hj => by
       rcases Nat.lt_or_ge j i with q | q
       · exact hall j q
       · have : j = i := by omega
         rw [this]; exact hr, q2⟩
   | false =>
     have hR : R (.ok (.ret (.bool false))) s2 := by
       have := fin s2 q2
       rw [all_not hr, Bool.false_and] at this
       exact this
     wp_walk
     first | exact hR | trace_state
 case fin =>
   rintro ⟨b1, b2⟩ s' ⟨hb', i, hz, hi, hall, hI⟩
   simp only at hb'
   subst hb'
   have hge : min items.size items2.size ≤ i := by
     rcases Nat.lt_or_ge i (items.toList.zip items2.toList).length with h' | h'
     · rw [List.drop_eq_getElem_cons h'] at hz; cases hz
     · exact hZ ▸ h'
   have ha : bs.all id = true := all_get fun j hj => hall j (by omega)
   have hR : R (.ok (.ret (.bool (items.size == items2.size)))) s' := by
     have := fin s' hI
     rw [ha, Bool.true_and] at this
     exact this
   wp_walk
   first | exact hR | simpa [Builtin.Tuple.tupleCompareSizes] using hR | trace_state
 case h =>
   exact ⟨rfl, 0, rfl, Nat.zero_le _, fun j hj => absurd hj (by omega), h0⟩
end
section
variable {prog : Program} {w : World} {A : Around} {E : Value → Shared → Prop} {s : Shared}
theorem rc_listB {l b : Addr} {N : Nat} {bs : List Bool} {Q : Value → Shared → Prop} (hbs : bs.length = N) (hu : A.units < cLine) (I : Shared → Prop) (hl : ListB prog w A E l b N N bs I)
   (fin : ∀ s, I s → Q (.bool (bs.all id)) s) (h : I s) : wpAny (model prog w) A (richCompare .Eq (.ref l) (.ref b)) Q E s := by
 obtain ⟨items, items2, n, n2, hl1, hb1, _, _, _⟩ := hl _ h
 refine wpAny_richCompare_same_room (op := .Eq) ⟨_, hl1, rfl⟩ ⟨_, hb1, rfl⟩ F.slot_list_eq (call_here F.slot_list_eq ⟨_, hl1, rfl⟩ F.entry_list_eq (F.args_list_eq_2 _ _) ?_) hu
 exact list_eqB (R := wants (fun v s' => v ≠ .notImplemented ∧ Q v s') E) l b N bs hbs I hl (fun s' q => ⟨(fun x => nomatch x), fin s' q⟩) h
theorem rc_listL {l b : Addr} {items items2 : Array Value} {n n2 : Nat} {Q : Value → Shared → Prop} (hu : A.units < cLine) (hl1 : s.heap.get? l = some { cls := .type "list", data := .seq items n }) (hb1 : s.heap.get? b = some { cls := .type "list", data := .seq items2 n2 }) (hne : items.size ≠ items2.size)
   (fin : Q (.bool false) s) : wpAny (model prog w) A (richCompare .Eq (.ref l) (.ref b)) Q E s := by
 refine wpAny_richCompare_same_room (op := .Eq) ⟨_, hl1, rfl⟩ ⟨_, hb1, rfl⟩ F.slot_list_eq (call_here F.slot_list_eq ⟨_, hl1, rfl⟩ F.entry_list_eq (F.args_list_eq_2 _ _) ?_) hu
 exact list_eqL (R := wants (fun v s' => v ≠ .notImplemented ∧ Q v s') E) l b hl1 hb1 hne ⟨(fun x => nomatch x), fin⟩
theorem rc_tupB {l b : Addr} {items items2 : Array Value} {bs : List Bool} {Q : Value → Shared → Prop} (hbs : bs.length = min items.size items2.size) (hu : A.units < cLine) (I : Shared → Prop)
   (hl : s.heap.IsTuple l items) (hb : s.heap.IsTuple b items2)
   (turn : ∀ i (h1 : i < items.size) (h2 : i < items2.size) s, I s → wpAny (model prog w) A.in1 (eqBool items[i] items2[i]) (fun r s' => bs[i]? = some r ∧ I s') E s)
   (fin : ∀ s, I s → Q (.bool (bs.all id && (items.size == items2.size))) s) (h : I s) : wpAny (model prog w) A (richCompare .Eq (.ref l) (.ref b)) Q E s := by
 obtain ⟨⟨cls, dd, data, sl⟩, ho, hc, n, hd⟩ := id hl
 obtain ⟨⟨cls2, dd2, data2, sl2⟩, ho2, hc2, n2, hd2⟩ := id hb
 simp only at hc hd hc2 hd2
 subst hc hd hc2 hd2
 refine wpAny_richCompare_same_room (op := .Eq) ⟨_, ho, rfl⟩ ⟨_, ho2, rfl⟩ F.slot_tuple_eq (call_here F.slot_tuple_eq ⟨_, ho, rfl⟩ F.entry_tuple_eq (F.args_tuple_eq_2 _ _) ?_) hu
 exact tuple_eqB (R := wants (fun v s' => v ≠ .notImplemented ∧ Q v s') E) l b items items2 n n2 dd dd2 sl sl2 bs hbs I turn (fun s' q => ⟨(fun x => nomatch x), fin s' q⟩) ho ho2 h
end
end GQ
namespace Hl
open PySem L2
open PyProof.Rows hiding St
mutual
inductive JE (C : Addr) (ns : List Str) (k : Nat) : Nat → D → D → Bool → Prop
 | int {n : Nat} (i j : Int) : JE C ns k n (.int i) (.int j) (decide (i = j))
 | str {n : Nat} (x y : Str) : JE C ns k n (.str x) (.str y) (decide (x = y))
 | obj {n : Nat} (h : k ≤ n) (is js : List Int) (hi : is.length = ns.length) (hj : js.length = ns.length) : JE C ns k n (.obj C ns (is.map .int)) (.obj C ns (js.map .int)) (decide (is = js))
 | tup {n : Nat} {xs ys : List D} {bs : List Bool} : JEs C ns k n xs ys bs → JE C ns k (n + 1) (.tup xs) (.tup ys) (bs.all id && decide (xs.length = ys.length))
 | lst {n : Nat} {xs ys : List D} {bs : List Bool} : JEs C ns k n xs ys bs → JE C ns k (n + 1) (.lst xs) (.lst ys) (bs.all id && decide (xs.length = ys.length))
inductive JEs (C : Addr) (ns : List Str) (k : Nat) : Nat → List D → List D → List Bool → Prop
 | nl {n : Nat} {ys : List D} : JEs C ns k n [] ys []
 | nr {n : Nat} {x : D} {xs : List D} : JEs C ns k n (x :: xs) [] []
 | cons {n : Nat} {x y : D} {xs ys : List D} {b : Bool} {bs : List Bool} : JE C ns k n x y b → JEs C ns k n xs ys bs → JEs C ns k n (x :: xs) (y :: ys) (b :: bs)
end
section
variable {C : Addr} {ns : List Str} {k n : Nat}
theorem repj_ints {F : List Addr} {H : Hp} : ∀ {vs : List V} {is js : List Int}, Reps F H vs (is.map .int) → Reps F H vs (js.map .int) → is = js
 | _, [], [], _, _ => rfl
 | _, [], j :: js, .nil, r => by simp at r; cases r
 | _, i :: is, [], .cons _ _, r => by simp at r; cases r
 | _, i :: is, j :: js, .cons r1 rs1, .cons r2 rs2 => by
   cases r1
   cases r2
   rw [repj_ints rs1 rs2]
theorem zip_right {α β : Type} : ∀ {ns : List α} {vs ws : List β}, ns.length = vs.length → ns.length = ws.length → ns.zip vs = ns.zip ws → vs = ws
 | [], [], [], _, _, _ => rfl
 | [], _ :: _, _, h, _, _ => by simp at h
 | [], [], _ :: _, _, h, _ => by simp at h
 | _ :: _, [], _, h, _, _ => by simp at h
 | _ :: _, _ :: _, [], _, h, _ => by simp at h
 | n :: ns, v :: vs, w :: ws, h1, h2, e => by
   simp only [List.zip_cons_cons, List.cons.injEq, Prod.mk.injEq, true_and] at e
   rw [e.1, zip_right (by simpa using h1) (by simpa using h2) e.2]
mutual
theorem JE.self {F : List Addr} {H : Hp} : ∀ {n : Nat} {d d' : D} {b : Bool} {v : V}, JE C ns k n d d' b → Rep F H v d → Rep F H v d' → b = true
 | _, _, _, _, _, .int i j, r1, r2 => by
   cases r1
   cases r2
   simp
 | _, _, _, _, _, .str x y, r1, r2 => by
   cases r1
   cases r2
   simp
 | _, _, _, _, _, .obj _ is js _ _, .obj h1 e1 l1 r1, .obj h2 e2 l2 r2 => by
   have e := e1.symm.trans e2
   injection e with e
   injection e with _ _ e
   have := zip_right l1 l2 e
   subst this
   simp [repj_ints r1 r2]
 | _, _, _, _, _, .tup j, .tup h1 e1 r1, .tup h2 e2 r2 => by
   have e := e1.symm.trans e2
   injection e with e
   injection e with e
   subst e
   have := JEs.self j r1 r2
   simp [this]
 | _, _, _, _, _, .lst j, .lst h1 e1 r1, .lst h2 e2 r2 => by
   have e := e1.symm.trans e2
   injection e with e
   injection e with e
   subst e
   have := JEs.self j r1 r2
   simp [this]
theorem JEs.self {F : List Addr} {H : Hp} : ∀ {n : Nat} {xs ys : List D} {bs : List Bool} {vs : List V}, JEs C ns k n xs ys bs → Reps F H vs xs → Reps F H vs ys → bs.all id = true ∧ xs.length = ys.length
 | _, _, _, _, _, .nl, r1, r2 => by
   cases r1
   cases r2
   exact ⟨rfl, rfl⟩
 | _, _, _, _, _, .nr, r1, r2 => by
   cases r1
   cases r2
 | _, _, _, _, vs, .cons j js, r1, r2 => by
   cases r1 with
   | cons r1 rs1 =>
   cases r2 with
   | cons r2 rs2 =>
   have h := JE.self j r1 r2
   have h2 := JEs.self js rs1 rs2
   subst h
   exact ⟨by simpa using h2.1, by simp [h2.2]⟩
end
theorem JEs.size : ∀ {n : Nat} {xs ys : List D} {bs : List Bool}, JEs C ns k n xs ys bs → bs.length = min xs.length ys.length
 | _, _, _, _, .nl => by simp
 | _, _, _, _, .nr => by simp
 | _, _, _, _, .cons _ js => by
   have := js.size
   simp only [List.length_cons]
   omega
theorem JEs.at : ∀ {n : Nat} {xs ys : List D} {bs : List Bool} {i : Nat} {x y : D}, JEs C ns k n xs ys bs → xs[i]? = some x → ys[i]? = some y → ∃ b, bs[i]? = some b ∧ JE C ns k n x y b
 | _, _, _, _, _, _, _, .nl, h, _ => by simp at h
 | _, _, _, _, _, _, _, .nr, _, h => by simp at h
 | _, _, _, _, 0, _, _, .cons j js, h1, h2 => by
   simp at h1 h2
   subst h1 h2
   exact ⟨_, rfl, j⟩
 | _, _, _, _, i + 1, _, _, .cons j js, h1, h2 => by
   obtain ⟨b, h, q⟩ := js.at (i := i) (by simpa using h1) (by simpa using h2)
   exact ⟨b, by simpa using h, q⟩
theorem JEs.map {α : Type} [DecidableEq α] {g : α → D} (hg : ∀ x y, JE C ns k n (g x) (g y) (decide (x = y))) : ∀ l l' : List α, ∃ bs, JEs C ns k n (l.map g) (l'.map g) bs ∧ (bs.all id && decide ((l.map g).length = (l'.map g).length)) = decide (l = l')
 | [], [] => ⟨_, .nl, rfl⟩
 | [], y :: ys => ⟨_, .nl, by simp⟩
 | x :: xs, [] => ⟨_, .nr, by simp⟩
 | x :: xs, y :: ys => by
   obtain ⟨bs, h, e⟩ := JEs.map hg xs ys
   refine ⟨_, .cons (hg x y) h, ?_⟩
   have e2 : decide (x :: xs = y :: ys) = (decide (x = y) && decide (xs = ys)) := by
     by_cases h1 : x = y <;> by_cases h2 : xs = ys <;> simp [h1, h2]
   rw [e2, ← e]
   simp [Bool.and_assoc]
end
section
variable {κ : List (V × D)} {δ : List (Option D)} {M : Mem} {σ : St} {H : Hp}
theorem Rs.zip (R : Rs κ δ M σ H) : ∀ {vs : List V} {ds : List D}, Reps M.F H vs ds → Rs (vs.zip ds ++ κ) δ M σ H
 | _, _, .nil => R
 | _, _, .cons r rs => (Rs.zip R rs).push r
theorem Reps.unzip : ∀ {vs : List V} {ds : List D} {F : List Addr}, (∀ p ∈ vs.zip ds, Rep F H p.1 p.2) → vs.length = ds.length → Reps F H vs ds
 | [], [], _, _, _ => .nil
 | [], _ :: _, _, _, h => by simp at h
 | _ :: _, [], _, _, h => by simp at h
 | v :: vs, d :: ds, _, h, e => .cons (h (v, d) List.mem_cons_self) (Reps.unzip (fun p hp => h p (List.mem_cons_of_mem _ hp)) (by simpa using e))
end
section
variable {X : Cx} {C : Addr} {ns : List Str} {k m : Nat} {p : DSpE}
abbrev KeepJ (X : Cx) (pins : List (Addr × Obj)) (σ : St) (κ : List (V × D)) (M : Mem) (s' : Shared) : Prop := ∃ H', Inv X pins σ H' s' ∧ Rs κ [] M [] H'
def EqJ (X : Cx) (n : Nat) (d d' : D) (b : Bool) : Prop := ∀ (A : Around) (pins : List (Addr × Obj)) (s : Shared) (σ : St) (H : Hp) (x y : V) (u v : Value) (κ : List (V × D)) (M : Mem), Sub X n A → Inv X pins σ H s → RelV x u → RelV y v → Rep M.F H x d → Rep M.F H y d' → Rs κ [] M [] H →
 wpAny (model X.prog X.w) A (eqBool u v) (fun r s' => r = b ∧ KeepJ X pins σ κ M s') X.xe s
def RcJ (X : Cx) (n : Nat) (d d' : D) (b : Bool) : Prop := ∀ (A : Around) (pins : List (Addr × Obj)) (s : Shared) (σ : St) (H : Hp) (x y : Addr) (κ : List (V × D)) (M : Mem), Sub X n A → Inv X pins σ H s → Rep M.F H (.ref x) d → Rep M.F H (.ref y) d' → Rs κ [] M [] H →
 wpAny (model X.prog X.w) A (richCompare .Eq (.ref x) (.ref y)) (fun r s' => r = .bool b ∧ KeepJ X pins σ κ M s') X.xe s
theorem RcJ.eq {n : Nat} {d d' : D} {b : Bool} (h : RcJ X n d d' b) (j : JE C ns k n d d' b) (hr : ∀ F H v, Rep F H v d → ∃ a, v = .ref a) (hr' : ∀ F H v, Rep F H v d' → ∃ a, v = .ref a) : EqJ X n d d' b := by
 intro A pins s σ H x y u v κ M sb I rx ry rd rd' R
 obtain ⟨a, rfl⟩ := hr _ _ _ rd
 obtain ⟨c, rfl⟩ := hr' _ _ _ rd'
 cases rx
 cases ry
 by_cases hab : a = c
 · subst hab
   have e := JE.self j rd rd'
   subst e
   exact SeqAt.EqAt.same (A := A) (s := s) (.ref a) X.prog X.w X.xe _ ⟨rfl, H, I, R⟩
 · refine GQ.eqBool_refG hab (wpAny_mono (h A pins s σ H a c κ M sb I rd rd' R) (fun r s' q => ?_) fun _ _ x => x)
   obtain ⟨hr', q⟩ := q
   exact ⟨b, hr', rfl, q⟩
def JP (C : Addr) (ns : List Str) (p : DSpE) : Prop := ∀ (M : Mem) (is js : List Int), is.length = ns.length → js.length = ns.length → p [.obj C ns (is.map .int), .obj C ns (js.map .int)] M (fun d M' => d = .bl (decide (is = js)) ∧ M' = M) noX
theorem rcJ_obj {n : Nat} (f : MethEX X k C "__eq__" 1 [] (selN 2) p) (hp : JP C ns p) (hk : k ≤ n) (is js : List Int) (hi : is.length = ns.length) (hj : js.length = ns.length) : RcJ X n (.obj C ns (is.map .int)) (.obj C ns (js.map .int)) (decide (is = js)) := by
 intro A pins s σ H x y κ M sb I rx ry R
 have rx0 := rx
 have ry0 := ry
 cases rx with
 | obj hx ex lx rrx =>
 cases ry with
 | obj hy ey ly rry =>
 obtain ⟨fa, c, hm, h3⟩ := f.ex
 obtain ⟨mA, J, _⟩ := ins_get I.hok ex
 obtain ⟨mB, J', _⟩ := ins_get I.hok ey
 obtain ⟨od, J, _⟩ := J.look
 obtain ⟨od', J', _⟩ := J'.look
 obtain ⟨m', hF⟩ := I.fr
 refine PySem.W.cmp_K (op := .Eq) (tb := .ref C) sb.room.units0 hF I.ok.mod.kin J J'.type (by simp [PySem.W.notFirst]) hm.at_ hm.fn ?_
 have r2 : Vals [V.ref x, V.ref y] [Value.ref x, Value.ref y] := .cons rfl (.cons rfl .nil)
 have so : SelOk [Value.none, Value.none] (selN 2) [Value.none, Value.none] := .at rfl (.at rfl .nil)
 refine wpAny_mono (run_EA (ws := []) (zs := []) (Q := fun v H' => v = .bl (decide (is = js)) ∧ Rs κ [] M [] H') (E := fun _ _ _ => False) (sb.mono hk) h3 (passAt takes0 σ) I r2 .nil rfl rfl fun us all rr so' => ?_) (fun r s' hq => ?_) fun _ _ x => x
 · exact liftE_of (sel := selN 2) (vs := [.ref x, .ref y]) (ds := [_, _]) so rfl R (.cons rx0 (.cons ry0 .nil)) (hp M is js hi hj) (fun v d M' H' ⟨e, eM⟩ R' r' => by
     subst e eM
     cases r'
     exact ⟨rfl, R'⟩) fun C ns es M' H' dx e R' x => e
 · obtain ⟨v, H', I', rv, e, R'⟩ := hq
   subst e
   cases rv
   exact ⟨rfl, H', I', R'⟩
theorem vals_get {xs : List V} {us : List Value} (r : Vals xs us) {i : Nat} (h : i < us.toArray.size) : ∃ v, xs[i]? = some v ∧ RelV v us.toArray[i] := by
 obtain ⟨l, q⟩ := vals_at r
 have h' : i < us.length := by simpa using h
 have hx : i < xs.length := by omega
 refine ⟨xs[i], List.getElem?_eq_getElem hx, q i _ _ (List.getElem?_eq_getElem hx) ?_⟩
 rw [List.getElem?_eq_getElem h']
 simp
theorem reps_get {F : List Addr} {H : Hp} {vs : List V} {ds : List D} (r : Reps F H vs ds) : vs.length = ds.length ∧ ∀ (i : Nat) v, vs[i]? = some v → ∃ d, ds[i]? = some d ∧ Rep F H v d := by
 induction vs generalizing ds with
 | nil => cases r; exact ⟨rfl, fun i v h => by simp at h⟩
 | cons v vs ih =>
   cases r with
   | cons r0 rs =>
   obtain ⟨l, q⟩ := ih rs
   refine ⟨by simp [l], fun i w h => ?_⟩
   cases i with
   | zero => simp at h; subst h; exact ⟨_, rfl, r0⟩
   | succ i => obtain ⟨d, e, r⟩ := q i w (by simpa using h); exact ⟨d, by simpa using e, r⟩
theorem turnJ {n : Nat} {xs ys : List D} {bs : List Bool} (hE : ∀ (i : Nat) x y b, xs[i]? = some x → ys[i]? = some y → bs[i]? = some b → JE C ns k n x y b → EqJ X n x y b) (j : JEs C ns k n xs ys bs) {A : Around} (sb : Sub X (n + 1) A) {pins : List (Addr × Obj)} {σ : St} {H : Hp} {s : Shared} {vs ws : List V} {us us2 : List Value} {κ : List (V × D)} {M : Mem}
   (I : Inv X pins σ H s) (r : Vals vs us) (r2 : Vals ws us2) (q : Reps M.F H vs xs) (q2 : Reps M.F H ws ys) (R : Rs κ [] M [] H) (i : Nat) (h1 : i < us.toArray.size) (h2 : i < us2.toArray.size) :
   wpAny (model X.prog X.w) A.in1 (eqBool us.toArray[i] us2.toArray[i]) (fun r s' => bs[i]? = some r ∧ KeepJ X pins σ κ M s') X.xe s := by
 obtain ⟨v, ev, rv⟩ := vals_get r h1
 obtain ⟨w, ew, rw'⟩ := vals_get r2 h2
 obtain ⟨x, ex, qx⟩ := (reps_get q).2 i v ev
 obtain ⟨y, ey, qy⟩ := (reps_get q2).2 i w ew
 obtain ⟨b, eb, jb⟩ := j.at ex ey
 refine wpAny_mono (hE i x y b ex ey eb jb A.in1 pins s σ H v w _ _ κ M sb.in1 I rv rw' qx qy R) (fun r s' hq => ?_) fun _ _ x => x
 obtain ⟨e, K⟩ := hq
 subst e
 exact ⟨eb, K⟩
theorem rcJ_lst {n : Nat} {xs ys : List D} {bs : List Bool} (hE : ∀ (i : Nat) x y b, xs[i]? = some x → ys[i]? = some y → bs[i]? = some b → JE C ns k n x y b → EqJ X n x y b) (j : JEs C ns k n xs ys bs) : RcJ X (n + 1) (.lst xs) (.lst ys) (bs.all id && decide (xs.length = ys.length)) := by
 intro A pins s σ H x y κ M sb I rx ry R
 by_cases hlen : xs.length = ys.length
 · have e0 : (bs.all id && decide (xs.length = ys.length)) = bs.all id := by simp [hlen]
   rw [e0]
   refine GQ.rc_listB (N := xs.length) (bs := bs) (by rw [j.size]; omega) sb.room.units0 (fun s' => KeepJ X pins σ ((.ref x, .lst xs) :: (.ref y, .lst ys) :: κ) M s') (fun s' q => ?_) (fun s' ⟨H', I', R'⟩ => ⟨rfl, H', I', R'.pop.pop⟩) ⟨H, I, (R.push ry).push rx⟩
   obtain ⟨H1, I1, R1⟩ := q
   have q1 := R1.top
   have q2 := R1.pop.top
   cases q1 with
   | lst n1 e1 p1 =>
   cases q2 with
   | lst n2 e2 p2 =>
   obtain ⟨z, its, kk, r, e⟩ := I1.hok x _ e1
   obtain ⟨z2, its2, kk2, r2, e'⟩ := I1.hok y _ e2
   refine ⟨its.toArray, its2.toArray, kk, kk2, e, e', by rw [List.size_toArray, ← r.length, (reps_get p1).1], by rw [List.size_toArray, ← r2.length, (reps_get p2).1]; exact hlen.symm, fun i h1 h2 => ?_⟩
   exact turnJ hE j sb I1 r r2 p1 p2 R1 i h1 h2
 · have e0 : (bs.all id && decide (xs.length = ys.length)) = false := by simp [hlen]
   rw [e0]
   cases rx with
   | lst n1 e1 p1 =>
   cases ry with
   | lst n2 e2 p2 =>
   obtain ⟨z, its, kk, r, e⟩ := I.hok x _ e1
   obtain ⟨z2, its2, kk2, r2, e'⟩ := I.hok y _ e2
   exact GQ.rc_listL sb.room.units0 e e' (by
     rw [List.size_toArray, List.size_toArray, ← r.length, ← r2.length, (reps_get p1).1, (reps_get p2).1]
     exact hlen) ⟨rfl, H, I, R⟩
theorem rcJ_tup {n : Nat} {xs ys : List D} {bs : List Bool} (hE : ∀ (i : Nat) x y b, xs[i]? = some x → ys[i]? = some y → bs[i]? = some b → JE C ns k n x y b → EqJ X n x y b) (j : JEs C ns k n xs ys bs) : RcJ X (n + 1) (.tup xs) (.tup ys) (bs.all id && decide (xs.length = ys.length)) := by
 intro A pins s σ H x y κ M sb I rx ry R
 cases rx with
 | @tup _ vs _ n1 e1 p1 =>
 cases ry with
 | @tup _ ws _ n2 e2 p2 =>
 obtain ⟨its, r, e, z⟩ := I.tuple (SqT.of e1)
 obtain ⟨its2, r2, e', z2⟩ := I.tuple (SqT.of e2)
 have l1 := (reps_get p1).1
 have l2 := (reps_get p2).1
 have s1 : its.toArray.size = xs.length := by rw [List.size_toArray, ← r.length, l1]
 have s2 : its2.toArray.size = ys.length := by rw [List.size_toArray, ← r2.length, l2]
 refine GQ.rc_tupB (bs := bs) (by rw [j.size, s1, s2]) sb.room.units0 (fun s' => KeepJ X pins σ (vs.zip xs ++ (ws.zip ys ++ κ)) M s') e e' (fun i h1 h2 s' q => ?_) (fun s' ⟨H', I', R'⟩ => ⟨?_, H', I', R'.sub fun q hq => List.mem_append.mpr (.inr (List.mem_append.mpr (.inr hq)))⟩) ⟨H, I, (R.zip p2).zip p1⟩
 · obtain ⟨H1, I1, R1⟩ := q
   exact turnJ hE j sb I1 r r2 (Reps.unzip (fun p hp => R1.kp p (List.mem_append.mpr (.inl hp))) l1) (Reps.unzip (fun p hp => R1.kp p (List.mem_append.mpr (.inr (List.mem_append.mpr (.inl hp))))) l2) R1 i h1 h2
 · rw [s1, s2]
   by_cases hl : xs.length = ys.length <;> simp [hl]
theorem rep_objR {F : List Addr} {H : Hp} {v : V} {C : Addr} {ns : List Str} {ds : List D} (r : Rep F H v (.obj C ns ds)) : ∃ a, v = .ref a := by cases r; exact ⟨_, rfl⟩
theorem rep_tupR {F : List Addr} {H : Hp} {v : V} {ds : List D} (r : Rep F H v (.tup ds)) : ∃ a, v = .ref a := by cases r; exact ⟨_, rfl⟩
theorem rep_lstR {F : List Addr} {H : Hp} {v : V} {ds : List D} (r : Rep F H v (.lst ds)) : ∃ a, v = .ref a := by cases r; exact ⟨_, rfl⟩
mutual
theorem JE.eq (f : MethEX X k C "__eq__" 1 [] (selN 2) p) (hp : JP C ns p) : ∀ {n : Nat} {d d' : D} {b : Bool}, JE C ns k n d d' b → EqJ X n d d' b
 | _, _, _, _, .int i j => fun A pins s σ H x y u v κ M sb I rx ry rd rd' R => by
   cases rd
   cases rd'
   exact eqAt_V (A := A) (s := s) rx ry rfl rfl X.prog X.w X.xe _ ⟨by show (i == j) = _; by_cases h : i = j <;> simp [h], H, I, R⟩
 | _, _, _, _, .str x y => fun A pins s σ H x' y' u v κ M sb I rx ry rd rd' R => by
   cases rd
   cases rd'
   exact eqAt_V (A := A) (s := s) rx ry rfl rfl X.prog X.w X.xe _ ⟨by show (x == y) = _; by_cases h : x = y <;> simp [h], H, I, R⟩
 | _, _, _, _, .obj h is js hi hj => (rcJ_obj f hp h is js hi hj).eq (.obj h is js hi hj) (fun _ _ _ => rep_objR) fun _ _ _ => rep_objR
 | _, _, _, _, .tup j => (rcJ_tup (JEs.eq f hp j) j).eq (.tup j) (fun _ _ _ => rep_tupR) fun _ _ _ => rep_tupR
 | _, _, _, _, .lst j => (rcJ_lst (JEs.eq f hp j) j).eq (.lst j) (fun _ _ _ => rep_lstR) fun _ _ _ => rep_lstR
theorem JEs.eq (f : MethEX X k C "__eq__" 1 [] (selN 2) p) (hp : JP C ns p) : ∀ {n : Nat} {xs ys : List D} {bs : List Bool}, JEs C ns k n xs ys bs → ∀ (i : Nat) x y b, xs[i]? = some x → ys[i]? = some y → bs[i]? = some b → JE C ns k n x y b → EqJ X n x y b
 | _, _, _, _, .nl => fun i x y b h _ _ _ => by simp at h
 | _, _, _, _, .nr => fun i x y b _ h _ _ => by simp at h
 | _, _, _, _, .cons j js => fun i x y b h1 h2 h3 q => by
   cases i with
   | zero =>
     simp at h1 h2 h3
     subst h1 h2 h3
     exact JE.eq f hp j
   | succ i => exact JEs.eq f hp js i x y b (by simpa using h1) (by simpa using h2) (by simpa using h3) q
end
def rJ (C : Addr) (ns : List Str) (k n : Nat) : R2 := fun x y H Q => ∃ κ M xs ys bs, JEs C ns k n xs ys bs ∧ Rep M.F H x (.lst xs) ∧ Rep M.F H y (.lst ys) ∧ Rs κ [] M [] H ∧ ∀ H', Rs κ [] M [] H' → Q (.bl (bs.all id && decide (xs.length = ys.length))) H'
theorem op_J {n : Nat} (z : Cz X m) (f : MethEX X k C "__eq__" 1 [] (selN 2) p) (hp : JP C ns p) (hm : n + 1 ≤ m) : OpR X (compareOp .Eq) (rJ C ns k n) := by
 intro pins s σ H x y v u Q I rx ry ⟨κ, M, xs, ys, bs, j, r1, r2, R, kk⟩
 obtain ⟨a, rfl⟩ := rep_lstR r1
 obtain ⟨c, rfl⟩ := rep_lstR r2
 cases rx
 cases ry
 show wpAny (model X.prog X.w) X.A (richCompare .Eq (.ref a) (.ref c)) (EP X pins σ Q) X.xe s
 refine wpAny_mono (rcJ_lst (JEs.eq f hp j) j X.A pins s σ H a c κ M ⟨z.room.mono hm, rfl⟩ I r1 r2 R) (fun r s' q => ?_) fun _ _ x => x
 obtain ⟨e, H', I', R'⟩ := q
 subst e
 exact ⟨.bl _, H', I', rfl, kk H' R'⟩
theorem od_J {n : Nat} {xs ys : List D} {bs : List Bool} {M : Mem} {Φ : D → Mem → Prop} (j : JEs C ns k n xs ys bs) (h : Φ (.bl (bs.all id && decide (xs.length = ys.length))) M) : OpD (rJ C ns k n) (.lst xs) (.lst ys) M Φ := fun κ δ σ H v w Q R rv rw' kk =>
 ⟨κ ++ sk σ δ, M, xs, ys, bs, j, rv, rw', R.pack, fun H' R' => kk _ _ _ _ h (R.unpack R') (.bl _)⟩
theorem od_JM {n : Nat} {α : Type} [DecidableEq α] {g : α → D} {l l' : List α} {M : Mem} {Φ : D → Mem → Prop} (hg : ∀ x y, JE C ns k n (g x) (g y) (decide (x = y))) (h : Φ (.bl (decide (l = l'))) M) : OpD (rJ C ns k n) (.lst (l.map g)) (.lst (l'.map g)) M Φ := by
 obtain ⟨bs, j, e⟩ := JEs.map hg l l'
 exact od_J j (by rw [e]; exact h)
variable {B : Bx} {a b : Expr} {δ : Env'} {M : Mem} {Φ : D → Mem → Prop} {ΦB : Bool → Mem → Prop} {pos : Pos}
theorem de_eqJ {n : Nat} (z : Cz X m) (f : MethEX X k C "__eq__" 1 [] (selN 2) p) (hp : JP C ns p) (hm : n + 1 ≤ m) (h : DE B X a δ M fun x M1 => DE B X b δ M1 fun y M2 => OpD (rJ C ns k n) x y M2 Φ) : DE B X (.Compare a [.Eq] [b] pos) δ M Φ := de_cmp (op_J z f hp hm) (nomark _) h
end
end Hl
namespace Hl
open PySem L2
theorem len_ltB {n : Nat} (h : n ≤ 1000000) : n < sizeLine := Nat.lt_of_le_of_lt h (by decide)
open PyProof.Rows hiding St
section
variable {B : Bx} {X : Cx} {a : Expr} {δ : Env'} {M : Mem} {ΦL : List D → Mem → Prop} {pos : Pos}
theorem df_slice {lo hi : Option Expr} {p2 : Pos} (h : DE B X a δ M fun x M1 => DPt B X lo δ M1 fun l M2 => DPt B X hi δ M2 fun u M3 => ∃ ds, IsL M3 x ds ∧ ΦL (cutD ds l u) M3) : DF B X (.Subscript a (.Slice lo hi none p2) pos) δ M ΦL :=
 .of (pe_slice sl_U cE po_pt po_pt) fun κ σ H Q hb R k => h κ σ H _ hb R fun v x M1 H1 q1 R1 r1 =>
   q1.run (κ := (v, x) :: κ) (fun q hq => List.mem_cons_of_mem _ (hb q hq)) (R1.push r1) fun l M2 H2 q2 R2 =>
   q2.run (κ := (v, x) :: κ) (fun q hq => List.mem_cons_of_mem _ (hb q hq)) R2 fun u M3 H3 q3 R3 => by
     have rx := R3.top
     obtain ⟨ds, il, q⟩ := q3
     obtain ⟨p, us, rfl, e1, rr⟩ := il.sq R3.pop rx
     refine .inr ⟨p, us, rfl, SqL.of e1, fun p hp => ?_⟩
     have hc : Reps M3.F H3 (cutV us l u) (cutD ds l u) := by
       unfold cutV cutD
       rw [rr.length]
       exact (((Reps.cut rr _).2).cut _).1
     exact k p _ M3 _ q (R3.pop.lst hc hp)
end
end Hl
namespace Hl
open PySem L2
open PyProof.Rows hiding St
theorem wd_rangeC {κ : List (V × D)} {lo c : Int} {n : Nat} : WalkD κ ((List.range n).map fun i => .int (lo + (i : Nat) * c)) (Itc lo c n) where
 goes := fun i δ M σ H hi R => by show i < n; simpa using hi
 stops := fun δ M σ H R => by show n ≤ _; simp
 yields := fun i δ M σ H x H' hi R y => by
   obtain ⟨rfl, rfl⟩ := y
   have hi : i < n := by simpa using hi
   exact ⟨.int (lo + (i : Nat) * c), by simp [hi], R, .int _⟩
theorem RgC.two {i j : Int} {n : Nat} (h0 : 0 ≤ i) (h1 : i ≤ 1000000) (h2 : 0 ≤ j) (h3 : j ≤ 1000000) (hn : (if i < j then (j - i - 1) / 2 + 1 else 0) = (n : Int)) : RgC i j 2 n := by
 have e : Builtin.Range.rangeSize i j 2 = (n : Int) := by
   unfold Builtin.Range.rangeSize
   rw [if_pos (by decide)]
   exact hn
 refine ⟨by decide, by decide, ?_, e⟩
 unfold Builtin.Range.small
 rw [e]
 have hnn : (n : Int) ≤ 1000000 := by
   rw [← hn]
   split <;> omega
 simp only [Builtin.Range.rangeFitsLong, Bool.and_eq_true, Bool.or_eq_true, decide_eq_true_eq, beq_iff_eq, show (2 : Int) > 0 by decide, if_true]
 omega
section
variable {B : Bx} {X : Cx} {tg a b c : Expr} {δ : Env'} {M : Mem} {ΦL : List D → Mem → Prop} {pos : Pos}
theorem di_range3 {p : Pos} (g : Gn X "range") (h : DE B X a δ M fun x M1 => DE B X b δ M1 fun y M2 => DE B X c δ M2 fun u M3 => ∃ (i j k : Int) (n : Nat), x = .int i ∧ y = .int j ∧ u = .int k ∧ RgC i j k n ∧ ΦL ((List.range n).map fun m => .int (i + (m : Nat) * k)) M3)
   (hs : starEach [a, b, c] X.env = (false, eval a X.env) :: starEach [b, c] X.env := by rfl) (hs2 : starEach [b, c] X.env = (false, eval b X.env) :: starEach [c] X.env := by rfl) (hs3 : starEach [c] X.env = (false, eval c X.env) :: starEach [] X.env := by rfl) (hpl : (backTo pos (starEach [b, c] X.env)).any (·.1) = false := by rfl) : DI B X tg (.Call (.Name "range" p) [a, b, c] [] pos) δ M ΦL :=
 ⟨_, pi_range3 g.gl g.no (pa_cons cE (pa_cons cE (pa_cons cE pa_nil hs3) hs2) hs) hs hpl, fun κ σ H R hb Rr kk => h κ σ H _ hb Rr fun v x M1 H1 q1 R1 r1 =>
   q1 ((v, x) :: κ) σ H1 _ (fun q hq => List.mem_cons_of_mem _ (hb q hq)) (R1.push r1) fun w y M2 H2 q2 R2 r2 =>
   q2 ((w, y) :: (v, x) :: κ) σ H2 _ (fun q hq => List.mem_cons_of_mem _ (List.mem_cons_of_mem _ (hb q hq))) (R2.push r2) fun w3 u M3 H3 ⟨i, j, k, n, ex, ey, eu, rg, q⟩ R3 r3 => by
     subst ex ey eu
     have t1 := R3.top
     have t2 := R3.pop.top
     cases t1
     cases t2
     cases r3
     exact ⟨i, j, k, n, rfl, rg, kk _ M3 H3 _ κ q (fun _ h => h) R3.pop.pop wd_rangeC⟩⟩
end
end Hl
namespace Lw
open PySem L2 Hl
local macro_rules | `(tactic| kpc_text) => `(tactic| first | ((with_reducible refine idFm ?_); first | ((with_reducible refine idFmS ?_); refine fm_s (by kdf_acc) ?_) | refine fm_i (by assumption) ?_) | fail)
local macro_rules | `(tactic| kpc_text) => `(tactic| first | ((with_reducible refine idJn ?_); refine jn_mk (Nat.le_trans (show _ ≤ 1000000 by simp only [PySem.Str.length_append]; omega) (by decide)) ?_) | fail)
local macro_rules | `(tactic| kpc_text) => `(tactic| refine dj_nil ?_)
local macro_rules | `(tactic| kpc_text) => `(tactic| refine dj_cons ?_)
local macro_rules | `(tactic| kpc_text) => `(tactic| ((with_reducible refine idXn ?_); first | refine xn_10 ?_ | refine xn_01 ?_ | refine xn_02 ?_ | refine xn_04 ?_))
local macro_rules | `(tactic| kat_pair) => `(tactic| first | assumption | exact LoP.toNmP (by assumption))
local macro_rules | `(tactic| kas_out) => `(tactic| refine de_lst ?_)
local macro_rules | `(tactic| kas_out) => `(tactic| refine de_tup ?_)
local macro_rules | `(tactic| kas_out) => `(tactic| refine de_neg ?_)
local macro_rules | `(tactic| kas_out) => `(tactic| refine de_if ?_)
local macro_rules | `(tactic| kas_out) => `(tactic| refine de_one ?_)
local macro_rules | `(tactic| kas_out) => `(tactic| refine de_not ?_)
local macro_rules | `(tactic| kas_out) => `(tactic| refine de_or ?_)
local macro_rules | `(tactic| kas_out) => `(tactic| refine de_and ?_)
local macro_rules | `(tactic| kas_out) => `(tactic| first | ((with_reducible refine idCallA ?_); first | refine de_append ?_ | refine de_insert ?_ | refine de_pop ?_ | kbu_src | refine de_mU (by assumption) ?_) | fail)
local macro_rules | `(tactic| kas_out) => `(tactic| ((with_reducible refine idAttr ?_); refine de_fld ?_))
local macro_rules | `(tactic| kas_out) => `(tactic| first | ((with_reducible refine idCallN ?_); first | kll_open | refine de_len (by assumption) ?_ | refine de_min2 (by assumption) (by assumption) ?_ | refine de_min3 (by assumption) (by assumption) ?_ | refine de_max2 (by assumption) (by assumption) ?_ | refine de_isiV (by assumption) ?_ | refine de_sum (by assumption) (by assumption) ?_ | refine de_list (by assumption) ?_ | refine de_tuple (by assumption) ?_ | refine de_maxDef (by assumption) (by assumption) ?_ (un64 (by assumption)) | refine de_minL (by assumption) (by assumption) ?_ | refine de_maxL (by assumption) (by assumption) ?_ | refine de_all (by assumption) (by assumption) ?_) | fail)
local macro_rules | `(tactic| kas_out) => `(tactic| first | refine de_ix (by assumption) ?_ | fail)
local macro_rules | `(tactic| kas_out) => `(tactic| refine de_slice ?_)
local macro_rules | `(tactic| kas_out) => `(tactic| refine de_rev ?_)
local macro_rules | `(tactic| kas_out) => `(tactic| first | ((with_reducible refine idCmp ?_); first | refine de_lt ?_ | refine de_le ?_ | refine de_gt ?_ | refine de_ge ?_ | refine de_eq (by assumption) ?_ | refine de_ne (by assumption) ?_ | refine de_isB ?_ | refine de_is ?_ | refine de_isnotB ?_ | refine de_isnot ?_ | refine de_in (by assumption) ?_ | refine de_notin (by assumption) ?_ | refine de_le2C ?_ | refine de_le2 ?_) | fail)
local macro_rules | `(tactic| kas_out) => `(tactic| ((with_reducible refine idBin ?_); first | refine de_repD ?_ | refine de_add ?_ | refine de_sub ?_ | refine de_mul ?_ | refine de_div ?_ | refine de_mod ?_ | refine de_pow ?_))
local macro_rules | `(tactic| kas_out) => `(tactic| ((with_reducible refine idCst ?_); first | refine de_int ?_ | refine de_str ?_ | refine de_bl ?_ | refine de_non ?_))
local macro_rules | `(tactic| kas_out) => `(tactic| first | ((with_reducible refine idName ?_); first | refine de_name (by kat_pair) (by rfl) ?_ | refine de_gint (by assumption) ?_ | refine de_gstr (by assumption) ?_ | kat_known | refine de_gclsP (by assumption) (by assumption) ?_) | fail)
open PyProof.Rows in
local macro_rules | `(tactic| kat_known) => `(tactic| first | refine de_tyN (T := "tuple") (by assumption) boot_tuple ?_ | fail)
open PyProof.Rows in
local macro_rules | `(tactic| kat_known) => `(tactic| first | refine de_tyN (T := "list") (by assumption) boot_list ?_ | fail)
open PyProof.Rows in
local macro_rules | `(tactic| kat_known) => `(tactic| first | refine de_tyN (T := "bool") (by assumption) boot_bool ?_ | fail)
open PyProof.Rows in
local macro_rules | `(tactic| kat_known) => `(tactic| first | refine de_tyN (T := "str") (by assumption) (by decide +kernel) ?_ | fail)
open PyProof.Rows in
local macro_rules | `(tactic| kat_known) => `(tactic| first | refine de_tyN (T := "ValueError") (by assumption) (by decide +kernel) ?_ | fail)
open PyProof.Rows in
local macro_rules | `(tactic| kat_known) => `(tactic| first | refine de_tyN (T := "int") (by assumption) boot_int ?_ | fail)
local macro_rules | `(tactic| kc_free) => `(tactic| first | exact .own _ | exact .ty _)
local macro_rules | `(tactic| kcj_rest) => `(tactic| fail "no rule")
local macro_rules | `(tactic| kll_here) => `(tactic| fail "no callee")
local macro_rules | `(tactic| kll_open) => `(tactic| first | refine de_kS 0 (by assumption) (by assumption) (by decide) (by assumption) (by kas_known) ?_ (by kat_eight) | fail)
local macro_rules | `(tactic| kll_open) => `(tactic| first | refine de_fS (by assumption) (by assumption) (by decide) (by assumption) (by kas_known) ?_ (by kat_eight) | fail)
local macro_rules | `(tactic| kll_open) => `(tactic| first | refine de_callK (by assumption) (by assumption) (by decide) (by assumption) ?_ | fail)
local macro_rules | `(tactic| kll_open) => `(tactic| first | refine de_call (by assumption) (by assumption) (by decide) (by assumption) ?_ | fail)
local macro_rules | `(tactic| kas_known) => `(tactic| first | exact lets_at (by assumption) | exact lets_no)
local macro_rules | `(tactic| kat_eight) => `(tactic| exact ⟨rfl, rfl, rfl, rfl⟩)
local macro_rules | `(tactic| kat_eight) => `(tactic| exact ⟨rfl, rfl, rfl⟩)
local macro_rules | `(tactic| kat_eight) => `(tactic| exact rfl)
local macro_rules | `(tactic| kbu_src) => `(tactic| first | refine de_dget2 (by assumption) ?_)
local macro_rules | `(tactic| kcf_look) => `(tactic| first | refine fld_p 3 rfl (by assumption) (by assumption) rfl ?_ | fail)
local macro_rules | `(tactic| kcf_look) => `(tactic| first | refine fld_p 2 rfl (by assumption) (by assumption) rfl ?_ | fail)
local macro_rules | `(tactic| kcf_look) => `(tactic| first | refine fld_p 1 rfl (by assumption) (by assumption) rfl ?_ | fail)
local macro_rules | `(tactic| kcf_look) => `(tactic| first | refine fld_p 0 rfl (by assumption) (by assumption) rfl ?_ | fail)
local macro_rules | `(tactic| kcf_look) => `(tactic| first | refine fld_h 4 rfl (by assumption) rfl ?_ | fail)
local macro_rules | `(tactic| kcf_look) => `(tactic| first | refine fld_h 3 rfl (by assumption) rfl ?_ | fail)
local macro_rules | `(tactic| kcf_look) => `(tactic| first | refine fld_h 2 rfl (by assumption) rfl ?_ | fail)
local macro_rules | `(tactic| kcf_look) => `(tactic| first | refine fld_h 1 rfl (by assumption) rfl ?_ | fail)
local macro_rules | `(tactic| kcf_look) => `(tactic| first | refine fld_h 0 rfl (by assumption) rfl ?_ | fail)
local macro_rules | `(tactic| kcf_look) => `(tactic| first | refine fld_c 8 rfl (by assumption) rfl ?_ | fail)
local macro_rules | `(tactic| kcf_look) => `(tactic| first | refine fld_c 7 rfl (by assumption) rfl ?_ | fail)
local macro_rules | `(tactic| kcf_look) => `(tactic| first | refine fld_c 6 rfl (by assumption) rfl ?_ | fail)
local macro_rules | `(tactic| kcf_look) => `(tactic| first | refine fld_c 5 rfl (by assumption) rfl ?_ | fail)
local macro_rules | `(tactic| kcf_look) => `(tactic| first | refine fld_c 4 rfl (by assumption) rfl ?_ | fail)
local macro_rules | `(tactic| kcf_look) => `(tactic| first | refine fld_c 3 rfl (by assumption) rfl ?_ | fail)
local macro_rules | `(tactic| kcf_look) => `(tactic| first | refine fld_c 2 rfl (by assumption) rfl ?_ | fail)
local macro_rules | `(tactic| kcf_look) => `(tactic| first | refine fld_c 1 rfl (by assumption) rfl ?_ | fail)
local macro_rules | `(tactic| kcf_look) => `(tactic| first | refine fld_c 0 rfl (by assumption) rfl ?_ | fail)
local macro_rules | `(tactic| kcf_look) => `(tactic| first | refine fld_x (by assumption) rfl ?_ | fail)
local macro_rules | `(tactic| kcf_look) => `(tactic| first | refine fld_v (by assumption) rfl ?_ | fail)
local macro_rules | `(tactic| kci_src) => `(tactic| first | refine mt_pS 3 rfl (by assumption) (by assumption) (by decide) (by kas_known) (by kat_eight) (by rfl) ?_ | fail)
local macro_rules | `(tactic| kci_src) => `(tactic| first | refine mt_pS 2 rfl (by assumption) (by assumption) (by decide) (by kas_known) (by kat_eight) (by rfl) ?_ | fail)
local macro_rules | `(tactic| kci_src) => `(tactic| first | refine mt_pS 1 rfl (by assumption) (by assumption) (by decide) (by kas_known) (by kat_eight) (by rfl) ?_ | fail)
local macro_rules | `(tactic| kci_src) => `(tactic| first | refine mt_pS 0 rfl (by assumption) (by assumption) (by decide) (by kas_known) (by kat_eight) (by rfl) ?_ | fail)
local macro_rules | `(tactic| kci_src) => `(tactic| first | refine mt_hS 4 rfl (by assumption) (by decide) (by kas_known) (by kat_eight) (by rfl) ?_ | fail)
local macro_rules | `(tactic| kci_src) => `(tactic| first | refine mt_hS 3 rfl (by assumption) (by decide) (by kas_known) (by kat_eight) (by rfl) ?_ | fail)
local macro_rules | `(tactic| kci_src) => `(tactic| first | refine mt_hS 2 rfl (by assumption) (by decide) (by kas_known) (by kat_eight) (by rfl) ?_ | fail)
local macro_rules | `(tactic| kci_src) => `(tactic| first | refine mt_hS 1 rfl (by assumption) (by decide) (by kas_known) (by kat_eight) (by rfl) ?_ | fail)
local macro_rules | `(tactic| kci_src) => `(tactic| first | refine mt_hS 0 rfl (by assumption) (by decide) (by kas_known) (by kat_eight) (by rfl) ?_ | fail)
local macro_rules | `(tactic| kci_src) => `(tactic| first | refine mt_cS 10 rfl (by assumption) (by decide) (by kas_known) (by kat_eight) (by rfl) ?_ | fail)
local macro_rules | `(tactic| kci_src) => `(tactic| first | refine mt_cS 9 rfl (by assumption) (by decide) (by kas_known) (by kat_eight) (by rfl) ?_ | fail)
local macro_rules | `(tactic| kci_src) => `(tactic| first | refine mt_cS 8 rfl (by assumption) (by decide) (by kas_known) (by kat_eight) (by rfl) ?_ | fail)
local macro_rules | `(tactic| kci_src) => `(tactic| first | refine mt_cS 7 rfl (by assumption) (by decide) (by kas_known) (by kat_eight) (by rfl) ?_ | fail)
local macro_rules | `(tactic| kci_src) => `(tactic| first | refine mt_cS 6 rfl (by assumption) (by decide) (by kas_known) (by kat_eight) (by rfl) ?_ | fail)
local macro_rules | `(tactic| kci_src) => `(tactic| first | refine mt_cS 5 rfl (by assumption) (by decide) (by kas_known) (by kat_eight) (by rfl) ?_ | fail)
local macro_rules | `(tactic| kci_src) => `(tactic| first | refine mt_cS 4 rfl (by assumption) (by decide) (by kas_known) (by kat_eight) (by rfl) ?_ | fail)
local macro_rules | `(tactic| kci_src) => `(tactic| first | refine mt_cS 3 rfl (by assumption) (by decide) (by kas_known) (by kat_eight) (by rfl) ?_ | fail)
local macro_rules | `(tactic| kci_src) => `(tactic| first | refine mt_cS 2 rfl (by assumption) (by decide) (by kas_known) (by kat_eight) (by rfl) ?_ | fail)
local macro_rules | `(tactic| kci_src) => `(tactic| first | refine mt_cS 1 rfl (by assumption) (by decide) (by kas_known) (by kat_eight) (by rfl) ?_ | fail)
local macro_rules | `(tactic| kci_src) => `(tactic| first | refine mt_cS 0 rfl (by assumption) (by decide) (by kas_known) (by kat_eight) (by rfl) ?_ | fail)
local macro_rules | `(tactic| kci_src) => `(tactic| first | refine mt_vS (by assumption) (by decide) (by kas_known) (by kat_eight) (by rfl) ?_ | fail)
local macro_rules | `(tactic| kcj_has) => `(tactic| refine ar_g rfl rfl ?_)
local macro_rules | `(tactic| kcj_has) => `(tactic| refine ar_gN rfl rfl (fun _ => ?_))
local macro_rules | `(tactic| kcj_has) => `(tactic| refine ar_gM rfl rfl ?_)
local macro_rules | `(tactic| kcj_has) => `(tactic| refine ar_idN rfl (fun _ => ?_))
local macro_rules | `(tactic| kcj_has) => `(tactic| refine ar_idM rfl ?_)
local macro_rules | `(tactic| kcj_has) => `(tactic| refine ar_id rfl ?_)
local macro_rules | `(tactic| kcp_comp) => `(tactic| exact eq_false (by decide))
local macro_rules | `(tactic| kct_comp) => `(tactic| first | refine sf_n5 0 rfl (by assumption) (by kcp_comp) (by kcp_comp) (by kcp_comp) (by kcp_comp) (by kcp_comp) ?_ | fail)
local macro_rules | `(tactic| kct_comp) => `(tactic| first | refine sf_n4 0 rfl (by assumption) (by kcp_comp) (by kcp_comp) (by kcp_comp) (by kcp_comp) ?_ | fail)
local macro_rules | `(tactic| kct_comp) => `(tactic| first | refine sf_n3 0 rfl (by assumption) (by kcp_comp) (by kcp_comp) (by kcp_comp) ?_ | fail)
local macro_rules | `(tactic| kct_comp) => `(tactic| first | refine sf_n2 0 rfl (by assumption) (by kcp_comp) (by kcp_comp) ?_ | fail)
local macro_rules | `(tactic| kct_comp) => `(tactic| first | refine sf_n1 0 rfl (by assumption) (by kcp_comp) ?_ | fail)
local macro_rules | `(tactic| kct_comp) => `(tactic| first | refine sf_n0 0 rfl (by assumption) ?_ | fail)
local macro_rules | `(tactic| kde_deep) => `(tactic| refine p10_45 ?_)
local macro_rules | `(tactic| kde_deep) => `(tactic| refine p10_44 ?_)
local macro_rules | `(tactic| kde_deep) => `(tactic| refine p10_43 ?_)
local macro_rules | `(tactic| kde_deep) => `(tactic| refine p10_42 ?_)
local macro_rules | `(tactic| kde_deep) => `(tactic| refine p10_41 ?_)
local macro_rules | `(tactic| kde_deep) => `(tactic| refine p10_40 ?_)
local macro_rules | `(tactic| kde_deep) => `(tactic| refine p10_39 ?_)
local macro_rules | `(tactic| kde_deep) => `(tactic| refine p10_38 ?_)
local macro_rules | `(tactic| kde_deep) => `(tactic| refine p10_37 ?_)
local macro_rules | `(tactic| kde_deep) => `(tactic| refine p10_36 ?_)
local macro_rules | `(tactic| kde_deep) => `(tactic| refine p10_35 ?_)
local macro_rules | `(tactic| kde_deep) => `(tactic| refine p10_34 ?_)
local macro_rules | `(tactic| kde_deep) => `(tactic| refine p10_33 ?_)
local macro_rules | `(tactic| kde_deep) => `(tactic| refine p10_32 ?_)
local macro_rules | `(tactic| kde_deep) => `(tactic| refine p10_31 ?_)
local macro_rules | `(tactic| kde_deep) => `(tactic| refine p10_30 ?_)
local macro_rules | `(tactic| kde_deep) => `(tactic| refine p10_29 ?_)
local macro_rules | `(tactic| kde_deep) => `(tactic| refine p10_28 ?_)
local macro_rules | `(tactic| kde_deep) => `(tactic| refine p10_27 ?_)
local macro_rules | `(tactic| kde_deep) => `(tactic| refine p10_26 ?_)
local macro_rules | `(tactic| kde_deep) => `(tactic| refine p10_25 ?_)
local macro_rules | `(tactic| kde_deep) => `(tactic| refine p10_24 ?_)
local macro_rules | `(tactic| kde_deep) => `(tactic| refine p10_23 ?_)
local macro_rules | `(tactic| kde_deep) => `(tactic| refine p10_22 ?_)
local macro_rules | `(tactic| kde_deep) => `(tactic| refine p10_21 ?_)
local macro_rules | `(tactic| kde_deep) => `(tactic| refine p10_20 ?_)
local macro_rules | `(tactic| kde_deep) => `(tactic| refine p10_19 ?_)
local macro_rules | `(tactic| kde_deep) => `(tactic| refine p10_18 ?_)
local macro_rules | `(tactic| kde_deep) => `(tactic| refine p10_17 ?_)
local macro_rules | `(tactic| kde_deep) => `(tactic| refine p10_16 ?_)
local macro_rules | `(tactic| kde_deep) => `(tactic| refine p10_15 ?_)
local macro_rules | `(tactic| kde_deep) => `(tactic| refine p10_14 ?_)
local macro_rules | `(tactic| kde_deep) => `(tactic| refine p10_13 ?_)
local macro_rules | `(tactic| kde_deep) => `(tactic| refine p10_12 ?_)
local macro_rules | `(tactic| kde_deep) => `(tactic| refine p10_11 ?_)
local macro_rules | `(tactic| kde_deep) => `(tactic| refine p10_10 ?_)
local macro_rules | `(tactic| kde_deep) => `(tactic| refine p10_9 ?_)
local macro_rules | `(tactic| kde_deep) => `(tactic| refine p10_8 ?_)
local macro_rules | `(tactic| kde_deep) => `(tactic| refine p10_7 ?_)
local macro_rules | `(tactic| kde_deep) => `(tactic| refine p10_6 ?_)
local macro_rules | `(tactic| kde_deep) => `(tactic| refine p10_5 ?_)
local macro_rules | `(tactic| kde_deep) => `(tactic| refine p10_4 ?_)
local macro_rules | `(tactic| kde_deep) => `(tactic| refine p10_3 ?_)
local macro_rules | `(tactic| kde_deep) => `(tactic| refine p10_2 ?_)
local macro_rules | `(tactic| kde_deep) => `(tactic| refine p10_1 ?_)
local macro_rules | `(tactic| kdf_acc) => `(tactic| (refine len_ltB ?_; first | omega | (simp only [List.length_map, List.length_append, List.length_cons, List.length_nil, List.length_range, List.length_replicate]; omega)))
local macro_rules | `(tactic| kdn_look) => `(tactic| (refine ⟨?_, ?_, ?_⟩ <;> first | assumption | omega))
local macro_rules | `(tactic| kdn_look) => `(tactic| (refine ⟨?_, ?_⟩ <;> first | assumption | omega))
local macro_rules | `(tactic| kdn_look) => `(tactic| omega)
local macro_rules | `(tactic| kdn_look) => `(tactic| assumption)
local macro_rules | `(tactic| kdo_here) => `(tactic| (intro hh; simp_all; done))
local macro_rules | `(tactic| kdo_here) => `(tactic| omega)
local macro_rules | `(tactic| kdo_here) => `(tactic| assumption)
local macro_rules | `(tactic| kl_lit) => `(tactic| first | refine od_ixEC 3 rfl (by kpr_look) (fun _ _ => ?_) | fail)
local macro_rules | `(tactic| kl_lit) => `(tactic| first | refine od_ixEC 2 rfl (by kpr_look) (fun _ _ => ?_) | fail)
local macro_rules | `(tactic| kl_lit) => `(tactic| first | refine od_ixEC 1 rfl (by kpr_look) (fun _ _ => ?_) | fail)
local macro_rules | `(tactic| kl_lit) => `(tactic| first | refine od_ixEC 0 rfl (by kpr_look) (fun _ _ => ?_) | fail)
local macro_rules | `(tactic| kl_lit) => `(tactic| first | refine od_ixE (by kpr_look) (fun _ _ => ?_) | fail)
local macro_rules | `(tactic| kl_lit) => `(tactic| first | refine od_ixTE (by kpr_look) (fun _ _ => ?_) | fail)
local macro_rules | `(tactic| kl_lit) => `(tactic| refine od_ixT rfl ?_)
local macro_rules | `(tactic| kln_w) => `(tactic| first | ((with_reducible refine idApp ?_); first | refine mt_app (j := 0) rfl (by kdf_acc) ?_ | refine mt_app (j := 1) rfl (by kdf_acc) ?_ | refine mt_app (j := 2) rfl (by kdf_acc) ?_ | refine mt_app (j := 3) rfl (by kdf_acc) ?_ | refine mt_app (j := 4) rfl (by kdf_acc) ?_ | refine mt_app (j := 5) rfl (by kdf_acc) ?_) | fail)
local macro_rules | `(tactic| kln_w) => `(tactic| refine dg_s 3 rfl ?_)
local macro_rules | `(tactic| kln_w) => `(tactic| refine dg_s 2 rfl ?_)
local macro_rules | `(tactic| kln_w) => `(tactic| refine dg_s 1 rfl ?_)
local macro_rules | `(tactic| kln_w) => `(tactic| refine dg_s 0 rfl ?_)
local macro_rules | `(tactic| kln_w) => `(tactic| refine dg_i 3 rfl ?_)
local macro_rules | `(tactic| kln_w) => `(tactic| refine dg_i 2 rfl ?_)
local macro_rules | `(tactic| kln_w) => `(tactic| refine dg_i 1 rfl ?_)
local macro_rules | `(tactic| kln_w) => `(tactic| refine dg_i 0 rfl ?_)
local macro_rules | `(tactic| kln_w) => `(tactic| refine isd_c 3 rfl ?_)
local macro_rules | `(tactic| kln_w) => `(tactic| refine isd_c 2 rfl ?_)
local macro_rules | `(tactic| kln_w) => `(tactic| refine isd_c 1 rfl ?_)
local macro_rules | `(tactic| kln_w) => `(tactic| refine isd_c 0 rfl ?_)
local macro_rules | `(tactic| kln_w) => `(tactic| first | ((with_reducible refine idSet ?_); first | refine sd_listE 0 rfl (by kpr_look) rfl ?_ | refine sd_listE 1 rfl (by kpr_look) rfl ?_ | refine sd_listE 2 rfl (by kpr_look) rfl ?_ | refine sd_listE 3 rfl (by kpr_look) rfl ?_ | refine sd_dictI 0 rfl (by kdf_acc) ?_ | refine sd_dictI 1 rfl (by kdf_acc) ?_ | refine sd_dictI 2 rfl (by kdf_acc) ?_ | refine sd_dictS 0 rfl (by kdf_acc) ?_ | refine sd_dictS 1 rfl (by kdf_acc) ?_ | refine sd_dictS 2 rfl (by kdf_acc) ?_) | fail)
local macro_rules | `(tactic| kln_w) => `(tactic| refine isl_c 5 rfl ?_)
local macro_rules | `(tactic| kln_w) => `(tactic| refine isl_c 4 rfl ?_)
local macro_rules | `(tactic| kln_w) => `(tactic| refine isl_c 3 rfl ?_)
local macro_rules | `(tactic| kln_w) => `(tactic| refine isl_c 2 rfl ?_)
local macro_rules | `(tactic| kln_w) => `(tactic| refine isl_c 1 rfl ?_)
local macro_rules | `(tactic| kln_w) => `(tactic| refine isl_c 0 rfl ?_)
local macro_rules | `(tactic| kpc_text) => `(tactic| first | kln_w | fail)
local macro_rules | `(tactic| kpc_text) => `(tactic| first | ((with_reducible refine idOx ?_); kl_lit) | fail)
local macro_rules | `(tactic| kpc_text) => `(tactic| first | kx_any | fail)
local macro_rules | `(tactic| kpc_text) => `(tactic| ((with_reducible refine idC ?_); first | refine cd_lenLM (.val _) ?_ | refine cd_lenLM (.cell 0 rfl) ?_ | refine cd_lenLM (.cell 1 rfl) ?_ | refine cd_lenLM (.cell 2 rfl) ?_))
local macro_rules | `(tactic| kpc_text) => `(tactic| first | ((with_reducible refine idMt ?_); refine mt_oS (by assumption) (by assumption) (by decide) (by kas_known) (by kat_eight) (by rfl) ?_) | fail)
local macro_rules | `(tactic| kpc_text) => `(tactic| first | ((with_reducible refine idFld ?_); refine fld_o (by assumption) (by assumption) rfl ?_) | fail)
local macro_rules | `(tactic| kpc_text) => `(tactic| ((with_reducible refine idCmp ?_); refine de_chn ?_))
local macro_rules | `(tactic| kpc_text) => `(tactic| ((with_reducible refine idTC ?_); refine dt_chn ?_))
local macro_rules | `(tactic| kpc_text) => `(tactic| ((with_reducible refine idLk ?_); first | refine lkle ?_ | refine lklt ?_ | refine lk1le ?_ | refine lk1lt ?_ | refine lkgt ?_ | refine lkge ?_ | refine lk1gt ?_ | refine lk1ge ?_))
local macro_rules | `(tactic| kpr_look) => `(tactic| first | exact ⟨by omega, by omega⟩ | exact ⟨by simp; omega, by simp; omega⟩)
local macro_rules | `(tactic| kri_at) => `(tactic| fail "no rule")
local macro_rules | `(tactic| krs_unr) => `(tactic| first | kri_at | fail)
local macro_rules | `(tactic| krs_unr) => `(tactic| first | kde_deep | fail)
local macro_rules | `(tactic| krs_unr) => `(tactic| first | refine od_divS (by omega) (by omega) ?_ | fail)
local macro_rules | `(tactic| krs_unr) => `(tactic| first | refine od_mulS (by omega) ?_ | fail)
local macro_rules | `(tactic| krs_unr) => `(tactic| first | refine od_mod (by omega) ?_ | fail)
local macro_rules | `(tactic| krs_unr) => `(tactic| refine od_notinN (.val _) ?_)
local macro_rules | `(tactic| krs_unr) => `(tactic| refine od_inN (.val _) ?_)
local macro_rules | `(tactic| krs_unr) => `(tactic| refine od_notinS ?_)
local macro_rules | `(tactic| krs_unr) => `(tactic| refine od_inS ?_)
local macro_rules | `(tactic| krs_unr) => `(tactic| refine oi_addI ?_)
local macro_rules | `(tactic| krs_unr) => `(tactic| refine od_notN ?_)
local macro_rules | `(tactic| krs_unr) => `(tactic| refine od_notB ?_)
local macro_rules | `(tactic| krs_unr) => `(tactic| refine od_isB ?_)
local macro_rules | `(tactic| krs_unr) => `(tactic| refine od_isN ?_)
local macro_rules | `(tactic| krs_unr) => `(tactic| refine od_neI ?_)
local macro_rules | `(tactic| krs_unr) => `(tactic| refine od_eqI ?_)
local macro_rules | `(tactic| krs_unr) => `(tactic| refine od_ge ?_)
local macro_rules | `(tactic| krs_unr) => `(tactic| refine od_gt ?_)
local macro_rules | `(tactic| krs_unr) => `(tactic| refine od_le ?_)
local macro_rules | `(tactic| krs_unr) => `(tactic| refine od_lt ?_)
local macro_rules | `(tactic| krs_unr) => `(tactic| refine od_sub ?_)
local macro_rules | `(tactic| krs_unr) => `(tactic| refine od_addI ?_)
local macro_rules | `(tactic| krs_unr) => `(tactic| first | ((with_reducible refine idOx ?_); first | refine st_great ?_ | refine st_rest ?_ | refine st_turn ?_ | refine st_seed ?_ | refine st_cells ?_ | kri_at) | fail)
local macro_rules | `(tactic| ks_is) => `(tactic| refine se35 ?_)
local macro_rules | `(tactic| ks_is) => `(tactic| refine se34 ?_)
local macro_rules | `(tactic| ks_is) => `(tactic| refine se33 ?_)
local macro_rules | `(tactic| ks_is) => `(tactic| refine se32 ?_)
local macro_rules | `(tactic| ks_is) => `(tactic| refine se31 ?_)
local macro_rules | `(tactic| ks_is) => `(tactic| refine se30 ?_)
local macro_rules | `(tactic| ks_is) => `(tactic| refine se29 ?_)
local macro_rules | `(tactic| ks_is) => `(tactic| refine se28 ?_)
local macro_rules | `(tactic| ks_is) => `(tactic| refine se27 ?_)
local macro_rules | `(tactic| ks_is) => `(tactic| refine se26 ?_)
local macro_rules | `(tactic| ks_is) => `(tactic| refine se25 ?_)
local macro_rules | `(tactic| ks_is) => `(tactic| refine se24 ?_)
local macro_rules | `(tactic| ks_is) => `(tactic| refine se23 ?_)
local macro_rules | `(tactic| ks_is) => `(tactic| refine se22 ?_)
local macro_rules | `(tactic| ks_is) => `(tactic| refine se21 ?_)
local macro_rules | `(tactic| ks_is) => `(tactic| refine se20 ?_)
local macro_rules | `(tactic| ks_is) => `(tactic| refine se19 ?_)
local macro_rules | `(tactic| ks_is) => `(tactic| refine se18 ?_)
local macro_rules | `(tactic| ks_is) => `(tactic| refine se17 ?_)
local macro_rules | `(tactic| ks_is) => `(tactic| refine se16 ?_)
local macro_rules | `(tactic| ks_is) => `(tactic| refine se15 ?_)
local macro_rules | `(tactic| ks_is) => `(tactic| refine se14 ?_)
local macro_rules | `(tactic| ks_is) => `(tactic| refine se13 ?_)
local macro_rules | `(tactic| ks_is) => `(tactic| refine se12 ?_)
local macro_rules | `(tactic| ks_is) => `(tactic| refine se11 ?_)
local macro_rules | `(tactic| ks_is) => `(tactic| refine se10 ?_)
local macro_rules | `(tactic| ks_is) => `(tactic| refine se9 ?_)
local macro_rules | `(tactic| ks_is) => `(tactic| refine se8 ?_)
local macro_rules | `(tactic| ks_is) => `(tactic| refine se7 ?_)
local macro_rules | `(tactic| ks_is) => `(tactic| refine se6 ?_)
local macro_rules | `(tactic| ks_is) => `(tactic| refine se5 ?_)
local macro_rules | `(tactic| ks_is) => `(tactic| refine se4 ?_)
local macro_rules | `(tactic| ks_is) => `(tactic| refine se3 ?_)
local macro_rules | `(tactic| ks_is) => `(tactic| refine se2 ?_)
local macro_rules | `(tactic| ks_is) => `(tactic| refine se1 ?_)
local macro_rules | `(tactic| ks_is) => `(tactic| refine se0 ?_)
local macro_rules | `(tactic| kts_sub) => `(tactic| refine Br.mk (fun _ => ?_) (fun _ => ?_))
local macro_rules | `(tactic| kts_sub) => `(tactic| refine Br.neg ?_)
local macro_rules | `(tactic| kts_sub) => `(tactic| refine Br.ndec (fun _ => ?_) (fun _ => ?_))
local macro_rules | `(tactic| kts_sub) => `(tactic| refine Br.dec (fun _ => ?_) (fun _ => ?_))
local macro_rules | `(tactic| kts_sub) => `(tactic| first | refine Br.ndecF (by omega) ?_ | fail)
local macro_rules | `(tactic| kts_sub) => `(tactic| first | refine Br.ndecT (by omega) ?_ | fail)
local macro_rules | `(tactic| kts_sub) => `(tactic| first | refine Br.decF (by omega) ?_ | fail)
local macro_rules | `(tactic| kts_sub) => `(tactic| first | refine Br.decT (by omega) ?_ | fail)
local macro_rules | `(tactic| kts_sub) => `(tactic| refine Br.no ?_)
local macro_rules | `(tactic| kts_sub) => `(tactic| refine Br.yes ?_)
local macro_rules | `(tactic| kx_any) => `(tactic| refine ex_x ?_)
local macro_rules | `(tactic| kx_any) => `(tactic| refine ex_s ?_)
local macro_rules | `(tactic| kx_any) => `(tactic| refine ex_t ?_)
local macro_rules | `(tactic| kx_any) => `(tactic| refine ex_ii ?_)
local macro_rules | `(tactic| kx_any) => `(tactic| refine ex_l ?_)
local macro_rules | `(tactic| kx_any) => `(tactic| refine ex_3 ?_)
local macro_rules | `(tactic| kx_any) => `(tactic| refine ex_2 ?_)
local macro_rules | `(tactic| kx_any) => `(tactic| refine ex_i ?_)
local macro_rules | `(tactic| kx_any) => `(tactic| first | kll_here | fail)
local macro_rules | `(tactic| kx_any) => `(tactic| refine len_andI rfl (Nat.le_of_ble_eq_true rfl) ?_)
local macro_rules | `(tactic| kx_any) => `(tactic| refine len_and (Nat.le_of_ble_eq_true rfl) ?_)
local macro_rules | `(tactic| kx_any) => `(tactic| refine DPt.so ?_)
local macro_rules | `(tactic| kx_any) => `(tactic| refine DPt.no ?_)
local macro_rules | `(tactic| kx_any) => `(tactic| refine toB.mk ?_)
local macro_rules | `(tactic| kx_any) => `(tactic| first | kcj_has | fail)
local macro_rules | `(tactic| kx_any) => `(tactic| first | refine exh_noP (by assumption) ?_ | fail)
local macro_rules | `(tactic| kx_any) => `(tactic| first | refine exh_yesP (by assumption) (fun _ _ _ => ?_) | fail)
local macro_rules | `(tactic| kx_any) => `(tactic| refine endA ?_)
local macro_rules | `(tactic| kx_any) => `(tactic| (with_reducible refine toB.mk ?_))
local macro_rules | `(tactic| kx_any) => `(tactic| first | ((with_reducible refine idSet ?_); first | refine set_rest ?_ | refine set_turn ?_ | refine set_seed ?_ | kri_at) | fail)
local macro_rules | `(tactic| kx_any) => `(tactic| ((with_reducible refine idK ?_); first | refine dk_cons ?_ | refine dk_nil ?_))
local macro_rules | `(tactic| kx_any) => `(tactic| ((with_reducible refine idGs ?_); first | refine dgs_cons ?_ | refine dgs_nil ?_))
local macro_rules | `(tactic| kx_any) => `(tactic| first | ((with_reducible refine idG ?_); first | refine dg_name (by assumption) (by assumption) ?_ | refine dg_sub (by assumption) ?_ | refine dg_tup (by assumption) (by rfl) ?_) | fail)
local macro_rules | `(tactic| kx_any) => `(tactic| first | ((with_reducible refine idC ?_); first | refine cd_min2 ?_ | refine cd_min3 ?_ | refine cd_max2 ?_ | (refine CallD.inl (CallD.inl ?_); first | refine isi_ii ?_ | refine isi_ib ?_ | refine isi_bb ?_ | refine isi_bi ?_ | refine isi_ll ?_ | refine isi_tt ?_ | refine isi_ni ?_ | refine isi_nb ?_ | refine isi_nt ?_) | refine CallD.inl (isx_xP (by assumption) (by kc_free) (by assumption) ?_) | refine CallD.inl (isx_oP (.val _ _ _) (by assumption) (by kc_free) (by assumption) ?_) | refine CallD.inl (isx_bP rfl (by kc_free) (by assumption) ?_) | refine isx_t2P (by assumption) (by kc_free) (by kc_free) (by assumption) (by assumption) ?_ | refine cd_lenL (.val _) ?_ | refine cd_lenT ?_ | refine cd_lenX ?_ | kri_at) | fail)
local macro_rules | `(tactic| kx_any) => `(tactic| ((with_reducible refine idW ?_); first | refine dw_and1 ?_ | refine dw_or1 ?_ | refine dw_and ?_ | refine dw_or ?_))
local macro_rules | `(tactic| kx_any) => `(tactic| ((with_reducible refine idT ?_); first | refine dt_not ?_ | refine dt_and ?_ | refine dt_or ?_ | refine dt_val ?_))
local macro_rules | `(tactic| kx_any) => `(tactic| first | ((with_reducible refine idTC ?_); first | refine dt_lt ?_ | refine dt_le ?_ | refine dt_gt ?_ | refine dt_ge ?_ | refine dt_eq (by assumption) ?_ | refine dt_ne (by assumption) ?_ | refine dt_isB ?_ | refine dt_is ?_ | refine dt_isnotB ?_ | refine dt_isnot ?_ | refine dt_in (by assumption) ?_ | refine dt_notin (by assumption) ?_ | refine dt_val ?_) | fail)
local macro_rules | `(tactic| kx_any) => `(tactic| first | ((with_reducible refine idBr ?_); kts_sub) | fail)
local macro_rules | `(tactic| kx_any) => `(tactic| first | ((with_reducible refine idS ?_); first | ((with_reducible refine idAsg ?_); first | refine ds_set (by assumption) (by assumption) ?_ | refine ds_setN (by assumption) (by assumption) ?_ | refine ds_fldU ?_ | refine ds_par2 (by assumption) (by assumption) (by assumption) (by decide) (kind_of (by assumption) (by decide +kernel)) (kind_of (by assumption) (by decide +kernel)) (blk_of (by assumption) (by decide +kernel)) (by decide) ?_ | refine ds_par3 (by assumption) (by assumption) (by assumption) (by assumption) (by decide) (by decide) (by decide) (kind_of (by assumption) (by decide +kernel)) (kind_of (by assumption) (by decide +kernel)) (kind_of (by assumption) (by decide +kernel)) (blk_of (by assumption) (by decide +kernel)) (by decide) (by decide) (by decide) ?_ | refine ds_asgC ?_ | refine ds_asg ?_) | ((with_reducible refine idRaise ?_); first | refine ds_raise (by assumption) (by assumption) (by assumption) (by assumption) ?_ | refine ds_raiseI (by assumption) (by decide) (by assumption) (by assumption) (by assumption) ?_ | refine ds_raise0 (by assumption) (by assumption) (by assumption) (by assumption) ?_) | refine ds_ret ?_ | refine ds_if ?_ | refine ds_expr ?_ | refine ds_augAdd (by assumption) (by assumption) (by rfl) ?_ | refine ds_augSub (by assumption) (by assumption) (by rfl) ?_ | refine ds_pass ?_ | refine ds_retN ?_ | refine ds_break ?_ | refine ds_continue ?_) | fail)
local macro_rules | `(tactic| kx_any) => `(tactic| ((with_reducible refine idDAK ?_); first | refine dak_en ?_ | refine dak_nn ?_ | refine dak_nk ?_ | refine dak_ek ?_))
local macro_rules | `(tactic| kx_any) => `(tactic| first | ((with_reducible refine idStF ?_); first | kct_comp | kcj_rest) | fail)
local macro_rules | `(tactic| kx_any) => `(tactic| first | ((with_reducible refine idMt ?_); kci_src) | fail)
local macro_rules | `(tactic| kx_any) => `(tactic| ((with_reducible refine idUns ?_); first | refine ua0 ?_ | refine ua1 ?_ | refine ua2 ?_ | refine ua3 ?_ | refine ua4 ?_ | refine ua5 ?_ | refine ua6 ?_ | refine ua7 ?_ | refine ua8 ?_ | refine ua9 ?_ | refine ua10 ?_ | refine ua11 ?_ | refine ua12 ?_ | refine ua13 ?_ | refine ua14 ?_ | refine ua15 ?_ | refine ua16 ?_ | refine ua17 ?_ | refine ua18 ?_ | refine ua19 ?_ | refine ua20 ?_ | refine ua21 ?_ | refine ua22 ?_ | refine ua23 ?_))
local macro_rules | `(tactic| kx_any) => `(tactic| first | ((with_reducible refine idFld ?_); kcf_look) | fail)
local macro_rules | `(tactic| kx_any) => `(tactic| first | ((with_reducible refine idSl ?_); ks_is) | fail)
local macro_rules | `(tactic| kx_any) => `(tactic| ((with_reducible refine idSs ?_); first | refine ds_cons ?_ | refine ds_nil ?_))
local macro_rules | `(tactic| kx_any) => `(tactic| ((with_reducible refine idA ?_); first | refine da_cons ?_ | refine da_nil ?_))
local macro_rules | `(tactic| kx_any) => `(tactic| first | ((with_reducible refine idO ?_); krs_unr) | fail)
local macro_rules | `(tactic| kx_any) => `(tactic| first | ((with_reducible refine idE ?_); kas_out) | fail)
section
variable {B : Bx} {X : Cx} {e c tg it : Expr} {s1 s2 sts : List Stmt} {δ : Env'} {M : Mem} {Ψ : DEnds} {p p' : Pos}
theorem stIf (h : DSs B X (.If c s1 s2 p :: sts) δ M Ψ) : DSs B X (.If c s1 s2 p :: sts) δ M Ψ := h
theorem stFor (h : DSs B X (.For tg it s1 s2 p :: sts) δ M Ψ) : DSs B X (.For tg it s1 s2 p :: sts) δ M Ψ := h
theorem stWhile (h : DSs B X (.While c s1 s2 p :: sts) δ M Ψ) : DSs B X (.While c s1 s2 p :: sts) δ M Ψ := h
theorem stTry {hs : List ExceptHandler} {s3 : List Stmt} (h : DSs B X (.Try s1 hs s2 s3 p :: sts) δ M Ψ) : DSs B X (.Try s1 hs s2 s3 p :: sts) δ M Ψ := h
theorem stSet (x : Str) (h : DSs B X (.Assign [.Name x p'] e p :: sts) δ M Ψ) : DSs B X (.Assign [.Name x p'] e p :: sts) δ M Ψ := h
theorem stAttr {o : Expr} (f : Str) (h : DSs B X (.Assign [.Attribute o f p'] e p :: sts) δ M Ψ) : DSs B X (.Assign [.Attribute o f p'] e p :: sts) δ M Ψ := h
theorem stRet {o : Option Expr} (h : DSs B X (.Return o p :: sts) δ M Ψ) : DSs B X (.Return o p :: sts) δ M Ψ := h
end
local macro_rules | `(tactic| kx_is) => `(tactic| repeat' first | exact UpO.nil | exact Ups.nil | exact Up.here | apply UpO.some | apply UpO.none | apply UpO.any | apply Up.tup | apply Ups.cons | exact Up.same _)
local macro_rules | `(tactic| krs_unr) => `(tactic| refine od_addT (Nat.le_of_ble_eq_true rfl) ?_)
local macro_rules | `(tactic| kbu_src) => `(tactic| refine de_pop0 ?_)
local macro_rules | `(tactic| kbu_src) => `(tactic| refine de_clear ?_)
local macro_rules | `(tactic| kbu_src) => `(tactic| refine de_index ?_)
local macro_rules | `(tactic| kbu_src) => `(tactic| refine de_count ?_)
local macro_rules | `(tactic| kbu_src) => `(tactic| refine de_join ?_)
local macro_rules | `(tactic| kll_open) => `(tactic| first | refine de_exn0 (by assumption) (by assumption) ?_ | fail)
local macro_rules | `(tactic| kll_open) => `(tactic| first | refine de_exnS (by assumption) (by assumption) (by decide) (by decide) (by rfl) (by assumption) ?_ (by kat_eight) | fail)
local macro_rules | `(tactic| kll_open) => `(tactic| first | refine de_max3 (by assumption) (by assumption) ?_ | fail)
local macro_rules | `(tactic| kll_open) => `(tactic| first | refine de_callL (by assumption) (by kat_pair) (by rfl) (by assumption) (by decide) (by kas_known) ?_ (by kat_eight) | fail)
local macro_rules | `(tactic| kll_here) => `(tactic| refine cd_max3 ?_)
local macro_rules | `(tactic| kas_out) => `(tactic| refine DE.f (df_step2 ?_))
local macro_rules | `(tactic| kas_out) => `(tactic| refine de_fmt ?_)
local macro_rules | `(tactic| kas_out) => `(tactic| refine de_joined1 ?_)
local macro_rules | `(tactic| kas_out) => `(tactic| refine de_joined ?_)
local macro_rules | `(tactic| kba_acc) => `(tactic| repeat' first | exact UpVO.nil | exact UpVs.nil | exact UpV.here | apply UpVO.some | apply UpVO.none | apply UpVO.any | apply UpV.tup | apply UpVs.cons | exact UpV.same _)
local macro_rules | `(tactic| kbt_pows) => `(tactic| (simp; done))
local macro_rules | `(tactic| kbt_pows) => `(tactic| exact List.mem_of_getElem? (i := 9) rfl)
local macro_rules | `(tactic| kbt_pows) => `(tactic| exact List.mem_of_getElem? (i := 8) rfl)
local macro_rules | `(tactic| kbt_pows) => `(tactic| exact List.mem_of_getElem? (i := 7) rfl)
local macro_rules | `(tactic| kbt_pows) => `(tactic| exact List.mem_of_getElem? (i := 6) rfl)
local macro_rules | `(tactic| kbt_pows) => `(tactic| exact List.mem_of_getElem? (i := 5) rfl)
local macro_rules | `(tactic| kbt_pows) => `(tactic| exact List.mem_of_getElem? (i := 4) rfl)
local macro_rules | `(tactic| kbt_pows) => `(tactic| exact List.mem_of_getElem? (i := 3) rfl)
local macro_rules | `(tactic| kbt_pows) => `(tactic| exact List.mem_of_getElem? (i := 2) rfl)
local macro_rules | `(tactic| kbt_pows) => `(tactic| exact List.mem_of_getElem? (i := 1) rfl)
local macro_rules | `(tactic| kbt_pows) => `(tactic| exact List.mem_of_getElem? (i := 0) rfl)
def top (i : Nat) : Stmt := PySem.Challenge.pw_hourlanes_k27_whole_there_and_back.main.body.getD i (.Pass ⟨0, 0, 0, 0⟩)
local macro_rules | `(tactic| kll_here) => `(tactic| first | refine c_take (by omega) (by omega) (by omega) (fun _ _ _ => ?_) | refine c_begun (by omega) (fun _ _ => ?_))
abbrev s_law_take : Stmt := top 35
def n_law_take : List Str := ["_law_state", "_law_many", "_law_found", "_law_turn", "_law_cell", "_law_seed", "_law_mixed"]
theorem sc_law_take : FnScope n_law_take ["_law_state", "_law_many"] (defScope s_law_take) := ⟨rfl, rfl, rfl, by decide +kernel, rfl, by decide +kernel, by decide +kernel⟩
theorem d_law_take {P : Program} {w : World} {K : PySem.W.Frag} {mg : Str → Option Value} {base : Heap} {f : Addr} {fd : FuncData} (F : Fun K "_law_take" "_law_take" s_law_take f fd)
   (G_len : mg "len" = none) : FnOk P w K mg base CX0 1 f fd ["_law_state", "_law_many"] (lift pTake) := by
 refine fnok_of (N := n_law_take) (k := 0) F sc_law_take (fun ds M Φ h => by obtain ⟨s, g, b, n, M', rfl, rfl, hn, hn2, k⟩ := h; rfl) fun X B I ds M Φ h => ?_
 obtain ⟨s, g, b, n, M', rfl, rfl, hn, hn2, k⟩ := h
 obtain ⟨rfl, rfl, rfl, rfl, rfl, hN, hs, hf, z, xe⟩ := I
 have hp := passes_of xe
 have n0 : Lo X 0 "_law_state" := lo_of hN hs hf (by decide +kernel)
 have n1 : Lo X 1 "_law_many" := lo_of hN hs hf (by decide +kernel)
 have n2 : Lo X 2 "_law_found" := lo_of hN hs hf (by decide +kernel)
 have n3 : Lo X 3 "_law_turn" := lo_of hN hs hf (by decide +kernel)
 have n4 : Lo X 4 "_law_cell" := lo_of hN hs hf (by decide +kernel)
 have n5 : Lo X 5 "_law_seed" := lo_of hN hs hf (by decide +kernel)
 have n6 : Lo X 6 "_law_mixed" := lo_of hN hs hf (by decide +kernel)
 have g_len : Gn X "len" := gn_of hs (by decide +kernel) G_len
 clear F hf
 change DSs _ X (_ :: _) [_, _, _, _, _, _, _] _ _
 refine ws_stOpen fun gs r t e cs ok => ?_
 have hr := ok.hr
 have hn2 : n < 2 ^ 1000 := hn2
 have ht := ok.ht
 have htb := ok.htb
 have he := ok.he
 have he2 := ok.he2
 repeat' kx_any
 · -- rest is 0
   refine od_neNil (.cell 1 rfl) (okE_ints _) ?_
   repeat' kx_any
   · -- no great cells: a number mixed
     rw [List.length_map]
     have hc1 := ok.hc1
     have hc2 := ok.hc2
     repeat' kx_any
     obtain ⟨c, hc, ec⟩ := at_int (cs := cs) (i := t % (cs.length : Nat)) (Int.emod_nonneg _ (by omega)) (Int.emod_lt_of_pos _ (by omega))
     refine od_ixL ec ?_
     obtain ⟨hc0, hc3⟩ := ok.hcs c hc
     have m1 := Int.emod_nonneg (e * 48271 + c * (2 * t + 3) + t ^ (3 : Int).toNat) (show (2147483647 : Int) ≠ 0 by decide)
     have m2 := Int.emod_lt_of_pos (e * 48271 + c * (2 * t + 3) + t ^ (3 : Int).toNat) (show (0 : Int) < 2147483647 by decide)
     have m3 := Int.emod_nonneg (((e * 48271 + c * (2 * t + 3) + t ^ (3 : Int).toNat) % 2147483647) ^ (2 : Int).toNat) (show (2147483629 : Int) ≠ 0 by decide)
     have m4 := Int.emod_lt_of_pos (((e * 48271 + c * (2 * t + 3) + t ^ (3 : Int).toNat) % 2147483647) ^ (2 : Int).toNat) (show (0 : Int) < 2147483629 by decide)
     generalize hS : (e * 48271 + c * (2 * t + 3) + t ^ (3 : Int).toNat) % 2147483647 = S at m1 m2 m3 m4
     generalize hU : S ^ (2 : Int).toNat % 2147483629 = U at m3 m4
     repeat' kx_any
     refine od_pow ⟨by decide, by decide, by omega⟩ ?_
     repeat' kx_any
     rw [hS]
     repeat' kx_any
     refine od_pow ⟨by decide, by decide, by omega⟩ ?_
     repeat' kx_any
     rw [hU]
     repeat' kx_any
     refine od_pow ⟨by decide, by decide, by omega⟩ ?_
     repeat' kx_any
     refine ⟨_, _, .stc (b := b) ⟨ok.hgs, hr, by omega, by omega, m1, m2, ok.hcs, ok.hc1, ok.hc2⟩, k _ (Int.emod_nonneg _ (by omega)) (Int.emod_lt_of_pos _ (by omega))⟩
   · -- the next great cell
     rename_i hg
     cases gs with
     | nil => exact absurd hg (by decide)
     | cons g0 gs =>
       refine ⟨⟨_, .cell 1 rfl⟩, ?_⟩
       repeat' kx_any
       refine mt_popD (j := 1) (m := 0) (d := .int g0) (ds := .int g0 :: gs.map .int) rfl (by decide) (by decide) (seqIndex_of (by decide) (by simp)) rfl ?_
       have h0 : 0 < g0 := ok.hgs g0 List.mem_cons_self
       have ok1 : ∀ r', 0 ≤ r' → StOk b gs r' t e cs := fun r' hr' => ⟨fun x hx => ok.hgs x (List.mem_cons_of_mem _ hx), hr', ok.ht, by omega, ok.he, ok.he2, ok.hcs, ok.hc1, ok.hc2⟩
       repeat' kx_any
       exact ⟨_, _, .stc (ok1 _ (Int.ediv_nonneg (by omega) (by omega))), k _ (Int.emod_nonneg _ (by omega)) (Int.emod_lt_of_pos _ (by omega))⟩
 · exact ⟨_, _, .stc (b := b) ⟨ok.hgs, Int.ediv_nonneg (by omega) (by omega), ht, by omega, he, he2, ok.hcs, ok.hc1, ok.hc2⟩, k _ (Int.emod_nonneg _ (by omega)) (Int.emod_lt_of_pos _ (by omega))⟩
abbrev s_law_begun : Stmt := top 34
def n_law_begun : List Str := ["_law_script", "_law_cell"]
theorem sc_law_begun : FnScope n_law_begun ["_law_script"] (defScope s_law_begun) := ⟨rfl, rfl, rfl, by decide +kernel, rfl, by decide +kernel, by decide +kernel⟩
theorem d_law_begun {P : Program} {w : World} {K : PySem.W.Frag} {mg : Str → Option Value} {base : Heap} {f : Addr} {fd : FuncData} (F : Fun K "_law_begun" "_law_begun" s_law_begun f fd)
    : FnOk P w K mg base CX0 1 f fd ["_law_script"] (lift (pBegun K)) := by
 refine fnok_of (N := n_law_begun) (k := 0) F sc_law_begun (fun ds M Φ h => by obtain ⟨ns, rfl, hl, k⟩ := h; rfl) fun X B I ds M Φ h => ?_
 obtain ⟨ns, rfl, hl, k⟩ := h
 obtain ⟨rfl, rfl, rfl, rfl, rfl, hN, hs, hf, z, xe⟩ := I
 have hp := passes_of xe
 have n0 : Lo X 0 "_law_script" := lo_of hN hs hf (by decide +kernel)
 clear F hf
 change DSs _ X (_ :: _) [_, _] _ _
 refine ds_one (ds_ret (de_disp 0 rfl rfl rfl (by simp) (by decide) fun p => ?_))
 simp only [DPs]
 repeat' kx_any
 refine DE.own 1 (df_lc 0 z hN hs [("_law_cell", 1)] (.one 1) (by decide +kernel) (by decide) (fun X' bk => pg_one bk z (bk.lo hN hs (by decide +kernel))) ?_)
 refine di_scr ?_
 repeat' kx_any
 refine LcH.pure bigF (by rw [List.length_map]; exact Nat.le_trans hl (by decide)) (fun q acc x hx => ?_) ?_
 · obtain ⟨n, hn, rfl⟩ := List.mem_map.mp hx
   refine ⟨_, rfl, fun X' bk => ?_⟩
   have c0 : Lo X' 1 "_law_cell" := bk.lo hN hs (by decide +kernel)
   have z' := bk.z z
   repeat' kx_any
   · rename_i h
     intro X' bk
     have c0 : Lo X' 1 "_law_cell" := bk.lo hN hs (by decide +kernel)
     have z' := bk.z z
     repeat' kx_any
     exact ⟨(if_pos h).symm, rfl⟩
   · rename_i h
     exact ⟨(if_neg h).symm, rfl⟩
 intro g
 rw [big_map]
 repeat' kx_any
 refine DE.f (df_lc 0 z hN hs [("_law_cell", 1)] (.one 1) (by decide +kernel) (by decide) (fun X' bk => pg_one bk z (bk.lo hN hs (by decide +kernel))) ?_)
 refine di_scr ?_
 repeat' kx_any
 refine LcH.pure modF (by rw [List.length_map]; exact Nat.le_trans hl (by decide)) (fun q acc x hx => ?_) ?_
 · obtain ⟨n, hn, rfl⟩ := List.mem_map.mp hx
   refine ⟨_, rfl, fun X' bk => ?_⟩
   have c0 : Lo X' 1 "_law_cell" := bk.lo hN hs (by decide +kernel)
   have z' := bk.z z
   repeat' kx_any
   exact ⟨rfl, rfl⟩
 rw [rest_map]
 repeat' kx_any
 refine od_addL (by simp; exact Nat.le_trans (Nat.succ_le_succ hl) (by decide)) ?_
 refine ⟨0, [(.inr "great", .raw (.ref g)), (.inr "rest", .int 0), (.inr "turn", .int 0), (.inr "seed", .int 7), (.inr "cells", .lst (((ns.map fun n => n % 2147483629) ++ [77]).map .int))], rfl, by rw [List.map_append]; rfl, by show 5 ≤ 15; decide, ?_⟩
 exact ⟨_, _, .stc (begun_ok ns hl), k _ _⟩
abbrev letters : Str := "abcdefghijklmnopqrstuvwxyz"
def nameB (z : Str) : Bool := decide (1 ≤ z.length) && decide (z.length ≤ 8) && z.cps.toList.all fun c => decide (c ∈ letters.cps.toList)
def pIsName : DSp := fun ds M Φ => ∃ z : Str, ds = [.str z] ∧ z.length ≤ 200000 ∧ Φ (.bl (nameB z)) M
theorem c_isName {z : Str} {M : Mem} {Φ : D → Mem → Prop} (h : z.length ≤ 200000) (k : Φ (.bl (nameB z)) M) : pIsName [.str z] M Φ := ⟨z, rfl, h, k⟩
abbrev s_is_name : Stmt := top 15
def n_is_name : List Str := ["text", "sign"]
theorem sc_is_name : FnScope n_is_name ["text"] (defScope s_is_name) := ⟨rfl, rfl, rfl, by decide +kernel, rfl, by decide +kernel, by decide +kernel⟩
theorem d_is_name {P : Program} {w : World} {K : PySem.W.Frag} {mg : Str → Option Value} {base : Heap} {f : Addr} {fd : FuncData} (F : Fun K "is_name" "is_name" s_is_name f fd)
   (G_len : mg "len" = none) (C_LETTERS : ∃ t, mg "LETTERS" = some (.str "abcdefghijklmnopqrstuvwxyz" t)) : FnOk P w K mg base CX0 1 f fd ["text"] (lift pIsName) := by
 refine fnok_of (N := n_is_name) (k := 0) F sc_is_name (fun ds M Φ h => by obtain ⟨zz, rfl, hl, k⟩ := h; rfl) fun X B I ds M Φ h => ?_
 obtain ⟨zz, rfl, hl, k⟩ := h
 obtain ⟨rfl, rfl, rfl, rfl, rfl, hN, hs, hf, z, xe⟩ := I
 have hp := passes_of xe
 have n0 : Lo X 0 "text" := lo_of hN hs hf (by decide +kernel)
 have n1 : Lo X 1 "sign" := lo_of hN hs hf (by decide +kernel)
 have g_len : Gn X "len" := gn_of hs (by decide +kernel) G_len
 have c_LETTERS : Gc X "LETTERS" (.str "abcdefghijklmnopqrstuvwxyz") := gc_str hs (by decide +kernel) C_LETTERS
 clear F hf
 change DSs _ X (_ :: _) [_, _] _ _
 have hz : zz.length ≤ sizeLine := Nat.le_trans hl (by decide)
 repeat' kpc_text
 refine cd_lenS hz ?_
 repeat' kpc_text
 · rename_i h
   refine ⟨_, _, .refl, ?_⟩
   rw [show nameB zz = false by unfold nameB; rw [decide_eq_false (by omega)]; rfl] at k
   exact k
 refine cd_lenS hz ?_
 repeat' kpc_text
 · rename_i h
   refine ⟨_, _, .refl, ?_⟩
   rw [show nameB zz = false by unfold nameB; rw [decide_eq_false (show ¬ zz.length ≤ 8 by omega), Bool.and_false]; rfl] at k
   exact k
 rename_i h1 h2
 refine ds_for z hp (di_str ?_)
 repeat' kpc_text
 refine ⟨fun i δ M' => M' = M ∧ (∃ o, δ = [some (.str zz), o]) ∧ ((zz.cps.toList.take i).all fun c => decide (c ∈ letters.cps.toList)) = true, ⟨rfl, ⟨_, rfl⟩, rfl⟩, ?_, ?_⟩
 · rintro i x δ M1 hx ⟨rfl, ⟨o, rfl⟩, ha⟩
   rw [List.getElem?_map] at hx
   cases e : zz.cps.toList[i]? with
   | none => rw [e] at hx; cases hx
   | some c =>
     rw [e] at hx
     obtain rfl := Option.some.inj hx
     repeat' kpc_text
     · rename_i h
       refine ⟨_, _, .refl, ?_⟩
       rw [show nameB zz = false by
         unfold nameB
         rw [show (zz.cps.toList.all fun c => decide (c ∈ letters.cps.toList)) = false from by
           rw [List.all_eq_false]
           exact ⟨c, List.mem_of_getElem? e, by rw [decide_eq_false h]; decide⟩, Bool.and_false]] at k
       exact k
     · rename_i h
       refine ⟨rfl, ⟨_, rfl⟩, ?_⟩
       rw [List.take_add_one, e, List.all_append, ha]
       show (true && (decide _ && true)) = true
       rw [decide_eq_true h]; rfl
 · rintro δ M1 ⟨rfl, ⟨o, rfl⟩, ha⟩
   rw [List.length_map, List.take_length] at ha
   repeat' kpc_text
   refine ⟨_, _, .refl, ?_⟩
   rw [show nameB zz = true by unfold nameB; rw [ha, decide_eq_true (show 1 ≤ zz.length by omega), decide_eq_true (show zz.length ≤ 8 by omega)]; rfl] at k
   exact k
abbrev Leg := Str × Int
abbrev legD (l : Leg) : D := .tup [.str l.1, .int l.2]
def WdOk (w : Int) : Prop := 1 ≤ w ∧ w ≤ 1000000000
instance (w : Int) : Decidable (WdOk w) := inferInstanceAs (Decidable (_ ∧ _))
def pIsSize : DSp := fun ds M Φ => ∃ i : Int, ds = [.int i] ∧ Φ (.bl (decide (WdOk i))) M
def badLeg (k : Nat) (ls met : List Str) (l : Leg) : Prop := k = 4 ∨ ¬ l.1 ∈ ls ∨ l.1 ∈ met ∨ ¬ WdOk l.2
instance (k : Nat) (ls met : List Str) (l : Leg) : Decidable (badLeg k ls met l) := inferInstanceAs (Decidable (_ ∨ _))
def wrongGo (ls : List Str) : Nat → List Str → List Leg → Option Nat
 | _, _, [] => none
 | k, met, l :: r => if badLeg k ls met l then some k else wrongGo ls (k + 1) (met ++ [l.1]) r
def wrongF (way : List Leg) (ls : List Str) : Option Nat := if way = [] then some 0 else wrongGo ls 0 [] way
def optD : Option Nat → D
 | none => .non
 | some k => .int (k : Nat)
theorem wrong_at_go {ls met : List Str} {way : List Leg} {i : Nat} {l : Leg} (h : way[i]? = some l) : wrongGo ls i met (way.drop i) = if badLeg i ls met l then some i else wrongGo ls (i + 1) (met ++ [l.1]) (way.drop (i + 1)) := by
 have hi : i < way.length := (List.getElem?_eq_some_iff.mp h).1
 rw [List.drop_eq_getElem_cons hi, (List.getElem?_eq_some_iff.mp h).2]; rfl
theorem isl_cons {M : Mem} {z : D} {ds : List D} {c : Addr × Cell} (h : IsL M z ds) : IsL (c :: M) z ds := by
 cases h with
 | val => exact .val _
 | cell j h => exact .cell (j + 1) h
 | inm h => exact .inm (h.mono fun x hx => List.mem_cons_of_mem _ hx)
def pWrongAt : DSp := fun ds M Φ => ∃ y z, ∃ (way : List Leg) (ls : List Str), ds = [y, z] ∧ IsSq M y (way.map legD) ∧ IsL M z (ls.map .str) ∧ way.length ≤ 200000 ∧ Φ (optD (wrongF way ls)) M
abbrev s_is_size : Stmt := top 16
def n_is_size : List Str := ["number"]
theorem sc_is_size : FnScope n_is_size ["number"] (defScope s_is_size) := ⟨rfl, rfl, rfl, by decide +kernel, rfl, by decide +kernel, by decide +kernel⟩
theorem d_is_size {P : Program} {w : World} {K : PySem.W.Frag} {mg : Str → Option Value} {base : Heap} {f : Addr} {fd : FuncData} (F : Fun K "is_size" "is_size" s_is_size f fd)
   (C_GREATEST : ∃ t, mg "GREATEST" = some (.int 1000000000 t)) : FnOk P w K mg base CX0 1 f fd ["number"] (lift pIsSize) := by
 refine fnok_of (N := n_is_size) (k := 0) F sc_is_size (fun ds M Φ h => by obtain ⟨i, rfl, k⟩ := h; rfl) fun X B I ds M Φ h => ?_
 obtain ⟨i, rfl, k⟩ := h
 obtain ⟨rfl, rfl, rfl, rfl, rfl, hN, hs, hf, z, xe⟩ := I
 have hp := passes_of xe
 have n0 : Lo X 0 "number" := lo_of hN hs hf (by decide +kernel)
 have c_GREATEST : Gc X "GREATEST" (.int 1000000000) := gc_int hs (by decide +kernel) C_GREATEST
 clear F hf
 change DSs _ X (_ :: _) [_] _ _
 repeat' kpc_text
 all_goals refine ⟨_, _, .refl, ?_⟩
 all_goals rename_i h1
 all_goals first
   | (rw [show decide (WdOk i) = false from decide_eq_false fun h => h1 h.1] at k; exact k)
   | (rw [show decide (WdOk i) = decide (i ≤ 1000000000) from by rw [Bool.eq_iff_iff, decide_eq_true_iff, decide_eq_true_iff]; exact ⟨fun h => h.2, fun h => ⟨h1, h⟩⟩] at k; exact k)
abbrev s_wrong_at : Stmt := top 17
def n_wrong_at : List Str := ["way", "lanes", "met", "at", "lane", "wait"]
theorem sc_wrong_at : FnScope n_wrong_at ["way", "lanes"] (defScope s_wrong_at) := ⟨rfl, rfl, rfl, by decide +kernel, rfl, by decide +kernel, by decide +kernel⟩
theorem d_wrong_at {P : Program} {w : World} {K : PySem.W.Frag} {mg : Str → Option Value} {base : Heap} {f : Addr} {fd : FuncData} (F : Fun K "wrong_at" "wrong_at" s_wrong_at f fd)
   (G_len : mg "len" = none) (G_enumerate : mg "enumerate" = none) (C_LEGS : ∃ t, mg "LEGS" = some (.int 4 t)) (D_is_size : Def P w K mg base 1 "is_size" ["number"] pIsSize) : FnOk P w K mg base CX0 2 f fd ["way", "lanes"] (lift pWrongAt) := by
 refine fnok_of (N := n_wrong_at) (k := 1) F sc_wrong_at (fun ds M Φ h => by obtain ⟨y, z', way, ls, rfl, hy, hz, hwl, k⟩ := h; rfl) fun X B I ds M Φ h => ?_
 obtain ⟨y, z', way, ls, rfl, hy, hz, hwl, k⟩ := h
 obtain ⟨rfl, rfl, rfl, rfl, rfl, hN, hs, hf, z, xe⟩ := I
 have hp := passes_of xe
 have n0 : Lo X 0 "way" := lo_of hN hs hf (by decide +kernel)
 have n1 : Lo X 1 "lanes" := lo_of hN hs hf (by decide +kernel)
 have n2 : Lo X 2 "met" := lo_of hN hs hf (by decide +kernel)
 have n3 : Lo X 3 "at" := lo_of hN hs hf (by decide +kernel)
 have n4 : Lo X 4 "lane" := lo_of hN hs hf (by decide +kernel)
 have n5 : Lo X 5 "wait" := lo_of hN hs hf (by decide +kernel)
 have g_len : Gn X "len" := gn_of hs (by decide +kernel) G_len
 have g_enumerate : Gn X "enumerate" := gn_of hs (by decide +kernel) G_enumerate
 have c_LEGS : Gc X "LEGS" (.int 4) := gc_int hs (by decide +kernel) C_LEGS
 have l_is_size : Gl X "is_size" := gl_of hs (by decide +kernel)
 clear F hf
 change DSs _ X (_ :: _) [_, _, _, _, _, _] _ _
 repeat' kpc_text
 refine cd_lenSq hy ?_
 rw [List.length_map]
 repeat' ((fail_if_success refine (stSet "met") ?_); kpc_text)
 · rename_i h0
   have hn : way = [] := List.length_eq_zero_iff.mp (by omega)
   rw [show wrongF way ls = some 0 from if_pos hn] at k
   exact ⟨_, _, .refl, k⟩
 rename_i h0
 have hne : way ≠ [] := fun e => h0 (by rw [e]; rfl)
 rw [show wrongF way ls = wrongGo ls 0 [] way from if_neg hne] at k
 repeat' ((fail_if_success refine (stSet "met") ?_); kpc_text)
 first | refine ds_cons (ds_own 0 z n2 (df_lst (da_nil ⟨by decide, fun q => ?_⟩))) | refine ds_own 0 z n2 (df_lst (da_nil ⟨by decide, fun q => ?_⟩))
 kpc_text
 repeat' ((fail_if_success refine stFor ?_); kpc_text)
 first | refine ds_cons (ds_forCA [3, 4, 5] z (by assumption) (di_enSq (by assumption) ?_)) | refine ds_forCA [3, 4, 5] z (by assumption) (di_enSq (by assumption) ?_)
 repeat' kpc_text
 refine ⟨way.map legD, anc_sq M _ (fun x hx => List.mem_cons_of_mem _ hx) hy, ?_⟩
 refine ⟨fun i vs M1 => (∃ (met : List Str) (o3 o4 o5 : Option D), [o3, o4, o5] = vs ∧ (q, .lst (met.map .str)) :: M = M1 ∧ (wrongGo ls i met (way.drop i) = wrongGo ls 0 [] way) ∧ (met.length = i)), ⟨⟨[], _, _, _, rfl, rfl, (rfl), (rfl)⟩, by rintro i vs M1 ⟨met, o3, o4, o5, rfl, rfl, hg, hml⟩; exact anc_sq M _ (fun x hx => List.mem_cons_of_mem _ hx) hy⟩, ?_, ?_⟩
 · rintro i x vs δ M1 hx ⟨met, o3, o4, o5, rfl, rfl, hg, hml⟩ hδ
   obtain rfl : δ = [_, _, _, o3, o4, o5] := hδ
   obtain ⟨y0, hy0, rfl⟩ := enum_get hx
   obtain ⟨l, hl, rfl⟩ := map_get hy0
   have hgo := wrong_at_go (ls := ls) (met := met) hl
   have hil : i < way.length := (List.getElem?_eq_some_iff.mp hl).1
   rw [hg] at hgo
   have hz2 : IsL ((q, .lst (met.map .str)) :: M) z' (ls.map .str) := isl_cons hz
   repeat' kpc_text
   · rename_i h1
     rw [if_pos (show badLeg i ls met l from .inl (by omega))] at hgo
     rw [hgo] at k
     exact ⟨_, _, .sub (List.sublist_cons_self _ _), k⟩
   rename_i h1
   refine od_notinZ hz2 ?_
   repeat' kpc_text
   · rename_i h2
     rw [if_pos (show badLeg i ls met l from .inr (.inl h2))] at hgo
     rw [hgo] at k
     exact ⟨_, _, .sub (List.sublist_cons_self _ _), k⟩
   · rename_i h2
     refine od_inZ (.cell 0 rfl) ?_
     repeat' kpc_text
     · rename_i h3
       rw [if_pos (show badLeg i ls met l from .inr (.inr (.inl h3)))] at hgo
       rw [hgo] at k
       exact ⟨_, _, .sub (List.sublist_cons_self _ _), k⟩
     rename_i h3
     refine ⟨_, rfl, ?_⟩
     repeat' kpc_text
     · rename_i h4
       rw [if_pos (show badLeg i ls met l from .inr (.inr (.inr h4)))] at hgo
       rw [hgo] at k
       exact ⟨_, _, .sub (List.sublist_cons_self _ _), k⟩
     · rename_i h4
       rw [if_neg (show ¬ badLeg i ls met l from fun hb => by rcases hb with hb | hb | hb | hb; exact h1 (by omega); exact hb h2; exact h3 hb; exact hb h4)] at hgo
       exact ⟨[_, _, _], rfl, met ++ [l.1], _, _, _, rfl, (by rw [List.map_append]; rfl), (hgo.symm), (by simp; omega)⟩
 · rintro vs δ M1 ⟨met, o3, o4, o5, rfl, rfl, hg, hml⟩ hδ
   obtain rfl : δ = [_, _, _, o3, o4, o5] := hδ
   try simp only [range_len, List.length_map, enum_len] at hg hml
   repeat' kpc_text
   rw [List.drop_length] at hg
   rw [← hg] at k
   exact ⟨_, _, .sub (List.sublist_cons_self _ _), k⟩
def lets : List Nat := letters.cps.toList
theorem lets_len : lets.length = 26 := by decide +kernel
def signs (z : Str) : List Nat := z.cps.toList
theorem signs_len (z : Str) : (signs z).length = z.length := rfl
theorem signs_add (x y : Str) : signs (x ++ y) = signs x ++ signs y := by
 show (x.cps ++ y.cps).toList = _
 rw [Array.toList_append]; rfl
theorem name_of {z : Str} (h1 : 1 ≤ z.length) (h2 : z.length ≤ 8) (h3 : ∀ c ∈ signs z, c ∈ lets) : nameB z = true := by
 unfold nameB
 rw [decide_eq_true h1, decide_eq_true h2]
 show (z.cps.toList.all fun c => decide (c ∈ letters.cps.toList)) = true
 rw [List.all_eq_true]
 exact fun c hc => decide_eq_true (h3 c hc)
theorem name_len {z : Str} (h : nameB z = true) : 1 ≤ z.length ∧ z.length ≤ 8 := by
 unfold nameB at h
 simp only [Bool.and_eq_true, decide_eq_true_eq] at h
 exact h.1
theorem lets_lt : ∀ c ∈ lets, c < 1000 := by decide +kernel
theorem lets_get {i : Int} (h0 : 0 ≤ i) (h1 : i < 26) : lets.getD i.toNat 0 ∈ lets ∧ atI letters.cps.toList i = some (lets.getD i.toNat 0) := by
 have hn : i.toNat < lets.length := by rw [lets_len]; omega
 have e : lets[i.toNat]? = some (lets.getD i.toNat 0) := by
   rw [List.getD_eq_getElem?_getD, List.getElem?_eq_getElem hn]; rfl
 refine ⟨List.mem_of_getElem? e, ?_⟩
 obtain ⟨n, rfl⟩ : ∃ n : Nat, i = (n : Int) := ⟨i.toNat, by omega⟩
 exact atI_nat e
structure Names (ns : List Str) (m : Nat) : Prop where
 len : ns.length = m
 nm : ∀ z ∈ ns, nameB z = true
 nd : ns.Nodup
 sg : ∃ p : Nat, (∀ z ∈ ns, p < (signs z).length) ∧ ∀ a ∈ ns, ∀ b ∈ ns, (signs a)[p]? = (signs b)[p]? → a = b
theorem Names.ext {ns : List Str} {m : Nat} (h : Names ns m) {a x : Str} (ha : a ∈ ns) (hx : 0 < x.length) : a ++ x ∉ ns := fun hb => by
 obtain ⟨p, h1, h2⟩ := h.sg
 have e : (signs a)[p]? = (signs (a ++ x))[p]? := by rw [signs_add, List.getElem?_append_left (h1 a ha)]
 have h3 := congrArg (fun z : Str => (signs z).length) (h2 a ha _ hb e)
 rw [show (signs (a ++ x)).length = (signs a).length + (signs x).length by rw [signs_add, List.length_append]] at h3
 have : (signs x).length = x.length := rfl
 omega
structure J where
 size : Int
 rate : Int
 mouth : Int
structure JOk (j : J) : Prop where
 r1 : 1 ≤ j.rate
 rm : j.rate ≤ j.mouth
 ms : j.mouth ≤ j.size
 sz : j.size ≤ 1000000000
abbrev jNs : List Str := ["size", "rate", "mouth"]
abbrev fNs : List Str := ["jar", "marks"]
abbrev jD (c : Addr) (j : J) : D := .obj c jNs [.int j.size, .int j.rate, .int j.mouth]
abbrev fFs (c : Addr) (j : J) (m : Int) : List D := [jD c j, .int m]
abbrev fD (cF cJ : Addr) (j : J) (m : Int) : D := .obj cF fNs (fFs cJ j m)
def mayF (j : J) (m : Int) : Int := min j.mouth m
def pJarI (cJ cX : Addr) : DSpE := fun ds M Φ Ξ => ∃ a s r m M', ds = [.raw (.ref a), .int s, .int r, .int m] ∧ M = (a, .obj cJ [] []) :: M' ∧ (JOk ⟨s, r, m⟩ → Φ .non ((a, .obj cJ jNs [.int s, .int r, .int m]) :: M')) ∧ (¬ JOk ⟨s, r, m⟩ → Ξ cX [] [] M')
def pTold (cJ : Addr) : DSpE := fun ds M Φ _ => ∃ j, ds = [jD cJ j] ∧ Φ (.tup [.int j.size, .int j.rate, .int j.mouth]) M
def pMay (cF cJ : Addr) : DSpE := fun ds M Φ _ => ∃ x j m, ds = [x] ∧ IsO M x cF fNs (fFs cJ j m) ∧ Φ (.int (mayF j m)) M
theorem c_told {cJ : Addr} {j : J} {M : Mem} {Φ : D → Mem → Prop} {Ξ : XPost} (k : Φ (.tup [.int j.size, .int j.rate, .int j.mouth]) M) : pTold cJ [jD cJ j] M Φ Ξ := ⟨j, rfl, k⟩
theorem c_may {cF cJ : Addr} {x : D} {j : J} {m : Int} {M : Mem} {Φ : D → Mem → Prop} {Ξ : XPost} (io : IsO M x cF fNs (fFs cJ j m)) (k : Φ (.int (mayF j m)) M) : pMay cF cJ [x] M Φ Ξ := ⟨x, j, m, rfl, io, k⟩
theorem c_mayV {cF cJ : Addr} {j : J} {m : Int} {M : Mem} {Φ : D → Mem → Prop} {Ξ : XPost} (k : Φ (.int (mayF j m)) M) : pMay cF cJ [fD cF cJ j m] M Φ Ξ := c_may (.val _ _ _) k
local macro_rules | `(tactic| kll_here) => `(tactic| first | refine c_may (by assumption) ?_ | fail)
local macro_rules | `(tactic| kll_here) => `(tactic| refine c_mayV ?_)
local macro_rules | `(tactic| kll_here) => `(tactic| refine c_told ?_)
abbrev s_Jar__init : Stmt := inClass (top 10) 0
def n_Jar__init : List Str := ["self", "size", "rate", "mouth"]
theorem sc_Jar__init : FnScope n_Jar__init ["self", "size", "rate", "mouth"] (defScope s_Jar__init) := ⟨rfl, rfl, rfl, by decide +kernel, rfl, by decide +kernel, by decide +kernel⟩
theorem d_Jar__init {P : Program} {w : World} {K : PySem.W.Frag} {mg : Str → Option Value} {base : Heap} {c_NoJar c_Jar : Addr} {f : Addr} {fd : FuncData} (F : FunG K "__init__" "Jar.__init__" s_Jar__init f fd)
   (C_MOST : ∃ t, mg "MOST" = some (.int 1000000000 t)) (X_NoJar : Ex0 K mg "NoJar" c_NoJar) (A_Jar_size : FldP K c_Jar "size") (A_Jar_rate : FldP K c_Jar "rate") (A_Jar_mouth : FldP K c_Jar "mouth") : FnOk P w K mg base (L2.CX P w) 1 f fd ["self", "size", "rate", "mouth"] (liftE (pJarI c_Jar c_NoJar)) := by
 refine fnokG_of (N := n_Jar__init) (k := 0) F sc_Jar__init (fun ds M Φ Ξ h => by obtain ⟨a, s, r, m, M', rfl, rfl, k, kx⟩ := h; rfl) fun X kp ds M Φ Ξ h I => ?_
 obtain ⟨a, s, r, m, M', rfl, rfl, k, kx⟩ := h
 obtain ⟨rfl, rfl, rfl, rfl, rfl, hN, hs, hf, z, hp, tk, hst, hfr⟩ := I
 have nd := z.nd
 have n0 : Lo X 0 "self" := lo_of hN hs hf (by decide +kernel)
 have n1 : Lo X 1 "size" := lo_of hN hs hf (by decide +kernel)
 have n2 : Lo X 2 "rate" := lo_of hN hs hf (by decide +kernel)
 have n3 : Lo X 3 "mouth" := lo_of hN hs hf (by decide +kernel)
 have c_MOST : Gc X "MOST" (.int 1000000000) := gc_int hs (by decide +kernel) C_MOST
 have l_NoJar : Gl X "NoJar" := gl_of hs (by decide +kernel)
 clear F hf
 change DSs _ X (_ :: _) [_, _, _, _] _ _
 repeat' kpc_text
 all_goals first
   | exact ⟨_, _, .sub (List.sublist_cons_self _ _), kx fun h => by have h1 := h.r1; have h2 := h.rm; have h3 := h.ms; have h4 := h.sz; dsimp only at h1 h2 h3 h4; omega⟩
   | exact ⟨_, _, .refl, k ⟨by dsimp only; omega, by dsimp only; omega, by dsimp only; omega, by dsimp only; omega⟩⟩
abbrev s_Jar_told : Stmt := inClass (top 10) 4
def n_Jar_told : List Str := ["self"]
theorem sc_Jar_told : FnScope n_Jar_told ["self"] (defScope s_Jar_told) := ⟨rfl, rfl, rfl, by decide +kernel, rfl, by decide +kernel, by decide +kernel⟩
theorem d_Jar_told {P : Program} {w : World} {K : PySem.W.Frag} {mg : Str → Option Value} {base : Heap} {c_Jar : Addr} {f : Addr} {fd : FuncData} (F : FunG K "told" "Jar.told" s_Jar_told f fd)
   (A_Jar_size : FldP K c_Jar "size") (A_Jar_rate : FldP K c_Jar "rate") (A_Jar_mouth : FldP K c_Jar "mouth") : FnOk P w K mg base (L2.CX P w) 1 f fd ["self"] (liftE (pTold c_Jar)) := by
 refine fnokG_of (N := n_Jar_told) (k := 0) F sc_Jar_told (fun ds M Φ Ξ h => by obtain ⟨j, rfl, k⟩ := h; rfl) fun X kp ds M Φ Ξ h I => ?_
 obtain ⟨j, rfl, k⟩ := h
 obtain ⟨rfl, rfl, rfl, rfl, rfl, hN, hs, hf, z, hp, tk, hst, hfr⟩ := I
 have nd := z.nd
 have n0 : Lo X 0 "self" := lo_of hN hs hf (by decide +kernel)
 clear F hf
 change DSs _ X (_ :: _) [_] _ _
 repeat' kpc_text
 exact ⟨_, _, .refl, k⟩
def tI (i : Int) : Str := Str.ofString (toString i)
def strJ (j : J) : Str := Str.empty ++ tI j.size ++ Str.ofString " " ++ tI j.rate ++ Str.ofString " " ++ tI j.mouth
theorem tI_len {i : Int} (h0 : 0 ≤ i) (h1 : i < 10 ^ 10) : (tI i).length ≤ 10 := PySem.W.KT.len_num h0 h1
theorem tI_log {i : Int} (h0 : 0 ≤ i) (h1 : i ≤ 1000000000) : i.natAbs.log2 < 1920 := by
 by_cases h : i.natAbs = 0
 · rw [h]; decide
 · exact (Nat.log2_lt h).mpr (Nat.lt_of_lt_of_le (show i.natAbs < 2 ^ 31 by omega) (Nat.pow_le_pow_right (by decide) (by decide)))
structure JTx (j : J) : Prop where
 h1 : j.size.natAbs.log2 < 1920
 h2 : j.rate.natAbs.log2 < 1920
 h3 : j.mouth.natAbs.log2 < 1920
 l1 : (Str.ofString (toString j.size)).length ≤ 10
 l2 : (Str.ofString (toString j.rate)).length ≤ 10
 l3 : (Str.ofString (toString j.mouth)).length ≤ 10
theorem JOk.tx {j : J} (hj : JOk j) : JTx j := by
 have hms := hj.ms
 have hrm := hj.rm
 have hr1 := hj.r1
 have hsz := hj.sz
 exact ⟨tI_log (by omega) (by omega), tI_log (by omega) (by omega), tI_log (by omega) (by omega), tI_len (by omega) (by omega), tI_len (by omega) (by omega), tI_len (by omega) (by omega)⟩
def pJarStr (cJ : Addr) : DSpE := fun ds M Φ _ => ∃ j, ds = [jD cJ j] ∧ JOk j ∧ Φ (.str (strJ j)) M
abbrev s_Jar__str : Stmt := inClass (top 10) 2
def n_Jar__str : List Str := ["self"]
theorem sc_Jar__str : FnScope n_Jar__str ["self"] (defScope s_Jar__str) := ⟨rfl, rfl, rfl, by decide +kernel, rfl, by decide +kernel, by decide +kernel⟩
theorem d_Jar__str {P : Program} {w : World} {K : PySem.W.Frag} {mg : Str → Option Value} {base : Heap} {c_Jar : Addr} {f : Addr} {fd : FuncData} (F : FunG K "__str__" "Jar.__str__" s_Jar__str f fd)
   (A_Jar_size : FldP K c_Jar "size") (A_Jar_rate : FldP K c_Jar "rate") (A_Jar_mouth : FldP K c_Jar "mouth") : FnOk P w K mg base (L2.CX P w) 1 f fd ["self"] (liftE (pJarStr c_Jar)) := by
 refine fnokG_of (N := n_Jar__str) (k := 0) F sc_Jar__str (fun ds M Φ Ξ h => by obtain ⟨j, rfl, hj, k⟩ := h; rfl) fun X kp ds M Φ Ξ h I => ?_
 obtain ⟨j, rfl, hj, k⟩ := h
 obtain ⟨rfl, rfl, rfl, rfl, rfl, hN, hs, hf, z, hp, tk, hst, hfr⟩ := I
 have nd := z.nd
 have n0 : Lo X 0 "self" := lo_of hN hs hf (by decide +kernel)
 clear F hf
 change DSs _ X (_ :: _) [_] _ _
 obtain ⟨h1, h2, h3, l1, l2, l3⟩ := hj.tx
 have l4 : (Str.ofString " ").length = 1 := by decide +kernel
 have l5 : Str.empty.length = 0 := by decide +kernel
 repeat' kpc_text
 exact ⟨_, _, .refl, k⟩
structure Sm where
 nm : Str
 j : J
 way : List Leg
abbrev jRow (j : J) : D := .tup [.int j.size, .int j.rate, .int j.mouth]
abbrev smD (x : Sm) : D := .tup [.str x.nm, jRow x.j, .lst (x.way.map legD)]
structure WayOk (zs : List Str) (way : List Leg) : Prop where
 l1 : 1 ≤ way.length
 l4 : way.length ≤ 4
 mem : ∀ l ∈ way, l.1 ∈ zs
 wd : ∀ l ∈ way, WdOk l.2
 nd : (way.map (·.1)).Nodup
structure PlanOk (ls : List Leg) (ss : List Sm) : Prop where
 l6 : ls.length ≤ 6
 s8 : ss.length ≤ 8
 ln : ∀ l ∈ ls, nameB l.1 = true
 lw : ∀ l ∈ ls, WdOk l.2
 ld : (ls.map (·.1)).Nodup
 sn : ∀ x ∈ ss, nameB x.nm = true
 sd : (ss.map (·.nm)).Nodup
 sj : ∀ x ∈ ss, JOk x.j
 sw : ∀ x ∈ ss, WayOk (ls.map (·.1)) x.way
def pNameG : DSp := fun ds M Φ => ∃ s g b M', ∃ zs : List Str, ds = [.raw (.ref s), .lst (zs.map .str)] ∧ M = (s, .st g b) :: M' ∧ (∀ z ∈ zs, nameB z = true) ∧ zs.length ≤ 20 ∧ 20 ≤ b ∧ ∀ (z : Str) b', nameB z = true → z ∉ zs → b ≤ b' + 20 → Φ (.str z) ((s, .st g b') :: M')
def pJarD : DSp := fun ds M Φ => ∃ s g b M', ds = [.raw (.ref s)] ∧ M = (s, .st g b) :: M' ∧ 10 ≤ b ∧ ∀ j b', JOk j → b ≤ b' + 10 → Φ (jRow j) ((s, .st g b') :: M')
def pWaitG : DSp := fun ds M Φ => ∃ s g b M', ds = [.raw (.ref s)] ∧ M = (s, .st g b) :: M' ∧ 3 ≤ b ∧ ∀ r b', WdOk r → b ≤ b' + 3 → Φ (.int r) ((s, .st g b') :: M')
def pWayG : DSp := fun ds M Φ => ∃ s g b M', ∃ zs : List Str, ds = [.raw (.ref s), .lst (zs.map .str)] ∧ M = (s, .st g b) :: M' ∧ zs.Nodup ∧ 1 ≤ zs.length ∧ zs.length ≤ 20 ∧ 40 ≤ b ∧ ∀ way b', WayOk zs way → b ≤ b' + 40 → Φ (.lst (way.map legD)) ((s, .st g b') :: M')
def pPlanG : DSp := fun ds M Φ => ∃ s g b M', ds = [.raw (.ref s)] ∧ M = (s, .st g b) :: M' ∧ 2000 ≤ b ∧ ∀ ls ss b', PlanOk ls ss → b ≤ b' + 2000 → Φ (.tup [.lst (ls.map legD), .lst (ss.map smD)]) ((s, .st g b') :: M')
theorem c_waitG {s g : Addr} {b : Nat} {M : Mem} {Φ : D → Mem → Prop} (h : 3 ≤ b) (k : ∀ r b', WdOk r → b ≤ b' + 3 → Φ (.int r) ((s, .st g b') :: M)) : pWaitG [.raw (.ref s)] ((s, .st g b) :: M) Φ := ⟨s, g, b, M, rfl, rfl, h, k⟩
theorem c_jarD {s g : Addr} {b : Nat} {M : Mem} {Φ : D → Mem → Prop} (h : 10 ≤ b) (k : ∀ j b', JOk j → b ≤ b' + 10 → Φ (jRow j) ((s, .st g b') :: M)) : pJarD [.raw (.ref s)] ((s, .st g b) :: M) Φ := ⟨s, g, b, M, rfl, rfl, h, k⟩
theorem od_ixMp {K : PySem.W.Frag} {M : Mem} {Φ : D → Mem → Prop} {α : Type} (f : α → D) (xs : List α) {i : Int} (h0 : 0 ≤ i) (h1 : i < xs.length) (k : ∀ m, m ∈ xs → Φ (f m) M) : OpD (rIxU K) (.lst (xs.map f)) (.int i) M Φ := by
 have hi : i.toNat < xs.length := by omega
 obtain ⟨n, rfl⟩ : ∃ n : Nat, i = (n : Int) := ⟨i.toNat, by omega⟩
 have hn : n < xs.length := by omega
 exact od_ixL (d := f xs[n]) (at_mapN (by simp [hn])) (k _ (List.getElem_mem hn))
abbrev owns : List Str := ["lane", "stream", "in", "turn", "tick", "go", "plan", "shut", "room", "never", "nothing", "no", "ok", "unknown"]
theorem owns_nm : ∀ z ∈ owns, nameB z = true := by decide +kernel
theorem cut8_len {z : Str} (h : 1 ≤ z.length) : 1 ≤ (L2.cutS z none (some 8)).length ∧ (L2.cutS z none (some 8)).length ≤ 8 := by
 have e : (L2.cutS z none (some 8)).length = ((z.cps.toList.drop (HT.sIx z.length 0 none)).take (HT.sIx z.length z.length (some ((8 : Nat) : Int)) - HT.sIx z.length 0 none)).length := by
   show (List.toArray _).size = _
   rw [List.size_toArray]; rfl
 have e2 : HT.sIx z.length 0 none = 0 := rfl
 have e3 : z.cps.toList.length = z.length := rfl
 rw [e, HT.sIx_nat, e2, List.length_take, List.length_drop, e3]
 omega
theorem cut8_mem {z : Str} {c : Nat} (h : c ∈ signs (L2.cutS z none (some 8))) : c ∈ signs z := by
 have h : c ∈ ((z.cps.toList.drop _).take _).toArray.toList := h
 rw [List.toList_toArray] at h
 exact List.mem_of_mem_drop (List.mem_of_mem_take h)
theorem name_signs {z : Str} (h : nameB z = true) : ∀ c ∈ signs z, c ∈ lets := by
 unfold nameB at h
 simp only [Bool.and_eq_true] at h
 exact fun c hc => of_decide_eq_true (List.all_eq_true.mp h.2 c hc)
def oneL (k : Nat) : Str := ⟨#[lets.getD k 0]⟩
theorem one_name {k : Nat} (h : k < 26) : nameB (oneL k) = true := name_of (Nat.le_refl 1) (show 1 ≤ 8 by decide) fun c hc => by
 rw [List.mem_singleton.mp (show c ∈ [lets.getD k 0] from hc)]
 exact (lets_get (i := (k : Int)) (by omega) (by omega)).1
theorem nodup_sub {α : Type} [DecidableEq α] : ∀ {l m : List α}, l.Nodup → (∀ x ∈ l, x ∈ m) → l.length ≤ m.length
 | [], _, _, _ => Nat.zero_le _
 | a :: l, m, hd, hs => by
   rw [List.nodup_cons] at hd
   have h1 : ∀ x ∈ l, x ∈ m.erase a := fun x hx => (List.mem_erase_of_ne (fun (e : x = a) => hd.1 (by rw [← e]; exact hx))).mpr (hs x (.tail _ hx))
   have h2 := nodup_sub hd.2 h1
   have h3 := hs a (.head _)
   rw [List.length_erase_of_mem h3] at h2
   have := List.length_pos_of_mem h3
   simp only [List.length_cons]
   omega
theorem ones_not {zs : List Str} (hl : zs.length ≤ 20) (h : ∀ k, k < 25 → oneL k ∈ zs) : False := by
 have hn : ((List.range 25).map oneL).Nodup := by decide +kernel
 have := nodup_sub hn fun x hx => by
   obtain ⟨k, hk, rfl⟩ := List.mem_map.mp hx
   exact h k (List.mem_range.mp hk)
 simp at this
 omega
theorem app_name {z : Str} {c : Nat} (h : ∀ c ∈ signs z, c ∈ lets) (hc : c ∈ lets) : ∀ c' ∈ signs (z ++ (⟨#[c]⟩ : Str)), c' ∈ lets := fun c' hc' => by
 rw [signs_add] at hc'
 rcases List.mem_append.mp hc' with q | q
 · exact h c' q
 · rw [List.mem_singleton.mp (show c' ∈ [c] from q)]; exact hc
theorem app_len {z : Str} {c : Nat} : (z ++ (⟨#[c]⟩ : Str)).length = z.length + 1 := by
 rw [← signs_len, signs_add, List.length_append]; rfl
local macro_rules | `(tactic| kll_here) => `(tactic| refine c_waitG (by omega) (fun _ _ _ _ => ?_))
abbrev s_law_wait : Stmt := top 39
def n_law_wait : List Str := ["_law_state", "_law_kind"]
theorem sc_law_wait : FnScope n_law_wait ["_law_state"] (defScope s_law_wait) := ⟨rfl, rfl, rfl, by decide +kernel, rfl, by decide +kernel, by decide +kernel⟩
theorem d_law_wait {P : Program} {w : World} {K : PySem.W.Frag} {mg : Str → Option Value} {base : Heap} {f : Addr} {fd : FuncData} (F : Fun K "_law_wait" "_law_wait" s_law_wait f fd)
   (D_law_take : Def P w K mg base 1 "_law_take" ["_law_state", "_law_many"] pTake) : FnOk P w K mg base CX0 2 f fd ["_law_state"] (lift pWaitG) := by
 refine fnok_of (N := n_law_wait) (k := 1) F sc_law_wait (fun ds M Φ h => by obtain ⟨s, g, b, M', rfl, rfl, hb, k⟩ := h; rfl) fun X B I ds M Φ h => ?_
 obtain ⟨s, g, b, M', rfl, rfl, hb, k⟩ := h
 obtain ⟨rfl, rfl, rfl, rfl, rfl, hN, hs, hf, z, xe⟩ := I
 have hp := passes_of xe
 have n0 : Lo X 0 "_law_state" := lo_of hN hs hf (by decide +kernel)
 have n1 : Lo X 1 "_law_kind" := lo_of hN hs hf (by decide +kernel)
 have l_law_take : Gl X "_law_take" := gl_of hs (by decide +kernel)
 clear F hf
 change DSs _ X (_ :: _) [_, _] _ _
 repeat' kpc_text
 rename_i kind h0 h1 r1 h10 h11 r2 h20 h21
 refine od_ixM [1 + r1, 1 + r2, 1000000000, 1] h0 h1 fun m hm => ?_
 have hm : m = 1 + r1 ∨ m = 1 + r2 ∨ m = 1000000000 ∨ m = 1 := by simpa using hm
 exact ⟨_, _, .refl, k _ _ (show _ ∧ _ by omega) (by omega)⟩
abbrev s_law_jar : Stmt := top 38
def n_law_jar : List Str := ["_law_state", "_law_top", "_law_low", "_law_middle", "_law_high"]
theorem sc_law_jar : FnScope n_law_jar ["_law_state"] (defScope s_law_jar) := ⟨rfl, rfl, rfl, by decide +kernel, rfl, by decide +kernel, by decide +kernel⟩
theorem d_law_jar {P : Program} {w : World} {K : PySem.W.Frag} {mg : Str → Option Value} {base : Heap} {f : Addr} {fd : FuncData} (F : Fun K "_law_jar" "_law_jar" s_law_jar f fd)
   (D_law_take : Def P w K mg base 1 "_law_take" ["_law_state", "_law_many"] pTake) (G_sorted : mg "sorted" = none) : FnOk P w K mg base CX0 2 f fd ["_law_state"] (lift pJarD) := by
 refine fnok_of (N := n_law_jar) (k := 1) F sc_law_jar (fun ds M Φ h => by obtain ⟨s, g, b, M', rfl, rfl, hb, k⟩ := h; rfl) fun X B I ds M Φ h => ?_
 obtain ⟨s, g, b, M', rfl, rfl, hb, k⟩ := h
 obtain ⟨rfl, rfl, rfl, rfl, rfl, hN, hs, hf, z, xe⟩ := I
 have hp := passes_of xe
 have n0 : Lo X 0 "_law_state" := lo_of hN hs hf (by decide +kernel)
 have n1 : Lo X 1 "_law_top" := lo_of hN hs hf (by decide +kernel)
 have n2 : Lo X 2 "_law_low" := lo_of hN hs hf (by decide +kernel)
 have n3 : Lo X 3 "_law_middle" := lo_of hN hs hf (by decide +kernel)
 have n4 : Lo X 4 "_law_high" := lo_of hN hs hf (by decide +kernel)
 have l_law_take : Gl X "_law_take" := gl_of hs (by decide +kernel)
 have g_sorted : Gn X "sorted" := gn_of hs (by decide +kernel) G_sorted
 clear F hf
 change DSs _ X (_ :: _) [_, _, _, _, _] _ _
 repeat' kpc_text
 rename_i t ht0 ht1
 refine od_ixM [4, 60, 1000000000] ht0 ht1 fun m hm => ?_
 have hm : m = 4 ∨ m = 60 ∨ m = 1000000000 := by simpa using hm
 repeat' kpc_text
 refine de_sortedI (by assumption) ?_
 repeat' kpc_text
 rename_i r1 hr10 hr11 r2 hr20 hr21 r3 hr30 hr31
 refine cd_sortedI (ns := [1 + r1, 1 + r2, 1 + r3]) (.val _) fun ms hp hw => ?_
 obtain ⟨x1, x2, x3, rfl⟩ : ∃ x1 x2 x3, ms = [x1, x2, x3] := by
   have hl := hp.length_eq
   rcases ms with _ | ⟨x1, _ | ⟨x2, _ | ⟨x3, _ | ⟨x4, ms⟩⟩⟩⟩
   · simp at hl
   · simp at hl
   · simp at hl
   · exact ⟨_, _, _, rfl⟩
   · simp at hl
 have hx : ∀ x ∈ [x1, x2, x3], 1 ≤ x ∧ x ≤ 1000000000 := fun x hx => by
   have hx := hp.mem_iff.mp hx
   have hx : x = 1 + r1 ∨ x = 1 + r2 ∨ x = 1 + r3 := by simpa using hx
   omega
 have hx1 := hx x1 (by simp)
 have hx2 := hx x2 (by simp)
 have hx3 := hx x3 (by simp)
 have hw : (x1 ≤ x2 ∧ x1 ≤ x3) ∧ x2 ≤ x3 := by simpa using hw
 refine dg_lst (by assumption) rfl ?_
 repeat' kpc_text
 exact ⟨_, _, .refl, k ⟨x3, x1, x2⟩ _ ⟨hx1.1, hw.1.1, hw.2, hx3.2⟩ (by omega)⟩
abbrev s_law_name : Stmt := top 37
def n_law_name : List Str := ["_law_state", "_law_met", "_law_letters", "_law_own", "_law_kind", "_law_name_here", "_law_k", "_law_other"]
theorem sc_law_name : FnScope n_law_name ["_law_state", "_law_met"] (defScope s_law_name) := ⟨rfl, rfl, rfl, by decide +kernel, rfl, by decide +kernel, by decide +kernel⟩
theorem d_law_name {P : Program} {w : World} {K : PySem.W.Frag} {mg : Str → Option Value} {base : Heap} {f : Addr} {fd : FuncData} (F : Fun K "_law_name" "_law_name" s_law_name f fd)
   (D_law_take : Def P w K mg base 1 "_law_take" ["_law_state", "_law_many"] pTake) (G_len : mg "len" = none) (G_range : mg "range" = none) : FnOk P w K mg base CX0 2 f fd ["_law_state", "_law_met"] (lift pNameG) := by
 refine fnok_of (N := n_law_name) (k := 1) F sc_law_name (fun ds M Φ h => by obtain ⟨s, g, b, M', zs, rfl, rfl, hz, hl, hb, k⟩ := h; rfl) fun X B I ds M Φ h => ?_
 obtain ⟨s, g, b, M', zs, rfl, rfl, hz, hl, hb, k⟩ := h
 obtain ⟨rfl, rfl, rfl, rfl, rfl, hN, hs, hf, z, xe⟩ := I
 have hp := passes_of xe
 have n0 : Lo X 0 "_law_state" := lo_of hN hs hf (by decide +kernel)
 have n1 : Lo X 1 "_law_met" := lo_of hN hs hf (by decide +kernel)
 have n2 : Lo X 2 "_law_letters" := lo_of hN hs hf (by decide +kernel)
 have n3 : Lo X 3 "_law_own" := lo_of hN hs hf (by decide +kernel)
 have n4 : Lo X 4 "_law_kind" := lo_of hN hs hf (by decide +kernel)
 have n5 : Lo X 5 "_law_name_here" := lo_of hN hs hf (by decide +kernel)
 have n6 : Lo X 6 "_law_k" := lo_of hN hs hf (by decide +kernel)
 have n7 : Lo X 7 "_law_other" := lo_of hN hs hf (by decide +kernel)
 have l_law_take : Gl X "_law_take" := gl_of hs (by decide +kernel)
 have g_len : Gn X "len" := gn_of hs (by decide +kernel) G_len
 have g_range : Gn X "range" := gn_of hs (by decide +kernel) G_range
 clear F hf
 change DSs _ X (_ :: _) [_, _, _, _, _, _, _, _] _ _
 repeat' kpc_text
 refine od_addL (by decide) ?_
 repeat' ((fail_if_success refine stIf ?_); kpc_text)
 rename_i kind h0 h3
 show DSs _ X _ [some (.raw (.ref s)), some (.lst (zs.map .str)), some (.str letters), some (.lst (owns.map .str)), some (.int kind), some (.str (Str.ofString "")), none, none] _ _
 refine ds_cutC [5, 6] (fun vs M1 => (∃ (b1 : Nat) (zz : Str) (o6 : Option D), [some (.str zz), o6] = vs ∧ (s, .st g b1) :: M' = M1 ∧ (b ≤ b1 + 20) ∧ (nameB zz = true))) ?_ ?_
 · repeat' kpc_text
   · rename_i m hm
     exact ⟨[_, _], rfl, _, _, _, rfl, rfl, (by omega), (owns_nm m (List.mem_of_getElem? hm))⟩
   · rename_i m hm r2 h20 h21
     have hmn := hz m (List.mem_of_getElem? hm)
     have hml := name_len hmn
     refine od_ixS (by decide +kernel) (lets_get h20 h21).2 ?_
     refine od_addS (by show m.length + 1 ≤ _; exact Nat.le_trans (show m.length + 1 ≤ 9 by omega) (by decide)) ?_
     repeat' kpc_text
     refine SlD.str (by rw [app_len]; exact Nat.le_trans (show m.length + 1 ≤ 9 by omega) (by decide)) ?_
     repeat' kpc_text
     have hc8 := cut8_len (z := m ++ (⟨#[lets.getD r2.toNat 0]⟩ : Str)) (by rw [app_len]; omega)
     exact ⟨[_, _], rfl, _, _, _, rfl, rfl, (by omega), (name_of hc8.1 hc8.2 fun c hc => app_name (name_signs hmn) (lets_get h20 h21).1 c (cut8_mem hc))⟩
   · skip
     repeat' ((fail_if_success refine stFor ?_); kpc_text)
     first | refine ds_cons (ds_forC [5, 6] z (by assumption) (di_range1 (by assumption) ?_)) | refine ds_forC [5, 6] z (by assumption) (di_range1 (by assumption) ?_)
     repeat' kpc_text
     refine od_ixM [2, 8] (by omega) (by simp; omega) fun m hm => ?_
     have hm : m = 2 ∨ m = 8 := by simpa using hm
     repeat' kpc_text
     rename_i r hr0 hr1
     refine ⟨by omega, by omega, ?_⟩
     refine ⟨fun i vs M1 => (∃ (b1 : Nat) (zz : Str) (o6 : Option D), [some (.str zz), o6] = vs ∧ (s, .st g b1) :: M' = M1 ∧ (b ≤ b1 + 2 + i) ∧ (zz.length = i) ∧ (∀ c ∈ signs zz, c ∈ lets)), ⟨_, Str.ofString "", _, rfl, rfl, (by omega), (rfl), ((fun c hc => by rw [show signs (Str.ofString "") = [] from rfl] at hc; cases hc))⟩, ?_, ?_⟩
     · rintro i x vs δ M1 hx ⟨b1, zz, o6, rfl, rfl, hb1, hzl, hzc⟩ hδ
       obtain rfl : δ = [_, _, _, _, _, _, o6, _] := hδ
       obtain ⟨hi, rfl⟩ := range_get hx
       repeat' kpc_text
       rename_i r2 h20 h21
       refine od_ixS (by decide +kernel) (lets_get h20 h21).2 ?_
       refine od_addS (by show zz.length + 1 ≤ _; exact Nat.le_trans (show zz.length + 1 ≤ 20 by omega) (by decide)) ?_
       repeat' kpc_text
       exact ⟨[_, _], rfl, _, _, _, rfl, rfl, (by omega), (by rw [app_len, hzl]), (app_name hzc (lets_get h20 h21).1)⟩
     · rintro vs δ M1 ⟨b1, zz, o6, rfl, rfl, hb1, hzl, hzc⟩ hδ
       obtain rfl : δ = [_, _, _, _, _, _, o6, _] := hδ
       try simp only [range_len, List.length_map, enum_len] at hb1 hzl hzc
       repeat' kpc_text
       exact ⟨[_, _], rfl, _, _, _, rfl, rfl, (by omega), (name_of (by omega) (by omega) hzc)⟩
   · skip
     repeat' ((fail_if_success refine stFor ?_); kpc_text)
     first | refine ds_cons (ds_forC [5, 6] z (by assumption) (di_range1 (by assumption) ?_)) | refine ds_forC [5, 6] z (by assumption) (di_range1 (by assumption) ?_)
     repeat' kpc_text
     refine od_ixM [2, 8] (by omega) (by simp; omega) fun m hm => ?_
     have hm : m = 2 ∨ m = 8 := by simpa using hm
     repeat' kpc_text
     rename_i r hr0 hr1
     refine ⟨by omega, by omega, ?_⟩
     refine ⟨fun i vs M1 => (∃ (b1 : Nat) (zz : Str) (o6 : Option D), [some (.str zz), o6] = vs ∧ (s, .st g b1) :: M' = M1 ∧ (b ≤ b1 + 2 + i) ∧ (zz.length = i) ∧ (∀ c ∈ signs zz, c ∈ lets)), ⟨_, Str.ofString "", _, rfl, rfl, (by omega), (rfl), ((fun c hc => by rw [show signs (Str.ofString "") = [] from rfl] at hc; cases hc))⟩, ?_, ?_⟩
     · rintro i x vs δ M1 hx ⟨b1, zz, o6, rfl, rfl, hb1, hzl, hzc⟩ hδ
       obtain rfl : δ = [_, _, _, _, _, _, o6, _] := hδ
       obtain ⟨hi, rfl⟩ := range_get hx
       repeat' kpc_text
       rename_i r2 h20 h21
       refine od_ixS (by decide +kernel) (lets_get h20 h21).2 ?_
       refine od_addS (by show zz.length + 1 ≤ _; exact Nat.le_trans (show zz.length + 1 ≤ 20 by omega) (by decide)) ?_
       repeat' kpc_text
       exact ⟨[_, _], rfl, _, _, _, rfl, rfl, (by omega), (by rw [app_len, hzl]), (app_name hzc (lets_get h20 h21).1)⟩
     · rintro vs δ M1 ⟨b1, zz, o6, rfl, rfl, hb1, hzl, hzc⟩ hδ
       obtain rfl : δ = [_, _, _, _, _, _, o6, _] := hδ
       try simp only [range_len, List.length_map, enum_len] at hb1 hzl hzc
       repeat' kpc_text
       exact ⟨[_, _], rfl, _, _, _, rfl, rfl, (by omega), (name_of (by omega) (by omega) hzc)⟩
 · rintro vs δ M1 ⟨b1, zz, o6, rfl, rfl, hb1, hzz⟩ hδ
   obtain rfl : δ = [_, _, _, _, _, _, o6, _] := hδ
   have hb1 : b ≤ b1 + 20 := hb1
   repeat' ((fail_if_success refine stFor ?_); kpc_text)
   first | refine ds_cons (ds_forC [5, 7] z (by assumption) (di_str ?_)) | refine ds_forC [5, 7] z (by assumption) (di_str ?_)
   repeat' kpc_text
   refine ⟨fun i vs M1 => (∃ (zz : Str) (o7 : Option D), [some (.str zz), o7] = vs ∧ (s, .st g b1) :: M' = M1 ∧ (nameB zz = true) ∧ (zz ∉ zs ∨ ((∀ k, k + 1 < i → oneL k ∈ zs) ∧ (0 < i → zz = oneL (i - 1))))), ⟨_, _, rfl, rfl, (hzz), (.inr ⟨fun k h => absurd h (by omega), fun h => absurd h (by omega)⟩)⟩, ?_, ?_⟩
   · rintro i x vs δ M1 hx ⟨zz, o7, rfl, rfl, hn, hq⟩ hδ
     obtain rfl : δ = [_, _, _, _, _, _, _, o7] := hδ
     rw [List.getElem?_map] at hx
     cases e : letters.cps.toList[i]? with
     | none => rw [e] at hx; cases hx
     | some c =>
       rw [e] at hx
       obtain rfl := Option.some.inj hx
       have hi : i < 26 := by
         have := (List.getElem?_eq_some_iff.mp e).1
         rw [show letters.cps.toList.length = 26 by decide +kernel] at this
         exact this
       have ec : c = lets.getD i 0 := by
         rw [List.getD_eq_getElem?_getD, show lets[i]? = some c from e]; rfl
       repeat' kpc_text
       refine od_inZ (.val _) ?_
       repeat' kpc_text
       · rename_i hin
         have hq2 : ∀ k, k + 1 < i + 1 → oneL k ∈ zs := fun k hk => by
           rcases hq with hq | hq
           · exact absurd hin hq
           · rcases Nat.lt_or_ge (k + 1) i with h | h
             · exact hq.1 k h
             · have h2 := hq.2 (by omega)
               rw [show k = i - 1 by omega, ← h2]; exact hin
         subst ec
         exact ⟨[_, _], rfl, _, _, rfl, rfl, (one_name hi), (.inr ⟨hq2, fun _ => rfl⟩)⟩
       · rename_i hin
         exact ⟨[_, _], rfl, _, _, rfl, rfl, (hn), (.inl hin)⟩
   · rintro vs δ M1 ⟨zz, o7, rfl, rfl, hn, hq⟩ hδ
     obtain rfl : δ = [_, _, _, _, _, _, _, o7] := hδ
     try simp only [range_len, List.length_map, enum_len] at hn hq
     have hf : zz ∉ zs := by
       rcases hq with hq | hq
       · exact hq
       · intro hin
         have e26 : letters.cps.toList.length = 26 := by decide +kernel
         rw [e26] at hq
         refine ones_not hl fun k hk => ?_
         rcases Nat.lt_or_ge k 25 with h | h
         · exact hq.1 k (by omega)
         · omega
     repeat' kpc_text
     exact ⟨_, _, .refl, k _ _ hn hf hb1⟩
theorem map_erase {α β : Type} (f : α → β) : ∀ (l : List α) (m : Nat), (l.eraseIdx m).map f = (l.map f).eraseIdx m
 | [], _ => by simp
 | a :: l, 0 => rfl
 | a :: l, m + 1 => by
   show f a :: _ = f a :: _
   rw [map_erase f l m]
def WayAt (zs pool : List Str) (way : List Leg) : Prop := pool.Nodup ∧ (∀ z ∈ pool, z ∈ zs) ∧ (∀ l ∈ way, l.1 ∈ zs ∧ WdOk l.2 ∧ l.1 ∉ pool) ∧ (way.map (·.1)).Nodup
theorem way_next {zs pool : List Str} {way : List Leg} {m : Nat} {z : Str} {r : Int} (h : WayAt zs pool way) (hz : pool[m]? = some z) (hr : WdOk r) : WayAt zs (pool.eraseIdx m) (way ++ [(z, r)]) := by
 obtain ⟨h1, h2, h3, h4⟩ := h
 have hm : z ∈ pool := List.mem_of_getElem? hz
 have hlt := (List.getElem?_eq_some_iff.mp hz).1
 have hne : z ∉ pool.eraseIdx m := by
   have e := (List.getElem?_eq_some_iff.mp hz).2
   intro hc
   obtain ⟨j, hj, e2⟩ := List.mem_eraseIdx_iff_getElem.mp hc
   obtain ⟨hjm, hje⟩ := e2
   have := (List.getElem_inj h1).mp (hje.trans e.symm)
   exact hjm this
 have hsub : (pool.eraseIdx m).Sublist pool := List.eraseIdx_sublist _ _
 refine ⟨h1.sublist hsub, fun x hx => h2 x (hsub.subset hx), fun l hl => ?_, ?_⟩
 · rcases List.mem_append.mp hl with q | q
   · obtain ⟨a1, a2, a3⟩ := h3 l q
     exact ⟨a1, a2, fun hc => a3 (hsub.subset hc)⟩
   · rw [List.mem_singleton.mp q]
     exact ⟨h2 z hm, hr, hne⟩
 · rw [List.map_append, List.nodup_append]
   refine ⟨h4, by simp, fun a ha b hb e => ?_⟩
   obtain ⟨l, hl, rfl⟩ := List.mem_map.mp ha
   have hb : b = z := by simpa using hb
   exact (h3 l hl).2.2 (by rw [e, hb]; exact hm)
abbrev s_law_way : Stmt := top 40
def n_law_way : List Str := ["_law_state", "_law_lanes", "_law_pool", "_law_way_here", "_law_k"]
theorem sc_law_way : FnScope n_law_way ["_law_state", "_law_lanes"] (defScope s_law_way) := ⟨rfl, rfl, rfl, by decide +kernel, rfl, by decide +kernel, by decide +kernel⟩
theorem d_law_way {P : Program} {w : World} {K : PySem.W.Frag} {mg : Str → Option Value} {base : Heap} {f : Addr} {fd : FuncData} (F : Fun K "_law_way" "_law_way" s_law_way f fd)
   (G_list : mg "list" = none) (G_range : mg "range" = none) (D_law_take : Def P w K mg base 1 "_law_take" ["_law_state", "_law_many"] pTake) (G_min : mg "min" = none) (G_len : mg "len" = none) (D_law_wait : Def P w K mg base 2 "_law_wait" ["_law_state"] pWaitG) : FnOk P w K mg base CX0 3 f fd ["_law_state", "_law_lanes"] (lift pWayG) := by
 refine fnok_of (N := n_law_way) (k := 2) F sc_law_way (fun ds M Φ h => by obtain ⟨s, g, b, M', zs, rfl, rfl, hnd, h1, h20, hb, k⟩ := h; rfl) fun X B I ds M Φ h => ?_
 obtain ⟨s, g, b, M', zs, rfl, rfl, hnd, h1, h20, hb, k⟩ := h
 obtain ⟨rfl, rfl, rfl, rfl, rfl, hN, hs, hf, z, xe⟩ := I
 have hp := passes_of xe
 have n0 : Lo X 0 "_law_state" := lo_of hN hs hf (by decide +kernel)
 have n1 : Lo X 1 "_law_lanes" := lo_of hN hs hf (by decide +kernel)
 have n2 : Lo X 2 "_law_pool" := lo_of hN hs hf (by decide +kernel)
 have n3 : Lo X 3 "_law_way_here" := lo_of hN hs hf (by decide +kernel)
 have n4 : Lo X 4 "_law_k" := lo_of hN hs hf (by decide +kernel)
 have g_list : Gn X "list" := gn_of hs (by decide +kernel) G_list
 have g_range : Gn X "range" := gn_of hs (by decide +kernel) G_range
 have l_law_take : Gl X "_law_take" := gl_of hs (by decide +kernel)
 have g_min : Gn X "min" := gn_of hs (by decide +kernel) G_min
 have g_len : Gn X "len" := gn_of hs (by decide +kernel) G_len
 have l_law_wait : Gl X "_law_wait" := gl_of hs (by decide +kernel)
 clear F hf
 change DSs _ X (_ :: _) [_, _, _, _, _] _ _
 repeat' ((fail_if_success refine (stSet "_law_pool") ?_); kpc_text)
 first | refine ds_cons (ds_own 1 z n2 ?_) | refine ds_own 1 z n2 ?_
 refine df_list (ds := []) (by assumption) ?_
 repeat' kpc_text
 refine ⟨_, .val _, fun q => ?_⟩
 repeat' ((fail_if_success refine (stSet "_law_way_here") ?_); kpc_text)
 first | refine ds_cons (ds_own 2 z n3 (df_lst (da_nil ⟨by decide, fun q2 => ?_⟩))) | refine ds_own 2 z n3 (df_lst (da_nil ⟨by decide, fun q2 => ?_⟩))
 kpc_text
 repeat' ((fail_if_success refine stFor ?_); kpc_text)
 first | refine ds_cons (ds_forC [4] z (by assumption) (di_range1 (by assumption) ?_)) | refine ds_forC [4] z (by assumption) (di_range1 (by assumption) ?_)
 repeat' kpc_text
 rename_i n hn0 hn1
 refine ⟨by omega, by omega, ?_⟩
 refine ⟨fun i vs M1 => (∃ (b1 : Nat) (pool : List Str) (way : List Leg) (o4 : Option D), [o4] = vs ∧ (s, .st g b1) :: (q, .lst (pool.map .str)) :: (q2, .lst (way.map legD)) :: M' = M1 ∧ (b ≤ b1 + 1 + 4 * i) ∧ (pool.length = zs.length - i) ∧ (way.length = i) ∧ (WayAt zs pool way)), ⟨_, zs, [], _, rfl, rfl, (by omega), (by omega), (rfl), (⟨hnd, fun z h => h, fun l hl => (by cases hl), by simp⟩)⟩, ?_, ?_⟩
 · rintro i x vs δ M1 hx ⟨b1, pool, way, o4, rfl, rfl, hb1, hpl, hwl, hat⟩ hδ
   obtain rfl : δ = [_, _, _, _, o4] := hδ
   obtain ⟨hi, rfl⟩ := range_get hx
   have hi4 : i < 4 ∧ i < zs.length := by omega
   repeat' kpc_text
   rename_i r hr0 hr1
   have hrn : r.toNat < pool.length := by omega
   refine mt_popD (j := 1) (m := r.toNat) (d := .str pool[r.toNat]) rfl (by omega) (by omega) (seqIndex_of hr0 (by rw [List.length_map]; omega)) (by rw [List.getElem?_map, List.getElem?_eq_getElem hrn]; rfl) ?_
   repeat' kpc_text
   rename_i wt b2 hwt hb2
   have hat2 := way_next hat (List.getElem?_eq_getElem hrn) hwt
   have em : (way ++ [(pool[r.toNat], wt)]).map legD = way.map legD ++ [legD (pool[r.toNat], wt)] := by rw [List.map_append]; rfl
   have ep : (pool.eraseIdx r.toNat).map D.str = (pool.map D.str).eraseIdx r.toNat := map_erase _ _ _
   exact ⟨[_], rfl, _, pool.eraseIdx r.toNat, way ++ [(pool[r.toNat], wt)], _, rfl, (by rw [em, ep]; rfl), (by omega), (by rw [List.length_eraseIdx_of_lt hrn]; omega), (by rw [List.length_append, hwl]; rfl), (hat2)⟩
 · rintro vs δ M1 ⟨b1, pool, way, o4, rfl, rfl, hb1, hpl, hwl, hat⟩ hδ
   obtain rfl : δ = [_, _, _, _, o4] := hδ
   try simp only [range_len, List.length_map, enum_len] at hb1 hpl hwl hat
   repeat' kpc_text
   obtain ⟨t1, t2, t3, t4⟩ := hat
   exact ⟨_, _, .trans (.frz 2 rfl) (.sub (.cons₂ _ (List.sublist_cons_self _ _))), k way b1 ⟨by omega, by omega, fun l hl => (t3 l hl).1, fun l hl => (t3 l hl).2.1, t4⟩ (by omega)⟩
abbrev s_law_plan : Stmt := top 41
def n_law_plan : List Str := ["_law_state", "_law_lanes", "_law_k", "_law_streams", "_law_name_here", "_law_lane", "_law_stream"]
theorem sc_law_plan : FnScope n_law_plan ["_law_state"] (defScope s_law_plan) := ⟨rfl, rfl, rfl, by decide +kernel, rfl, by decide +kernel, by decide +kernel⟩
theorem d_law_plan {P : Program} {w : World} {K : PySem.W.Frag} {mg : Str → Option Value} {base : Heap} {f : Addr} {fd : FuncData} (F : Fun K "_law_plan" "_law_plan" s_law_plan f fd)
   (G_range : mg "range" = none) (D_law_take : Def P w K mg base 1 "_law_take" ["_law_state", "_law_many"] pTake) (D_law_name : Def P w K mg base 2 "_law_name" ["_law_state", "_law_met"] pNameG) (D_law_wait : Def P w K mg base 2 "_law_wait" ["_law_state"] pWaitG) (G_min : mg "min" = none) (G_len : mg "len" = none) (D_law_jar : Def P w K mg base 2 "_law_jar" ["_law_state"] pJarD) (D_law_way : Def P w K mg base 3 "_law_way" ["_law_state", "_law_lanes"] pWayG) : FnOk P w K mg base CX0 4 f fd ["_law_state"] (lift pPlanG) := by
 refine fnok_of (N := n_law_plan) (k := 3) F sc_law_plan (fun ds M Φ h => by obtain ⟨s, g, b, M', rfl, rfl, hb, k⟩ := h; rfl) fun X B I ds M Φ h => ?_
 obtain ⟨s, g, b, M', rfl, rfl, hb, k⟩ := h
 obtain ⟨rfl, rfl, rfl, rfl, rfl, hN, hs, hf, z, xe⟩ := I
 have hp := passes_of xe
 have n0 : Lo X 0 "_law_state" := lo_of hN hs hf (by decide +kernel)
 have n1 : Lo X 1 "_law_lanes" := lo_of hN hs hf (by decide +kernel)
 have n2 : Lo X 2 "_law_k" := lo_of hN hs hf (by decide +kernel)
 have n3 : Lo X 3 "_law_streams" := lo_of hN hs hf (by decide +kernel)
 have n4 : Lo X 4 "_law_name_here" := lo_of hN hs hf (by decide +kernel)
 have g_range : Gn X "range" := gn_of hs (by decide +kernel) G_range
 have l_law_take : Gl X "_law_take" := gl_of hs (by decide +kernel)
 have l_law_name : Gl X "_law_name" := gl_of hs (by decide +kernel)
 have l_law_wait : Gl X "_law_wait" := gl_of hs (by decide +kernel)
 have g_min : Gn X "min" := gn_of hs (by decide +kernel) G_min
 have g_len : Gn X "len" := gn_of hs (by decide +kernel) G_len
 have l_law_jar : Gl X "_law_jar" := gl_of hs (by decide +kernel)
 have l_law_way : Gl X "_law_way" := gl_of hs (by decide +kernel)
 clear F hf
 change DSs _ X (_ :: _) [_, _, _, _, _, _, _] _ _
 repeat' ((fail_if_success refine (stSet "_law_lanes") ?_); kpc_text)
 first | refine ds_cons (ds_own 1 z n1 (df_lst (da_nil ⟨by decide, fun q1 => ?_⟩))) | refine ds_own 1 z n1 (df_lst (da_nil ⟨by decide, fun q1 => ?_⟩))
 kpc_text
 repeat' ((fail_if_success refine stFor ?_); kpc_text)
 first | refine ds_cons (ds_forC [2] z (by assumption) (di_range1 (by assumption) ?_)) | refine ds_forC [2] z (by assumption) (di_range1 (by assumption) ?_)
 repeat' kpc_text
 rename_i n hn0 hn1
 refine ⟨by omega, by omega, ?_⟩
 refine ⟨fun i vs M1 => (∃ (b1 : Nat) (ls : List Leg) (o2 : Option D), [o2] = vs ∧ (s, .st g b1) :: (q1, .lst (ls.map legD)) :: M' = M1 ∧ (b ≤ b1 + 1 + 23 * i) ∧ (ls.length = i) ∧ (∀ l ∈ ls, nameB l.1 = true ∧ WdOk l.2) ∧ ((ls.map (·.1)).Nodup)), ⟨_, [], _, rfl, rfl, (by omega), (rfl), ((fun l hl => by cases hl)), (by simp)⟩, ?_, ?_⟩
 · rintro i x vs δ M1 hx ⟨b1, ls, o2, rfl, rfl, hb1, hll, hln, hld⟩ hδ
   obtain rfl : δ = [_, _, o2, _, _, _, _] := hδ
   obtain ⟨hi, rfl⟩ := range_get hx
   repeat' kpc_text
   refine DE.f (df_lcC 0 z hN hs [("_law_lane", 5)] (.one 5) (by decide +kernel) (by decide) (fun X' bk => pg_one bk z (bk.lo hN hs (by decide +kernel))) (di_cell ?_))
   repeat' kpc_text
   refine ⟨_, _, rfl, ⟨1, rfl⟩, ?_⟩
   refine LcHC.mapT (ls) (legD) (fun l => l.1) (.str) (Nat.le_trans (show List.length _ ≤ 1000000 by first | omega | (simp; done) | (simp; omega)) (by decide)) (fun q acc a ha => ?_) (by kbt_pows) ?_
   · refine ⟨_, rfl, fun X' bk => ?_⟩
     have c5 : Lo X' 5 "_law_lane" := bk.lo hN hs (by decide +kernel)
     have z' := bk.z z
     repeat' kpc_text
     exact ⟨rfl, rfl⟩
   repeat' kpc_text
   refine ⟨s, g, b1, _, ls.map (·.1), rfl, rfl, fun z hz => (by obtain ⟨l, hl, rfl⟩ := List.mem_map.mp hz; exact (hln l hl).1), by rw [List.length_map]; omega, by omega, fun z b2 hz hnz hb2 => ?_⟩
   repeat' kpc_text
   rename_i wt b3 hwt hb3
   have em : (ls ++ [(z, wt)]).map legD = ls.map legD ++ [legD (z, wt)] := by rw [List.map_append]; rfl
   have h1 : ∀ l ∈ ls ++ [(z, wt)], nameB l.1 = true ∧ WdOk l.2 := fun l hl => by
     rcases List.mem_append.mp hl with q | q
     · exact hln l q
     · rw [List.mem_singleton.mp q]; exact ⟨hz, hwt⟩
   have h2 : ((ls ++ [(z, wt)]).map (·.1)).Nodup := by
     rw [List.map_append, List.nodup_append]
     refine ⟨hld, by simp, fun a ha c hc e => ?_⟩
     have hc : c = z := by simpa using hc
     rw [e, hc] at ha
     exact hnz ha
   exact ⟨[_], rfl, _, ls ++ [(z, wt)], _, rfl, (by rw [em]; rfl), (by omega), (by rw [List.length_append, hll]; rfl), (h1), (h2)⟩
 · rintro vs δ M1 ⟨b1, ls, o2, rfl, rfl, hb1, hll, hln, hld⟩ hδ
   obtain rfl : δ = [_, _, o2, _, _, _, _] := hδ
   try simp only [range_len, List.length_map, enum_len] at hb1 hll hln hld
   have hl6 : ls.length ≤ 6 := by omega
   have hlm : ∀ z ∈ ls.map (·.1), nameB z = true := fun z hz => by obtain ⟨l, hl, rfl⟩ := List.mem_map.mp hz; exact (hln l hl).1
   repeat' ((fail_if_success refine (stSet "_law_streams") ?_); kpc_text)
   first | refine ds_cons (ds_own 2 z n3 (df_lst (da_nil ⟨by decide, fun q2 => ?_⟩))) | refine ds_own 2 z n3 (df_lst (da_nil ⟨by decide, fun q2 => ?_⟩))
   kpc_text
   repeat' ((fail_if_success refine stFor ?_); kpc_text)
   first | refine ds_cons (ds_forC [2, 4] z (by assumption) (di_range1 (by assumption) ?_)) | refine ds_forC [2, 4] z (by assumption) (di_range1 (by assumption) ?_)
   repeat' kpc_text
   rename_i t ht0 ht1
   refine od_ixM [4, 9] ht0 ht1 fun m hm => ?_
   have hm : m = 4 ∨ m = 9 := by simpa using hm
   repeat' kpc_text
   rename_i nn hn20 hn21
   have hmn : min 1 (ls.length : Int) = 0 ∨ (min 1 (ls.length : Int) = 1 ∧ 1 ≤ ls.length) := by omega
   generalize hgm : min 1 (ls.length : Int) = mn at *
   have hcnt : 0 ≤ nn * mn ∧ nn * mn ≤ 8 ∧ (0 < nn * mn → 1 ≤ ls.length) := by
     rcases hmn with e | ⟨e, h⟩
     · rw [e, Int.mul_zero]; omega
     · rw [e, Int.mul_one]; omega
   generalize hgc : nn * mn = cnt at *
   refine ⟨by omega, by omega, ?_⟩
   refine ⟨fun i vs M1 => (∃ (b2 : Nat) (ss : List Sm) (o2 o4 : Option D), [o2, o4] = vs ∧ (s, .st g b2) :: (q1, .lst (ls.map legD)) :: (q2, .lst (ss.map smD)) :: M' = M1 ∧ (b ≤ b2 + 1 + 23 * 6 + 2 + 70 * i) ∧ (ss.length = i) ∧ (∀ x ∈ ss, nameB x.nm = true) ∧ ((ss.map (·.nm)).Nodup) ∧ (∀ x ∈ ss, JOk x.j) ∧ (∀ x ∈ ss, WayOk (ls.map (·.1)) x.way)), ⟨_, [], _, _, rfl, rfl, (by omega), (rfl), ((fun x hx => by cases hx)), (by simp), ((fun x hx => by cases hx)), ((fun x hx => by cases hx))⟩, ?_, ?_⟩
   · rintro i x vs δ M1 hx ⟨b2, ss, o2, o4, rfl, rfl, hb2, hsl, hsn, hsd, hsj, hsw⟩ hδ
     obtain rfl : δ = [_, _, o2, _, o4, _, _] := hδ
     obtain ⟨hi, rfl⟩ := range_get hx
     have hi8 : i < 8 := by omega
     repeat' kpc_text
     refine DE.f (df_lcC 0 z hN hs [("_law_stream", 6)] (.one 6) (by decide +kernel) (by decide) (fun X' bk => pg_one bk z (bk.lo hN hs (by decide +kernel))) (di_cell ?_))
     repeat' kpc_text
     refine ⟨_, _, rfl, ⟨2, rfl⟩, ?_⟩
     refine LcHC.mapT (ss) (smD) (fun x => x.nm) (.str) (Nat.le_trans (show List.length _ ≤ 1000000 by first | omega | (simp; done) | (simp; omega)) (by decide)) (fun q acc a ha => ?_) (by kbt_pows) ?_
     · refine ⟨_, rfl, fun X' bk => ?_⟩
       have c6 : Lo X' 6 "_law_stream" := bk.lo hN hs (by decide +kernel)
       have z' := bk.z z
       repeat' kpc_text
       exact ⟨rfl, rfl⟩
     repeat' kpc_text
     refine ⟨s, g, b2, _, ss.map (·.nm), rfl, rfl, fun z hz => (by obtain ⟨x, hx, rfl⟩ := List.mem_map.mp hz; exact hsn x hx), by rw [List.length_map]; omega, by omega, fun zn b3 hz hnz hb3 => ?_⟩
     repeat' kpc_text
     refine c_jarD (by omega) fun j b4 hj hb4 => ?_
     repeat' kpc_text
     refine DE.f (df_lcC 0 z hN hs [("_law_lane", 5)] (.one 5) (by decide +kernel) (by decide) (fun X' bk => pg_one bk z (bk.lo hN hs (by decide +kernel))) (di_cell ?_))
     repeat' kpc_text
     refine ⟨_, _, rfl, ⟨1, rfl⟩, ?_⟩
     refine LcHC.mapT (ls) (legD) (fun l => l.1) (.str) (Nat.le_trans (show List.length _ ≤ 1000000 by first | omega | (simp; done) | (simp; omega)) (by decide)) (fun q acc a ha => ?_) (by kbt_pows) ?_
     · refine ⟨_, rfl, fun X' bk => ?_⟩
       have c5 : Lo X' 5 "_law_lane" := bk.lo hN hs (by decide +kernel)
       have z' := bk.z z
       repeat' kpc_text
       exact ⟨rfl, rfl⟩
     repeat' kpc_text
     refine ⟨s, g, b4, _, ls.map (·.1), rfl, rfl, hld, by rw [List.length_map]; exact hcnt.2.2 (by omega), by rw [List.length_map]; omega, by omega, fun way b5 hway hb5 => ?_⟩
     repeat' kpc_text
     have em : (ss ++ [(⟨zn, j, way⟩ : Sm)]).map smD = ss.map smD ++ [smD ⟨zn, j, way⟩] := by rw [List.map_append]; rfl
     have h1 : ∀ x ∈ ss ++ [(⟨zn, j, way⟩ : Sm)], nameB x.nm = true ∧ JOk x.j ∧ WayOk (ls.map (·.1)) x.way := fun x hx => by
       rcases List.mem_append.mp hx with q | q
       · exact ⟨hsn x q, hsj x q, hsw x q⟩
       · rw [List.mem_singleton.mp q]; exact ⟨hz, hj, hway⟩
     have h2 : ((ss ++ [(⟨zn, j, way⟩ : Sm)]).map (·.nm)).Nodup := by
       rw [List.map_append, List.nodup_append]
       refine ⟨hsd, by simp, fun a ha c hc e => ?_⟩
       have hc : c = zn := by simpa using hc
       rw [e, hc] at ha
       exact hnz ha
     exact ⟨[_, _], rfl, _, ss ++ [⟨zn, j, way⟩], _, _, rfl, (by rw [em]; rfl), (by omega), (by rw [List.length_append, hsl]; rfl), (fun x hx => (h1 x hx).1), (h2), (fun x hx => (h1 x hx).2.1), (fun x hx => (h1 x hx).2.2)⟩
   · rintro vs δ M1 ⟨b2, ss, o2, o4, rfl, rfl, hb2, hsl, hsn, hsd, hsj, hsw⟩ hδ
     obtain rfl : δ = [_, _, o2, _, o4, _, _] := hδ
     try simp only [range_len, List.length_map, enum_len] at hb2 hsl hsn hsd hsj hsw
     have hsl8 : ss.length ≤ 8 := by omega
     repeat' kpc_text
     refine ⟨_, _, .trans (.frzT 0 1 rfl rfl) (.frzT 1 1 rfl rfl), k ls ss b2 ⟨hl6, hsl8, fun l hl => (hln l hl).1, fun l hl => (hln l hl).2, hld, hsn, hsd, hsj, hsw⟩ (by omega)⟩
abbrev hdD (cJ : Addr) (x : Sm) : D := .tup [.str x.nm, jD cJ x.j, .lst (x.way.map legD)]
abbrev plD (cJ : Addr) (x : Sm) : D := .tup [.str x.nm, jD cJ x.j, .tup (x.way.map legD)]
abbrev pNs : List Str := ["lanes", "streams"]
abbrev paD (cP cJ : Addr) (ls : List Leg) (ss : List Sm) : D := .obj cP pNs [.lst (ls.map legD), .lst (ss.map (plD cJ))]
inductive PB
 | name (z : Str)
 | taken (z : Str)
 | width
 | way (k : Nat)
def badLn (met : List Str) (l : Leg) : Option PB := if nameB l.1 = false then some (.name l.1) else if l.1 ∈ met then some (.taken l.1) else if WdOk l.2 then none else some .width
def lnGo : List Str → List Leg → Option PB
 | _, [] => none
 | met, l :: r => match badLn met l with
   | some e => some e
   | none => lnGo (met ++ [l.1]) r
def badSm (ls known : List Str) (x : Sm) : Option PB := if nameB x.nm = false then some (.name x.nm) else if x.nm ∈ known then some (.taken x.nm) else (wrongF x.way ls).map .way
def smGo (ls : List Str) : List Str → List Sm → Option PB
 | _, [] => none
 | known, x :: r => match badSm ls known x with
   | some e => some e
   | none => smGo ls (known ++ [x.nm]) r
def planF (ls : List Leg) (ss : List Sm) : Option PB := match lnGo [] ls with
 | some e => some e
 | none => smGo (ls.map (·.1)) [] ss
structure PX where
 n : Addr
 t : Addr
 l : Addr
 w : Addr
def xP (c : PX) (Ξ : XPost) (M : Mem) : PB → Prop
 | .name z => Ξ c.n ["name"] [.str z] M
 | .taken z => Ξ c.t ["name"] [.str z] M
 | .width => Ξ c.l [] [] M
 | .way k => Ξ c.w ["place"] [.int k] M
def pLook (c : PX) : DSpE := fun ds M Φ Ξ => ∃ x y, ∃ met : List Str, ds = [.str x, y] ∧ IsL M y (met.map .str) ∧ x.length ≤ 200000 ∧ (nameB x = false → xP c Ξ M (.name x)) ∧ (nameB x = true → x ∈ met → xP c Ξ M (.taken x)) ∧ (nameB x = true → x ∉ met → Φ .non M)
def SmIn (ss : List Sm) : Prop := ss.length ≤ 200000 ∧ ∀ x ∈ ss, x.nm.length ≤ 200000 ∧ x.way.length ≤ 200000
def LnIn (ls : List Leg) : Prop := ls.length ≤ 200000 ∧ ∀ l ∈ ls, l.1.length ≤ 200000
def pPlanI (cP cJ : Addr) (c : PX) : DSpE := fun ds M Φ Ξ => ∃ a ls ss M', ds = [.raw (.ref a), .lst (ls.map legD), .lst (ss.map (hdD cJ))] ∧ M = (a, .obj cP [] []) :: M' ∧ LnIn ls ∧ SmIn ss ∧
 (planF ls ss = none → ∀ q1 q2, Φ .non ((a, .obj cP pNs [.raw (.ref q1), .raw (.ref q2)]) :: (q1, .lst (ls.map legD)) :: (q2, .lst (ss.map (plD cJ))) :: M')) ∧ (∀ e, planF ls ss = some e → xP c Ξ M' e)
theorem plan_made {cP cJ a q1 q2 : Addr} {ls : List Leg} {ss : List Sm} {M : Mem} {Φ : D → Mem → Prop} (k : Φ (paD cP cJ ls ss) M) : Made a Φ .non ((a, .obj cP pNs [.raw (.ref q1), .raw (.ref q2)]) :: (q1, .lst (ls.map legD)) :: (q2, .lst (ss.map (plD cJ))) :: M) :=
 ⟨rfl, _, _, .trans (.frzO 0 rfl) (.trans (.upO 0 rfl (.cons .here (.cons (.same _) .nil))) (.upO 0 rfl (.cons (.same _) (.cons .here .nil)))), k⟩
theorem ln_at_go {ls : List Leg} {i : Nat} {l : Leg} (h : ls[i]? = some l) (met : List Str) : lnGo met (ls.drop i) = match badLn met l with | some e => some e | none => lnGo (met ++ [l.1]) (ls.drop (i + 1)) := by
 have hi : i < ls.length := (List.getElem?_eq_some_iff.mp h).1
 rw [List.drop_eq_getElem_cons hi, (List.getElem?_eq_some_iff.mp h).2]; rfl
theorem sm_at_go {ss : List Sm} {i : Nat} {x : Sm} (h : ss[i]? = some x) (ls known : List Str) : smGo ls known (ss.drop i) = match badSm ls known x with | some e => some e | none => smGo ls (known ++ [x.nm]) (ss.drop (i + 1)) := by
 have hi : i < ss.length := (List.getElem?_eq_some_iff.mp h).1
 rw [List.drop_eq_getElem_cons hi, (List.getElem?_eq_some_iff.mp h).2]; rfl
theorem take_snoc {α β : Type} (f : α → β) {l : List α} {i : Nat} {x : α} (h : l[i]? = some x) : (l.take (i + 1)).map f = (l.take i).map f ++ [f x] := by
 rw [List.take_add_one, h, List.map_append]; rfl
abbrev s_look_at_name : Stmt := top 19
def n_look_at_name : List Str := ["name", "met"]
theorem sc_look_at_name : FnScope n_look_at_name ["name", "met"] (defScope s_look_at_name) := ⟨rfl, rfl, rfl, by decide +kernel, rfl, by decide +kernel, by decide +kernel⟩
theorem d_look_at_name {P : Program} {w : World} {K : PySem.W.Frag} {mg : Str → Option Value} {base : Heap} {c_NoName c_Taken c_NoLane c_NoWay : Addr} {f : Addr} {fd : FuncData} (F : FunG K "look_at_name" "look_at_name" s_look_at_name f fd)
   (D_is_name : Def P w K mg base 1 "is_name" ["text"] pIsName) (X_NoName : ExI P w K mg base "NoName" c_NoName ["name"]) (X_Taken : ExI P w K mg base "Taken" c_Taken ["name"]) : FnOk P w K mg base (L2.CX P w) 3 f fd ["name", "met"] (liftE (pLook ⟨c_NoName, c_Taken, c_NoLane, c_NoWay⟩)) := by
 refine fnokG_of (N := n_look_at_name) (k := 2) F sc_look_at_name (fun ds M Φ Ξ h => by obtain ⟨x, y, met, rfl, hy, hl, k1, k2, k3⟩ := h; rfl) fun X kp ds M Φ Ξ h I => ?_
 obtain ⟨x, y, met, rfl, hy, hl, k1, k2, k3⟩ := h
 obtain ⟨rfl, rfl, rfl, rfl, rfl, hN, hs, hf, z, hp, tk, hst, hfr⟩ := I
 have nd := z.nd
 have n0 : Lo X 0 "name" := lo_of hN hs hf (by decide +kernel)
 have n1 : Lo X 1 "met" := lo_of hN hs hf (by decide +kernel)
 have l_is_name : Gl X "is_name" := gl_of hs (by decide +kernel)
 have l_NoName : Gl X "NoName" := gl_of hs (by decide +kernel)
 have l_Taken : Gl X "Taken" := gl_of hs (by decide +kernel)
 clear F hf
 change DSs _ X (_ :: _) [_, _] _ _
 repeat' kpc_text
 refine c_isName hl ?_
 repeat' kpc_text
 · rename_i h1
   refine od_inZ hy ?_
   repeat' kpc_text
   · rename_i h2
     exact ⟨_, _, .refl, k2 h1 h2⟩
   · rename_i h2
     exact ⟨_, _, .refl, k3 h1 h2⟩
 · rename_i h1
   exact ⟨_, _, .refl, k1 h1⟩
abbrev s_Plan__init : Stmt := inClass (top 20) 0
def n_Plan__init : List Str := ["self", "lanes", "streams", "met", "name", "width", "known", "jar", "way", "place", "leg"]
theorem sc_Plan__init : FnScope n_Plan__init ["self", "lanes", "streams"] (defScope s_Plan__init) := ⟨rfl, rfl, rfl, by decide +kernel, rfl, by decide +kernel, by decide +kernel⟩
theorem d_Plan__init {P : Program} {w : World} {K : PySem.W.Frag} {mg : Str → Option Value} {base : Heap} {c_Plan c_NoLane c_NoWay c_Jar c_NoName c_Taken : Addr} {f : Addr} {fd : FuncData} (F : FunG K "__init__" "Plan.__init__" s_Plan__init f fd)
   (A_Plan_lanes : FldP K c_Plan "lanes") (A_Plan_streams : FldP K c_Plan "streams") (E_look_at_name_2 : DefE P w K mg base 3 "look_at_name" 2 [] (selN 2) (pLook ⟨c_NoName, c_Taken, c_NoLane, c_NoWay⟩)) (D_is_size : Def P w K mg base 1 "is_size" ["number"] pIsSize) (X_NoLane : Ex0 K mg "NoLane" c_NoLane) (D_wrong_at : Def P w K mg base 2 "wrong_at" ["way", "lanes"] pWrongAt) (X_NoWay : ExI P w K mg base "NoWay" c_NoWay ["place"]) (G_tuple : mg "tuple" = none) : FnOk P w K mg base (L2.CX P w) 4 f fd ["self", "lanes", "streams"] (liftE (pPlanI c_Plan c_Jar ⟨c_NoName, c_Taken, c_NoLane, c_NoWay⟩)) := by
 refine fnokG_of (N := n_Plan__init) (k := 3) F sc_Plan__init (fun ds M Φ Ξ h => by obtain ⟨a, ls, ss, M', rfl, rfl, ⟨hll, hln⟩, ⟨hsl, hsn⟩, k, kx⟩ := h; rfl) fun X kp ds M Φ Ξ h I => ?_
 obtain ⟨a, ls, ss, M', rfl, rfl, ⟨hll, hln⟩, ⟨hsl, hsn⟩, k, kx⟩ := h
 obtain ⟨rfl, rfl, rfl, rfl, rfl, hN, hs, hf, z, hp, tk, hst, hfr⟩ := I
 have nd := z.nd
 have n0 : Lo X 0 "self" := lo_of hN hs hf (by decide +kernel)
 have n1 : Lo X 1 "lanes" := lo_of hN hs hf (by decide +kernel)
 have n2 : Lo X 2 "streams" := lo_of hN hs hf (by decide +kernel)
 have n3 : Lo X 3 "met" := lo_of hN hs hf (by decide +kernel)
 have n4 : Lo X 4 "name" := lo_of hN hs hf (by decide +kernel)
 have n5 : Lo X 5 "width" := lo_of hN hs hf (by decide +kernel)
 have n6 : Lo X 6 "known" := lo_of hN hs hf (by decide +kernel)
 have n7 : Lo X 7 "jar" := lo_of hN hs hf (by decide +kernel)
 have n8 : Lo X 8 "way" := lo_of hN hs hf (by decide +kernel)
 have n9 : Lo X 9 "place" := lo_of hN hs hf (by decide +kernel)
 have l_look_at_name : Gl X "look_at_name" := gl_of hs (by decide +kernel)
 have l_is_size : Gl X "is_size" := gl_of hs (by decide +kernel)
 have l_NoLane : Gl X "NoLane" := gl_of hs (by decide +kernel)
 have l_wrong_at : Gl X "wrong_at" := gl_of hs (by decide +kernel)
 have l_NoWay : Gl X "NoWay" := gl_of hs (by decide +kernel)
 have g_tuple : Gn X "tuple" := gn_of hs (by decide +kernel) G_tuple
 clear F hf
 change DSs _ X (_ :: _) [_, _, _, _, _, _, _, _, _, _, _] _ _
 repeat' ((fail_if_success refine (stAttr "lanes") ?_); kpc_text)
 refine ds_cons (ds_fldU (DE.own 1 (df_lst ?_)))
 repeat' kpc_text
 intro q1
 repeat' ((fail_if_success refine (stAttr "streams") ?_); kpc_text)
 refine ds_cons (ds_fldU (DE.own 2 (df_lst ?_)))
 repeat' kpc_text
 intro q2
 repeat' ((fail_if_success refine (stSet "met") ?_); kpc_text)
 first | refine ds_cons (ds_own 3 z n3 (df_lst (da_nil ⟨by decide, fun q3 => ?_⟩))) | refine ds_own 3 z n3 (df_lst (da_nil ⟨by decide, fun q3 => ?_⟩))
 kpc_text
 repeat' ((fail_if_success refine stFor ?_); kpc_text)
 first | refine ds_cons (ds_forC [4, 5] z (by assumption) (di_list ?_)) | refine ds_forC [4, 5] z (by assumption) (di_list ?_)
 repeat' kpc_text
 refine ⟨fun i vs M1 => (∃  (o4 o5 : Option D), [o4, o5] = vs ∧ (a, .obj c_Plan pNs [.raw (.ref q1), .raw (.ref q2)]) :: (q1, .lst ((ls.take i).map legD)) :: (q2, .lst []) :: (q3, .lst (((ls.take i).map (·.1)).map .str)) :: M' = M1 ∧ (lnGo [] ls = lnGo ((ls.take i).map (·.1)) (ls.drop i))), ⟨_, _, rfl, rfl, (rfl)⟩, ?_, ?_⟩
 · rintro i x vs δ M1 hx ⟨o4, o5, rfl, rfl, hg⟩ hδ
   obtain rfl : δ = [_, _, _, _, o4, o5, _, _, _, _, _] := hδ
   obtain ⟨l, hlx, rfl⟩ := map_get hx
   have hi := (List.getElem?_eq_some_iff.mp hlx).1
   have hlm := hln l (List.mem_of_getElem? hlx)
   rw [ln_at_go hlx] at hg
   have bad : ∀ e, badLn ((ls.take i).map (·.1)) l = some e → planF ls ss = some e := fun e he => by unfold planF; rw [hg, he]
   repeat' kpc_text
   refine ⟨l.1, _, (ls.take i).map (·.1), rfl, .cell 3 rfl, hlm, fun h1 => ?_, fun h1 h2 => ?_, fun h1 h2 => ?_⟩
   · exact ⟨_, _, .sub (.cons _ (.cons _ (.cons _ (.cons _ (.refl _))))), kx (.name l.1) (bad _ (by unfold badLn; rw [if_pos h1]))⟩
   · exact ⟨_, _, .sub (.cons _ (.cons _ (.cons _ (.cons _ (.refl _))))), kx (.taken l.1) (bad _ (by unfold badLn; rw [if_neg (by rw [h1]; decide), if_pos h2]))⟩
   · have htl : (ls.take i).length ≤ 200000 := by rw [List.length_take]; omega
     repeat' kpc_text
     refine ⟨_, rfl, ?_⟩
     repeat' kpc_text
     · rename_i h3
       exact ⟨_, _, .sub (.cons _ (.cons _ (.cons _ (.cons _ (.refl _))))), kx .width (bad _ (by unfold badLn; rw [if_neg (by rw [h1]; decide), if_neg h2, if_neg h3]))⟩
     · rename_i h3
       have hok : badLn ((ls.take i).map (·.1)) l = none := by unfold badLn; rw [if_neg (by rw [h1]; decide), if_neg h2, if_pos h3]
       rw [hok] at hg
       have em := take_snoc legD hlx
       have em2 := take_snoc (·.1) hlx
       have em3 : ((ls.take (i + 1)).map (·.1)).map D.str = ((ls.take i).map (·.1)).map D.str ++ [D.str l.1] := by rw [em2, List.map_append]; rfl
       exact ⟨[_, _], rfl, _, _, rfl, (by rw [em, em3]; rfl), (by rw [em2]; exact hg)⟩
 · rintro vs δ M1 ⟨o4, o5, rfl, rfl, hg⟩ hδ
   obtain rfl : δ = [_, _, _, _, o4, o5, _, _, _, _, _] := hδ
   try simp only [range_len, List.length_map, enum_len] at hg
   rw [List.length_map, List.take_length]
   rw [List.take_length, List.drop_length] at hg
   have hg0 : lnGo [] ls = none := hg
   have hpl : planF ls ss = smGo (ls.map (·.1)) [] ss := by unfold planF; rw [hg0]
   repeat' ((fail_if_success refine (stSet "known") ?_); kpc_text)
   first | refine ds_cons (ds_own 3 z n6 (df_lst (da_nil ⟨by decide, fun q4 => ?_⟩))) | refine ds_own 3 z n6 (df_lst (da_nil ⟨by decide, fun q4 => ?_⟩))
   kpc_text
   repeat' ((fail_if_success refine stFor ?_); kpc_text)
   first | refine ds_cons (ds_forC [4, 7, 8, 9] z (by assumption) (di_list ?_)) | refine ds_forC [4, 7, 8, 9] z (by assumption) (di_list ?_)
   repeat' kpc_text
   refine ⟨fun i vs M1 => (∃  (o4 o7 o8 o9 : Option D), [o4, o7, o8, o9] = vs ∧ (a, .obj c_Plan pNs [.raw (.ref q1), .raw (.ref q2)]) :: (q1, .lst (ls.map legD)) :: (q2, .lst ((ss.take i).map (plD c_Jar))) :: (q4, .lst (((ss.take i).map (·.nm)).map .str)) :: (q3, .lst ((ls.map (·.1)).map .str)) :: M' = M1 ∧ (smGo (ls.map (·.1)) [] ss = smGo (ls.map (·.1)) ((ss.take i).map (·.nm)) (ss.drop i))), ⟨_, _, _, _, rfl, rfl, (rfl)⟩, ?_, ?_⟩
   · rintro i x vs δ M1 hx ⟨o4, o7, o8, o9, rfl, rfl, hg2⟩ hδ
     obtain rfl : δ = [_, _, _, _, o4, _, _, o7, o8, o9, _] := hδ
     obtain ⟨x, hxx, rfl⟩ := map_get hx
     have hi := (List.getElem?_eq_some_iff.mp hxx).1
     obtain ⟨hxm, hxw⟩ := hsn x (List.mem_of_getElem? hxx)
     have htl : (ss.take i).length ≤ 200000 := by rw [List.length_take]; omega
     rw [sm_at_go hxx] at hg2
     have bad : ∀ e, badSm (ls.map (·.1)) ((ss.take i).map (·.nm)) x = some e → planF ls ss = some e := fun e he => by rw [hpl, hg2, he]
     repeat' kpc_text
     refine ⟨x.nm, _, (ss.take i).map (·.nm), rfl, .cell 3 rfl, hxm, fun h1 => ?_, fun h1 h2 => ?_, fun h1 h2 => ?_⟩
     · exact ⟨_, _, .sub (.cons _ (.cons _ (.cons _ (.cons _ (.cons _ (.refl _)))))), kx (.name x.nm) (bad _ (by unfold badSm; rw [if_pos h1]))⟩
     · exact ⟨_, _, .sub (.cons _ (.cons _ (.cons _ (.cons _ (.cons _ (.refl _)))))), kx (.taken x.nm) (bad _ (by unfold badSm; rw [if_neg (by rw [h1]; decide), if_pos h2]))⟩
     · repeat' kpc_text
       refine ⟨_, _, x.way, ls.map (·.1), rfl, .lst _, .cell 4 rfl, hxw, ?_⟩
       cases hwf : wrongF x.way (ls.map (·.1)) with
       | some p =>
         unfold optD
         repeat' kpc_text
         exact ⟨_, _, .sub (.cons _ (.cons _ (.cons _ (.cons _ (.cons _ (.refl _)))))), kx (.way p) (bad _ (by unfold badSm; rw [if_neg (by rw [h1]; decide), if_neg h2, hwf]; rfl))⟩
       | none =>
         have hok : badSm (ls.map (·.1)) ((ss.take i).map (·.nm)) x = none := by unfold badSm; rw [if_neg (by rw [h1]; decide), if_neg h2, hwf]; rfl
         rw [hok] at hg2
         unfold optD
         repeat' kpc_text
         refine DE.f (df_lc 0 z hN hs [("leg", 10)] (.one 10) (by decide +kernel) (by decide) (fun X' bk => pg_one bk z (bk.lo hN hs (by decide +kernel))) (di_list ?_))
         repeat' kpc_text
         refine LcH.mapT (x.way) (legD) (fun l => l) (legD) (Nat.le_trans (show List.length _ ≤ 1000000 by first | omega | (simp; done) | (simp; omega)) (by decide)) (fun q acc a ha => ?_) ?_
         · refine ⟨_, rfl, fun X' bk => ?_⟩
           have c10 : Lo X' 10 "leg" := bk.lo hN hs (by decide +kernel)
           have z' := bk.z z
           repeat' kpc_text
           exact ⟨rfl, rfl⟩
         repeat' kpc_text
         refine ⟨_, .val _, ?_⟩
         rw [List.map_id']
         repeat' kpc_text
         have em := take_snoc (plD c_Jar) hxx
         have em2 := take_snoc (·.nm) hxx
         have em3 : ((ss.take (i + 1)).map (·.nm)).map D.str = ((ss.take i).map (·.nm)).map D.str ++ [D.str x.nm] := by rw [em2, List.map_append]; rfl
         exact ⟨[_, _, _, _], rfl, _, _, _, _, rfl, (by rw [em, em3]; rfl), (by rw [em2]; exact hg2)⟩
   · rintro vs δ M1 ⟨o4, o7, o8, o9, rfl, rfl, hg2⟩ hδ
     obtain rfl : δ = [_, _, _, _, o4, _, _, o7, o8, o9, _] := hδ
     try simp only [range_len, List.length_map, enum_len] at hg2
     rw [List.length_map, List.take_length]
     rw [List.take_length, List.drop_length] at hg2
     have hg3 : planF ls ss = none := by rw [hpl, hg2]; rfl
     repeat' kpc_text
     exact ⟨_, _, .sub (.cons₂ _ (.cons₂ _ (.cons₂ _ (.cons _ (.cons _ (.refl _)))))), k hg3 q1 q2⟩
def lnRow (l : Leg) : Str := Str.empty ++ Str.ofString "lane " ++ l.1 ++ Str.ofString " " ++ tI l.2
def lgTxt (l : Leg) : Str := Str.empty ++ Str.ofString " " ++ l.1 ++ Str.ofString " " ++ tI l.2
def smHd (x : Sm) : Str := Str.empty ++ Str.ofString "stream " ++ x.nm ++ Str.ofString " " ++ strJ x.j
def smRow (x : Sm) : Str := smHd x ++ Txt.join (Str.ofString "") (x.way.map lgTxt)
def textF (ls : List Leg) (ss : List Sm) : Str := Txt.join (Str.ofString "") ((ls.map lnRow ++ ss.map smRow).map (· ++ Str.ofString "\n"))
structure LgT (l : Leg) : Prop where
 nm : l.1.length ≤ 8
 wd : WdOk l.2
structure SmT (x : Sm) : Prop where
 nm : x.nm.length ≤ 8
 jo : JOk x.j
 l4 : x.way.length ≤ 4
 lg : ∀ l ∈ x.way, LgT l
theorem LgT.tx {l : Leg} (h : LgT l) : l.2.natAbs.log2 < 1920 ∧ (Str.ofString (toString l.2)).length ≤ 10 := by
 have h1 := h.wd.1
 have h2 := h.wd.2
 exact ⟨tI_log (by omega) (by omega), tI_len (by omega) (by omega)⟩
theorem sum_le {α : Type} {f : α → Nat} {n : Nat} : ∀ {l : List α}, (∀ a ∈ l, f a ≤ n) → (l.map f).sum ≤ l.length * n
 | [], _ => Nat.zero_le _
 | a :: l, h => by
   have h1 := h a (.head _)
   have h2 := sum_le (l := l) fun b hb => h b (.tail _ hb)
   simp only [List.map_cons, List.sum_cons, List.length_cons]
   rw [Nat.succ_mul]; omega
theorem lgTxt_len {l : Leg} (h : LgT l) : (lgTxt l).length ≤ 20 := by
 have l4 : (Str.ofString " ").length = 1 := by decide +kernel
 have l5 : Str.empty.length = 0 := by decide +kernel
 have h1 := h.nm
 have h2 : (tI l.2).length ≤ 10 := h.tx.2
 unfold lgTxt
 simp only [PySem.Str.length_append]
 omega
theorem lnRow_len {l : Leg} (h : LgT l) : (lnRow l).length ≤ 24 := by
 have l4 : (Str.ofString " ").length = 1 := by decide +kernel
 have l6 : (Str.ofString "lane ").length = 5 := by decide +kernel
 have l5 : Str.empty.length = 0 := by decide +kernel
 have h1 := h.nm
 have h2 : (tI l.2).length ≤ 10 := h.tx.2
 unfold lnRow
 simp only [PySem.Str.length_append]
 omega
theorem strJ_len {j : J} (h : JOk j) : (strJ j).length ≤ 32 := by
 obtain ⟨_, _, _, l1, l2, l3⟩ := h.tx
 have l4 : (Str.ofString " ").length = 1 := by decide +kernel
 have l5 : Str.empty.length = 0 := by decide +kernel
 have e1 : (tI j.size).length ≤ 10 := l1
 have e2 : (tI j.rate).length ≤ 10 := l2
 have e3 : (tI j.mouth).length ≤ 10 := l3
 unfold strJ
 simp only [PySem.Str.length_append]
 omega
theorem smHd_len {x : Sm} (h : SmT x) : (smHd x).length ≤ 48 := by
 have l4 : (Str.ofString " ").length = 1 := by decide +kernel
 have l6 : (Str.ofString "stream ").length = 7 := by decide +kernel
 have l5 : Str.empty.length = 0 := by decide +kernel
 have h1 := h.nm
 have h2 := strJ_len h.jo
 unfold smHd
 simp only [PySem.Str.length_append]
 omega
theorem joinE_len : ∀ ys : List Str, (Txt.join (Str.ofString "") ys).length = (ys.map (·.length)).sum := fun ys => by
 have e : signs (Txt.join (Str.ofString "") ys) = (ys.map signs).flatten := by
   have := join_signs (Str.ofString "") ys
   rw [show (Str.ofString "").cps.toList = [] from rfl, joinL_nil] at this
   exact this
 rw [← signs_len, e, List.length_flatten, List.map_map]; rfl
theorem legs_len {x : Sm} (h : SmT x) : ((x.way.map lgTxt).map (·.length)).sum ≤ 80 := by
 have h1 : ((x.way.map lgTxt).map (·.length)).sum ≤ (x.way.map lgTxt).length * 20 := sum_le fun y hy => by
   obtain ⟨l, hl, rfl⟩ := List.mem_map.mp hy
   exact lgTxt_len (h.lg l hl)
 have h2 := h.l4
 rw [List.length_map] at h1
 omega
theorem smRow_len {x : Sm} (h : SmT x) : (smRow x).length ≤ 128 := by
 have h1 := smHd_len h
 have h2 := legs_len h
 unfold smRow
 rw [PySem.Str.length_append, joinE_len]
 omega
def pStreamRow (cJ : Addr) : DSpE := fun ds M Φ _ => ∃ x : Sm, ds = [.str x.nm, jD cJ x.j, .tup (x.way.map legD)] ∧ SmT x ∧ Φ (.str (smRow x)) M
def pWritten (cP cJ : Addr) : DSpE := fun ds M Φ _ => ∃ ls ss, ds = [paD cP cJ ls ss] ∧ ls.length + ss.length ≤ 110000 ∧ (∀ l ∈ ls, LgT l) ∧ (∀ x ∈ ss, SmT x) ∧ Φ (.str (textF ls ss)) M
section
variable {B : Bx} {X : Cx} {b : Expr} {p' pos : Pos} {δ : Env'} {M : Mem} {ΦB : Bool → Mem → Prop} {Φ : D → Mem → Prop}
theorem stFmt (f : Str) (h : DE B X (.FormattedValue (.Name f p') (-1) none pos) δ M Φ) : DE B X (.FormattedValue (.Name f p') (-1) none pos) δ M Φ := h
end
local macro_rules | `(tactic| kpc_text) => `(tactic| first | refine fm_s (Nat.le_trans (show _ ≤ 1000000 by omega) (by decide)) ?_ | fail "no rule")
abbrev s_stream_row : Stmt := top 30
def n_stream_row : List Str := ["name", "jar", "way", "legs", "lane", "wait"]
theorem sc_stream_row : FnScope n_stream_row ["name", "jar", "way"] (defScope s_stream_row) := ⟨rfl, rfl, rfl, by decide +kernel, rfl, by decide +kernel, by decide +kernel⟩
theorem d_stream_row {P : Program} {w : World} {K : PySem.W.Frag} {mg : Str → Option Value} {base : Heap} {c_Jar : Addr} {f : Addr} {fd : FuncData} (F : FunG K "stream_row" "stream_row" s_stream_row f fd)
   (M_Jar_str_0 : MethE P w K mg base 1 c_Jar "__str__" 0 [] (selN 1) (pJarStr c_Jar)) (FC_Jar : FmtC K c_Jar) : FnOk P w K mg base (L2.CX P w) 4 f fd ["name", "jar", "way"] (liftE (pStreamRow c_Jar)) := by
 refine fnokG_of (N := n_stream_row) (k := 3) F sc_stream_row (fun ds M Φ Ξ h => by obtain ⟨x, rfl, hx, k⟩ := h; rfl) fun X kp ds M Φ Ξ h I => ?_
 obtain ⟨x, rfl, hx, k⟩ := h
 obtain ⟨rfl, rfl, rfl, rfl, rfl, hN, hs, hf, z, hp, tk, hst, hfr⟩ := I
 have nd := z.nd
 have n0 : Lo X 0 "name" := lo_of hN hs hf (by decide +kernel)
 have n1 : Lo X 1 "jar" := lo_of hN hs hf (by decide +kernel)
 have n2 : Lo X 2 "way" := lo_of hN hs hf (by decide +kernel)
 have n3 : Lo X 3 "legs" := lo_of hN hs hf (by decide +kernel)
 clear F hf
 change DSs _ X (_ :: _) [_, _, _, _, _, _] _ _
 have hnm := hx.nm
 have hsj := strJ_len hx.jo
 have hl4 := hx.l4
 have l4 : (Str.ofString " ").length = 1 := by decide +kernel
 have l5 : Str.empty.length = 0 := by decide +kernel
 have l6 : (Str.ofString "stream ").length = 7 := by decide +kernel
 repeat' ((fail_if_success refine (stSet "legs") ?_); kpc_text)
 first | refine ds_cons (ds_lc 0 z n3 hN hs [("lane", 4), ("wait", 5)] (.tup [4, 5]) (by decide +kernel) (by decide) (fun X' bk => pg_many bk z (pgs_1 (bk.z z).nd (bk.lo hN hs (by decide +kernel)) (pgs_1 (bk.z z).nd (bk.lo hN hs (by decide +kernel)) pgs_0))) (by decide +kernel) (by decide +kernel) (by decide +kernel) (by decide +kernel) (di_tup ?_)) | refine ds_lc 0 z n3 hN hs [("lane", 4), ("wait", 5)] (.tup [4, 5]) (by decide +kernel) (by decide) (fun X' bk => pg_many bk z (pgs_1 (bk.z z).nd (bk.lo hN hs (by decide +kernel)) (pgs_1 (bk.z z).nd (bk.lo hN hs (by decide +kernel)) pgs_0))) (by decide +kernel) (by decide +kernel) (by decide +kernel) (by decide +kernel) (di_tup ?_)
 repeat' kpc_text
 refine LcH.mapT (x.way) (legD) (lgTxt) (.str) (Nat.le_trans (show List.length _ ≤ 1000000 by first | omega | (simp; done) | (simp; omega)) (by decide)) (fun q acc a ha => ?_) ?_
 · refine ⟨_, rfl, fun X' bk => ?_⟩
   have c4 : Lo X' 4 "lane" := bk.lo hN hs (by decide +kernel)
   have c5 : Lo X' 5 "wait" := bk.lo hN hs (by decide +kernel)
   have z' := bk.z z
   have M_Jar_str_0' := bk.mE M_Jar_str_0
   have FC_Jar' := bk.fmtC FC_Jar
   repeat' kpc_text
   have hh := hx.lg a ha
   obtain ⟨h1, h2⟩ := hh.tx
   have h3 := hh.nm
   repeat' kpc_text
   exact ⟨rfl, rfl⟩
 repeat' ((fail_if_success refine (stFmt "jar") ?_); kpc_text)
 refine de_fmtO (by assumption) (by assumption) M_Jar_str_0 (by decide) ?_
 repeat' kpc_text
 refine cd_txt (.val _ _ _) ⟨x.j, rfl, hx.jo, _, rfl, ?_⟩
 repeat' kpc_text
 refine ⟨_, .val _, ?_, ?_⟩
 · have := legs_len hx
   have e : (Str.ofString "").length = 0 := by decide +kernel
   rw [e]
   omega
 refine od_addS ?_ ?_
 · have h1 := legs_len hx
   have h2 := smHd_len hx
   rw [joinE_len]
   exact Nat.le_trans (show _ ≤ 1000 from by
     have h3 : (Str.empty ++ Str.ofString "stream " ++ x.nm ++ Str.ofString " " ++ strJ x.j).length ≤ 48 := h2
     omega) (by decide)
 exact ⟨_, _, .refl, k⟩
abbrev s_written : Stmt := top 31
def n_written : List Str := ["plan", "rows", "name", "jar", "way", "width", "row"]
theorem sc_written : FnScope n_written ["plan"] (defScope s_written) := ⟨rfl, rfl, rfl, by decide +kernel, rfl, by decide +kernel, by decide +kernel⟩
theorem d_written {P : Program} {w : World} {K : PySem.W.Frag} {mg : Str → Option Value} {base : Heap} {c_Plan c_Jar : Addr} {f : Addr} {fd : FuncData} (F : FunG K "written" "written" s_written f fd)
   (A_Plan_lanes : FldP K c_Plan "lanes") (A_Plan_streams : FldP K c_Plan "streams") (E_stream_row_3 : DefE P w K mg base 4 "stream_row" 3 [] (selN 3) (pStreamRow c_Jar)) : FnOk P w K mg base (L2.CX P w) 5 f fd ["plan"] (liftE (pWritten c_Plan c_Jar)) := by
 refine fnokG_of (N := n_written) (k := 4) F sc_written (fun ds M Φ Ξ h => by obtain ⟨ls, ss, rfl, hlsl, hlt, hsmt, k⟩ := h; rfl) fun X kp ds M Φ Ξ h I => ?_
 obtain ⟨ls, ss, rfl, hlsl, hlt, hsmt, k⟩ := h
 obtain ⟨rfl, rfl, rfl, rfl, rfl, hN, hs, hf, z, hp, tk, hst, hfr⟩ := I
 have nd := z.nd
 have n0 : Lo X 0 "plan" := lo_of hN hs hf (by decide +kernel)
 have n1 : Lo X 1 "rows" := lo_of hN hs hf (by decide +kernel)
 have n2 : Lo X 2 "name" := lo_of hN hs hf (by decide +kernel)
 have n3 : Lo X 3 "jar" := lo_of hN hs hf (by decide +kernel)
 have n4 : Lo X 4 "way" := lo_of hN hs hf (by decide +kernel)
 have l_stream_row : Gl X "stream_row" := gl_of hs (by decide +kernel)
 clear F hf
 change DSs _ X (_ :: _) [_, _, _, _, _, _, _] _ _
 have l4 : (Str.ofString " ").length = 1 := by decide +kernel
 have l5 : Str.empty.length = 0 := by decide +kernel
 have l6 : (Str.ofString "lane ").length = 5 := by decide +kernel
 have l7 : (Str.ofString "\n").length = 1 := by decide +kernel
 repeat' ((fail_if_success refine (stSet "rows") ?_); kpc_text)
 first | refine ds_cons (ds_lcOwn 0 z n1 hN hs [("name", 2), ("width", 5)] (.tup [2, 5]) (by decide +kernel) (by decide) (fun X' bk => pg_many bk z (pgs_1 (bk.z z).nd (bk.lo hN hs (by decide +kernel)) (pgs_1 (bk.z z).nd (bk.lo hN hs (by decide +kernel)) pgs_0))) (by decide +kernel) (by decide +kernel) (by decide +kernel) (by decide +kernel) (di_list ?_)) | refine ds_lcOwn 0 z n1 hN hs [("name", 2), ("width", 5)] (.tup [2, 5]) (by decide +kernel) (by decide) (fun X' bk => pg_many bk z (pgs_1 (bk.z z).nd (bk.lo hN hs (by decide +kernel)) (pgs_1 (bk.z z).nd (bk.lo hN hs (by decide +kernel)) pgs_0))) (by decide +kernel) (by decide +kernel) (by decide +kernel) (by decide +kernel) (di_list ?_)
 repeat' kpc_text
 repeat' kpc_text
 refine LcH.mapT (ls) (legD) (lnRow) (.str) (Nat.le_trans (show List.length _ ≤ 1000000 by first | omega | (simp; done) | (simp; omega)) (by decide)) (fun q acc a ha => ?_) ?_
 · refine ⟨_, rfl, fun X' bk => ?_⟩
   have c2 : Lo X' 2 "name" := bk.lo hN hs (by decide +kernel)
   have c5 : Lo X' 5 "width" := bk.lo hN hs (by decide +kernel)
   have z' := bk.z z
   repeat' kpc_text
   have hh := hlt a ha
   obtain ⟨h1, h2⟩ := hh.tx
   have h3 := hh.nm
   repeat' kpc_text
   exact ⟨rfl, rfl⟩
 intro q
 repeat' ((fail_if_success refine stFor ?_); kpc_text)
 first | refine ds_cons (ds_forC [2, 3, 4] z (by assumption) (di_list ?_)) | refine ds_forC [2, 3, 4] z (by assumption) (di_list ?_)
 repeat' kpc_text
 refine ⟨fun i vs M1 => (∃ (rs : List Str) (o2 o3 o4 : Option D), [o2, o3, o4] = vs ∧ (q, .lst (rs.map .str)) :: M = M1 ∧ (rs = ls.map lnRow ++ (ss.take i).map smRow)), ⟨ls.map lnRow, _, _, _, rfl, rfl, ((List.append_nil _).symm)⟩, ?_, ?_⟩
 · rintro i x vs δ M1 hx ⟨rs, o2, o3, o4, rfl, rfl, hrs⟩ hδ
   obtain rfl : δ = [_, _, o2, o3, o4, _, _] := hδ
   obtain ⟨x, hxx, rfl⟩ := map_get hx
   have hxt := hsmt x (List.mem_of_getElem? hxx)
   have htl : (ss.take i).length ≤ 110000 := by rw [List.length_take]; omega
   repeat' kpc_text
   refine ⟨x, rfl, hxt, ?_⟩
   repeat' kpc_text
   have hrl : rs.length ≤ 110000 := by rw [hrs, List.length_append, List.length_map, List.length_map, List.length_take]; omega
   repeat' kpc_text
   have em := take_snoc smRow hxx
   exact ⟨[_, _, _], rfl, rs ++ [smRow x], _, _, _, rfl, (by rw [List.map_append]; rfl), (by rw [em, hrs, List.append_assoc])⟩
 · rintro vs δ M1 ⟨rs, o2, o3, o4, rfl, rfl, hrs⟩ hδ
   obtain rfl : δ = [_, _, o2, o3, o4, _, _] := hδ
   try simp only [range_len, List.length_map, enum_len] at hrs
   have hrs : rs = ls.map lnRow ++ ss.map smRow := by rw [hrs, List.take_length]
   have hrl : rs.length ≤ 110000 := by rw [hrs, List.length_append, List.length_map, List.length_map]; omega
   have hrw : ∀ r ∈ rs, r.length ≤ 128 := fun r hr => by
     rw [hrs] at hr
     rcases List.mem_append.mp hr with h | h
     · obtain ⟨l, hl, rfl⟩ := List.mem_map.mp h
       have := lnRow_len (hlt l hl)
       omega
     · obtain ⟨x, hx, rfl⟩ := List.mem_map.mp h
       exact smRow_len (hsmt x hx)
   repeat' kpc_text
   refine DE.f (df_lcC 0 z hN hs [("row", 6)] (.one 6) (by decide +kernel) (by decide) (fun X' bk => pg_one bk z (bk.lo hN hs (by decide +kernel))) (di_cell ?_))
   repeat' kpc_text
   refine ⟨_, _, rfl, ⟨0, rfl⟩, ?_⟩
   refine LcHC.mapT (rs) (.str) ((fun r => r ++ Str.ofString "\n")) (.str) (Nat.le_trans (show List.length _ ≤ 1000000 by first | omega | (simp; done) | (simp; omega)) (by decide)) (fun q acc a ha => ?_) (by kbt_pows) ?_
   · refine ⟨_, rfl, fun X' bk => ?_⟩
     have c6 : Lo X' 6 "row" := bk.lo hN hs (by decide +kernel)
     have z' := bk.z z
     repeat' kpc_text
     have := hrw a ha
     refine od_addS (Nat.le_trans (show _ ≤ 1000000 by rw [l7]; omega) (by decide)) ?_
     exact ⟨rfl, rfl⟩
   repeat' kpc_text
   refine ⟨_, .val _, ?_, ?_⟩
   · have h1 : ((rs.map (fun r => r ++ Str.ofString "\n")).map (·.length)).sum ≤ (rs.map (fun r => r ++ Str.ofString "\n")).length * 129 := sum_le fun y hy => by
       obtain ⟨r, hr, rfl⟩ := List.mem_map.mp hy
       have := hrw r hr
       rw [PySem.Str.length_append, l7]
       omega
     rw [List.length_map] at h1
     have e : (Str.ofString "").length = 0 := by decide +kernel
     rw [e]
     omega
   rw [hrs]
   exact ⟨_, _, .sub (List.sublist_cons_self _ _), k⟩
theorem cut_map {α β : Type} {xs : List α} {f : α → β} {l u : Option Int} : cutD (xs.map f) l u = (cutD xs l u).map f := by
 unfold cutD
 rw [List.map_take, List.map_drop, List.length_map]
theorem sl_any {α : Type} {xs : List α} {f : α → D} {l u : Option Int} {M : Mem} {Φ : D → Mem → Prop} (k : Φ (.lst ((cutD xs l u).map f)) M) : SlD (.lst (xs.map f)) l u M Φ := .lst (.val _) (by rw [cut_map]; exact k)
theorem PlanOk.lnt {ls : List Leg} {ss : List Sm} (h : PlanOk ls ss) : ∀ l ∈ ls, LgT l := fun l hl => ⟨(name_len (h.ln l hl)).2, h.lw l hl⟩
theorem PlanOk.smt {ls : List Leg} {ss : List Sm} (h : PlanOk ls ss) : ∀ x ∈ ss, SmT x := fun x hx => ⟨(name_len (h.sn x hx)).2, h.sj x hx, (h.sw x hx).l4, fun l hl => ⟨by
 obtain ⟨y, hy, e⟩ := List.mem_map.mp ((h.sw x hx).mem l hl)
 have := (name_len (h.ln y hy)).2
 have e : y.1 = l.1 := e
 rw [e] at this; exact this, (h.sw x hx).wd l hl⟩⟩
theorem PlanOk.ins {ls : List Leg} {ss : List Sm} (h : PlanOk ls ss) : LnIn ls ∧ SmIn ss := by
 have h6 := h.l6
 have h8 := h.s8
 refine ⟨⟨by omega, fun l hl => ?_⟩, by omega, fun x hx => ?_⟩
 · have := (h.lnt l hl).nm; omega
 · have h1 := (h.smt x hx).nm
   have h2 := (h.smt x hx).l4
   omega
theorem okDs_all : ∀ {ds : List D}, (∀ d ∈ ds, okD d = true) → okDs ds = true
 | [], _ => rfl
 | d :: ds, h => by show (okD d && okDs ds) = true; rw [h d (.head _), okDs_all fun x hx => h x (.tail _ hx)]; rfl
theorem deps_all {n : Nat} : ∀ {ds : List D}, (∀ d ∈ ds, (toPy d).depth ≤ n) → PyData.depthAll (toPys ds) ≤ n
 | [], _ => Nat.zero_le _
 | d :: ds, h => by
   show max (toPy d).depth (PyData.depthAll (toPys ds)) ≤ n
   have h1 := h d (.head _)
   have h2 := deps_all (n := n) fun x hx => h x (.tail _ hx)
   omega
theorem Sm.ext' {x y : Sm} (h1 : x.nm = y.nm) (h2 : [x.j.size, x.j.rate, x.j.mouth] = [y.j.size, y.j.rate, y.j.mouth]) (h3 : x.way = y.way) : x = y := by
 obtain ⟨a, ⟨i, j, k⟩, w⟩ := x
 obtain ⟨b, ⟨i2, j2, k2⟩, w2⟩ := y
 simp only [List.cons.injEq, and_true] at h2
 obtain ⟨e1, e2, e3⟩ := h2
 simp only at h1 h3 e1 e2 e3
 subst h1 h3 e1 e2 e3
 rfl
instance : DecidableEq Sm := fun x y => decidable_of_iff (x.nm = y.nm ∧ [x.j.size, x.j.rate, x.j.mouth] = [y.j.size, y.j.rate, y.j.mouth] ∧ x.way = y.way) ⟨fun h => Sm.ext' h.1 h.2.1 h.2.2, fun h => by rw [h]; exact ⟨rfl, rfl, rfl⟩⟩
theorem sm_dec (x y : Sm) : decide (x = y) = (decide (x.nm = y.nm) && (decide ([x.j.size, x.j.rate, x.j.mouth] = [y.j.size, y.j.rate, y.j.mouth]) && decide (x.way = y.way))) := by
 by_cases h : x = y
 · subst h; simp
 · have : ¬ (x.nm = y.nm ∧ [x.j.size, x.j.rate, x.j.mouth] = [y.j.size, y.j.rate, y.j.mouth] ∧ x.way = y.way) := fun q => h (Sm.ext' q.1 q.2.1 q.2.2)
   rw [decide_eq_false h]
   by_cases h1 : x.nm = y.nm <;> by_cases h2 : [x.j.size, x.j.rate, x.j.mouth] = [y.j.size, y.j.rate, y.j.mouth] <;> by_cases h3 : x.way = y.way <;> simp_all
theorem je_leg {C : Addr} {ns : List Str} {k n : Nat} (x y : Leg) : JE C ns k (n + 1) (legD x) (legD y) (decide (x = y)) := by
 have h := JE.tup (C := C) (ns := ns) (k := k) (n := n) (.cons (.str x.1 y.1) (.cons (.int x.2 y.2) (.nl (ys := []))))
 have e : ([decide (x.1 = y.1), decide (x.2 = y.2)].all id && decide ([D.str x.1, D.int x.2].length = [D.str y.1, D.int y.2].length)) = decide (x = y) := by
   obtain ⟨a, i⟩ := x
   obtain ⟨b, j⟩ := y
   by_cases h1 : a = b <;> by_cases h2 : i = j <;> simp [h1, h2]
 rw [e] at h
 exact h
theorem je_sm {cJ : Addr} {k n : Nat} (hk : k ≤ n + 2) (x y : Sm) : JE cJ jNs k (n + 3) (plD cJ x) (plD cJ y) (decide (x = y)) := by
 obtain ⟨bs, j, e⟩ := JEs.map (C := cJ) (ns := jNs) (k := k) (n := n + 1) je_leg x.way y.way
 have h := JE.tup (C := cJ) (ns := jNs) (k := k) (n := n + 2) (.cons (.str x.nm y.nm) (.cons (.obj hk [x.j.size, x.j.rate, x.j.mouth] [y.j.size, y.j.rate, y.j.mouth] rfl rfl) (.cons (.tup j) (.nl (ys := [])))))
 have e2 : ([decide (x.nm = y.nm), decide ([x.j.size, x.j.rate, x.j.mouth] = [y.j.size, y.j.rate, y.j.mouth]), (bs.all id && decide ((x.way.map legD).length = (y.way.map legD).length))].all id && decide (3 = 3)) = decide (x = y) := by
   rw [e, sm_dec]
   simp [Bool.and_assoc]
 rw [show ([D.str x.nm, .obj cJ jNs ([x.j.size, x.j.rate, x.j.mouth].map .int), .tup (x.way.map legD)] : List D).length = 3 from rfl, show ([D.str y.nm, .obj cJ jNs ([y.j.size, y.j.rate, y.j.mouth].map .int), .tup (y.way.map legD)] : List D).length = 3 from rfl, e2] at h
 exact h
def pJarEqJ (cJ : Addr) : DSpE := fun ds M Φ _ => ∃ j j2, ds = [jD cJ j, jD cJ j2] ∧ Φ (.bl (decide ([j.size, j.rate, j.mouth] = [j2.size, j2.rate, j2.mouth]))) M
theorem jp_jar {cJ : Addr} : JP cJ jNs (pJarEqJ cJ) := fun M is js hi hj => by
 obtain ⟨a, b, c, rfl⟩ : ∃ a b c, is = [a, b, c] := by
   rcases is with _ | ⟨a, _ | ⟨b, _ | ⟨c, _ | ⟨d, is⟩⟩⟩⟩
   · simp at hi
   · simp at hi
   · simp at hi
   · exact ⟨_, _, _, rfl⟩
   · simp at hi
 obtain ⟨a2, b2, c2, rfl⟩ : ∃ a b c, js = [a, b, c] := by
   rcases js with _ | ⟨a, _ | ⟨b, _ | ⟨c, _ | ⟨d, is⟩⟩⟩⟩
   · simp at hj
   · simp at hj
   · simp at hj
   · exact ⟨_, _, _, rfl⟩
   · simp at hj
 exact ⟨⟨a, b, c⟩, ⟨a2, b2, c2⟩, rfl, rfl, rfl⟩
inductive OtP (cP cJ : Addr) (ls : List Leg) (ss : List Sm) : D → Bool → Prop
 | pa (ls' : List Leg) (ss' : List Sm) : OtP cP cJ ls ss (paD cP cJ ls' ss') (decide (ls = ls') && decide (ss = ss'))
 | non : OtP cP cJ ls ss .non false
 | int (i : Int) : OtP cP cJ ls ss (.int i) false
 | str (z : Str) : OtP cP cJ ls ss (.str z) false
 | tup (ds : List D) : OtP cP cJ ls ss (.tup ds) false
 | lst (ds : List D) : OtP cP cJ ls ss (.lst ds) false
def pPlanEq (cP cJ : Addr) : DSpE := fun ds M Φ _ => ∃ ls ss y b, ds = [paD cP cJ ls ss, y] ∧ OtP cP cJ ls ss y b ∧ Φ (.bl b) M
theorem stEqE {B : Bx} {X : Cx} {o b : Expr} {p' pos : Pos} {δ : Env'} {M : Mem} {Φ : D → Mem → Prop} (f : Str) (h : DE B X (.Compare (.Attribute o f p') [.Eq] [b] pos) δ M Φ) : DE B X (.Compare (.Attribute o f p') [.Eq] [b] pos) δ M Φ := h
abbrev s_Jar__eq : Stmt := inClass (top 10) 1
def n_Jar__eq : List Str := ["self", "other"]
theorem sc_Jar__eq : FnScope n_Jar__eq ["self", "other"] (defScope s_Jar__eq) := ⟨rfl, rfl, rfl, by decide +kernel, rfl, by decide +kernel, by decide +kernel⟩
theorem d_Jar__eq {P : Program} {w : World} {K : PySem.W.Frag} {mg : Str → Option Value} {base : Heap} {c_Jar c_Plan : Addr} {f : Addr} {fd : FuncData} (F : FunG K "__eq__" "Jar.__eq__" s_Jar__eq f fd)
   (KT_Jar_Jar : KitP K (.ref c_Jar) (.ref c_Jar) true) (IP_Jar : InsP K c_Jar) (KT_Plan_Jar : KitP K (.ref c_Plan) (.ref c_Jar) false) (IP_Plan : InsP K c_Plan) (KT_tuple_Jar : KitP K (.type "tuple") (.ref c_Jar) false) (KT_str_Jar : KitP K (.type "str") (.ref c_Jar) false) (KT_NoneType_Jar : KitP K (.type "NoneType") (.ref c_Jar) false) (KT_int_Jar : KitP K (.type "int") (.ref c_Jar) false) (KT_list_Jar : KitP K (.type "list") (.ref c_Jar) false) (G_isinstance : mg "isinstance" = none) (Q_Jar : MgP mg "Jar" c_Jar) (M_Jar_told_0 : MethE P w K mg base 1 c_Jar "told" 0 [] (selN 1) (pTold c_Jar)) : FnOk P w K mg base (L2.CX P w) 2 f fd ["self", "other"] (liftE (pJarEqJ c_Jar)) := by
 refine fnokG_of (N := n_Jar__eq) (k := 1) F sc_Jar__eq (fun ds M Φ Ξ h => by obtain ⟨j, j2, rfl, k⟩ := h; rfl) fun X kp ds M Φ Ξ h I => ?_
 obtain ⟨j, j2, rfl, k⟩ := h
 obtain ⟨rfl, rfl, rfl, rfl, rfl, hN, hs, hf, z, hp, tk, hst, hfr⟩ := I
 have nd := z.nd
 have n0 : Lo X 0 "self" := lo_of hN hs hf (by decide +kernel)
 have n1 : Lo X 1 "other" := lo_of hN hs hf (by decide +kernel)
 have g_isinstance : Gn X "isinstance" := gn_of hs (by decide +kernel) G_isinstance
 have l_Jar : Gl X "Jar" := gl_of hs (by decide +kernel)
 clear F hf
 change DSs _ X (_ :: _) [_, _] _ _
 repeat' kpc_text
 refine od_eq3 ?_
 repeat' kpc_text
 exact ⟨_, _, .refl, k⟩
abbrev s_Plan__eq : Stmt := inClass (top 20) 1
def n_Plan__eq : List Str := ["self", "other"]
theorem sc_Plan__eq : FnScope n_Plan__eq ["self", "other"] (defScope s_Plan__eq) := ⟨rfl, rfl, rfl, by decide +kernel, rfl, by decide +kernel, by decide +kernel⟩
theorem d_Plan__eq {P : Program} {w : World} {K : PySem.W.Frag} {mg : Str → Option Value} {base : Heap} {c_Jar c_Plan : Addr} {f : Addr} {fd : FuncData} (F : FunG K "__eq__" "Plan.__eq__" s_Plan__eq f fd)
   (KT_Jar_Plan : KitP K (.ref c_Jar) (.ref c_Plan) false) (IP_Jar : InsP K c_Jar) (KT_Plan_Plan : KitP K (.ref c_Plan) (.ref c_Plan) true) (IP_Plan : InsP K c_Plan) (KT_tuple_Plan : KitP K (.type "tuple") (.ref c_Plan) false) (KT_str_Plan : KitP K (.type "str") (.ref c_Plan) false) (KT_NoneType_Plan : KitP K (.type "NoneType") (.ref c_Plan) false) (KT_int_Plan : KitP K (.type "int") (.ref c_Plan) false) (KT_list_Plan : KitP K (.type "list") (.ref c_Plan) false) (G_isinstance : mg "isinstance" = none) (Q_Plan : MgP mg "Plan" c_Plan) (M_Jar_eq_1 : MethE P w K mg base 2 c_Jar "__eq__" 1 [] (selN 2) (pJarEqJ c_Jar)) (EQ_Jar : EqC K c_Jar) (A_Plan_lanes : FldP K c_Plan "lanes") (A_Plan_streams : FldP K c_Plan "streams") : FnOk P w K mg base (L2.CX P w) 6 f fd ["self", "other"] (liftE (pPlanEq c_Plan c_Jar)) := by
 refine fnokG_of (N := n_Plan__eq) (k := 5) F sc_Plan__eq (fun ds M Φ Ξ h => by obtain ⟨ls, ss, y, b, rfl, hy, k⟩ := h; rfl) fun X kp ds M Φ Ξ h I => ?_
 obtain ⟨ls, ss, y, b, rfl, hy, k⟩ := h
 obtain ⟨rfl, rfl, rfl, rfl, rfl, hN, hs, hf, z, hp, tk, hst, hfr⟩ := I
 have nd := z.nd
 have n0 : Lo X 0 "self" := lo_of hN hs hf (by decide +kernel)
 have n1 : Lo X 1 "other" := lo_of hN hs hf (by decide +kernel)
 have g_isinstance : Gn X "isinstance" := gn_of hs (by decide +kernel) G_isinstance
 have l_Plan : Gl X "Plan" := gl_of hs (by decide +kernel)
 clear F hf
 change DSs _ X (_ :: _) [_, _] _ _
 cases hy with
 | pa ls' ss' =>
   repeat' ((fail_if_success refine (stEqE "lanes") ?_); kpc_text)
   refine de_eqJ (n := 3) (by assumption) M_Jar_eq_1 jp_jar (by decide) ?_
   repeat' kpc_text
   refine od_JM je_leg ?_
   by_cases hls : ls = ls'
   · rw [decide_eq_true hls] at *
     repeat' ((fail_if_success refine (stEqE "streams") ?_); kpc_text)
     refine de_eqJ (n := 3) (by assumption) M_Jar_eq_1 jp_jar (by decide) ?_
     repeat' kpc_text
     refine od_JM (je_sm (by decide)) ?_
     repeat' kpc_text
     exact ⟨_, _, .refl, k⟩
   · rw [decide_eq_false hls] at *
     repeat' kpc_text
     exact ⟨_, _, .refl, k⟩
 | non =>
   repeat' kpc_text
   exact ⟨_, _, .refl, k⟩
 | int i =>
   repeat' kpc_text
   exact ⟨_, _, .refl, k⟩
 | str z =>
   repeat' kpc_text
   exact ⟨_, _, .refl, k⟩
 | tup ds =>
   repeat' kpc_text
   exact ⟨_, _, .refl, k⟩
 | lst ds =>
   repeat' kpc_text
   exact ⟨_, _, .refl, k⟩
abbrev figures : Str := "0123456789"
def numF (z : Str) : Option Int := if 10 < z.length ∨ z.cps.toList.head? = some 48 then none else if ∀ c ∈ z.cps.toList, c ∈ figures.cps.toList then some ((PySem.NumText.digitsVal z.cps.toList : Nat) : Int) else none
abbrev numD : Option Int → D := optI
def pNumber : DSpE := fun ds M Φ _ => ∃ z : Str, ds = [.str z] ∧ 1 ≤ z.length ∧ z.length ≤ 200000 ∧ Φ (numD (numF z)) M
theorem fig_digit : ∀ c ∈ figures.cps.toList, 48 ≤ c ∧ c ≤ 57 := by decide +kernel
theorem one_str {c d : Nat} (h : (⟨#[c]⟩ : Str) = ⟨#[d]⟩) : c = d := by
 have := congrArg signs h
 have h2 : [c] = [d] := this
 simpa using h2
abbrev s_number_of : Stmt := top 24
def n_number_of : List Str := ["word", "sign"]
theorem sc_number_of : FnScope n_number_of ["word"] (defScope s_number_of) := ⟨rfl, rfl, rfl, by decide +kernel, rfl, by decide +kernel, by decide +kernel⟩
theorem d_number_of {P : Program} {w : World} {K : PySem.W.Frag} {mg : Str → Option Value} {base : Heap} {f : Addr} {fd : FuncData} (F : FunG K "number_of" "number_of" s_number_of f fd)
   (G_len : mg "len" = none) (C_FIGURES : ∃ t, mg "FIGURES" = some (.str "0123456789" t)) (G_int : mg "int" = none) : FnOk P w K mg base (L2.CX P w) 1 f fd ["word"] (liftE pNumber) := by
 refine fnokG_of (N := n_number_of) (k := 0) F sc_number_of (fun ds M Φ Ξ h => by obtain ⟨t, rfl, h1, hl, k⟩ := h; rfl) fun X kp ds M Φ Ξ h I => ?_
 obtain ⟨t, rfl, h1, hl, k⟩ := h
 obtain ⟨rfl, rfl, rfl, rfl, rfl, hN, hs, hf, z, hp, tk, hst, hfr⟩ := I
 have nd := z.nd
 have n0 : Lo X 0 "word" := lo_of hN hs hf (by decide +kernel)
 have n1 : Lo X 1 "sign" := lo_of hN hs hf (by decide +kernel)
 have g_len : Gn X "len" := gn_of hs (by decide +kernel) G_len
 have c_FIGURES : Gc X "FIGURES" (.str "0123456789") := gc_str hs (by decide +kernel) C_FIGURES
 have g_int : Gn X "int" := gn_of hs (by decide +kernel) G_int
 clear F hf
 change DSs _ X (_ :: _) [_, _] _ _
 have hz : t.length ≤ sizeLine := Nat.le_trans hl (by decide)
 repeat' kpc_text
 refine cd_lenS hz ?_
 repeat' kpc_text
 · rename_i h0
   rw [show numF t = none from if_pos (.inl (by omega))] at k
   exact ⟨_, _, .refl, k⟩
 rename_i h0
 obtain ⟨c0, rest, hcs⟩ : ∃ c0 rest, t.cps.toList = c0 :: rest := by
   cases hc : t.cps.toList with
   | nil =>
     have : t.cps.toList.length = t.length := rfl
     rw [hc] at this
     simp at this
     omega
   | cons c0 rest => exact ⟨_, _, rfl⟩
 refine od_ixS (c := c0) hz (show atI t.cps.toList ((0 : Nat) : Int) = some c0 from atI_nat (by rw [hcs]; rfl)) ?_
 repeat' kpc_text
 refine od_eqS ?_
 repeat' kpc_text
 · rename_i h2
   have h48 : c0 = 48 := one_str (d := 48) h2
   rw [show numF t = none from if_pos (.inr (by rw [hcs, h48]; rfl))] at k
   exact ⟨_, _, .refl, k⟩
 rename_i h2
 have hn48 : ¬ c0 = 48 := fun e => h2 (by rw [e]; rfl)
 have hnf : numF t = if ∀ c ∈ t.cps.toList, c ∈ figures.cps.toList then some ((PySem.NumText.digitsVal t.cps.toList : Nat) : Int) else none := if_neg fun hh => by
   rcases hh with hh | hh
   · omega
   · rw [hcs] at hh
     exact hn48 (Option.some.inj hh)
 repeat' ((fail_if_success refine stFor ?_); kpc_text)
 first | refine ds_cons (ds_forC [1] z (by assumption) (di_str ?_)) | refine ds_forC [1] z (by assumption) (di_str ?_)
 repeat' kpc_text
 refine ⟨fun i vs M1 => (∃  (o1 : Option D), [o1] = vs ∧ M = M1 ∧ (∀ c ∈ t.cps.toList.take i, c ∈ figures.cps.toList)), ⟨_, rfl, rfl, ((fun c hc => by simp at hc))⟩, ?_, ?_⟩
 · rintro i x vs δ M1 hx ⟨o1, rfl, rfl, hg⟩ hδ
   obtain rfl : δ = [_, o1] := hδ
   rw [List.getElem?_map] at hx
   cases e : t.cps.toList[i]? with
   | none => rw [e] at hx; cases hx
   | some c =>
     rw [e] at hx
     obtain rfl := Option.some.inj hx
     repeat' kpc_text
     · rename_i h3
       rw [show numF t = none from hnf.trans (if_neg fun hall => h3 (hall c (List.mem_of_getElem? e)))] at k
       exact ⟨_, _, .refl, k⟩
     · rename_i h3
       exact ⟨[_], rfl, _, rfl, rfl, (fun c' hc' => by rw [List.take_add_one, e] at hc'; rcases List.mem_append.mp hc' with q | q; exact hg c' q; rw [List.mem_singleton.mp (show c' ∈ [c] from q)]; exact h3)⟩
 · rintro vs δ M1 ⟨o1, rfl, rfl, hg⟩ hδ
   obtain rfl : δ = [_, o1] := hδ
   try simp only [range_len, List.length_map, enum_len] at hg
   have hall : ∀ c ∈ t.cps.toList, c ∈ figures.cps.toList := by
     rw [List.take_length] at hg
     exact hg
   rw [show numF t = some ((PySem.NumText.digitsVal t.cps.toList : Nat) : Int) from hnf.trans (if_pos hall)] at k
   repeat' kpc_text
   refine de_intS (by assumption) ?_
   repeat' kpc_text
   refine cd_intS (PySem.intText_digits (fun c hc => fig_digit c (hall c hc)) (by rw [hcs]; simp) (by omega)) (by omega) ?_
   exact ⟨_, _, .refl, k⟩
def numsF (ws : List Str) : Option (List Int) := if none ∈ ws.map numF then none else some (ws.filterMap numF)
def numsD : Option (List Int) → D
 | none => .non
 | some l => .lst (l.map .int)
def WdIn (ws : List Str) : Prop := ws.length ≤ 200000 ∧ ∀ z ∈ ws, 1 ≤ z.length ∧ z.length ≤ 200000
def pNumbers (fa : Addr) : DSpE := fun ds M Φ _ => ∃ ws : List Str, ds = [.lst (ws.map .str), .raw (.ref fa)] ∧ WdIn ws ∧ Φ (numsD (numsF ws)) M
theorem all_some : ∀ (os : List (Option Int)), none ∉ os → os.map optI = (os.filterMap id).map D.int
 | [], _ => rfl
 | none :: os, h => absurd (List.mem_cons_self) h
 | some i :: os, h => by
   rw [List.map_cons, all_some os fun q => h (.tail _ q)]
   rfl
theorem nums_some {ws : List Str} (h : none ∉ ws.map numF) : (ws.map numF).map optI = (ws.filterMap numF).map D.int := by
 rw [all_some _ h, List.filterMap_map]; rfl
abbrev s_numbers_of : Stmt := top 25
def n_numbers_of : List Str := ["words", "reader", "numbers", "word"]
theorem sc_numbers_of : FnScope n_numbers_of ["words", "reader"] (defScope s_numbers_of) := ⟨rfl, rfl, rfl, by decide +kernel, rfl, by decide +kernel, by decide +kernel⟩
theorem d_numbers_of {P : Program} {w : World} {K : PySem.W.Frag} {mg : Str → Option Value} {base : Heap} {fv_number_of : Addr} {f : Addr} {fd : FuncData} (F : FunG K "numbers_of" "numbers_of" s_numbers_of f fd)
   (FV_number_of_1 : FunV P w K mg base 1 fv_number_of 1 [] (selN 1) pNumber) : FnOk P w K mg base (L2.CX P w) 2 f fd ["words", "reader"] (liftE (pNumbers fv_number_of)) := by
 refine fnokG_of (N := n_numbers_of) (k := 1) F sc_numbers_of (fun ds M Φ Ξ h => by obtain ⟨ws, rfl, ⟨hwl, hww⟩, k⟩ := h; rfl) fun X kp ds M Φ Ξ h I => ?_
 obtain ⟨ws, rfl, ⟨hwl, hww⟩, k⟩ := h
 obtain ⟨rfl, rfl, rfl, rfl, rfl, hN, hs, hf, z, hp, tk, hst, hfr⟩ := I
 have nd := z.nd
 have n0 : Lo X 0 "words" := lo_of hN hs hf (by decide +kernel)
 have n1 : Lo X 1 "reader" := lo_of hN hs hf (by decide +kernel)
 have n2 : Lo X 2 "numbers" := lo_of hN hs hf (by decide +kernel)
 clear F hf
 change DSs _ X (_ :: _) [_, _, _, _] _ _
 repeat' ((fail_if_success refine (stSet "numbers") ?_); kpc_text)
 first | refine ds_cons (ds_lc 0 z n2 hN hs [("word", 3)] (.one 3) (by decide +kernel) (by decide) (fun X' bk => pg_one bk z (bk.lo hN hs (by decide +kernel))) (by decide +kernel) (by decide +kernel) (by decide +kernel) (by decide +kernel) (di_list ?_)) | refine ds_lc 0 z n2 hN hs [("word", 3)] (.one 3) (by decide +kernel) (by decide) (fun X' bk => pg_one bk z (bk.lo hN hs (by decide +kernel))) (by decide +kernel) (by decide +kernel) (by decide +kernel) (by decide +kernel) (di_list ?_)
 repeat' kpc_text
 refine LcH.mapT (ws) (.str) (numF) (numD) (Nat.le_trans (show List.length _ ≤ 1000000 by first | omega | (simp; done) | (simp; omega)) (by decide)) (fun q acc a ha => ?_) ?_
 · refine ⟨_, rfl, fun X' bk => ?_⟩
   have c3 : Lo X' 3 "word" := bk.lo hN hs (by decide +kernel)
   have c1 : Nm X' 1 "reader" := bk.nm hN hs (by decide +kernel)
   have z' := bk.z z
   have FV_number_of_1' := bk.funV FV_number_of_1
   repeat' kpc_text
   refine ⟨a, rfl, (hww a ha).1, (hww a ha).2, ?_⟩
   exact ⟨rfl, rfl⟩
 repeat' kpc_text
 refine od_inNone (os := ws.map numF) (.val _) ?_
 repeat' kpc_text
 · rename_i hn
   rw [show numsF ws = none from if_pos hn] at k
   exact ⟨_, _, .refl, k⟩
 · rename_i hn
   rw [show numsF ws = some (ws.filterMap numF) from if_neg hn] at k
   rw [nums_some hn]
   exact ⟨_, _, .refl, k⟩
def laneF : List Str → Option Leg
 | [_, n, z] => (numF z).map fun i => (n, i)
 | _ => none
def legO : Option Leg → D
 | none => .non
 | some l => legD l
def wordsF (row : Str) : List Str := (Txt.split row (Str.ofString " ")).filterMap fun a => if ¬ a = Str.ofString "" then some a else none
def pLaneOf : DSpE := fun ds M Φ _ => ∃ ws : List Str, ds = [.lst (ws.map .str)] ∧ WdIn ws ∧ Φ (legO (laneF ws)) M
def pWordsOf : DSpE := fun ds M Φ _ => ∃ row : Str, ds = [.str row] ∧ row.length ≤ 200000 ∧ (Txt.split row (Str.ofString " ")).length ≤ 200000 ∧ Φ (.lst ((wordsF row).map .str)) M
abbrev s_lane_of : Stmt := top 28
def n_lane_of : List Str := ["words"]
theorem sc_lane_of : FnScope n_lane_of ["words"] (defScope s_lane_of) := ⟨rfl, rfl, rfl, by decide +kernel, rfl, by decide +kernel, by decide +kernel⟩
theorem d_lane_of {P : Program} {w : World} {K : PySem.W.Frag} {mg : Str → Option Value} {base : Heap} {f : Addr} {fd : FuncData} (F : FunG K "lane_of" "lane_of" s_lane_of f fd)
   (G_len : mg "len" = none) (E_number_of_1 : DefE P w K mg base 1 "number_of" 1 [] (selN 1) pNumber) : FnOk P w K mg base (L2.CX P w) 2 f fd ["words"] (liftE pLaneOf) := by
 refine fnokG_of (N := n_lane_of) (k := 1) F sc_lane_of (fun ds M Φ Ξ h => by obtain ⟨ws, rfl, ⟨hwl, hww⟩, k⟩ := h; rfl) fun X kp ds M Φ Ξ h I => ?_
 obtain ⟨ws, rfl, ⟨hwl, hww⟩, k⟩ := h
 obtain ⟨rfl, rfl, rfl, rfl, rfl, hN, hs, hf, z, hp, tk, hst, hfr⟩ := I
 have nd := z.nd
 have n0 : Lo X 0 "words" := lo_of hN hs hf (by decide +kernel)
 have g_len : Gn X "len" := gn_of hs (by decide +kernel) G_len
 have l_number_of : Gl X "number_of" := gl_of hs (by decide +kernel)
 clear F hf
 change DSs _ X (_ :: _) [_] _ _
 by_cases h3 : ws.length = 3
 · obtain ⟨a1, a2, a3, rfl⟩ : ∃ a1 a2 a3, ws = [a1, a2, a3] := by
     rcases ws with _ | ⟨a1, _ | ⟨a2, _ | ⟨a3, _ | ⟨a4, ws⟩⟩⟩⟩ <;> first | (simp at h3; done) | exact ⟨_, _, _, rfl⟩
   have h3 := hww a3 (by simp)
   repeat' kpc_text
   rename_i x hxx
   obtain rfl : a3 = x := by simpa using hxx
   refine ⟨a3, rfl, h3.1, h3.2, ?_⟩
   cases hn : numF a3 with
   | none =>
     unfold numD optI
     repeat' kpc_text
     rw [show laneF [a1, a2, a3] = none by show (numF a3).map _ = none; rw [hn]; rfl] at k
     exact ⟨_, _, .refl, k⟩
   | some i =>
     unfold numD optI
     repeat' kpc_text
     rename_i y hy z2 hz2
     obtain rfl : a2 = y := by simpa using hy
     obtain rfl : a3 = z2 := by simpa using hz2
     refine ⟨a3, rfl, h3.1, h3.2, ?_⟩
     rw [hn]
     rw [show laneF [a1, a2, a3] = some (a2, i) by show (numF a3).map _ = some (a2, i); rw [hn]; rfl] at k
     repeat' kpc_text
     exact ⟨_, _, .refl, k⟩
 · repeat' kpc_text
   rw [show laneF ws = none by
     rcases ws with _ | ⟨a1, _ | ⟨a2, _ | ⟨a3, _ | ⟨a4, ws⟩⟩⟩⟩ <;> first | rfl | exact absurd rfl h3] at k
   exact ⟨_, _, .refl, k⟩
local macro_rules | `(tactic| kri_at) => `(tactic| fail "no rule")
local macro_rules | `(tactic| kri_at) => `(tactic| refine od_eqS ?_)
local macro_rules | `(tactic| kri_at) => `(tactic| refine od_neS ?_)
abbrev s_words_of : Stmt := top 23
def n_words_of : List Str := ["row", "word"]
theorem sc_words_of : FnScope n_words_of ["row"] (defScope s_words_of) := ⟨rfl, rfl, rfl, by decide +kernel, rfl, by decide +kernel, by decide +kernel⟩
theorem d_words_of {P : Program} {w : World} {K : PySem.W.Frag} {mg : Str → Option Value} {base : Heap} {f : Addr} {fd : FuncData} (F : FunG K "words_of" "words_of" s_words_of f fd)
    : FnOk P w K mg base (L2.CX P w) 1 f fd ["row"] (liftE pWordsOf) := by
 refine fnokG_of (N := n_words_of) (k := 0) F sc_words_of (fun ds M Φ Ξ h => by obtain ⟨row, rfl, hl, hsl, k⟩ := h; rfl) fun X kp ds M Φ Ξ h I => ?_
 obtain ⟨row, rfl, hl, hsl, k⟩ := h
 obtain ⟨rfl, rfl, rfl, rfl, rfl, hN, hs, hf, z, hp, tk, hst, hfr⟩ := I
 have nd := z.nd
 have n0 : Lo X 0 "row" := lo_of hN hs hf (by decide +kernel)
 clear F hf
 change DSs _ X (_ :: _) [_, _] _ _
 refine ds_cons (ds_ret (DE.f (df_lc 0 z hN hs [("word", 1)] (.one 1) (by decide +kernel) (by decide) (fun X' bk => pg_one bk z (bk.lo hN hs (by decide +kernel))) (di_list ?_))))
 refine DE.f (df_split ?_)
 repeat' kpc_text
 refine ⟨by decide +kernel, Nat.le_trans (show _ ≤ 200002 by omega) (by decide), _, rfl, ?_⟩
 refine LcH.pureT ((Txt.split row (Str.ofString " "))) (.str) (fun a => if ¬ a = Str.ofString "" then some (a) else none) (.str) (Nat.le_trans (show List.length _ ≤ 1000000 by first | omega | (simp; done) | (simp; omega)) (by decide)) (fun q acc a ha => ?_) ?_
 · refine ⟨_, rfl, fun X' bk => ?_⟩
   have c1 : Lo X' 1 "word" := bk.lo hN hs (by decide +kernel)
   have z' := bk.z z
   repeat' kpc_text
   all_goals first
     | (intro X' bk; (have c1 : Lo X' 1 "word" := bk.lo hN hs (by decide +kernel)); (have z' := bk.z z); (repeat' kpc_text); exact ⟨by rw [if_pos (by kdn_look)]; rfl, rfl⟩)
     | exact ⟨by rw [if_neg (by kdo_here)]; rfl, rfl⟩
 exact ⟨_, _, .refl, k⟩
def pairsF (ws : List Str) : Option (List Leg) := if ws.length % 2 = 1 then none else match numsF (step2 1 ws) with
 | none => none
 | some ns => some ((step2 0 ws).zip ns)
def legsO : Option (List Leg) → D
 | none => .non
 | some l => .lst (l.map legD)
def pPairs (fa : Addr) : DSpE := fun ds M Φ _ => ∃ ws : List Str, ds = [.lst (ws.map .str), .raw (.ref fa)] ∧ WdIn ws ∧ Φ (legsO (pairsF ws)) M
theorem step2_map {α β : Type} (f : α → β) (a : Nat) (xs : List α) : step2 a (xs.map f) = (step2 a xs).map f := by
 unfold step2
 rw [List.length_map, List.map_filterMap]
 congr 1
 funext i
 rw [List.getElem?_map]
theorem step2_mem {α : Type} {a : Nat} {xs : List α} {x : α} (h : x ∈ step2 a xs) : x ∈ xs := by
 obtain ⟨i, _, hi⟩ := List.mem_filterMap.mp h
 exact List.mem_of_getElem? hi
theorem step2_len {α : Type} (a : Nat) (xs : List α) : (step2 a xs).length ≤ xs.length := Nat.le_trans (pick_len xs _) (ixs2_len _ _)
theorem wd_step {a : Nat} {ws : List Str} (h : WdIn ws) : WdIn (step2 a ws) := ⟨Nat.le_trans (step2_len a ws) h.1, fun z hz => h.2 z (step2_mem hz)⟩
theorem zipD_legs (row : List Str) (ws : List Int) : zipD (row.map .str) (ws.map .int) = (row.zip ws).map legD := by
 unfold zipD
 rw [List.zip_map, List.map_map]; rfl
abbrev s_pairs_of : Stmt := top 26
def n_pairs_of : List Str := ["words", "reader", "numbers"]
theorem sc_pairs_of : FnScope n_pairs_of ["words", "reader"] (defScope s_pairs_of) := ⟨rfl, rfl, rfl, by decide +kernel, rfl, by decide +kernel, by decide +kernel⟩
theorem d_pairs_of {P : Program} {w : World} {K : PySem.W.Frag} {mg : Str → Option Value} {base : Heap} {fv_number_of : Addr} {f : Addr} {fd : FuncData} (F : FunG K "pairs_of" "pairs_of" s_pairs_of f fd)
   (G_len : mg "len" = none) (E_numbers_of_2 : DefE P w K mg base 2 "numbers_of" 2 [] (selN 2) (pNumbers fv_number_of)) (G_list : mg "list" = none) (G_zip : mg "zip" = none) : FnOk P w K mg base (L2.CX P w) 3 f fd ["words", "reader"] (liftE (pPairs fv_number_of)) := by
 refine fnokG_of (N := n_pairs_of) (k := 2) F sc_pairs_of (fun ds M Φ Ξ h => by obtain ⟨ws, rfl, hwi, k⟩ := h; rfl) fun X kp ds M Φ Ξ h I => ?_
 obtain ⟨ws, rfl, hwi, k⟩ := h
 obtain ⟨rfl, rfl, rfl, rfl, rfl, hN, hs, hf, z, hp, tk, hst, hfr⟩ := I
 have nd := z.nd
 have n0 : Lo X 0 "words" := lo_of hN hs hf (by decide +kernel)
 have n1 : Lo X 1 "reader" := lo_of hN hs hf (by decide +kernel)
 have n2 : Lo X 2 "numbers" := lo_of hN hs hf (by decide +kernel)
 have g_len : Gn X "len" := gn_of hs (by decide +kernel) G_len
 have l_numbers_of : Gl X "numbers_of" := gl_of hs (by decide +kernel)
 have g_list : Gn X "list" := gn_of hs (by decide +kernel) G_list
 have g_zip : Gn X "zip" := gn_of hs (by decide +kernel) G_zip
 clear F hf
 change DSs _ X (_ :: _) [_, _, _] _ _
 have hwl := hwi.1
 repeat' kpc_text
 · rename_i h1
   rw [show pairsF ws = none from if_pos (by omega)] at k
   exact ⟨_, _, .refl, k⟩
 rename_i h1
 have hpf : pairsF ws = match numsF (step2 1 ws) with | none => none | some ns => some ((step2 0 ws).zip ns) := if_neg (by omega)
 refine ⟨_, .val _, ?_⟩
 repeat' kpc_text
 rw [step2_map]
 refine ⟨step2 1 ws, rfl, wd_step hwi, ?_⟩
 cases hn : numsF (step2 1 ws) with
 | none =>
   rw [hn] at hpf
   unfold numsD
   repeat' kpc_text
   rw [hpf] at k
   exact ⟨_, _, .refl, k⟩
 | some ns =>
   rw [hn] at hpf
   unfold numsD
   repeat' ((fail_if_success refine stRet ?_); kpc_text)
   refine ds_one (ds_ret ?_)
   refine de_listZip z (by assumption) (by assumption) ?_
   repeat' kpc_text
   refine ⟨_, .val _, ?_⟩
   rw [step2_map]
   repeat' kpc_text
   refine ⟨(step2 0 ws).map .str, ns.map .int, rfl, ?_⟩
   rw [zipD_legs]
   rw [hpf] at k
   exact ⟨_, _, .refl, k⟩
def streamF (ws : List Str) : Option Sm := if ws.length < 7 then none else match numsF (cutD ws (some 2) (some 5)), pairsF (cutD ws (some 5) none) with
 | some [a, r, m], some way => if 1 ≤ r ∧ r ≤ m ∧ m ≤ a ∧ a ≤ 1000000000 then some ⟨ws.getD 1 (Str.ofString ""), ⟨a, r, m⟩, way⟩ else none
 | _, _ => none
def smO (cJ : Addr) : Option Sm → D
 | none => .non
 | some x => .tup [.str x.nm, jD cJ x.j, .lst (x.way.map legD)]
def pStreamOf (cJ : Addr) : DSpE := fun ds M Φ _ => ∃ ws : List Str, ds = [.lst (ws.map .str)] ∧ WdIn ws ∧ Φ (smO cJ (streamF ws)) M
theorem wd_sub {ws us : List Str} (h : WdIn ws) (s : us.Sublist ws) : WdIn us := ⟨Nat.le_trans s.length_le h.1, fun z hz => h.2 z (s.subset hz)⟩
theorem cutD_map {α β : Type} (f : α → β) (xs : List α) (lo hi : Option Int) : cutD (xs.map f) lo hi = (cutD xs lo hi).map f := by
 unfold cutD
 rw [List.length_map, List.map_take, List.map_drop]
theorem cutD_sub {α : Type} (xs : List α) (lo hi : Option Int) : (cutD xs lo hi).Sublist xs := by
 unfold cutD
 exact (List.take_sublist _ _).trans (List.drop_sublist _ _)
theorem nums_len {ws : List Str} {l : List Int} (h : numsF ws = some l) : l.length = ws.length := by
 unfold numsF at h
 split at h
 · cases h
 · rename_i hn
   cases h
   have e := congrArg List.length (nums_some hn)
   rw [List.length_map, List.length_map, List.length_map] at e
   exact e.symm
theorem nums3 {ws : List Str} {l : List Int} (h7 : ¬ (ws.length : Int) < 7) (h : numsF (cutD ws (some 2) (some 5)) = some l) : ∃ a r m, l = [a, r, m] := by
 have e := nums_len h
 have e2 : (cutD ws (some 2) (some 5)).length = 3 := by
   unfold cutD
   rw [show HT.sIx ws.length 0 (some 2) = min 2 ws.length from HT.sIx_nat _ _ 2, show HT.sIx ws.length ws.length (some 5) = min 5 ws.length from HT.sIx_nat _ _ 5, List.length_take, List.length_drop]
   omega
 rw [e2] at e
 rcases l with _ | ⟨a, _ | ⟨r, _ | ⟨m, _ | ⟨_, _⟩⟩⟩⟩
 · simp at e
 · simp at e
 · simp at e
 · exact ⟨_, _, _, rfl⟩
 · simp at e
abbrev s_stream_of : Stmt := top 27
def n_stream_of : List Str := ["words", "sizes", "way", "jar"]
theorem sc_stream_of : FnScope n_stream_of ["words"] (defScope s_stream_of) := ⟨rfl, rfl, rfl, by decide +kernel, rfl, by decide +kernel, by decide +kernel⟩
theorem d_stream_of {P : Program} {w : World} {K : PySem.W.Frag} {mg : Str → Option Value} {base : Heap} {c_Jar c_NoJar c_NoName c_NoWay c_NoLane c_NoText c_Taken fv_number_of : Addr} {f : Addr} {fd : FuncData} (F : FunG K "stream_of" "stream_of" s_stream_of f fd)
   (E_numbers_of_2 : DefE P w K mg base 2 "numbers_of" 2 [] (selN 2) (pNumbers fv_number_of)) (QF_number_of : MgP mg "number_of" fv_number_of) (E_pairs_of_2 : DefE P w K mg base 3 "pairs_of" 2 [] (selN 2) (pPairs fv_number_of)) (G_len : mg "len" = none) (N_Jar_3 : MakeE P w K mg base 1 "Jar" c_Jar 3 [] (selN 4) (pJarI c_Jar c_NoJar)) (Q_NoJar : MgP mg "NoJar" c_NoJar) (XM_NoName_NoJar : ExmP K (.ref c_NoName) (.ref c_NoJar) false) (XM_NoWay_NoJar : ExmP K (.ref c_NoWay) (.ref c_NoJar) false) (XM_NoLane_NoJar : ExmP K (.ref c_NoLane) (.ref c_NoJar) false) (XM_NoJar_NoJar : ExmP K (.ref c_NoJar) (.ref c_NoJar) true) (XM_NoText_NoJar : ExmP K (.ref c_NoText) (.ref c_NoJar) false) (XM_Taken_NoJar : ExmP K (.ref c_Taken) (.ref c_NoJar) false) : FnOk P w K mg base (L2.CX P w) 4 f fd ["words"] (liftE (pStreamOf c_Jar)) := by
 refine fnokG_of (N := n_stream_of) (k := 3) F sc_stream_of (fun ds M Φ Ξ h => by obtain ⟨ws, rfl, hwi, k⟩ := h; rfl) fun X kp ds M Φ Ξ h I => ?_
 obtain ⟨ws, rfl, hwi, k⟩ := h
 obtain ⟨rfl, rfl, rfl, rfl, rfl, hN, hs, hf, z, hp, tk, hst, hfr⟩ := I
 have nd := z.nd
 have n0 : Lo X 0 "words" := lo_of hN hs hf (by decide +kernel)
 have n1 : Lo X 1 "sizes" := lo_of hN hs hf (by decide +kernel)
 have n2 : Lo X 2 "way" := lo_of hN hs hf (by decide +kernel)
 have n3 : Lo X 3 "jar" := lo_of hN hs hf (by decide +kernel)
 have l_numbers_of : Gl X "numbers_of" := gl_of hs (by decide +kernel)
 have l_number_of : Gl X "number_of" := gl_of hs (by decide +kernel)
 have l_pairs_of : Gl X "pairs_of" := gl_of hs (by decide +kernel)
 have g_len : Gn X "len" := gn_of hs (by decide +kernel) G_len
 have l_Jar : Gl X "Jar" := gl_of hs (by decide +kernel)
 have l_NoJar : Gl X "NoJar" := gl_of hs (by decide +kernel)
 clear F hf
 change DSs _ X (_ :: _) [_, _, _, _] _ _
 have hwl := hwi.1
 repeat' kpc_text
 refine SlD.lst (.val _) ?_
 rw [cutD_map]
 repeat' kpc_text
 refine ⟨cutD ws (some 2) (some 5), rfl, wd_sub hwi (cutD_sub _ _ _), ?_⟩
 repeat' kpc_text
 refine SlD.lst (.val _) ?_
 rw [cutD_map]
 repeat' kpc_text
 refine ⟨cutD ws (some 5) none, rfl, wd_sub hwi (cutD_sub _ _ _), ?_⟩
 repeat' kpc_text
 · rename_i h7
   rw [show streamF ws = none from if_pos (by omega)] at k
   exact ⟨_, _, .refl, k⟩
 · rename_i h7 h1
   cases hn : numsF (cutD ws (some 2) (some 5)) with
   | some l => rw [hn] at h1; cases h1
   | none =>
     rw [show streamF ws = none from (if_neg (by omega)).trans (by rw [hn])] at k
     exact ⟨_, _, .refl, k⟩
 · rename_i h7 h1 h2
   cases hp2 : pairsF (cutD ws (some 5) none) with
   | some l => rw [hp2] at h2; cases h2
   | none =>
     rw [show streamF ws = none from (if_neg (by omega)).trans (by rw [hp2]; cases numsF (cutD ws (some 2) (some 5)) with | none => rfl | some l => rcases l with _ | ⟨_, _ | ⟨_, _ | ⟨_, _ | _⟩⟩⟩ <;> rfl)] at k
     exact ⟨_, _, .refl, k⟩
 · rename_i h7 h1 h2
   cases hn : numsF (cutD ws (some 2) (some 5)) with
   | none => rw [hn] at h1; cases h1
   | some l =>
     cases hp2 : pairsF (cutD ws (some 5) none) with
     | none => rw [hp2] at h2; cases h2
     | some way =>
       obtain ⟨a, r, m, rfl⟩ := nums3 h7 hn
       have hst2 : streamF ws = if 1 ≤ r ∧ r ≤ m ∧ m ≤ a ∧ a ≤ 1000000000 then some ⟨ws.getD 1 (Str.ofString ""), ⟨a, r, m⟩, way⟩ else none := (if_neg (by omega)).trans (by rw [hn, hp2])
       unfold numsD legsO
       repeat' ((fail_if_success refine stTry ?_); kpc_text)
       first | refine ds_cons (ds_try [(c_NoJar, none, _)] hst hfr z.nd tk ⟨⟨l_NoJar, by decide, Q_NoJar.is⟩, rfl, trivial, trivial⟩ (fun pn xe kp' hp' tk' => ?_)) | refine ds_try [(c_NoJar, none, _)] hst hfr z.nd tk ⟨⟨l_NoJar, by decide, Q_NoJar.is⟩, rfl, trivial, trivial⟩ (fun pn xe kp' hp' tk' => ?_)
       repeat' kpc_text
       refine od_ixL (d := .int a) rfl ?_
       repeat' kpc_text
       refine od_ixL (d := .int r) rfl ?_
       repeat' kpc_text
       refine od_ixL (d := .int m) rfl ?_
       repeat' kpc_text
       refine ⟨_, a, r, m, M, rfl, rfl, fun h => .val 0 rfl ?_, fun h => ?_⟩
       · repeat' kpc_text
         rename_i y hy
         rw [show streamF ws = some ⟨y, ⟨a, r, m⟩, way⟩ from hst2.trans ((if_pos ⟨h.r1, h.rm, h.ms, h.sz⟩).trans (by
           have hy : ws[1]? = some y := hy
           rw [List.getD_eq_getElem?_getD, hy]; rfl))] at k
         exact ⟨_, _, .refl, k⟩
       · repeat' kpc_text
         rw [show streamF ws = none from hst2.trans (if_neg fun hh => h ⟨hh.1, hh.2.1, hh.2.2.1, hh.2.2.2⟩)] at k
         exact ⟨_, _, .refl, k⟩
def itemF (ws : List Str) : Option (Leg ⊕ Sm) := if ws[0]? = some (Str.ofString "lane") then (laneF ws).map .inl else if ws[0]? = some (Str.ofString "stream") then (streamF ws).map .inr else none
def readGo : Nat → List Leg → List Sm → List Str → Option Nat × List Leg × List Sm
 | _, ls, ss, [] => (none, ls, ss)
 | at0, ls, ss, r :: rs => if wordsF r = [] then readGo (at0 + 1) ls ss rs else match itemF (wordsF r) with
   | none => (some at0, ls, ss)
   | some (.inl l) => readGo (at0 + 1) (ls ++ [l]) ss rs
   | some (.inr x) => readGo (at0 + 1) ls (ss ++ [x]) rs
def readF (t : Str) : Option Nat × List Leg × List Sm := readGo 0 [] [] (Txt.split t (Str.ofString "\n"))
structure TxB (z : Str) : Prop where
 len : z.length ≤ 100000
 lt : ∀ c ∈ signs z, c < 1000
theorem ok_txb {z : Str} (h : ∀ c ∈ signs z, c < 1000) : okD (.str z) = true := by
 show PyData.strOk z = true
 unfold PyData.strOk
 rw [Array.all_eq_true]
 intro i hi
 have := h z.cps[i] (by unfold signs; simp)
 exact decide_eq_true (by omega)
def pPlanOf (cP cJ : Addr) (c : PX) (cT : Addr) : DSpE := fun ds M Φ Ξ => ∃ t : Str, ds = [.str t] ∧ TxB t ∧ (∀ i ls ss, readF t = (some i, ls, ss) → Ξ cT ["row"] [.int (i : Nat)] M) ∧
 ∀ ls ss, readF t = (none, ls, ss) → (planF ls ss = none → Φ (paD cP cJ ls ss) M) ∧ ∀ e, planF ls ss = some e → xP c Ξ M e
def cutL (c : Nat) : List Nat → List Nat → List (List Nat)
 | acc, [] => [acc]
 | acc, d :: r => if d = c then acc :: cutL c [] r else cutL c (acc ++ [d]) r
theorem spl_cut (c : Nat) : ∀ (l acc : List Nat), TL.spl [c] 0 acc l = cutL c acc l
 | [], acc => by rw [TL.spl_nil]; rfl
 | d :: r, acc => by
   show (if TL.pre [c] (d :: r) = true then acc :: TL.spl [c] (1 - 1) [] r else TL.spl [c] 0 (acc ++ [d]) r) = if d = c then acc :: cutL c [] r else cutL c (acc ++ [d]) r
   have e : TL.pre [c] (d :: r) = (d == c) := by
     show ([d] == [c]) = _
     simp
   rw [e, spl_cut c r [], spl_cut c r (acc ++ [d])]
   by_cases h : d = c <;> simp [h]
abbrev txs (l : List Nat) : Str := ⟨l.toArray⟩
theorem split_cut (x : Str) (c : Nat) (hc : c < 256) : Txt.split x (txs [c]) = (cutL c [] x.cps.toList).map txs := by
 refine TL.map_tl_inj ?_
 rw [TL.split_spl x (txs [c]) (by simp [TL.tl]) (TL.kind_ok (by simp [hc])), List.map_map]
 show TL.spl [c] 0 [] (TL.tl x) = _
 rw [spl_cut]
 show _ = (cutL c [] (TL.tl x)).map id
 rw [List.map_id]
theorem cut_part_len (c : Nat) : ∀ (l acc p : List Nat), p ∈ cutL c acc l → p.length ≤ acc.length + l.length
 | [], acc, p, h => by rw [List.mem_singleton.mp h]; simp
 | d :: r, acc, p, h => by
   have h : p ∈ if d = c then acc :: cutL c [] r else cutL c (acc ++ [d]) r := h
   split at h
   · rcases List.mem_cons.mp h with rfl | h
     · simp
     · have := cut_part_len c r [] p h
       simp only [List.length_nil, List.length_cons] at *
       omega
   · have := cut_part_len c r (acc ++ [d]) p h
     simp only [List.length_append, List.length_cons, List.length_nil] at *
     omega
theorem cutL_cnt (c : Nat) : ∀ (l acc : List Nat), (cutL c acc l).length ≤ l.length + 1
 | [], acc => by simp [cutL]
 | d :: r, acc => by
   have h : (cutL c acc (d :: r)) = if d = c then acc :: cutL c [] r else cutL c (acc ++ [d]) r := rfl
   rw [h]
   split
   · have := cutL_cnt c r []
     simp only [List.length_cons]
     omega
   · have := cutL_cnt c r (acc ++ [d])
     simp only [List.length_cons]
     omega
theorem cut_part_in (c : Nat) : ∀ (l acc p : List Nat), p ∈ cutL c acc l → ∀ x ∈ p, x ∈ acc ∨ x ∈ l
 | [], acc, p, h => fun x hx => by rw [List.mem_singleton.mp h] at hx; exact .inl hx
 | d :: r, acc, p, h => fun x hx => by
   have h : p ∈ if d = c then acc :: cutL c [] r else cutL c (acc ++ [d]) r := h
   split at h
   · rcases List.mem_cons.mp h with rfl | h
     · exact .inl hx
     · rcases cut_part_in c r [] p h x hx with q | q
       · cases q
       · exact .inr (.tail _ q)
   · rcases cut_part_in c r (acc ++ [d]) p h x hx with q | q
     · rcases List.mem_append.mp q with q | q
       · exact .inl q
       · rw [List.mem_singleton.mp q]; exact .inr (.head _)
     · exact .inr (.tail _ q)
theorem split_in {x r : Str} {c : Nat} (hc : c < 256) (h : r ∈ Txt.split x (txs [c])) : ∀ d ∈ signs r, d ∈ signs x := by
 rw [split_cut x c hc] at h
 obtain ⟨p, hp, rfl⟩ := List.mem_map.mp h
 intro d hd
 rcases cut_part_in c _ _ _ hp d hd with q | q
 · cases q
 · exact q
theorem txs_len (l : List Nat) : (txs l).length = l.length := by simp [Str.length]
theorem nl_is : Str.ofString "\n" = txs [10] := by decide +kernel
theorem sp_is : Str.ofString " " = txs [32] := by decide +kernel
theorem split_len_le {x r : Str} {c : Nat} (hc : c < 256) (h : r ∈ Txt.split x (txs [c])) : r.length ≤ x.length := by
 rw [split_cut x c hc] at h
 obtain ⟨p, hp, rfl⟩ := List.mem_map.mp h
 have := cut_part_len c _ _ _ hp
 rw [txs_len]
 have e : x.length = x.cps.toList.length := TL.len_tl x
 simp only [List.length_nil] at this
 omega
theorem split_cnt_le {x : Str} {c : Nat} (hc : c < 256) : (Txt.split x (txs [c])).length ≤ x.length + 1 := by
 rw [split_cut x c hc, List.length_map]
 have := cutL_cnt c x.cps.toList []
 have e : x.length = x.cps.toList.length := TL.len_tl x
 omega
theorem okE_ofB {d : D} {n : Nat} (h : okD d = true) (hd : (toPy d).depth ≤ n) (hn : n ≤ 64) : okE d = true := Bool.and_eq_true_iff.mpr ⟨h, decide_eq_true (Nat.le_trans hd hn)⟩
theorem words_mem {row w : Str} (h : w ∈ wordsF row) : 1 ≤ w.length ∧ w.length ≤ row.length := by
 obtain ⟨a, ha, e⟩ := List.mem_filterMap.mp h
 by_cases q : ¬ a = Str.ofString ""
 · rw [if_pos q] at e
   obtain rfl := Option.some.inj e
   rw [sp_is] at ha
   refine ⟨?_, split_len_le (by decide) ha⟩
   have : a.length ≠ 0 := fun h0 => q (TL.ext_tl (by
     have e2 : TL.tl a = [] := List.length_eq_zero_iff.mp (by rw [← TL.len_tl]; exact h0)
     rw [e2]; rfl))
   omega
 · rw [if_neg q] at e; cases e
theorem words_in {row w : Str} (h : w ∈ wordsF row) : ∀ d ∈ signs w, d ∈ signs row := by
 obtain ⟨a, ha, e⟩ := List.mem_filterMap.mp h
 by_cases q : ¬ a = Str.ofString ""
 · rw [if_pos q] at e
   obtain rfl := Option.some.inj e
   rw [sp_is] at ha
   exact split_in (by decide) ha
 · rw [if_neg q] at e; cases e
theorem words_cnt (row : Str) : (wordsF row).length ≤ row.length + 1 := by
 have h1 : (wordsF row).length ≤ (Txt.split row (Str.ofString " ")).length := List.length_filterMap_le _ _
 rw [sp_is] at h1
 have := split_cnt_le (x := row) (c := 32) (by decide)
 omega
theorem words_wd {row : Str} (h : row.length ≤ 100000) : WdIn (wordsF row) := ⟨by have := words_cnt row; omega, fun z hz => by have := words_mem hz; omega⟩
theorem ok_strsB {l : List Str} (h : ∀ z ∈ l, ∀ c ∈ signs z, c < 1000) : okE (.lst (l.map .str)) = true := okE_ofB (n := 1) (okDs_all fun d hd => by
 obtain ⟨z, hz, rfl⟩ := List.mem_map.mp hd
 exact ok_txb (h z hz)) (by
 show PyData.depthAll (toPys (l.map D.str)) + 1 ≤ 1
 have := deps_all (n := 0) (ds := l.map D.str) fun d hd => by
   obtain ⟨z, hz, rfl⟩ := List.mem_map.mp hd
   exact Nat.le_refl 0
 omega) (by decide)
theorem item_lane {w0 : Str} {rest : List Str} (h : w0 = Str.ofString "lane") : itemF (w0 :: rest) = (laneF (w0 :: rest)).map .inl := if_pos (by rw [h]; rfl)
theorem item_stream {w0 : Str} {rest : List Str} (h : ¬ w0 = Str.ofString "lane") (h2 : w0 = Str.ofString "stream") : itemF (w0 :: rest) = (streamF (w0 :: rest)).map .inr := (if_neg (fun q => h (Option.some.inj q))).trans (if_pos (by rw [h2]; rfl))
theorem item_none {w0 : Str} {rest : List Str} (h : ¬ w0 = Str.ofString "lane") (h2 : ¬ w0 = Str.ofString "stream") : itemF (w0 :: rest) = none := (if_neg (fun q => h (Option.some.inj q))).trans (if_neg (fun q => h2 (Option.some.inj q)))
theorem lane_stream {w0 : Str} (h : w0 = Str.ofString "lane") (h2 : w0 = Str.ofString "stream") : False := by
 rw [h] at h2
 exact absurd h2 (by decide +kernel)
theorem rd_at {rows : List Str} {i : Nat} {r : Str} (h : rows[i]? = some r) (ls : List Leg) (ss : List Sm) : readGo i ls ss (rows.drop i) = if wordsF r = [] then readGo (i + 1) ls ss (rows.drop (i + 1)) else match itemF (wordsF r) with
   | none => (some i, ls, ss)
   | some (.inl l) => readGo (i + 1) (ls ++ [l]) ss (rows.drop (i + 1))
   | some (.inr x) => readGo (i + 1) ls (ss ++ [x]) (rows.drop (i + 1)) := by
 have hi : i < rows.length := (List.getElem?_eq_some_iff.mp h).1
 rw [List.drop_eq_getElem_cons hi, (List.getElem?_eq_some_iff.mp h).2]; rfl
structure InB (n : Nat) (ls : List Leg) (ss : List Sm) : Prop where
 ll : ls.length ≤ n
 sl : ss.length ≤ n
 ln : ∀ l ∈ ls, l.1.length ≤ 200000
 sn : ∀ x ∈ ss, x.nm.length ≤ 200000 ∧ x.way.length ≤ 200000
theorem InB.ins {n : Nat} {ls : List Leg} {ss : List Sm} (h : InB n ls ss) (hn : n ≤ 200000) : LnIn ls ∧ SmIn ss := ⟨⟨by have := h.ll; omega, h.ln⟩, by have := h.sl; omega, h.sn⟩
theorem InB.addL {n : Nat} {ls : List Leg} {ss : List Sm} (h : InB n ls ss) {l : Leg} (hl : l.1.length ≤ 200000) : InB (n + 1) (ls ++ [l]) ss := ⟨by rw [List.length_append]; have := h.ll; simp; omega, by have := h.sl; omega, fun x hx => by
 rcases List.mem_append.mp hx with q | q
 · exact h.ln x q
 · rw [List.mem_singleton.mp q]; exact hl, h.sn⟩
theorem InB.addS {n : Nat} {ls : List Leg} {ss : List Sm} (h : InB n ls ss) {x : Sm} (hl : x.nm.length ≤ 200000 ∧ x.way.length ≤ 200000) : InB (n + 1) ls (ss ++ [x]) := ⟨by have := h.ll; omega, by rw [List.length_append]; have := h.sl; simp; omega, h.ln, fun y hy => by
 rcases List.mem_append.mp hy with q | q
 · exact h.sn y q
 · rw [List.mem_singleton.mp q]; exact hl⟩
theorem InB.more {n : Nat} {ls : List Leg} {ss : List Sm} (h : InB n ls ss) : InB (n + 1) ls ss := ⟨by have := h.ll; omega, by have := h.sl; omega, h.ln, h.sn⟩
theorem lane_in {ws : List Str} (h : WdIn ws) {l : Leg} (e : laneF ws = some l) : l.1.length ≤ 200000 := by
 unfold laneF at e
 split at e
 · obtain ⟨i, _, rfl⟩ := Option.map_eq_some_iff.mp e
   exact (h.2 _ (by simp)).2
 · cases e
theorem stream_in {ws : List Str} (h : WdIn ws) {x : Sm} (e : streamF ws = some x) : x.nm.length ≤ 200000 ∧ x.way.length ≤ 200000 := by
 unfold streamF at e
 split at e
 · cases e
 · rename_i h7
   split at e
   · rename_i a r m way h1 h2
     split at e
     · obtain rfl := Option.some.inj e
       refine ⟨?_, ?_⟩
       · have h1 : 1 < ws.length := by omega
         show (ws.getD 1 (Str.ofString "")).length ≤ 200000
         rw [List.getD_eq_getElem?_getD, List.getElem?_eq_getElem h1]
         exact (h.2 _ (List.getElem_mem h1)).2
       · unfold pairsF at h2
         split at h2
         · cases h2
         · split at h2
           · cases h2
           · obtain rfl := Option.some.inj h2
             show (List.zip _ _).length ≤ 200000
             rw [List.length_zip]
             have := step2_len 0 (cutD ws (some 5) none)
             have := (cutD_sub ws (some 5) none).length_le
             have := h.1
             omega
     · cases e
   · cases e
theorem stSplit {B : Bx} {X : Cx} {o e : Expr} {ap pos : Pos} {δ : Env'} {M : Mem} {Φ : D → Mem → Prop} (h : DE B X (.Call (.Attribute o "split" ap) [e] [] pos) δ M Φ) : DE B X (.Call (.Attribute o "split" ap) [e] [] pos) δ M Φ := h
abbrev s_plan_of : Stmt := top 29
def n_plan_of : List Str := ["text", "lanes", "streams", "at", "row", "words", "lane", "stream"]
theorem sc_plan_of : FnScope n_plan_of ["text"] (defScope s_plan_of) := ⟨rfl, rfl, rfl, by decide +kernel, rfl, by decide +kernel, by decide +kernel⟩
theorem d_plan_of {P : Program} {w : World} {K : PySem.W.Frag} {mg : Str → Option Value} {base : Heap} {c_NoText c_Plan c_Jar c_NoName c_Taken c_NoLane c_NoWay : Addr} {f : Addr} {fd : FuncData} (F : FunG K "plan_of" "plan_of" s_plan_of f fd)
   (G_enumerate : mg "enumerate" = none) (E_words_of_1 : DefE P w K mg base 1 "words_of" 1 [] (selN 1) pWordsOf) (E_lane_of_1 : DefE P w K mg base 2 "lane_of" 1 [] (selN 1) pLaneOf) (E_stream_of_1 : DefE P w K mg base 4 "stream_of" 1 [] (selN 1) (pStreamOf c_Jar)) (X_NoText : ExI P w K mg base "NoText" c_NoText ["row"]) (N_Plan_2 : MakeE P w K mg base 4 "Plan" c_Plan 2 [] (selN 3) (pPlanI c_Plan c_Jar ⟨c_NoName, c_Taken, c_NoLane, c_NoWay⟩)) : FnOk P w K mg base (L2.CX P w) 6 f fd ["text"] (liftE (pPlanOf c_Plan c_Jar ⟨c_NoName, c_Taken, c_NoLane, c_NoWay⟩ c_NoText)) := by
 refine fnokG_of (N := n_plan_of) (k := 5) F sc_plan_of (fun ds M Φ Ξ h => by obtain ⟨t, rfl, ⟨htl, htc⟩, kt, k⟩ := h; rfl) fun X kp ds M Φ Ξ h I => ?_
 obtain ⟨t, rfl, ⟨htl, htc⟩, kt, k⟩ := h
 obtain ⟨rfl, rfl, rfl, rfl, rfl, hN, hs, hf, z, hp, tk, hst, hfr⟩ := I
 have nd := z.nd
 have n0 : Lo X 0 "text" := lo_of hN hs hf (by decide +kernel)
 have n1 : Lo X 1 "lanes" := lo_of hN hs hf (by decide +kernel)
 have n2 : Lo X 2 "streams" := lo_of hN hs hf (by decide +kernel)
 have n3 : Lo X 3 "at" := lo_of hN hs hf (by decide +kernel)
 have n4 : Lo X 4 "row" := lo_of hN hs hf (by decide +kernel)
 have n5 : Lo X 5 "words" := lo_of hN hs hf (by decide +kernel)
 have n6 : Lo X 6 "lane" := lo_of hN hs hf (by decide +kernel)
 have n7 : Lo X 7 "stream" := lo_of hN hs hf (by decide +kernel)
 have g_enumerate : Gn X "enumerate" := gn_of hs (by decide +kernel) G_enumerate
 have l_words_of : Gl X "words_of" := gl_of hs (by decide +kernel)
 have l_lane_of : Gl X "lane_of" := gl_of hs (by decide +kernel)
 have l_stream_of : Gl X "stream_of" := gl_of hs (by decide +kernel)
 have l_NoText : Gl X "NoText" := gl_of hs (by decide +kernel)
 have l_Plan : Gl X "Plan" := gl_of hs (by decide +kernel)
 clear F hf
 change DSs _ X (_ :: _) [_, _, _, _, _, _, _, _] _ _
 repeat' ((fail_if_success refine (stSet "lanes") ?_); kpc_text)
 first | refine ds_cons (ds_own 0 z n1 (df_lst (da_nil ⟨by decide, fun ql => ?_⟩))) | refine ds_own 0 z n1 (df_lst (da_nil ⟨by decide, fun ql => ?_⟩))
 kpc_text
 repeat' ((fail_if_success refine (stSet "streams") ?_); kpc_text)
 first | refine ds_cons (ds_own 0 z n2 (df_lst (da_nil ⟨by decide, fun qs => ?_⟩))) | refine ds_own 0 z n2 (df_lst (da_nil ⟨by decide, fun qs => ?_⟩))
 kpc_text
 repeat' ((fail_if_success refine stFor ?_); kpc_text)
 first | refine ds_cons (ds_forC [3, 4, 5, 6, 7] z (by assumption) (di_enum (by assumption) ?_)) | refine ds_forC [3, 4, 5, 6, 7] z (by assumption) (di_enum (by assumption) ?_)
 repeat' ((fail_if_success refine stSplit ?_); kpc_text)
 refine DE.f (df_split ?_)
 repeat' kpc_text
 refine ⟨by decide +kernel, Nat.le_trans (show _ ≤ 100002 by omega) (by decide), ?_⟩
 refine ⟨_, rfl, ?_⟩
 refine ⟨fun i vs M1 => (∃ (ls : List Leg) (ss : List Sm) (o3 o4 o5 o6 o7 : Option D), [o3, o4, o5, o6, o7] = vs ∧ (qs, .lst (ss.map (hdD c_Jar))) :: (ql, .lst (ls.map legD)) :: M = M1 ∧ (readGo i ls ss ((Txt.split t (Str.ofString "\n")).drop i) = readF t) ∧ (InB i ls ss)), ⟨[], [], _, _, _, _, _, rfl, rfl, (rfl), (⟨by simp, by simp, fun l h => (by cases h), fun l h => (by cases h)⟩)⟩, ?_, ?_⟩
 · rintro i x vs δ M1 hx ⟨ls, ss, o3, o4, o5, o6, o7, rfl, rfl, hg, hin⟩ hδ
   obtain rfl : δ = [_, _, _, o3, o4, o5, o6, o7] := hδ
   obtain ⟨y0, hy0, rfl⟩ := enum_get hx
   obtain ⟨r, hr, rfl⟩ := map_get hy0
   have hrm := List.mem_of_getElem? hr
   rw [nl_is] at hrm
   have hrl := split_len_le (by decide) hrm
   have hrc := split_in (by decide) hrm
   have hsc : (Txt.split r (Str.ofString " ")).length ≤ 200000 := by rw [sp_is]; have := split_cnt_le (x := r) (c := 32) (by decide); omega
   have hwd := words_wd (row := r) (by omega)
   have hok := ok_strsB (l := wordsF r) fun z hz c hc => htc c (hrc c (words_in hz c hc))
   rw [rd_at hr] at hg
   have hil := (List.getElem?_eq_some_iff.mp hr).1
   have hcn := split_cnt_le (x := t) (c := 10) (by decide)
   rw [← nl_is] at hcn
   have hll := hin.ll
   have hsl := hin.sl
   repeat' kpc_text
   refine ⟨r, rfl, by omega, hsc, ?_⟩
   repeat' kpc_text
   refine od_eqNil (.val _) hok ?_
   rw [List.isEmpty_map]
   generalize wordsF r = ws at hwd hok hg
   cases ws with
   | nil =>
     repeat' kpc_text
     rw [if_pos rfl] at hg
     exact ⟨[_, _, _, _, _], rfl, _, _, _, _, _, _, _, rfl, rfl, (hg), (hin.more)⟩
   | cons w0 rest =>
     rw [if_neg (by simp)] at hg
     repeat' kpc_text
     refine od_ixL (at_mapN (f := D.str) (l := w0 :: rest) (j := 0) rfl) ?_
     repeat' kpc_text
     · rename_i c1
       rw [item_lane c1] at hg
       refine ⟨w0 :: rest, rfl, hwd, ?_⟩
       cases hlf : laneF (w0 :: rest) with
       | none =>
         rw [hlf] at hg
         rw [show legO none = D.non from rfl]
         repeat' kpc_text
         refine od_ixL (at_mapN (f := D.str) (l := w0 :: rest) (j := 0) rfl) ?_
         repeat' kpc_text
         · rename_i c2
           exact (lane_stream c1 c2).elim
         · exact ⟨_, _, .sub (.cons _ (.cons _ (.refl _))), kt i ls ss hg.symm⟩
       | some l =>
         rw [hlf] at hg
         rw [show legO (some l) = legD l from rfl]
         repeat' kpc_text
         refine od_ixL (at_mapN (f := D.str) (l := w0 :: rest) (j := 0) rfl) ?_
         repeat' kpc_text
         · rename_i c2
           exact (lane_stream c1 c2).elim
         · have em : (ls ++ [l]).map legD = ls.map legD ++ [legD l] := by rw [List.map_append]; rfl
           exact ⟨[_, _, _, _, _], rfl, _, _, _, _, _, _, _, rfl, (by rw [em]; exact rfl), (hg), (hin.addL (lane_in hwd hlf))⟩
     · rename_i c1
       refine od_ixL (at_mapN (f := D.str) (l := w0 :: rest) (j := 0) rfl) ?_
       repeat' kpc_text
       · rename_i c2
         rw [item_stream c1 c2] at hg
         refine ⟨w0 :: rest, rfl, hwd, ?_⟩
         cases hsf : streamF (w0 :: rest) with
         | none =>
           rw [hsf] at hg
           rw [show smO c_Jar none = D.non from rfl]
           repeat' kpc_text
           exact ⟨_, _, .sub (.cons _ (.cons _ (.refl _))), kt i ls ss hg.symm⟩
         | some x =>
           rw [hsf] at hg
           rw [show smO c_Jar (some x) = hdD c_Jar x from rfl]
           repeat' kpc_text
           have em : (ss ++ [x]).map (hdD c_Jar) = ss.map (hdD c_Jar) ++ [hdD c_Jar x] := by rw [List.map_append]; rfl
           exact ⟨[_, _, _, _, _], rfl, _, _, _, _, _, _, _, rfl, (by rw [em]; exact rfl), (hg), (hin.addS (stream_in hwd hsf))⟩
       · rename_i c2
         rw [item_none c1 c2] at hg
         repeat' kpc_text
         exact ⟨_, _, .sub (.cons _ (.cons _ (.refl _))), kt i ls ss hg.symm⟩
 · rintro vs δ M1 ⟨ls, ss, o3, o4, o5, o6, o7, rfl, rfl, hg, hin⟩ hδ
   obtain rfl : δ = [_, _, _, o3, o4, o5, o6, o7] := hδ
   try simp only [range_len, List.length_map, enum_len] at hg hin
   rw [List.drop_length] at hg
   have hg : readF t = (none, ls, ss) := hg.symm
   have hcn := split_cnt_le (x := t) (c := 10) (by decide)
   rw [← nl_is] at hcn
   have hins := hin.ins (by omega)
   have kk := k ls ss hg
   repeat' ((fail_if_success refine stRet ?_); kpc_text)
   refine ws_upE 0 rfl ?_
   apply Exists.intro
   refine ⟨?_, ?_⟩
   · kx_is
   refine ws_upE 0 rfl ?_
   apply Exists.intro
   refine ⟨?_, ?_⟩
   · kx_is
   repeat' kpc_text
   refine ⟨_, ls, ss, _, rfl, rfl, hins.1, hins.2, fun h q1 q2 => plan_made ?_, fun e he => ?_⟩
   · exact ⟨_, _, .refl, kk.1 h⟩
   · cases e <;> exact ⟨_, _, .sub (.refl _), kk.2 _ he⟩
abbrev rD (r : List Str) : D := .lst (r.map .str)
abbrev lnW (l : Leg) : List Str := [Str.ofString "lane", l.1, tI l.2]
def lgW (l : Leg) : List Str := [l.1, tI l.2]
def smW0 (x : Sm) : List Str := [Str.ofString "stream", x.nm, tI x.j.size, tI x.j.rate, tI x.j.mouth]
def smW (x : Sm) : List Str := smW0 x ++ (x.way.map lgW).flatten
theorem joinL_cons (S p : List Nat) : ∀ (r : List (List Nat)), TL.joinL S (p :: r) = p ++ (r.map (S ++ ·)).flatten
 | [] => by simp [TL.joinL]
 | q :: r => by
   show p ++ (S ++ TL.joinL S (q :: r)) = _
   rw [joinL_cons S q r]; simp
theorem lane_row (l : Leg) : Txt.join (Str.ofString " ") (lnW l) = lnRow l := by
 rw [show lnW l = [Str.ofString "lane", l.1, tI l.2] from rfl, join3]
 unfold lnRow
 rw [str_nil_add, show Str.ofString "lane " = Str.ofString "lane" ++ Str.ofString " " from by decide +kernel]
theorem legs_flat (S : List Nat) : ∀ way : List Leg, ((((way.map lgW).flatten).map signs).map (S ++ ·)).flatten = (way.map fun l => S ++ signs l.1 ++ S ++ signs (tI l.2)).flatten
 | [] => rfl
 | l :: r => by
   rw [List.map_cons, List.flatten_cons, List.map_append, List.map_append, List.flatten_append, legs_flat S r]
   simp [lgW]
theorem stream_text (x : Sm) : Txt.join (Str.ofString " ") (smW x) = smRow x := str_ext (by
 rw [join_signs]
 show TL.joinL (signs (Str.ofString " ")) ((smW0 x ++ (x.way.map lgW).flatten).map signs) = signs (smRow x)
 rw [List.map_append]
 show TL.joinL (signs (Str.ofString " ")) (signs (Str.ofString "stream") :: ([x.nm, tI x.j.size, tI x.j.rate, tI x.j.mouth].map signs ++ ((x.way.map lgW).flatten).map signs)) = _
 rw [joinL_cons, List.map_append, List.flatten_append, legs_flat]
 have e : signs (Txt.join (Str.ofString "") (x.way.map lgTxt)) = (x.way.map fun l => signs (lgTxt l)).flatten := by
   have := join_signs (Str.ofString "") (x.way.map lgTxt)
   rw [show (Str.ofString "").cps.toList = [] from rfl, joinL_nil, List.map_map] at this
   exact this
 have e2 : (fun l : Leg => signs (lgTxt l)) = fun l => signs (Str.ofString " ") ++ signs l.1 ++ signs (Str.ofString " ") ++ signs (tI l.2) := by
   funext l
   unfold lgTxt
   simp only [signs_add, str_nil_add]
 unfold smRow smHd strJ
 rw [signs_add, e, e2]
 simp only [signs_add, str_nil_add, show Str.ofString "stream " = Str.ofString "stream" ++ Str.ofString " " from by decide +kernel]
 simp)
def dueF (rs : List (List Str)) : Str := rs.foldl (fun d r => d ++ Txt.join (Str.ofString " ") r ++ Str.ofString "\n") (Str.ofString "")
theorem due_signs (rs : List (List Str)) : ∀ d, signs (rs.foldl (fun d r => d ++ Txt.join (Str.ofString " ") r ++ Str.ofString "\n") d) = signs d ++ (rs.map fun r => signs (Txt.join (Str.ofString " ") r) ++ signs (Str.ofString "\n")).flatten := by
 induction rs with
 | nil => intro d; simp
 | cons r rs ih =>
   intro d
   rw [List.foldl_cons, ih]
   simp [signs_add]
theorem due_text (ls : List Leg) (ss : List Sm) : dueF (ls.map lnW ++ ss.map smW) = textF ls ss := str_ext (by
 show signs _ = signs _
 unfold dueF textF
 rw [due_signs]
 have e := join_signs (Str.ofString "") ((ls.map lnRow ++ ss.map smRow).map (· ++ Str.ofString "\n"))
 rw [show (Str.ofString "").cps.toList = [] from rfl, joinL_nil] at e
 show [] ++ _ = (Txt.join (Str.ofString "") ((ls.map lnRow ++ ss.map smRow).map (· ++ Str.ofString "\n"))).cps.toList
 rw [e, List.nil_append]
 simp only [List.map_append, List.map_map]
 congr 2
 · congr 1
   funext l
   show signs (Txt.join _ (lnW l)) ++ _ = signs (lnRow l ++ _)
   rw [lane_row, signs_add]
 · congr 1
   funext l
   show signs (Txt.join _ (smW l)) ++ _ = signs (smRow l ++ _)
   rw [stream_text, signs_add])
def pRows : DSp := fun ds M Φ => ∃ (ls : List Leg) (ss : List Sm), ds = [.lst (ls.map legD), .lst (ss.map smD)] ∧ ls.length ≤ 110000 ∧ ss.length ≤ 110000 ∧ (∀ l ∈ ls, LgT l) ∧ (∀ x ∈ ss, SmT x) ∧ Φ (.lst ((ls.map lnW ++ ss.map smW).map rD)) M
abbrev s_law_rows : Stmt := top 42
def n_law_rows : List Str := ["_law_lanes", "_law_streams", "_law_rows_here", "_law_name_here", "_law_width", "_law_numbers", "_law_way_here", "_law_row", "_law_lane", "_law_wait_here", "_law_number_here"]
theorem sc_law_rows : FnScope n_law_rows ["_law_lanes", "_law_streams"] (defScope s_law_rows) := ⟨rfl, rfl, rfl, by decide +kernel, rfl, by decide +kernel, by decide +kernel⟩
theorem d_law_rows {P : Program} {w : World} {K : PySem.W.Frag} {mg : Str → Option Value} {base : Heap} {f : Addr} {fd : FuncData} (F : Fun K "_law_rows" "_law_rows" s_law_rows f fd)
   (G_str : mg "str" = none) : FnOk P w K mg base CX0 1 f fd ["_law_lanes", "_law_streams"] (lift pRows) := by
 refine fnok_of (N := n_law_rows) (k := 0) F sc_law_rows (fun ds M Φ h => by obtain ⟨ls, ss, rfl, hll, hsl, hlt, hsmt, k⟩ := h; rfl) fun X B I ds M Φ h => ?_
 obtain ⟨ls, ss, rfl, hll, hsl, hlt, hsmt, k⟩ := h
 obtain ⟨rfl, rfl, rfl, rfl, rfl, hN, hs, hf, z, xe⟩ := I
 have hp := passes_of xe
 have n0 : Lo X 0 "_law_lanes" := lo_of hN hs hf (by decide +kernel)
 have n1 : Lo X 1 "_law_streams" := lo_of hN hs hf (by decide +kernel)
 have n2 : Lo X 2 "_law_rows_here" := lo_of hN hs hf (by decide +kernel)
 have n3 : Lo X 3 "_law_name_here" := lo_of hN hs hf (by decide +kernel)
 have n4 : Lo X 4 "_law_width" := lo_of hN hs hf (by decide +kernel)
 have n5 : Lo X 5 "_law_numbers" := lo_of hN hs hf (by decide +kernel)
 have n6 : Lo X 6 "_law_way_here" := lo_of hN hs hf (by decide +kernel)
 have n7 : Lo X 7 "_law_row" := lo_of hN hs hf (by decide +kernel)
 have n8 : Lo X 8 "_law_lane" := lo_of hN hs hf (by decide +kernel)
 have n9 : Lo X 9 "_law_wait_here" := lo_of hN hs hf (by decide +kernel)
 have g_str : Gn X "str" := gn_of hs (by decide +kernel) G_str
 clear F hf
 change DSs _ X (_ :: _) [_, _, _, _, _, _, _, _, _, _, _] _ _
 repeat' ((fail_if_success refine (stSet "_law_rows_here") ?_); kpc_text)
 first | refine ds_cons (ds_own 0 z n2 (df_lst (da_nil ⟨by decide, fun q => ?_⟩))) | refine ds_own 0 z n2 (df_lst (da_nil ⟨by decide, fun q => ?_⟩))
 kpc_text
 repeat' ((fail_if_success refine stFor ?_); kpc_text)
 first | refine ds_cons (ds_forC [3, 4] z (by assumption) (di_list ?_)) | refine ds_forC [3, 4] z (by assumption) (di_list ?_)
 repeat' kpc_text
 refine ⟨fun i vs M1 => (∃ (rs : List (List Str)) (o3 o4 : Option D), [o3, o4] = vs ∧ (q, .lst (rs.map rD)) :: M = M1 ∧ (rs = (ls.take i).map lnW)), ⟨[], _, _, rfl, rfl, (rfl)⟩, ?_, ?_⟩
 · rintro i x vs δ M1 hx ⟨rs, o3, o4, rfl, rfl, hrs⟩ hδ
   obtain rfl : δ = [_, _, _, o3, o4, _, _, _, _, _, _] := hδ
   obtain ⟨l, hlx, rfl⟩ := map_get hx
   obtain ⟨h1, h2⟩ := (hlt l (List.mem_of_getElem? hlx)).tx
   have htl : rs.length ≤ 110000 := by rw [hrs, List.length_map, List.length_take]; omega
   repeat' kpc_text
   refine de_strI (by assumption) ?_
   repeat' kpc_text
   refine cd_strI h1 ?_
   repeat' kpc_text
   have em := take_snoc lnW hlx
   exact ⟨[_, _], rfl, rs ++ [lnW l], _, _, rfl, (by rw [List.map_append]; rfl), (by rw [em, hrs])⟩
 · rintro vs δ M1 ⟨rs, o3, o4, rfl, rfl, hrs⟩ hδ
   obtain rfl : δ = [_, _, _, o3, o4, _, _, _, _, _, _] := hδ
   try simp only [range_len, List.length_map, enum_len] at hrs
   have hrs : rs = ls.map lnW := by rw [hrs, List.take_length]
   repeat' ((fail_if_success refine stFor ?_); kpc_text)
   first | refine ds_cons (ds_forC [3, 5, 6, 7, 8, 9] z (by assumption) (di_list ?_)) | refine ds_forC [3, 5, 6, 7, 8, 9] z (by assumption) (di_list ?_)
   repeat' kpc_text
   refine ⟨fun i vs M1 => (∃ (rs : List (List Str)) (o3 o5 o6 o7 o8 o9 : Option D), [o3, o5, o6, o7, o8, o9] = vs ∧ (q, .lst (rs.map rD)) :: M = M1 ∧ (rs = ls.map lnW ++ (ss.take i).map smW)), ⟨rs, _, _, _, _, _, _, rfl, rfl, ((by rw [hrs]; exact (List.append_nil _).symm))⟩, ?_, ?_⟩
   · rintro i x vs δ M1 hx ⟨rs, o3, o5, o6, o7, o8, o9, rfl, rfl, hrs⟩ hδ
     obtain rfl : δ = [_, _, _, o3, _, o5, o6, o7, o8, o9, _] := hδ
     obtain ⟨x, hxx, rfl⟩ := map_get hx
     have hxt := hsmt x (List.mem_of_getElem? hxx)
     have htl : rs.length ≤ 220000 := by rw [hrs, List.length_append, List.length_map, List.length_map, List.length_take]; omega
     obtain ⟨h1, h2, h3, l1, l2, l3⟩ := hxt.jo.tx
     have hw4 := hxt.l4
     repeat' kpc_text
     refine DE.f (df_lc 0 z hN hs [("_law_number_here", 10)] (.one 10) (by decide +kernel) (by decide) (fun X' bk => pg_one bk z (bk.lo hN hs (by decide +kernel))) (di_tup ?_))
     repeat' kpc_text
     refine LcH.mapT ([x.j.size, x.j.rate, x.j.mouth]) (.int) (tI) (.str) (Nat.le_trans (show List.length _ ≤ 1000000 by first | omega | (simp; done) | (simp; omega)) (by decide)) (fun q acc a ha => ?_) ?_
     · refine ⟨_, rfl, fun X' bk => ?_⟩
       have c10 : Lo X' 10 "_law_number_here" := bk.lo hN hs (by decide +kernel)
       have z' := bk.z z
       have g_str' : Gn X' "str" := bk.gn hs (by decide +kernel) G_str
       repeat' kpc_text
       have hh : a.natAbs.log2 < 1920 := by
         have : a = x.j.size ∨ a = x.j.rate ∨ a = x.j.mouth := by simpa using ha
         rcases this with rfl | rfl | rfl <;> assumption
       refine de_strI (by assumption) ?_
       repeat' kpc_text
       refine cd_strI hh ?_
       exact ⟨rfl, rfl⟩
     repeat' kpc_text
     refine od_addL (Nat.le_trans (show 5 ≤ 1000000 by decide) (by decide)) ?_
     repeat' ((fail_if_success refine stFor ?_); kpc_text)
     first | refine ds_cons (ds_forC [7, 8, 9] z (by assumption) (di_list ?_)) | refine ds_forC [7, 8, 9] z (by assumption) (di_list ?_)
     repeat' kpc_text
     refine ⟨fun i3 vs M1 => (∃ (rw' : List Str) (o8 o9 : Option D), [some (.lst (rw'.map .str)), o8, o9] = vs ∧ (q, .lst (rs.map rD)) :: M = M1 ∧ (rw' = smW0 x ++ ((x.way.take i3).map lgW).flatten) ∧ (rw'.length = 5 + 2 * i3)), ⟨smW0 x, _, _, rfl, rfl, ((List.append_nil _).symm), (rfl)⟩, ?_, ?_⟩
     · rintro i3 x vs δ M1 hx ⟨rw', o8, o9, rfl, rfl, hrw, hrl⟩ hδ
       obtain rfl : δ = [_, _, _, _, _, _, _, _, o8, o9, _] := hδ
       obtain ⟨l, hlx, rfl⟩ := map_get hx
       have hi4 := (List.getElem?_eq_some_iff.mp hlx).1
       obtain ⟨g1, g2⟩ := (hxt.lg l (List.mem_of_getElem? hlx)).tx
       repeat' kpc_text
       refine de_strI (by assumption) ?_
       repeat' kpc_text
       refine cd_strI g1 ?_
       repeat' kpc_text
       refine od_addL (Nat.le_trans (show _ ≤ 1000000 by rw [List.length_map, hrl]; show _ + 2 ≤ _; omega) (by decide)) ?_
       rw [show rw'.map D.str ++ [D.str l.1, D.str (Str.ofString (toString l.2))] = (rw' ++ lgW l).map D.str from by rw [List.map_append]; rfl]
       repeat' kpc_text
       have em := take_snoc lgW hlx
       exact ⟨[_, _, _], rfl, rw' ++ lgW l, _, _, rfl, rfl, (by rw [em, hrw, List.flatten_append, List.append_assoc]; simp), (by rw [List.length_append, hrl]; show _ + 2 = _; omega)⟩
     · rintro vs δ M1 ⟨rw', o8, o9, rfl, rfl, hrw, hrl⟩ hδ
       obtain rfl : δ = [_, _, _, _, _, _, _, _, o8, o9, _] := hδ
       try simp only [range_len, List.length_map, enum_len] at hrw hrl
       have hrw : rw' = smW x := by rw [hrw, List.take_length]; rfl
       repeat' kpc_text
       have em := take_snoc smW hxx
       exact ⟨[_, _, _, _, _, _], rfl, rs ++ [smW x], _, _, _, _, _, _, rfl, (by rw [List.map_append, hrw]; rfl), (by rw [em, hrs, List.append_assoc])⟩
   · rintro vs δ M1 ⟨rs, o3, o5, o6, o7, o8, o9, rfl, rfl, hrs⟩ hδ
     obtain rfl : δ = [_, _, _, o3, _, o5, o6, o7, o8, o9, _] := hδ
     try simp only [range_len, List.length_map, enum_len] at hrs
     have hrs : rs = ls.map lnW ++ ss.map smW := by rw [hrs, List.take_length]
     repeat' kpc_text
     rw [← hrs] at k
     exact ⟨_, _, .frz 0 rfl, k⟩
theorem cutL_app (c : Nat) (b : List Nat) : ∀ (a acc : List Nat), cutL c acc (a ++ c :: b) = cutL c acc a ++ cutL c [] b
 | [], acc => by
   show (if c = c then acc :: cutL c [] b else _) = [acc] ++ _
   rw [if_pos rfl]; rfl
 | d :: a, acc => by
   show (if d = c then acc :: cutL c [] (a ++ c :: b) else cutL c (acc ++ [d]) (a ++ c :: b)) = (if d = c then acc :: cutL c [] a else cutL c (acc ++ [d]) a) ++ _
   split
   · rw [cutL_app c b a []]; rfl
   · exact cutL_app c b a (acc ++ [d])
theorem cutL_free {c : Nat} : ∀ {a acc : List Nat}, c ∉ a → cutL c acc a = [acc ++ a]
 | [], acc, _ => by simp [cutL]
 | d :: a, acc, h => by
   show (if d = c then acc :: cutL c [] a else cutL c (acc ++ [d]) a) = _
   rw [if_neg fun (e : d = c) => h (by rw [e]; exact .head _), cutL_free fun q => h (.tail _ q)]
   simp
def wordsL (l : List Nat) : List (List Nat) := (cutL 32 [] l).filter fun w => !w.isEmpty
theorem words_is (row : Str) : wordsF row = (wordsL row.cps.toList).map txs := by
 unfold wordsF wordsL
 rw [sp_is, split_cut row 32 (by decide)]
 generalize cutL 32 [] row.cps.toList = ps
 induction ps with
 | nil => rfl
 | cons p ps ih =>
   rw [List.map_cons, List.filterMap_cons]
   cases p with
   | nil =>
     rw [if_neg (fun q => q (by decide +kernel))]
     simpa using ih
   | cons x p =>
     rw [if_pos (fun q => by
       have e := congrArg (fun z : Str => z.cps.toList) q
       have e2 : (x :: p : List Nat) = [] := e.trans (by decide +kernel)
       cases e2)]
     simpa using ih
theorem wordsL_app (a b : List Nat) : wordsL (a ++ 32 :: b) = wordsL a ++ wordsL b := by
 unfold wordsL
 rw [cutL_app, List.filter_append]
theorem wordsL_nil : wordsL [] = [] := rfl
theorem wordsL_sp (b : List Nat) : ∀ n, wordsL (List.replicate n 32 ++ b) = wordsL b
 | 0 => rfl
 | n + 1 => by
   have := wordsL_app [] (List.replicate n 32 ++ b)
   rw [wordsL_nil, List.nil_append, wordsL_sp b n] at this
   exact this
theorem wordsL_word {w : List Nat} (h : w ≠ []) (h2 : 32 ∉ w) : wordsL w = [w] := by
 unfold wordsL
 rw [cutL_free h2]
 cases w with
 | nil => exact absurd rfl h
 | cons x w => rfl
theorem wordsL_end (a : List Nat) : ∀ n, wordsL (a ++ List.replicate n 32) = wordsL a
 | 0 => by rw [List.replicate_zero, List.append_nil]
 | n + 1 => by
   rw [List.replicate_succ, wordsL_app]
   have := wordsL_sp [] n
   rw [List.append_nil, wordsL_nil] at this
   rw [this, List.append_nil]
theorem wordsL_put {a w : List Nat} {k : Nat} (h : w ≠ []) (h2 : 32 ∉ w) : wordsL (a ++ List.replicate (k + 1) 32 ++ w) = wordsL a ++ [w] := by
 rw [List.append_assoc, List.replicate_succ]
 show wordsL (a ++ 32 :: (List.replicate k 32 ++ w)) = _
 rw [wordsL_app, wordsL_sp, wordsL_word h h2]
def Told (sg : List Nat) (ls : List Leg) (ss : List Sm) : Prop := ∃ rows : List (List Nat), sg = (rows.map (· ++ [10])).flatten ∧ (∀ r ∈ rows, 10 ∉ r) ∧ ∀ more : List (List Nat), readGo 0 [] [] ((rows ++ more).map txs) = readGo rows.length ls ss (more.map txs)
theorem Told.nil : Told [] [] [] := ⟨[], rfl, (fun r h => by cases h), fun more => rfl⟩
theorem told_lines : ∀ (rows : List (List Nat)) (r : List Nat), (∀ r ∈ rows, 10 ∉ r) → 10 ∉ r → cutL 10 [] ((rows.map (· ++ [10])).flatten ++ r) = rows ++ [r]
 | [], r, _, h => by
   show cutL 10 [] r = [r]
   rw [cutL_free h]; rfl
 | x :: rows, r, hr, h => by
   rw [List.map_cons, List.flatten_cons, List.append_assoc, List.append_assoc]
   show cutL 10 [] (x ++ 10 :: ((rows.map (· ++ [10])).flatten ++ r)) = _
   rw [cutL_app, cutL_free (hr x (.head _)), told_lines rows r (fun y hy => hr y (.tail _ hy)) h]; rfl
theorem read_lines (x : List Nat) : readF (txs x) = readGo 0 [] [] ((cutL 10 [] x).map txs) := by
 unfold readF
 rw [nl_is, split_cut _ _ (by decide)]
theorem Told.row {sg : List Nat} {ls ls' : List Leg} {ss ss' : List Sm} {r : List Nat} (h : Told sg ls ss) (hr : 10 ∉ r) (hs : ∀ i more, readGo i ls ss (txs r :: more) = readGo (i + 1) ls' ss' more) : Told (sg ++ r ++ [10]) ls' ss' := by
 obtain ⟨rows, e, h1, h2⟩ := h
 refine ⟨rows ++ [r], ?_, fun x hx => ?_, fun more => ?_⟩
 · rw [e, List.map_append, List.flatten_append, List.append_assoc]; simp
 · rcases List.mem_append.mp hx with q | q
   · exact h1 x q
   · rw [List.mem_singleton.mp q]; exact hr
 · rw [List.append_assoc, h2, List.length_append]
   exact hs _ _
theorem Told.fin {sg : List Nat} {ls ls' : List Leg} {ss ss' : List Sm} {r : List Nat} (h : Told sg ls ss) (hr : 10 ∉ r) (hs : ∀ i more, readGo i ls ss (txs r :: more) = readGo (i + 1) ls' ss' more) : readF (txs (sg ++ r)) = (none, ls', ss') := by
 obtain ⟨rows, e, h1, h2⟩ := h
 rw [read_lines, e, told_lines rows r h1 hr, h2]
 exact hs _ _
theorem go_blank {r : List Nat} (h : wordsL r = []) (i : Nat) (ls : List Leg) (ss : List Sm) (more : List Str) : readGo i ls ss (txs r :: more) = readGo (i + 1) ls ss more := by
 show (if wordsF (txs r) = [] then _ else _) = _
 rw [if_pos (by rw [words_is]; show (wordsL r).map txs = []; rw [h]; rfl)]
theorem go_lane {r : List Nat} {ws : List Str} (h : (wordsL r).map txs = ws) (hne : ws ≠ []) {l : Leg} (hi : itemF ws = some (.inl l)) (i : Nat) (ls : List Leg) (ss : List Sm) (more : List Str) : readGo i ls ss (txs r :: more) = readGo (i + 1) (ls ++ [l]) ss more := by
 have e : wordsF (txs r) = ws := by rw [words_is]; exact h
 rw [readGo, e, if_neg hne, hi]
theorem go_stream {r : List Nat} {ws : List Str} (h : (wordsL r).map txs = ws) (hne : ws ≠ []) {x : Sm} (hi : itemF ws = some (.inr x)) (i : Nat) (ls : List Leg) (ss : List Sm) (more : List Str) : readGo i ls ss (txs r :: more) = readGo (i + 1) ls (ss ++ [x]) more := by
 have e : wordsF (txs r) = ws := by rw [words_is]; exact h
 rw [readGo, e, if_neg hne, hi]
theorem Told.blank {sg : List Nat} {ls : List Leg} {ss : List Sm} (h : Told sg ls ss) (n : Nat) : Told (sg ++ List.replicate n 32 ++ [10]) ls ss := h.row (fun q => by have := List.eq_of_mem_replicate q; omega) (fun i more => go_blank (by
 have := wordsL_sp [] n
 rw [List.append_nil, wordsL_nil] at this
 exact this) i ls ss more)
theorem Told.last {sg : List Nat} {ls : List Leg} {ss : List Sm} (h : Told sg ls ss) : readF (txs sg) = (none, ls, ss) := by
 have := h.fin (r := []) (by simp) (fun i more => go_blank wordsL_nil i ls ss more)
 rw [List.append_nil] at this
 exact this
theorem numL_head : ∀ (n : Nat), 1 ≤ n → (TL.numL n).head? ≠ some 48 := by
 intro n
 induction n using Nat.strongRecOn with
 | _ n ih =>
   intro h
   by_cases h10 : n < 10
   · rw [TL.numL_lt h10]
     simp
     omega
   · rw [TL.numL_step (by omega)]
     have h0 := ih (n / 10) (by omega) (by omega)
     cases e : TL.numL (n / 10) with
     | nil => exact absurd e (TL.numL_ne _)
     | cons a r => rw [e] at h0; simpa using h0
theorem figs_all : ∀ c, 48 ≤ c → c ≤ 57 → c ∈ figures.cps.toList := by
 intro c h1 h2
 have : ∀ d, d < 58 → 48 ≤ d → d ∈ figures.cps.toList := by decide +kernel
 exact this c (by omega) h1
theorem numF_tI {i : Int} (h : WdOk i) : numF (tI i) = some i := by
 obtain ⟨h1, h2⟩ := h
 obtain ⟨n, rfl⟩ : ∃ n : Nat, i = (n : Int) := ⟨i.toNat, by omega⟩
 have e : (tI (n : Int)).cps.toList = TL.numL n := TL.tl_num n
 have hl : (tI (n : Int)).length ≤ 10 := tI_len (by omega) (by omega)
 unfold numF
 rw [e, if_neg (fun hh => by
   rcases hh with hh | hh
   · omega
   · exact numL_head n (by omega) hh), if_pos (fun c hc => figs_all c (TL.numL_digits n c hc).1 (TL.numL_digits n c hc).2), TL.numL_val]
theorem item_lnW {l : Leg} (h : WdOk l.2) : itemF (lnW l) = some (.inl l) := by
 show itemF (Str.ofString "lane" :: [l.1, tI l.2]) = _
 rw [item_lane rfl]
 show ((numF (tI l.2)).map fun i => (l.1, i)).map Sum.inl = _
 rw [numF_tI h]; rfl
theorem numsF_of {ws : List Str} {is : List Int} (h : ws.map numF = is.map some) : numsF ws = some is := by
 unfold numsF
 rw [if_neg (by rw [h]; simp)]
 congr 1
 have e := congrArg (List.filterMap id) h
 rw [List.filterMap_map, List.filterMap_map] at e
 have e2 : is.filterMap (id ∘ some) = is := by
   rw [show (id ∘ some : Int → Option Int) = some from rfl, List.filterMap_some]
 rw [e2] at e
 exact e
theorem fm_congr {α β : Type} {f g : α → Option β} : ∀ {l : List α}, (∀ x ∈ l, f x = g x) → l.filterMap f = l.filterMap g
 | [], _ => rfl
 | a :: l, h => by rw [List.filterMap_cons, List.filterMap_cons, h a (.head _), fm_congr fun x hx => h x (.tail _ hx)]
theorem step2_even {α : Type} (f : Nat → α) (n a : Nat) (xs : List α) (hl : xs.length = 2 * n) (ha : a < 2) (h : ∀ i, i < n → xs[2 * i + a]? = some (f i)) : step2 a xs = (List.range n).map f := by
 unfold step2 ixs2
 rw [hl]
 by_cases hn : n = 0
 · subst hn
   have : sliceRange ((min a (2 * 0) : Nat) : Int) ((2 * 0 : Nat) : Int) 2 = [] := by
     have e : min a (2 * 0) = 0 := by omega
     rw [e]; rfl
   rw [this]; rfl
 have hs : sliceRange ((min a (2 * n) : Nat) : Int) ((2 * n : Nat) : Int) 2 = (List.range n).map fun k => 2 * k + a := by
   unfold sliceRange
   have e : min a (2 * n) = a := by omega
   have h2 : (2 : Int) > 0 := by decide
   have h3 : ((a : Nat) : Int) < ((2 * n : Nat) : Int) := by omega
   rw [e, if_pos h2, if_pos h3]
   have hc : ((((2 * n : Nat) : Int) - (a : Int) + 2 - 1) / 2).toNat = n := by omega
   show List.map (fun k : Nat => ((a : Int) + 2 * (k : Int)).toNat) (List.range ((((2 * n : Nat) : Int) - (a : Int) + 2 - 1) / 2).toNat) = _
   rw [hc]
   refine List.map_congr_left fun k _ => ?_
   omega
 rw [hs, List.filterMap_map]
 have e : (List.range n).filterMap ((fun x => xs[x]?) ∘ fun k => 2 * k + a) = (List.range n).filterMap (some ∘ f) := fm_congr fun k hk => h k (List.mem_range.mp hk)
 rw [e, List.filterMap_eq_map]
theorem legs_at : ∀ (way : List Leg) (i : Nat), i < way.length → ((way.map lgW).flatten)[2 * i]? = some (way.getD i default).1 ∧ ((way.map lgW).flatten)[2 * i + 1]? = some (tI (way.getD i default).2)
 | [], i, h => by simp at h
 | l :: way, 0, _ => ⟨rfl, rfl⟩
 | l :: way, i + 1, h => by
   have := legs_at way i (by simpa using h)
   have e : ((l :: way).map lgW).flatten = l.1 :: tI l.2 :: (way.map lgW).flatten := rfl
   rw [e]
   have e1 : 2 * (i + 1) = 2 * i + 1 + 1 := by omega
   rw [e1]
   exact ⟨by simpa using this.1, by simpa using this.2⟩
theorem legs_flat_len : ∀ way : List Leg, ((way.map lgW).flatten).length = 2 * way.length
 | [] => rfl
 | l :: way => by
   have e : ((l :: way).map lgW).flatten = l.1 :: tI l.2 :: (way.map lgW).flatten := rfl
   rw [e, List.length_cons, List.length_cons, legs_flat_len way, List.length_cons]; omega
theorem range_map {α : Type} (way : List Leg) (f : Leg → α) : (List.range way.length).map (fun i => f (way.getD i default)) = way.map f := by
 refine List.ext_getElem? fun i => ?_
 rw [List.getElem?_map, List.getElem?_map]
 by_cases hi : i < way.length
 · rw [List.getElem?_range hi, List.getElem?_eq_getElem hi]
   simp [List.getD_eq_getElem?_getD, hi]
 · rw [List.getElem?_eq_none (by simpa using hi), List.getElem?_eq_none (by omega)]; rfl
theorem step2_legs (way : List Leg) : step2 0 ((way.map lgW).flatten) = way.map (·.1) ∧ step2 1 ((way.map lgW).flatten) = way.map fun l => tI l.2 :=
 ⟨(step2_even (fun i => (way.getD i default).1) way.length 0 _ (legs_flat_len way) (by decide) fun i hi => (legs_at way i hi).1).trans (range_map way (·.1)),
  (step2_even (fun i => tI (way.getD i default).2) way.length 1 _ (legs_flat_len way) (by decide) fun i hi => (legs_at way i hi).2).trans (range_map way fun l => tI l.2)⟩
theorem pairs_legs {way : List Leg} (h : ∀ l ∈ way, WdOk l.2) : pairsF ((way.map lgW).flatten) = some way := by
 unfold pairsF
 rw [if_neg (by rw [legs_flat_len]; omega), (step2_legs way).2, (step2_legs way).1]
 rw [numsF_of (is := way.map (·.2)) (by
   rw [List.map_map, List.map_map]
   exact List.map_congr_left fun l hl => numF_tI (h l hl))]
 show some ((way.map (·.1)).zip (way.map (·.2))) = _
 congr 1
 clear h
 induction way with
 | nil => rfl
 | cons l way ih => rw [List.map_cons, List.map_cons, List.zip_cons_cons, ih]
theorem item_smW {x : Sm} (h : SmT x) (h1 : 1 ≤ x.way.length) : itemF (smW x) = some (.inr x) := by
 have hj := h.jo
 have w1 : WdOk x.j.rate := ⟨hj.r1, by have := hj.rm; have := hj.ms; have := hj.sz; omega⟩
 have w2 : WdOk x.j.mouth := ⟨by have := hj.rm; have := hj.r1; omega, by have := hj.ms; have := hj.sz; omega⟩
 have w3 : WdOk x.j.size := ⟨by have := hj.rm; have := hj.r1; have := hj.ms; omega, hj.sz⟩
 show itemF (Str.ofString "stream" :: ([x.nm, tI x.j.size, tI x.j.rate, tI x.j.mouth] ++ (x.way.map lgW).flatten)) = _
 rw [item_stream (by decide +kernel) rfl]
 have hl : (Str.ofString "stream" :: ([x.nm, tI x.j.size, tI x.j.rate, tI x.j.mouth] ++ (x.way.map lgW).flatten)).length = 5 + 2 * x.way.length := by
   rw [List.length_cons, List.length_append, legs_flat_len]
   show 4 + _ + 1 = _
   omega
 have c1 : cutD (Str.ofString "stream" :: ([x.nm, tI x.j.size, tI x.j.rate, tI x.j.mouth] ++ (x.way.map lgW).flatten)) (some 2) (some 5) = [tI x.j.size, tI x.j.rate, tI x.j.mouth] := by
   unfold cutD
   rw [hl, show HT.sIx (5 + 2 * x.way.length) 0 (some 2) = min 2 (5 + 2 * x.way.length) from HT.sIx_nat _ _ 2, show HT.sIx (5 + 2 * x.way.length) (5 + 2 * x.way.length) (some 5) = min 5 (5 + 2 * x.way.length) from HT.sIx_nat _ _ 5, show min 2 (5 + 2 * x.way.length) = 2 by omega, show min 5 (5 + 2 * x.way.length) = 5 by omega]
   rfl
 have c2 : cutD (Str.ofString "stream" :: ([x.nm, tI x.j.size, tI x.j.rate, tI x.j.mouth] ++ (x.way.map lgW).flatten)) (some 5) none = (x.way.map lgW).flatten := by
   rw [cut_from (by decide)]; rfl
 have hst : streamF (Str.ofString "stream" :: ([x.nm, tI x.j.size, tI x.j.rate, tI x.j.mouth] ++ (x.way.map lgW).flatten)) = some x := by
   unfold streamF
   rw [if_neg (by rw [hl]; omega), c1, c2, pairs_legs fun l hl => (h.lg l hl).wd, numsF_of (is := [x.j.size, x.j.rate, x.j.mouth]) (by
     show [numF (tI x.j.size), numF (tI x.j.rate), numF (tI x.j.mouth)] = _
     rw [numF_tI w1, numF_tI w2, numF_tI w3]; rfl)]
   show (if _ then _ else _) = _
   rw [if_pos ⟨hj.r1, hj.rm, hj.ms, hj.sz⟩]
   rfl
 rw [hst]; rfl
def pLoose : DSp := fun ds M Φ => ∃ s g b M', ∃ (ls : List Leg) (ss : List Sm), ds = [.raw (.ref s), .lst ((ls.map lnW ++ ss.map smW).map rD), .int ls.length] ∧ M = (s, .st g b) :: M' ∧ PlanOk ls ss ∧ 1000 ≤ b ∧ ∀ (t : Str) b', TxB t → t.length ≤ 6000 → readF t = (none, ls, ss) → b ≤ b' + 1000 → Φ (.str t) ((s, .st g b') :: M')
theorem mul_sp {n : Int} (h0 : 0 ≤ n) (h3 : n ≤ 3) : MulOk (txs [32]) n ∧ Txt.mul (txs [32]) n = txs (List.replicate n.toNat 32) := by
 have h : n = 0 ∨ n = 1 ∨ n = 2 ∨ n = 3 := by omega
 refine ⟨⟨?_, fun a1 a2 => ?_, fun a1 a2 => ?_⟩, ?_⟩
 · rcases h with rfl | rfl | rfl | rfl <;> decide
 · rcases h with rfl | rfl | rfl | rfl <;> first | decide | exact absurd a1 (by decide) | exact absurd a2 (by decide)
 · rcases h with rfl | rfl | rfl | rfl <;> first | decide | exact absurd a1 (by decide) | exact absurd a2 (by decide)
 · exact TL.ext_tl (PyProof.Rows.mul_one_list 32 n)
theorem txs_add (a b : List Nat) : txs a ++ txs b = txs (a ++ b) := TL.ext_tl (TL.tl_append _ _)
theorem txs_of (x : Str) : txs x.cps.toList = x := TL.mk_tl x
structure WdS (w : Str) : Prop where
 ne : w.cps.toList ≠ []
 sp : 32 ∉ w.cps.toList
 nl : 10 ∉ w.cps.toList
 lt : ∀ c ∈ w.cps.toList, c < 1000
 len : w.cps.toList.length ≤ 10
theorem wd_name {z : Str} (h : nameB z = true) : WdS z := by
 have hl := name_len h
 have e : z.length = z.cps.toList.length := TL.len_tl z
 have hc := name_signs h
 refine ⟨fun q => by rw [q] at e; simp at e; omega, fun q => absurd (hc 32 q) (by decide +kernel), fun q => absurd (hc 10 q) (by decide +kernel), fun c q => lets_lt c (hc c q), by omega⟩
theorem wd_num {i : Int} (h : WdOk i) : WdS (tI i) := by
 obtain ⟨h1, h2⟩ := h
 obtain ⟨n, rfl⟩ : ∃ n : Nat, i = (n : Int) := ⟨i.toNat, by omega⟩
 have e : (tI (n : Int)).cps.toList = TL.numL n := TL.tl_num n
 refine ⟨by rw [e]; exact TL.numL_ne n, by rw [e]; exact TL.numL_free (.inl (by decide)), by rw [e]; exact TL.numL_free (.inl (by decide)), fun c q => ?_, ?_⟩
 · rw [e] at q
   have := TL.numL_digits n c q
   omega
 · rw [e]; exact TL.numL_len (by decide) (by omega)
theorem wd_lane : WdS (Str.ofString "lane") := ⟨by decide +kernel, by decide +kernel, by decide +kernel, by decide +kernel, by decide +kernel⟩
theorem wd_stream : WdS (Str.ofString "stream") := ⟨by decide +kernel, by decide +kernel, by decide +kernel, by decide +kernel, by decide +kernel⟩
theorem lnW_ws {l : Leg} (h : nameB l.1 = true) (h2 : WdOk l.2) : ∀ w ∈ lnW l, WdS w := fun w hw => by
 have hw : w = Str.ofString "lane" ∨ w = l.1 ∨ w = tI l.2 := by simpa [lnW] using hw
 rcases hw with rfl | rfl | rfl
 · exact wd_lane
 · exact wd_name h
 · exact wd_num h2
theorem smW_ws {x : Sm} (h : nameB x.nm = true) (hj : JOk x.j) (hw : ∀ l ∈ x.way, nameB l.1 = true ∧ WdOk l.2) : ∀ w ∈ smW x, WdS w := fun w hm => by
 have w1 : WdOk x.j.rate := ⟨hj.r1, by have := hj.rm; have := hj.ms; have := hj.sz; omega⟩
 have w2 : WdOk x.j.mouth := ⟨by have := hj.rm; have := hj.r1; omega, by have := hj.ms; have := hj.sz; omega⟩
 have w3 : WdOk x.j.size := ⟨by have := hj.rm; have := hj.r1; have := hj.ms; omega, hj.sz⟩
 unfold smW at hm
 rcases List.mem_append.mp hm with hy | hy
 · have hy : w = Str.ofString "stream" ∨ w = x.nm ∨ w = tI x.j.size ∨ w = tI x.j.rate ∨ w = tI x.j.mouth := by simpa [smW0] using hy
   rcases hy with rfl | rfl | rfl | rfl | rfl
   · exact wd_stream
   · exact wd_name h
   · exact wd_num w3
   · exact wd_num w1
   · exact wd_num w2
 · obtain ⟨q, hq, hy⟩ := List.mem_flatten.mp hy
   obtain ⟨l, hl2, rfl⟩ := List.mem_map.mp hq
   have hy : w = l.1 ∨ w = tI l.2 := by simpa [lgW] using hy
   rcases hy with rfl | rfl
   · exact wd_name (hw l hl2).1
   · exact wd_num (hw l hl2).2
structure RowP (ws : List Str) (k : Nat) (rp : List Nat) : Prop where
 w : (wordsL rp).map txs = ws.take k
 z : k = 0 → ∃ n, rp = List.replicate n 32
 c : ∀ c ∈ rp, c < 1000 ∧ c ≠ 10
 l : rp.length ≤ 1 + 12 * k
theorem rep_c {n : Nat} : ∀ c ∈ List.replicate n 32, c < 1000 ∧ c ≠ 10 := fun c h => by
 have := List.eq_of_mem_replicate h
 omega
theorem wordsL_rep (n : Nat) : wordsL (List.replicate n 32) = [] := by
 have := wordsL_sp [] n
 rw [List.append_nil, wordsL_nil] at this
 exact this
theorem RowP.nil {ws : List Str} {n : Nat} (h : n ≤ 1) : RowP ws 0 (List.replicate n 32) := ⟨by rw [wordsL_rep]; rfl, fun _ => ⟨n, rfl⟩, rep_c, by rw [List.length_replicate]; omega⟩
theorem RowP.put {ws : List Str} {k n : Nat} {rp : List Nat} {w : Str} (h : RowP ws k rp) (hw : ws[k]? = some w) (hs : WdS w) (h0 : k = 0 → n = 0) (h1 : 0 < k → 1 ≤ n ∧ n ≤ 2) : RowP ws (k + 1) (rp ++ List.replicate n 32 ++ w.cps.toList) := by
 have hn : n ≤ 2 := by
   by_cases hk : k = 0
   · have := h0 hk; omega
   · exact (h1 (by omega)).2
 refine ⟨?_, fun q => absurd q (by omega), fun c hc => ?_, ?_⟩
 · rw [List.take_add_one, hw]
   by_cases hk : k = 0
   · obtain ⟨m, rfl⟩ := h.z hk
     rw [h0 hk, List.replicate_zero, List.append_nil, wordsL_sp, wordsL_word hs.ne hs.sp, hk]
     show [txs w.cps.toList] = [] ++ [w]
     rw [txs_of]; rfl
   · have hk1 := h1 (by omega)
     obtain ⟨j, rfl⟩ : ∃ j, n = j + 1 := ⟨n - 1, by omega⟩
     rw [wordsL_put hs.ne hs.sp, List.map_append, h.w]
     show _ ++ [txs w.cps.toList] = _ ++ [w]
     rw [txs_of]
 · rcases List.mem_append.mp hc with hc | hc
   · rcases List.mem_append.mp hc with hc | hc
     · exact h.c c hc
     · exact rep_c c hc
   · exact ⟨hs.lt c hc, fun q => hs.nl (by rw [← q]; exact hc)⟩
 · have := h.l
   have := hs.len
   simp only [List.length_append, List.length_replicate]
   omega
theorem RowP.fin {ws : List Str} {rp : List Nat} (h : RowP ws ws.length rp) (n : Nat) : (wordsL (rp ++ List.replicate n 32)).map txs = ws ∧ 10 ∉ rp ++ List.replicate n 32 ∧ ∀ c ∈ rp ++ List.replicate n 32, c < 1000 := by
 have hc : ∀ c ∈ rp ++ List.replicate n 32, c < 1000 ∧ c ≠ 10 := fun c hc => by
   rcases List.mem_append.mp hc with hc | hc
   · exact h.c c hc
   · exact rep_c c hc
 refine ⟨by rw [wordsL_end, h.w, List.take_length], fun q => (hc 10 q).2 rfl, fun c q => (hc c q).1⟩
theorem take_add_at {α : Type} {l : List α} {i : Nat} {x : α} (h : l[i]? = some x) : l.take (i + 1) = l.take i ++ [x] := by
 rw [List.take_add_one, h]; rfl
theorem sm_ws {ls : List Leg} {ss : List Sm} (h : PlanOk ls ss) {x : Sm} (hx : x ∈ ss) : (∀ w ∈ smW x, WdS w) ∧ smW x ≠ [] ∧ (smW x).length ≤ 13 ∧ itemF (smW x) = some (.inr x) := by
 refine ⟨smW_ws (h.sn x hx) (h.sj x hx) fun l hl => ⟨?_, (h.sw x hx).wd l hl⟩, by simp [smW, smW0], ?_, item_smW (h.smt x hx) (h.sw x hx).l1⟩
 · obtain ⟨y, hy, e⟩ := List.mem_map.mp ((h.sw x hx).mem l hl)
   rw [← e]; exact h.ln y hy
 · have h4 := (h.sw x hx).l4
   unfold smW
   rw [List.length_append, legs_flat_len]
   show 5 + _ ≤ 13
   omega
theorem ln_ws {ls : List Leg} {ss : List Sm} (h : PlanOk ls ss) {l : Leg} (hl : l ∈ ls) : (∀ w ∈ lnW l, WdS w) ∧ lnW l ≠ [] ∧ (lnW l).length ≤ 13 ∧ itemF (lnW l) = some (.inl l) := ⟨lnW_ws (h.ln l hl) (h.lw l hl), by simp, by simp, item_lnW (h.lw l hl)⟩
theorem c_addT {a b : List Nat} {M : Mem} {Φ : D → Mem → Prop} (h : a.length + b.length ≤ 300000) (k : Φ (.str (txs (a ++ b))) M) : OpD rAddU (.str (txs a)) (.str (txs b)) M Φ := od_addS (by rw [txs_len, txs_len]; exact Nat.le_trans h (by decide)) (by rw [txs_add]; exact k)
theorem c_mulsp {n : Int} {M : Mem} {Φ : D → Mem → Prop} (h0 : 0 ≤ n) (h3 : n ≤ 3) (k : Φ (.str (txs (List.replicate n.toNat 32))) M) : OpD rMulU (.str (Str.ofString " ")) (.int n) M Φ := by
 rw [sp_is]
 exact od_mulStr (mul_sp h0 h3).1 (by rw [(mul_sp h0 h3).2]; exact k)
theorem c_addN {a : List Nat} {M : Mem} {Φ : D → Mem → Prop} (h : a.length ≤ 90000) (k : Φ (.str (txs (a ++ [10]))) M) : OpD rAddU (.str (txs a)) (.str (Str.ofString "\n")) M Φ := by
 rw [nl_is]
 exact c_addT (by simp; omega) k
theorem c_addW {a : List Nat} {w : Str} {M : Mem} {Φ : D → Mem → Prop} (h : a.length + w.cps.toList.length ≤ 100000) (k : Φ (.str (txs (a ++ w.cps.toList))) M) : OpD rAddU (.str (txs a)) (.str w) M Φ := by
 have := c_addT (a := a) (b := w.cps.toList) (M := M) (Φ := Φ) (by omega) k
 rw [txs_of] at this
 exact this
abbrev s_law_loose : Stmt := top 43
def n_law_loose : List Str := ["_law_state", "_law_rows_here", "_law_lanes", "_law_ahead", "_law_behind", "_law_text", "_law_kind", "_law_row", "_law_place", "_law_word"]
theorem sc_law_loose : FnScope n_law_loose ["_law_state", "_law_rows_here", "_law_lanes"] (defScope s_law_loose) := ⟨rfl, rfl, rfl, by decide +kernel, rfl, by decide +kernel, by decide +kernel⟩
theorem d_law_loose {P : Program} {w : World} {K : PySem.W.Frag} {mg : Str → Option Value} {base : Heap} {f : Addr} {fd : FuncData} (F : Fun K "_law_loose" "_law_loose" s_law_loose f fd)
   (G_len : mg "len" = none) (D_law_take : Def P w K mg base 1 "_law_take" ["_law_state", "_law_many"] pTake) (G_enumerate : mg "enumerate" = none) (G_min : mg "min" = none) : FnOk P w K mg base CX0 2 f fd ["_law_state", "_law_rows_here", "_law_lanes"] (lift pLoose) := by
 refine fnok_of (N := n_law_loose) (k := 1) F sc_law_loose (fun ds M Φ h => by obtain ⟨s, g, b, M', ls, ss, rfl, rfl, hpo, hb, k⟩ := h; rfl) fun X B I ds M Φ h => ?_
 obtain ⟨s, g, b, M', ls, ss, rfl, rfl, hpo, hb, k⟩ := h
 obtain ⟨rfl, rfl, rfl, rfl, rfl, hN, hs, hf, z, xe⟩ := I
 have hp := passes_of xe
 have n0 : Lo X 0 "_law_state" := lo_of hN hs hf (by decide +kernel)
 have n1 : Lo X 1 "_law_rows_here" := lo_of hN hs hf (by decide +kernel)
 have n2 : Lo X 2 "_law_lanes" := lo_of hN hs hf (by decide +kernel)
 have n3 : Lo X 3 "_law_ahead" := lo_of hN hs hf (by decide +kernel)
 have n4 : Lo X 4 "_law_behind" := lo_of hN hs hf (by decide +kernel)
 have n5 : Lo X 5 "_law_text" := lo_of hN hs hf (by decide +kernel)
 have n6 : Lo X 6 "_law_kind" := lo_of hN hs hf (by decide +kernel)
 have n7 : Lo X 7 "_law_row" := lo_of hN hs hf (by decide +kernel)
 have n8 : Lo X 8 "_law_place" := lo_of hN hs hf (by decide +kernel)
 have n9 : Lo X 9 "_law_word" := lo_of hN hs hf (by decide +kernel)
 have g_len : Gn X "len" := gn_of hs (by decide +kernel) G_len
 have l_law_take : Gl X "_law_take" := gl_of hs (by decide +kernel)
 have g_enumerate : Gn X "enumerate" := gn_of hs (by decide +kernel) G_enumerate
 have g_min : Gn X "min" := gn_of hs (by decide +kernel) G_min
 clear F hf
 change DSs _ X (_ :: _) [_, _, _, _, _, _, _, _, _, _] _ _
 have h6 := hpo.l6
 have h8 := hpo.s8
 have e1 : cutD ((ls.map lnW ++ ss.map smW).map rD) none (some (ls.length : Int)) = ((ls.drop 0).map lnW).map rD := by
   rw [cut_to (by omega), List.map_append, List.take_append_of_le_length (by simp), List.take_of_length_le (by simp)]; rfl
 have e2 : cutD ((ls.map lnW ++ ss.map smW).map rD) (some (ls.length : Int)) none = ((ss.drop 0).map smW).map rD := by
   rw [cut_from (by omega), List.map_append, List.drop_append_of_le_length (by simp), List.drop_of_length_le (by simp)]; rfl
 repeat' ((fail_if_success refine (stSet "_law_ahead") ?_); kpc_text)
 refine ds_cons (ds_own 1 z n3 (df_slice ?_))
 repeat' kpc_text
 refine ⟨_, .val _, fun qa => ?_⟩
 rw [e1]
 repeat' ((fail_if_success refine (stSet "_law_behind") ?_); kpc_text)
 refine ds_cons (ds_own 2 z n4 (df_slice ?_))
 repeat' kpc_text
 refine ⟨_, .val _, fun qb => ?_⟩
 rw [e2]
 repeat' ((fail_if_success refine stWhile ?_); kpc_text)
 rw [show Str.ofString "" = txs [] from by decide +kernel]
 repeat' ((fail_if_success refine stWhile ?_); kpc_text)
 first | refine ds_cons (ds_whileC [5, 6, 7, 8, 9] (by assumption) (fun m vs M1 => (∃ (i j : Nat) (b1 : Nat) (sg : List Nat) (o6 o7 o8 o9 : Option D), [some (.str (txs sg)), o6, o7, o8, o9] = vs ∧ (s, .st g b1) :: (qa, .lst (((ls.drop i).map lnW).map rD)) :: (qb, .lst (((ss.drop j).map smW).map rD)) :: M' = M1 ∧ (i ≤ ls.length ∧ j ≤ ss.length ∧ m + (i + j) = ls.length + ss.length) ∧ (b ≤ b1 + 40 * (i + j)) ∧ (sg.length ≤ 300 * (i + j)) ∧ (∀ c ∈ sg, c < 1000) ∧ (0 < m → Told sg (ls.take i) (ss.take j)) ∧ (m = 0 → readF (txs sg) = (none, ls, ss)))) ⟨ls.length + ss.length, ⟨0, 0, b, [], _, _, _, _, rfl, rfl, (⟨by omega, by omega, by omega⟩), (by omega), (by simp), ((fun c hc => by cases hc)), (fun _ => Told.nil), (fun hz => (by rw [Told.nil.last, show ls = [] from List.length_eq_zero_iff.mp (by omega), show ss = [] from List.length_eq_zero_iff.mp (by omega)]))⟩⟩ ?_) | refine ds_whileC [5, 6, 7, 8, 9] (by assumption) (fun m vs M1 => (∃ (i j : Nat) (b1 : Nat) (sg : List Nat) (o6 o7 o8 o9 : Option D), [some (.str (txs sg)), o6, o7, o8, o9] = vs ∧ (s, .st g b1) :: (qa, .lst (((ls.drop i).map lnW).map rD)) :: (qb, .lst (((ss.drop j).map smW).map rD)) :: M' = M1 ∧ (i ≤ ls.length ∧ j ≤ ss.length ∧ m + (i + j) = ls.length + ss.length) ∧ (b ≤ b1 + 40 * (i + j)) ∧ (sg.length ≤ 300 * (i + j)) ∧ (∀ c ∈ sg, c < 1000) ∧ (0 < m → Told sg (ls.take i) (ss.take j)) ∧ (m = 0 → readF (txs sg) = (none, ls, ss)))) ⟨ls.length + ss.length, ⟨0, 0, b, [], _, _, _, _, rfl, rfl, (⟨by omega, by omega, by omega⟩), (by omega), (by simp), ((fun c hc => by cases hc)), (fun _ => Told.nil), (fun hz => (by rw [Told.nil.last, show ls = [] from List.length_eq_zero_iff.mp (by omega), show ss = [] from List.length_eq_zero_iff.mp (by omega)]))⟩⟩ ?_
 rintro m vs δ M1 ⟨i, j, b1, sg, o6, o7, o8, o9, rfl, rfl, hij, hb1, hsl, hsc, hto, hfi⟩ hδ
 obtain rfl : δ = [_, _, _, _, _, _, o6, o7, o8, o9] := hδ
 repeat' ((fail_if_success refine stIf ?_); kpc_text)
 · rename_i hpos kd hk0 hk1
   have hm : 0 < m := by simp only [List.length_map, List.length_drop] at hpos; omega
   refine ds_cutC [5] (fun vs M1 => (∃ (b2 : Nat) (sg1 : List Nat), [some (.str (txs sg1))] = vs ∧ (s, .st g b2) :: (qa, .lst (((ls.drop i).map lnW).map rD)) :: (qb, .lst (((ss.drop j).map smW).map rD)) :: M' = M1 ∧ (b1 ≤ b2 + 2) ∧ (sg1.length ≤ sg.length + 3) ∧ (∀ c ∈ sg1, c < 1000) ∧ (Told sg1 (ls.take i) (ss.take j)))) ?_ ?_
   · repeat' kpc_text
     · refine cd_lenS (by rw [txs_len]; exact Nat.le_trans (show _ ≤ 6000 by omega) (by decide)) ?_
       repeat' kpc_text
       · rename_i r hr0 hr1
         refine c_mulsp hr0 (by omega) ?_
         refine c_addT (by rw [List.length_replicate]; omega) ?_
         repeat' kpc_text
         refine c_addN (by rw [List.length_append, List.length_replicate]; omega) ?_
         repeat' kpc_text
         exact ⟨[_], rfl, _, sg ++ List.replicate r.toNat 32 ++ [10], rfl, rfl, (by omega), (by simp only [List.length_append, List.length_replicate, List.length_cons, List.length_nil]; omega), ((fun c hc => by rcases List.mem_append.mp hc with hc | hc; rcases List.mem_append.mp hc with hc | hc; exact hsc c hc; exact (rep_c c hc).1; rw [List.mem_singleton.mp hc]; decide)), ((hto hm).blank _)⟩
       · exact ⟨[_], rfl, _, sg, rfl, rfl, (by omega), (by omega), (hsc), (hto hm)⟩
     · exact ⟨[_], rfl, _, sg, rfl, rfl, (by omega), (by omega), (hsc), (hto hm)⟩
   · rintro vs δ M1 ⟨b2, sg1, rfl, rfl, hb2, hsl1, hsc1, hto1⟩ hδ
     obtain rfl : δ = [_, _, _, _, _, _, _, _, _, _] := hδ
     have hb2 : b1 ≤ b2 + 2 := hb2
     have hil := hij.1
     have hjl := hij.2.1
     have hms := hij.2.2
     repeat' kpc_text
     · rename_i c1 r hr0 hr1
       have hLT : i < ls.length := by simp only [List.length_map, List.length_drop] at *; omega
       obtain ⟨u, hu⟩ : ∃ u, ls[i]? = some u := ⟨_, List.getElem?_eq_getElem hLT⟩
       obtain ⟨hws, hne, hwl, hit⟩ := ln_ws hpo (List.mem_of_getElem? hu)
       have hdr : ls.drop i = u :: ls.drop (i + 1) := by
         rw [List.drop_eq_getElem_cons hLT, (List.getElem?_eq_some_iff.mp hu).2]
       rw [hdr]
       refine c_mulsp (by omega) (by omega) ?_
       refine c_addT (by rw [List.length_replicate]; omega) ?_
       repeat' ((fail_if_success refine stFor ?_); kpc_text)
       first | refine ds_cons (ds_forC [5, 6, 7, 8, 9] z (by assumption) (di_enum (by assumption) ?_)) | refine ds_forC [5, 6, 7, 8, 9] z (by assumption) (di_enum (by assumption) ?_)
       repeat' kpc_text
       refine mt_popD (j := 1) (m := 0) (d := rD (lnW u)) (ds := ((u :: ls.drop (i + 1)).map lnW).map rD) rfl (by decide) (by decide) (seqIndex_of (by decide) (by simp)) rfl ?_
       refine ⟨_, rfl, ?_⟩
       refine ⟨fun e vs M1 => (∃ (b3 : Nat) (rp : List Nat) (o6 o7 o8 o9 : Option D), [some (.str (txs (sg1 ++ rp))), o6, o7, o8, o9] = vs ∧ (s, .st g b3) :: (qa, .lst (((ls.drop (i + 1)).map lnW).map rD)) :: (qb, .lst (((ss.drop j).map smW).map rD)) :: M' = M1 ∧ (b2 ≤ b3 + 1 + e) ∧ (RowP (lnW u) e rp)), ⟨_, List.replicate (r / 3).toNat 32, _, _, _, _, rfl, rfl, (by omega), (RowP.nil (by omega))⟩, ?_, ?_⟩
       · rintro e x vs δ M1 hx ⟨b3, rp, o6, o7, o8, o9, rfl, rfl, hb3, hrp⟩ hδ
         obtain rfl : δ = [_, _, _, _, _, _, o6, o7, o8, o9] := hδ
         obtain ⟨y0, hy0, rfl⟩ := enum_get hx
         obtain ⟨w, hw, rfl⟩ := map_get hy0
         have hel := (List.getElem?_eq_some_iff.mp hw).1
         have hwd := hws w (List.mem_of_getElem? hw)
         repeat' kpc_text
         rename_i q hq0 hq1
         obtain ⟨n, hn, hn0, hn1⟩ : ∃ n : Nat, min 1 (e : Int) + q / 5 * min 1 (e : Int) = (n : Int) ∧ (e = 0 → n = 0) ∧ (0 < e → 1 ≤ n ∧ n ≤ 2) := by
           have hme : (e = 0 ∧ min 1 (e : Int) = 0) ∨ (0 < e ∧ min 1 (e : Int) = 1) := by omega
           rcases hme with ⟨h1, h2⟩ | ⟨h1, h2⟩
           · rw [h2]; exact ⟨0, by omega, fun _ => rfl, fun h => absurd h (by omega)⟩
           · rw [h2]; exact ⟨(1 + q / 5 * 1).toNat, by omega, fun h => absurd h (by omega), fun _ => by omega⟩
         have hn2 : n ≤ 2 := by
           by_cases h : e = 0
           · have := hn0 h; omega
           · exact (hn1 (by omega)).2
         have hrl := hrp.l
         have hwl2 := hwd.len
         rw [hn]
         refine c_mulsp (by omega) (by omega) ?_
         rw [Int.toNat_natCast]
         refine c_addT (by simp only [List.length_append, List.length_replicate]; omega) ?_
         repeat' kpc_text
         refine c_addW (by simp only [List.length_append, List.length_replicate]; omega) ?_
         rw [show sg1 ++ rp ++ List.replicate n 32 ++ w.cps.toList = sg1 ++ (rp ++ List.replicate n 32 ++ w.cps.toList) by simp]
         repeat' kpc_text
         exact ⟨[_, _, _, _, _], rfl, _, rp ++ List.replicate n 32 ++ w.cps.toList, _, _, _, _, rfl, rfl, (by omega), (hrp.put hw hwd hn0 hn1)⟩
       · rintro vs δ M1 ⟨b3, rp, o6, o7, o8, o9, rfl, rfl, hb3, hrp⟩ hδ
         obtain rfl : δ = [_, _, _, _, _, _, o6, o7, o8, o9] := hδ
         try simp only [range_len, List.length_map, enum_len] at hb3 hrp
         have hrl := hrp.l
         repeat' kpc_text
         rename_i q hq0 hq1
         obtain ⟨f1, f2, f3⟩ := hrp.fin (q / 3).toNat
         refine c_mulsp (by omega) (by omega) ?_
         refine c_addT (by simp only [List.length_append, List.length_replicate]; omega) ?_
         have hrr : (rp ++ List.replicate (q / 3).toNat 32).length ≤ 160 := by simp only [List.length_append, List.length_replicate]; omega
         rw [List.append_assoc]
         generalize rp ++ List.replicate (q / 3).toNat 32 = rr at f1 f2 f3 hrr
         have hT : Told (sg1 ++ rr ++ [10]) (ls.take (i + 1)) (ss.take j) := by
           rw [take_add_at hu]
           exact hto1.row f2 fun a more => go_lane f1 hne hit a _ _ more
         have hF : m = 1 → readF (txs (sg1 ++ rr)) = (none, ls, ss) := fun h1 => by
           have e0 : readF (txs (sg1 ++ rr)) = (none, (ls.take (i + 1)), (ss.take j)) := by
             rw [take_add_at hu]
             exact hto1.fin f2 fun a more => go_lane f1 hne hit a _ _ more
           rw [e0, List.take_of_length_le (by omega), List.take_of_length_le (by omega)]
         have hG : m = 1 → readF (txs (sg1 ++ rr ++ [10])) = (none, ls, ss) := fun h1 => by
           rw [hT.last, List.take_of_length_le (by omega), List.take_of_length_le (by omega)]
         have hcc : ∀ c ∈ sg1 ++ rr, c < 1000 := fun c hc => (List.mem_append.mp hc).elim (hsc1 c) (f3 c)
         have hcc2 : ∀ c ∈ sg1 ++ rr ++ [10], c < 1000 := fun c hc => (List.mem_append.mp hc).elim (hcc c) fun q => by rw [List.mem_singleton.mp q]; decide
         repeat' kpc_text
         · refine c_addN (by simp only [List.length_append]; omega) ?_
           repeat' kpc_text
           exact ⟨[_, _, _, _, _], rfl, m - 1, (by omega), i + 1, j, _, sg1 ++ rr ++ [10], _, _, _, _, rfl, rfl, (⟨by omega, by omega, by omega⟩), (by omega), (by simp only [List.length_append, List.length_cons, List.length_nil]; omega), (hcc2), (fun _ => hT), (fun h => hG (by omega))⟩
         · refine c_addN (by simp only [List.length_append]; omega) ?_
           repeat' kpc_text
           exact ⟨[_, _, _, _, _], rfl, m - 1, (by omega), i + 1, j, _, sg1 ++ rr ++ [10], _, _, _, _, rfl, rfl, (⟨by omega, by omega, by omega⟩), (by omega), (by simp only [List.length_append, List.length_cons, List.length_nil]; omega), (hcc2), (fun _ => hT), (fun h => hG (by omega))⟩
         · rename_i hz1 hz2
           exact ⟨[_, _, _, _, _], rfl, m - 1, (by omega), i + 1, j, _, sg1 ++ rr, _, _, _, _, rfl, rfl, (⟨by omega, by omega, by omega⟩), (by omega), (by simp only [List.length_append]; omega), (hcc), (fun h => absurd h (by simp only [List.length_map, List.length_drop] at *; omega)), (fun h => hF (by omega))⟩
     · rename_i c1 c2 c3 r hr0 hr1
       have hLT : i < ls.length := by simp only [List.length_map, List.length_drop] at *; omega
       obtain ⟨u, hu⟩ : ∃ u, ls[i]? = some u := ⟨_, List.getElem?_eq_getElem hLT⟩
       obtain ⟨hws, hne, hwl, hit⟩ := ln_ws hpo (List.mem_of_getElem? hu)
       have hdr : ls.drop i = u :: ls.drop (i + 1) := by
         rw [List.drop_eq_getElem_cons hLT, (List.getElem?_eq_some_iff.mp hu).2]
       rw [hdr]
       refine c_mulsp (by omega) (by omega) ?_
       refine c_addT (by rw [List.length_replicate]; omega) ?_
       repeat' ((fail_if_success refine stFor ?_); kpc_text)
       first | refine ds_cons (ds_forC [5, 6, 7, 8, 9] z (by assumption) (di_enum (by assumption) ?_)) | refine ds_forC [5, 6, 7, 8, 9] z (by assumption) (di_enum (by assumption) ?_)
       repeat' kpc_text
       refine mt_popD (j := 1) (m := 0) (d := rD (lnW u)) (ds := ((u :: ls.drop (i + 1)).map lnW).map rD) rfl (by decide) (by decide) (seqIndex_of (by decide) (by simp)) rfl ?_
       refine ⟨_, rfl, ?_⟩
       refine ⟨fun e vs M1 => (∃ (b3 : Nat) (rp : List Nat) (o6 o7 o8 o9 : Option D), [some (.str (txs (sg1 ++ rp))), o6, o7, o8, o9] = vs ∧ (s, .st g b3) :: (qa, .lst (((ls.drop (i + 1)).map lnW).map rD)) :: (qb, .lst (((ss.drop j).map smW).map rD)) :: M' = M1 ∧ (b2 ≤ b3 + 1 + e) ∧ (RowP (lnW u) e rp)), ⟨_, List.replicate (r / 3).toNat 32, _, _, _, _, rfl, rfl, (by omega), (RowP.nil (by omega))⟩, ?_, ?_⟩
       · rintro e x vs δ M1 hx ⟨b3, rp, o6, o7, o8, o9, rfl, rfl, hb3, hrp⟩ hδ
         obtain rfl : δ = [_, _, _, _, _, _, o6, o7, o8, o9] := hδ
         obtain ⟨y0, hy0, rfl⟩ := enum_get hx
         obtain ⟨w, hw, rfl⟩ := map_get hy0
         have hel := (List.getElem?_eq_some_iff.mp hw).1
         have hwd := hws w (List.mem_of_getElem? hw)
         repeat' kpc_text
         rename_i q hq0 hq1
         obtain ⟨n, hn, hn0, hn1⟩ : ∃ n : Nat, min 1 (e : Int) + q / 5 * min 1 (e : Int) = (n : Int) ∧ (e = 0 → n = 0) ∧ (0 < e → 1 ≤ n ∧ n ≤ 2) := by
           have hme : (e = 0 ∧ min 1 (e : Int) = 0) ∨ (0 < e ∧ min 1 (e : Int) = 1) := by omega
           rcases hme with ⟨h1, h2⟩ | ⟨h1, h2⟩
           · rw [h2]; exact ⟨0, by omega, fun _ => rfl, fun h => absurd h (by omega)⟩
           · rw [h2]; exact ⟨(1 + q / 5 * 1).toNat, by omega, fun h => absurd h (by omega), fun _ => by omega⟩
         have hn2 : n ≤ 2 := by
           by_cases h : e = 0
           · have := hn0 h; omega
           · exact (hn1 (by omega)).2
         have hrl := hrp.l
         have hwl2 := hwd.len
         rw [hn]
         refine c_mulsp (by omega) (by omega) ?_
         rw [Int.toNat_natCast]
         refine c_addT (by simp only [List.length_append, List.length_replicate]; omega) ?_
         repeat' kpc_text
         refine c_addW (by simp only [List.length_append, List.length_replicate]; omega) ?_
         rw [show sg1 ++ rp ++ List.replicate n 32 ++ w.cps.toList = sg1 ++ (rp ++ List.replicate n 32 ++ w.cps.toList) by simp]
         repeat' kpc_text
         exact ⟨[_, _, _, _, _], rfl, _, rp ++ List.replicate n 32 ++ w.cps.toList, _, _, _, _, rfl, rfl, (by omega), (hrp.put hw hwd hn0 hn1)⟩
       · rintro vs δ M1 ⟨b3, rp, o6, o7, o8, o9, rfl, rfl, hb3, hrp⟩ hδ
         obtain rfl : δ = [_, _, _, _, _, _, o6, o7, o8, o9] := hδ
         try simp only [range_len, List.length_map, enum_len] at hb3 hrp
         have hrl := hrp.l
         repeat' kpc_text
         rename_i q hq0 hq1
         obtain ⟨f1, f2, f3⟩ := hrp.fin (q / 3).toNat
         refine c_mulsp (by omega) (by omega) ?_
         refine c_addT (by simp only [List.length_append, List.length_replicate]; omega) ?_
         have hrr : (rp ++ List.replicate (q / 3).toNat 32).length ≤ 160 := by simp only [List.length_append, List.length_replicate]; omega
         rw [List.append_assoc]
         generalize rp ++ List.replicate (q / 3).toNat 32 = rr at f1 f2 f3 hrr
         have hT : Told (sg1 ++ rr ++ [10]) (ls.take (i + 1)) (ss.take j) := by
           rw [take_add_at hu]
           exact hto1.row f2 fun a more => go_lane f1 hne hit a _ _ more
         have hF : m = 1 → readF (txs (sg1 ++ rr)) = (none, ls, ss) := fun h1 => by
           have e0 : readF (txs (sg1 ++ rr)) = (none, (ls.take (i + 1)), (ss.take j)) := by
             rw [take_add_at hu]
             exact hto1.fin f2 fun a more => go_lane f1 hne hit a _ _ more
           rw [e0, List.take_of_length_le (by omega), List.take_of_length_le (by omega)]
         have hG : m = 1 → readF (txs (sg1 ++ rr ++ [10])) = (none, ls, ss) := fun h1 => by
           rw [hT.last, List.take_of_length_le (by omega), List.take_of_length_le (by omega)]
         have hcc : ∀ c ∈ sg1 ++ rr, c < 1000 := fun c hc => (List.mem_append.mp hc).elim (hsc1 c) (f3 c)
         have hcc2 : ∀ c ∈ sg1 ++ rr ++ [10], c < 1000 := fun c hc => (List.mem_append.mp hc).elim (hcc c) fun q => by rw [List.mem_singleton.mp q]; decide
         repeat' kpc_text
         refine c_addN (by simp only [List.length_append]; omega) ?_
         repeat' kpc_text
         exact ⟨[_, _, _, _, _], rfl, m - 1, (by omega), i + 1, j, _, sg1 ++ rr ++ [10], _, _, _, _, rfl, rfl, (⟨by omega, by omega, by omega⟩), (by omega), (by simp only [List.length_append, List.length_cons, List.length_nil]; omega), (hcc2), (fun _ => hT), (fun h => hG (by omega))⟩
     · rename_i c1 c2 c3 r hr0 hr1
       have hLT : j < ss.length := by simp only [List.length_map, List.length_drop] at *; omega
       obtain ⟨u, hu⟩ : ∃ u, ss[j]? = some u := ⟨_, List.getElem?_eq_getElem hLT⟩
       obtain ⟨hws, hne, hwl, hit⟩ := sm_ws hpo (List.mem_of_getElem? hu)
       have hdr : ss.drop j = u :: ss.drop (j + 1) := by
         rw [List.drop_eq_getElem_cons hLT, (List.getElem?_eq_some_iff.mp hu).2]
       rw [hdr]
       refine c_mulsp (by omega) (by omega) ?_
       refine c_addT (by rw [List.length_replicate]; omega) ?_
       repeat' ((fail_if_success refine stFor ?_); kpc_text)
       first | refine ds_cons (ds_forC [5, 6, 7, 8, 9] z (by assumption) (di_enum (by assumption) ?_)) | refine ds_forC [5, 6, 7, 8, 9] z (by assumption) (di_enum (by assumption) ?_)
       repeat' kpc_text
       refine mt_popD (j := 2) (m := 0) (d := rD (smW u)) (ds := ((u :: ss.drop (j + 1)).map smW).map rD) rfl (by decide) (by decide) (seqIndex_of (by decide) (by simp)) rfl ?_
       refine ⟨_, rfl, ?_⟩
       refine ⟨fun e vs M1 => (∃ (b3 : Nat) (rp : List Nat) (o6 o7 o8 o9 : Option D), [some (.str (txs (sg1 ++ rp))), o6, o7, o8, o9] = vs ∧ (s, .st g b3) :: (qa, .lst (((ls.drop i).map lnW).map rD)) :: (qb, .lst (((ss.drop (j + 1)).map smW).map rD)) :: M' = M1 ∧ (b2 ≤ b3 + 1 + e) ∧ (RowP (smW u) e rp)), ⟨_, List.replicate (r / 3).toNat 32, _, _, _, _, rfl, rfl, (by omega), (RowP.nil (by omega))⟩, ?_, ?_⟩
       · rintro e x vs δ M1 hx ⟨b3, rp, o6, o7, o8, o9, rfl, rfl, hb3, hrp⟩ hδ
         obtain rfl : δ = [_, _, _, _, _, _, o6, o7, o8, o9] := hδ
         obtain ⟨y0, hy0, rfl⟩ := enum_get hx
         obtain ⟨w, hw, rfl⟩ := map_get hy0
         have hel := (List.getElem?_eq_some_iff.mp hw).1
         have hwd := hws w (List.mem_of_getElem? hw)
         repeat' kpc_text
         rename_i q hq0 hq1
         obtain ⟨n, hn, hn0, hn1⟩ : ∃ n : Nat, min 1 (e : Int) + q / 5 * min 1 (e : Int) = (n : Int) ∧ (e = 0 → n = 0) ∧ (0 < e → 1 ≤ n ∧ n ≤ 2) := by
           have hme : (e = 0 ∧ min 1 (e : Int) = 0) ∨ (0 < e ∧ min 1 (e : Int) = 1) := by omega
           rcases hme with ⟨h1, h2⟩ | ⟨h1, h2⟩
           · rw [h2]; exact ⟨0, by omega, fun _ => rfl, fun h => absurd h (by omega)⟩
           · rw [h2]; exact ⟨(1 + q / 5 * 1).toNat, by omega, fun h => absurd h (by omega), fun _ => by omega⟩
         have hn2 : n ≤ 2 := by
           by_cases h : e = 0
           · have := hn0 h; omega
           · exact (hn1 (by omega)).2
         have hrl := hrp.l
         have hwl2 := hwd.len
         rw [hn]
         refine c_mulsp (by omega) (by omega) ?_
         rw [Int.toNat_natCast]
         refine c_addT (by simp only [List.length_append, List.length_replicate]; omega) ?_
         repeat' kpc_text
         refine c_addW (by simp only [List.length_append, List.length_replicate]; omega) ?_
         rw [show sg1 ++ rp ++ List.replicate n 32 ++ w.cps.toList = sg1 ++ (rp ++ List.replicate n 32 ++ w.cps.toList) by simp]
         repeat' kpc_text
         exact ⟨[_, _, _, _, _], rfl, _, rp ++ List.replicate n 32 ++ w.cps.toList, _, _, _, _, rfl, rfl, (by omega), (hrp.put hw hwd hn0 hn1)⟩
       · rintro vs δ M1 ⟨b3, rp, o6, o7, o8, o9, rfl, rfl, hb3, hrp⟩ hδ
         obtain rfl : δ = [_, _, _, _, _, _, o6, o7, o8, o9] := hδ
         try simp only [range_len, List.length_map, enum_len] at hb3 hrp
         have hrl := hrp.l
         repeat' kpc_text
         rename_i q hq0 hq1
         obtain ⟨f1, f2, f3⟩ := hrp.fin (q / 3).toNat
         refine c_mulsp (by omega) (by omega) ?_
         refine c_addT (by simp only [List.length_append, List.length_replicate]; omega) ?_
         have hrr : (rp ++ List.replicate (q / 3).toNat 32).length ≤ 160 := by simp only [List.length_append, List.length_replicate]; omega
         rw [List.append_assoc]
         generalize rp ++ List.replicate (q / 3).toNat 32 = rr at f1 f2 f3 hrr
         have hT : Told (sg1 ++ rr ++ [10]) (ls.take i) (ss.take (j + 1)) := by
           rw [take_add_at hu]
           exact hto1.row f2 fun a more => go_stream f1 hne hit a _ _ more
         have hF : m = 1 → readF (txs (sg1 ++ rr)) = (none, ls, ss) := fun h1 => by
           have e0 : readF (txs (sg1 ++ rr)) = (none, (ls.take i), (ss.take (j + 1))) := by
             rw [take_add_at hu]
             exact hto1.fin f2 fun a more => go_stream f1 hne hit a _ _ more
           rw [e0, List.take_of_length_le (by omega), List.take_of_length_le (by omega)]
         have hG : m = 1 → readF (txs (sg1 ++ rr ++ [10])) = (none, ls, ss) := fun h1 => by
           rw [hT.last, List.take_of_length_le (by omega), List.take_of_length_le (by omega)]
         have hcc : ∀ c ∈ sg1 ++ rr, c < 1000 := fun c hc => (List.mem_append.mp hc).elim (hsc1 c) (f3 c)
         have hcc2 : ∀ c ∈ sg1 ++ rr ++ [10], c < 1000 := fun c hc => (List.mem_append.mp hc).elim (hcc c) fun q => by rw [List.mem_singleton.mp q]; decide
         repeat' kpc_text
         refine c_addN (by simp only [List.length_append]; omega) ?_
         repeat' kpc_text
         exact ⟨[_, _, _, _, _], rfl, m - 1, (by omega), i, j + 1, _, sg1 ++ rr ++ [10], _, _, _, _, rfl, rfl, (⟨by omega, by omega, by omega⟩), (by omega), (by simp only [List.length_append, List.length_cons, List.length_nil]; omega), (hcc2), (fun _ => hT), (fun h => hG (by omega))⟩
     · rename_i c1 c2 r hr0 hr1
       have hLT : j < ss.length := by simp only [List.length_map, List.length_drop] at *; omega
       obtain ⟨u, hu⟩ : ∃ u, ss[j]? = some u := ⟨_, List.getElem?_eq_getElem hLT⟩
       obtain ⟨hws, hne, hwl, hit⟩ := sm_ws hpo (List.mem_of_getElem? hu)
       have hdr : ss.drop j = u :: ss.drop (j + 1) := by
         rw [List.drop_eq_getElem_cons hLT, (List.getElem?_eq_some_iff.mp hu).2]
       rw [hdr]
       refine c_mulsp (by omega) (by omega) ?_
       refine c_addT (by rw [List.length_replicate]; omega) ?_
       repeat' ((fail_if_success refine stFor ?_); kpc_text)
       first | refine ds_cons (ds_forC [5, 6, 7, 8, 9] z (by assumption) (di_enum (by assumption) ?_)) | refine ds_forC [5, 6, 7, 8, 9] z (by assumption) (di_enum (by assumption) ?_)
       repeat' kpc_text
       refine mt_popD (j := 2) (m := 0) (d := rD (smW u)) (ds := ((u :: ss.drop (j + 1)).map smW).map rD) rfl (by decide) (by decide) (seqIndex_of (by decide) (by simp)) rfl ?_
       refine ⟨_, rfl, ?_⟩
       refine ⟨fun e vs M1 => (∃ (b3 : Nat) (rp : List Nat) (o6 o7 o8 o9 : Option D), [some (.str (txs (sg1 ++ rp))), o6, o7, o8, o9] = vs ∧ (s, .st g b3) :: (qa, .lst (((ls.drop i).map lnW).map rD)) :: (qb, .lst (((ss.drop (j + 1)).map smW).map rD)) :: M' = M1 ∧ (b2 ≤ b3 + 1 + e) ∧ (RowP (smW u) e rp)), ⟨_, List.replicate (r / 3).toNat 32, _, _, _, _, rfl, rfl, (by omega), (RowP.nil (by omega))⟩, ?_, ?_⟩
       · rintro e x vs δ M1 hx ⟨b3, rp, o6, o7, o8, o9, rfl, rfl, hb3, hrp⟩ hδ
         obtain rfl : δ = [_, _, _, _, _, _, o6, o7, o8, o9] := hδ
         obtain ⟨y0, hy0, rfl⟩ := enum_get hx
         obtain ⟨w, hw, rfl⟩ := map_get hy0
         have hel := (List.getElem?_eq_some_iff.mp hw).1
         have hwd := hws w (List.mem_of_getElem? hw)
         repeat' kpc_text
         rename_i q hq0 hq1
         obtain ⟨n, hn, hn0, hn1⟩ : ∃ n : Nat, min 1 (e : Int) + q / 5 * min 1 (e : Int) = (n : Int) ∧ (e = 0 → n = 0) ∧ (0 < e → 1 ≤ n ∧ n ≤ 2) := by
           have hme : (e = 0 ∧ min 1 (e : Int) = 0) ∨ (0 < e ∧ min 1 (e : Int) = 1) := by omega
           rcases hme with ⟨h1, h2⟩ | ⟨h1, h2⟩
           · rw [h2]; exact ⟨0, by omega, fun _ => rfl, fun h => absurd h (by omega)⟩
           · rw [h2]; exact ⟨(1 + q / 5 * 1).toNat, by omega, fun h => absurd h (by omega), fun _ => by omega⟩
         have hn2 : n ≤ 2 := by
           by_cases h : e = 0
           · have := hn0 h; omega
           · exact (hn1 (by omega)).2
         have hrl := hrp.l
         have hwl2 := hwd.len
         rw [hn]
         refine c_mulsp (by omega) (by omega) ?_
         rw [Int.toNat_natCast]
         refine c_addT (by simp only [List.length_append, List.length_replicate]; omega) ?_
         repeat' kpc_text
         refine c_addW (by simp only [List.length_append, List.length_replicate]; omega) ?_
         rw [show sg1 ++ rp ++ List.replicate n 32 ++ w.cps.toList = sg1 ++ (rp ++ List.replicate n 32 ++ w.cps.toList) by simp]
         repeat' kpc_text
         exact ⟨[_, _, _, _, _], rfl, _, rp ++ List.replicate n 32 ++ w.cps.toList, _, _, _, _, rfl, rfl, (by omega), (hrp.put hw hwd hn0 hn1)⟩
       · rintro vs δ M1 ⟨b3, rp, o6, o7, o8, o9, rfl, rfl, hb3, hrp⟩ hδ
         obtain rfl : δ = [_, _, _, _, _, _, o6, o7, o8, o9] := hδ
         try simp only [range_len, List.length_map, enum_len] at hb3 hrp
         have hrl := hrp.l
         repeat' kpc_text
         rename_i q hq0 hq1
         obtain ⟨f1, f2, f3⟩ := hrp.fin (q / 3).toNat
         refine c_mulsp (by omega) (by omega) ?_
         refine c_addT (by simp only [List.length_append, List.length_replicate]; omega) ?_
         have hrr : (rp ++ List.replicate (q / 3).toNat 32).length ≤ 160 := by simp only [List.length_append, List.length_replicate]; omega
         rw [List.append_assoc]
         generalize rp ++ List.replicate (q / 3).toNat 32 = rr at f1 f2 f3 hrr
         have hT : Told (sg1 ++ rr ++ [10]) (ls.take i) (ss.take (j + 1)) := by
           rw [take_add_at hu]
           exact hto1.row f2 fun a more => go_stream f1 hne hit a _ _ more
         have hF : m = 1 → readF (txs (sg1 ++ rr)) = (none, ls, ss) := fun h1 => by
           have e0 : readF (txs (sg1 ++ rr)) = (none, (ls.take i), (ss.take (j + 1))) := by
             rw [take_add_at hu]
             exact hto1.fin f2 fun a more => go_stream f1 hne hit a _ _ more
           rw [e0, List.take_of_length_le (by omega), List.take_of_length_le (by omega)]
         have hG : m = 1 → readF (txs (sg1 ++ rr ++ [10])) = (none, ls, ss) := fun h1 => by
           rw [hT.last, List.take_of_length_le (by omega), List.take_of_length_le (by omega)]
         have hcc : ∀ c ∈ sg1 ++ rr, c < 1000 := fun c hc => (List.mem_append.mp hc).elim (hsc1 c) (f3 c)
         have hcc2 : ∀ c ∈ sg1 ++ rr ++ [10], c < 1000 := fun c hc => (List.mem_append.mp hc).elim (hcc c) fun q => by rw [List.mem_singleton.mp q]; decide
         repeat' kpc_text
         · refine c_addN (by simp only [List.length_append]; omega) ?_
           repeat' kpc_text
           exact ⟨[_, _, _, _, _], rfl, m - 1, (by omega), i, j + 1, _, sg1 ++ rr ++ [10], _, _, _, _, rfl, rfl, (⟨by omega, by omega, by omega⟩), (by omega), (by simp only [List.length_append, List.length_cons, List.length_nil]; omega), (hcc2), (fun _ => hT), (fun h => hG (by omega))⟩
         · refine c_addN (by simp only [List.length_append]; omega) ?_
           repeat' kpc_text
           exact ⟨[_, _, _, _, _], rfl, m - 1, (by omega), i, j + 1, _, sg1 ++ rr ++ [10], _, _, _, _, rfl, rfl, (⟨by omega, by omega, by omega⟩), (by omega), (by simp only [List.length_append, List.length_cons, List.length_nil]; omega), (hcc2), (fun _ => hT), (fun h => hG (by omega))⟩
         · rename_i hz1 hz2
           exact ⟨[_, _, _, _, _], rfl, m - 1, (by omega), i, j + 1, _, sg1 ++ rr, _, _, _, _, rfl, rfl, (⟨by omega, by omega, by omega⟩), (by omega), (by simp only [List.length_append]; omega), (hcc), (fun h => absurd h (by simp only [List.length_map, List.length_drop] at *; omega)), (fun h => hF (by omega))⟩
 · rename_i hz
   simp only [List.length_map, List.length_drop] at hz
   have hF := hfi (by omega)
   exact ⟨_, _, .sub (.cons₂ _ (.cons _ (.cons _ (.refl _)))), k _ b1 ⟨by rw [txs_len]; omega, hsc⟩ (by rw [txs_len]; omega) hF (by omega)⟩
def pSign : DSp := fun ds M Φ => ∃ s g b M', ds = [.raw (.ref s)] ∧ M = (s, .st g b) :: M' ∧ 2 ≤ b ∧ ∀ c b', c < 1000 → b ≤ b' + 2 → Φ (.str (txs [c])) ((s, .st g b') :: M')
abbrev sgA : Str := Str.ofString " \n0123456789abcdefghijklmnopqrstuvwxyz"
abbrev sgB : Str := Str.ofString "!\"#$&'()*+,-./:;<=>?@ABCDEFGHIJKLMNOPQRSTUVWXYZ[\\]^_`{|}~"
theorem sg_all : 38 ≤ (sgA ++ sgB).length ∧ (sgA ++ sgB).length ≤ 200 ∧ ∀ c ∈ (sgA ++ sgB).cps.toList, c < 1000 := by decide +kernel
abbrev s_law_sign : Stmt := top 44
def n_law_sign : List Str := ["_law_state", "_law_some"]
theorem sc_law_sign : FnScope n_law_sign ["_law_state"] (defScope s_law_sign) := ⟨rfl, rfl, rfl, by decide +kernel, rfl, by decide +kernel, by decide +kernel⟩
theorem d_law_sign {P : Program} {w : World} {K : PySem.W.Frag} {mg : Str → Option Value} {base : Heap} {f : Addr} {fd : FuncData} (F : Fun K "_law_sign" "_law_sign" s_law_sign f fd)
   (D_law_take : Def P w K mg base 1 "_law_take" ["_law_state", "_law_many"] pTake) (G_len : mg "len" = none) : FnOk P w K mg base CX0 2 f fd ["_law_state"] (lift pSign) := by
 refine fnok_of (N := n_law_sign) (k := 1) F sc_law_sign (fun ds M Φ h => by obtain ⟨s, g, b, M', rfl, rfl, hb, k⟩ := h; rfl) fun X B I ds M Φ h => ?_
 obtain ⟨s, g, b, M', rfl, rfl, hb, k⟩ := h
 obtain ⟨rfl, rfl, rfl, rfl, rfl, hN, hs, hf, z, xe⟩ := I
 have hp := passes_of xe
 have n0 : Lo X 0 "_law_state" := lo_of hN hs hf (by decide +kernel)
 have n1 : Lo X 1 "_law_some" := lo_of hN hs hf (by decide +kernel)
 have l_law_take : Gl X "_law_take" := gl_of hs (by decide +kernel)
 have g_len : Gn X "len" := gn_of hs (by decide +kernel) G_len
 clear F hf
 change DSs _ X (_ :: _) [_, _] _ _
 repeat' kpc_text
 refine od_addS (by decide +kernel) ?_
 have hl := sg_all
 show Sets _ _ (.str (sgA ++ sgB)) _
 generalize sgA ++ sgB = mz at hl ⊢
 obtain ⟨hl1, hl2, hl3⟩ := hl
 repeat' kpc_text
 refine cd_lenS (Nat.le_trans (show _ ≤ 200 by omega) (by decide)) ?_
 repeat' kpc_text
 rename_i t ht0 ht1
 refine od_ixM [12, 38, (mz.length : Int)] ht0 ht1 fun m hm => ?_
 have hm : m = 12 ∨ m = 38 ∨ m = mz.length := by simpa using hm
 have hm1 : 12 ≤ m ∧ m ≤ mz.length := by omega
 repeat' kpc_text
 rename_i r hr0 hr1
 have hrl : r.toNat < mz.cps.toList.length := by
   have : mz.length = mz.cps.toList.length := TL.len_tl mz
   omega
 obtain ⟨n, rfl⟩ : ∃ n : Nat, r = (n : Int) := ⟨r.toNat, by omega⟩
 have hrl : n < mz.cps.toList.length := by simpa using hrl
 refine od_ixS (c := mz.cps.toList[n]) (Nat.le_trans (show _ ≤ 200 by omega) (by decide)) (atI_nat (List.getElem?_eq_getElem hrl)) ?_
 exact ⟨_, _, .refl, k _ _ (hl3 _ (List.getElem_mem hrl)) (by omega)⟩
theorem get_splitT {α : Type} {xs : List α} {n : Nat} {x : α} (h : xs[n]? = some x) : xs = xs.take n ++ [x] ++ xs.drop (n + 1) := by
 have hn := (List.getElem?_eq_some_iff.mp h).1
 rw [List.append_assoc]
 show xs = xs.take n ++ (x :: xs.drop (n + 1))
 rw [← (List.getElem?_eq_some_iff.mp h).2, ← List.drop_eq_getElem_cons hn, List.take_append_drop]
structure TxN (n : Nat) (z : Str) : Prop where
 len : z.length ≤ n
 lt : ∀ c ∈ signs z, c < 1000
def wt (ps : List Str) : Nat := (ps.map fun p => p.length + 1).sum
theorem wt_app (a b : List Str) : wt (a ++ b) = wt a + wt b := by unfold wt; rw [List.map_append, List.sum_append]
theorem wt_cons (p : Str) (ps : List Str) : wt (p :: ps) = p.length + 1 + wt ps := by unfold wt; rw [List.map_cons, List.sum_cons]
theorem cut_wt (c : Nat) : ∀ (l acc : List Nat), ((cutL c acc l).map fun p => p.length + 1).sum = acc.length + l.length + 1
 | [], acc => by simp [cutL]
 | d :: r, acc => by
   have h : cutL c acc (d :: r) = if d = c then acc :: cutL c [] r else cutL c (acc ++ [d]) r := rfl
   rw [h]
   split
   · rw [List.map_cons, List.sum_cons, cut_wt c r []]
     simp only [List.length_nil, List.length_cons]
     omega
   · rw [cut_wt c r (acc ++ [d])]
     simp only [List.length_append, List.length_cons, List.length_nil]
     omega
theorem split_wt (x : Str) {c : Nat} (hc : c < 256) : wt (Txt.split x (txs [c])) = x.length + 1 := by
 unfold wt
 rw [split_cut x c hc, List.map_map]
 have e : ((fun p : Str => p.length + 1) ∘ txs) = fun p : List Nat => p.length + 1 := by
   funext p
   show (txs p).length + 1 = _
   rw [txs_len]
 rw [e, cut_wt]
 have e2 : x.length = x.cps.toList.length := TL.len_tl x
 simp only [List.length_nil]
 omega
theorem join_wt (c : Nat) : ∀ ps : List Str, (Txt.join (txs [c]) ps).length ≤ wt ps ∧ (ps ≠ [] → (Txt.join (txs [c]) ps).length + 1 = wt ps)
 | [] => by
   have e : (Txt.join (txs [c]) []).length = 0 := by rw [TL.join_eq]; rfl
   rw [e]
   exact ⟨Nat.zero_le _, fun h => absurd rfl h⟩
 | [p] => by
   have e : Txt.join (txs [c]) [p] = p := by rw [TL.join_eq]; rfl
   rw [e, wt_cons]
   exact ⟨by omega, fun _ => rfl⟩
 | p :: q :: r => by
   have ih := (join_wt c (q :: r)).2 (by simp)
   have e : Txt.join (txs [c]) (p :: q :: r) = p ++ txs [c] ++ Txt.join (txs [c]) (q :: r) := by rw [TL.join_eq, TL.join_eq]; rfl
   rw [e, wt_cons, PySem.Str.length_append, PySem.Str.length_append, show (txs [c]).length = 1 from txs_len [c]]
   exact ⟨by omega, fun _ => by omega⟩
theorem join_in (c : Nat) : ∀ (ps : List Str) (d : Nat), d ∈ signs (Txt.join (txs [c]) ps) → d = c ∨ ∃ p ∈ ps, d ∈ signs p
 | [], d, h => by
   rw [TL.join_eq] at h
   cases h
 | [p], d, h => by
   have e : Txt.join (txs [c]) [p] = p := by rw [TL.join_eq]; rfl
   rw [e] at h
   exact .inr ⟨p, .head _, h⟩
 | p :: q :: r, d, h => by
   have e : Txt.join (txs [c]) (p :: q :: r) = p ++ txs [c] ++ Txt.join (txs [c]) (q :: r) := by rw [TL.join_eq, TL.join_eq]; rfl
   rw [e, signs_add, signs_add] at h
   rcases List.mem_append.mp h with h | h
   · rcases List.mem_append.mp h with h | h
     · exact .inr ⟨p, .head _, h⟩
     · exact .inl (List.mem_singleton.mp h)
   · rcases join_in c (q :: r) d h with q' | ⟨p', hp, hd⟩
     · exact .inl q'
     · exact .inr ⟨p', .tail _ hp, hd⟩
theorem wt_sum : ∀ ps : List Str, (ps.map fun p => p.length).sum + ps.length = wt ps
 | [] => rfl
 | p :: ps => by
   have := wt_sum ps
   rw [wt_cons, List.map_cons, List.sum_cons, List.length_cons]
   omega
theorem wt_take (ps : List Str) (k : Nat) : wt (ps.take k) ≤ wt ps := by
 have e := List.take_append_drop k ps
 have := wt_app (ps.take k) (ps.drop k)
 rw [e] at this
 omega
theorem wt_at {ps : List Str} {k : Nat} {p : Str} (h : ps[k]? = some p) : wt ps = wt (ps.take k) + (p.length + 1) + wt (ps.drop (k + 1)) := by
 have e := get_splitT h
 have := congrArg wt e
 rw [wt_app, wt_app, wt_cons] at this
 rw [this]
 show _ + (_ + 0) + _ = _
 omega
theorem set_split {α : Type} : ∀ {ps : List α} {k : Nat} {p : α} (q : α), ps[k]? = some p → ps.set k q = ps.take k ++ q :: ps.drop (k + 1)
 | [], k, p, q, h => by simp at h
 | a :: ps, 0, p, q, h => rfl
 | a :: ps, k + 1, p, q, h => by
   show a :: ps.set k q = a :: _
   rw [set_split q (by simpa using h)]; rfl
def pCut : DSp := fun ds M Φ => ∃ s g b M' t, ∃ n : Nat, ds = [.raw (.ref s), .str t] ∧ M = (s, .st g b) :: M' ∧ 4 ≤ b ∧ TxN n t ∧ n ≤ 100000 ∧ ∀ t' b', TxN n t' → b ≤ b' + 4 → Φ (.str t') ((s, .st g b') :: M')
def pSpoil : DSp := fun ds M Φ => ∃ s g b M' t kd, ∃ n : Nat, ds = [.raw (.ref s), .int kd, .str t] ∧ M = (s, .st g b) :: M' ∧ 20 ≤ b ∧ 0 ≤ kd ∧ kd < 9 ∧ TxN n t ∧ n ≤ 50000 ∧ ∀ t' b', TxN (2 * n + 12) t' → b ≤ b' + 20 → Φ (.str t') ((s, .st g b') :: M')
abbrev s_law_cut : Stmt := top 45
def n_law_cut : List Str := ["_law_state", "_law_text", "_law_rows_here", "_law_at", "_law_words_here"]
theorem sc_law_cut : FnScope n_law_cut ["_law_state", "_law_text"] (defScope s_law_cut) := ⟨rfl, rfl, rfl, by decide +kernel, rfl, by decide +kernel, by decide +kernel⟩
theorem d_law_cut {P : Program} {w : World} {K : PySem.W.Frag} {mg : Str → Option Value} {base : Heap} {f : Addr} {fd : FuncData} (F : Fun K "_law_cut" "_law_cut" s_law_cut f fd)
   (D_law_take : Def P w K mg base 1 "_law_take" ["_law_state", "_law_many"] pTake) (G_len : mg "len" = none) : FnOk P w K mg base CX0 2 f fd ["_law_state", "_law_text"] (lift pCut) := by
 refine fnok_of (N := n_law_cut) (k := 1) F sc_law_cut (fun ds M Φ h => by obtain ⟨s, g, b, M', t, n, rfl, rfl, hb, ⟨htl, htc⟩, hn, k⟩ := h; rfl) fun X B I ds M Φ h => ?_
 obtain ⟨s, g, b, M', t, n, rfl, rfl, hb, ⟨htl, htc⟩, hn, k⟩ := h
 obtain ⟨rfl, rfl, rfl, rfl, rfl, hN, hs, hf, z, xe⟩ := I
 have hp := passes_of xe
 have n0 : Lo X 0 "_law_state" := lo_of hN hs hf (by decide +kernel)
 have n1 : Lo X 1 "_law_text" := lo_of hN hs hf (by decide +kernel)
 have n2 : Lo X 2 "_law_rows_here" := lo_of hN hs hf (by decide +kernel)
 have n3 : Lo X 3 "_law_at" := lo_of hN hs hf (by decide +kernel)
 have n4 : Lo X 4 "_law_words_here" := lo_of hN hs hf (by decide +kernel)
 have l_law_take : Gl X "_law_take" := gl_of hs (by decide +kernel)
 have g_len : Gn X "len" := gn_of hs (by decide +kernel) G_len
 clear F hf
 change DSs _ X (_ :: _) [_, _, _, _, _] _ _
 repeat' ((fail_if_success refine (stSet "_law_rows_here") ?_); kpc_text)
 refine ds_cons (ds_own 1 z n2 (df_split ?_))
 repeat' kpc_text
 refine ⟨by decide +kernel, Nat.le_trans (show _ ≤ 100002 by omega) (by decide), fun q => ?_⟩
 have hcn := split_cnt_le (x := t) (c := 10) (by decide)
 have hwt := split_wt t (c := 10) (by decide)
 have hin := fun r hr => split_in (x := t) (r := r) (c := 10) (by decide) hr
 rw [← nl_is] at hcn hwt hin
 have hne : 1 ≤ (Txt.split t (Str.ofString "\n")).length := by
   by_cases h : Txt.split t (Str.ofString "\n") = []
   · rw [h] at hwt; simp [wt] at hwt
   · cases hr : Txt.split t (Str.ofString "\n") with
     | nil => exact absurd hr h
     | cons a l => simp
 generalize Txt.split t (Str.ofString "\n") = rows at hcn hwt hin hne ⊢
 repeat' ((fail_if_success refine stSplit ?_); kpc_text)
 rename_i at0 ha0 ha1
 refine DE.f (df_split ?_)
 repeat' kpc_text
 rename_i r hr
 obtain ⟨i, rfl⟩ : ∃ i : Nat, at0 = (i : Int) := ⟨at0.toNat, by omega⟩
 have hr : rows[i]? = some r := by simpa using hr
 have hrm := List.mem_of_getElem? hr
 have hrw := wt_at hr
 refine ⟨by decide +kernel, Nat.le_trans (show _ ≤ 100003 by omega) (by decide), ?_⟩
 have hcn2 := split_cnt_le (x := r) (c := 32) (by decide)
 have hwt2 := split_wt r (c := 32) (by decide)
 have hin2 := fun w hw => split_in (x := r) (r := w) (c := 32) (by decide) hw
 rw [← sp_is] at hcn2 hwt2 hin2
 generalize Txt.split r (Str.ofString " ") = ws at hcn2 hwt2 hin2 ⊢
 have es : (Str.ofString " ").length = 1 := by decide +kernel
 have en : (Str.ofString "\n").length = 1 := by decide +kernel
 repeat' kpc_text
 rename_i kk hk0 hk1
 refine sl_any ?_
 rw [cut_to hk0]
 have hwk := wt_take ws kk.toNat
 have hsk := wt_sum (ws.take kk.toNat)
 have hjk := join_wt 32 (ws.take kk.toNat)
 have hik := join_in 32 (ws.take kk.toNat)
 rw [← sp_is] at hjk hik
 have hrl : (Txt.join (Str.ofString " ") (ws.take kk.toNat)).length ≤ r.length := by
   by_cases he : ws.take kk.toNat = []
   · rw [he]
     have : (Txt.join (Str.ofString " ") []).length = 0 := by rw [TL.join_eq]; rfl
     omega
   · have := hjk.2 he
     omega
 have hrc : ∀ c ∈ signs (Txt.join (Str.ofString " ") (ws.take kk.toNat)), c < 1000 := fun c hc => by
   rcases hik c hc with q' | ⟨p, hp, hd⟩
   · omega
   · exact htc c (hin r hrm c (hin2 p (List.mem_of_mem_take hp) c hd))
 refine ⟨_, .val _, by rw [es]; omega, ?_⟩
 generalize Txt.join (Str.ofString " ") (ws.take kk.toNat) = r' at hrl hrc ⊢
 repeat' kpc_text
 have hset := set_split r' hr
 have hws : wt (rows.set i r') ≤ wt rows := by
   rw [hset, wt_app, wt_cons]
   omega
 have hls : (rows.set i r').length = rows.length := List.length_set
 have hss := wt_sum (rows.set i r')
 have hjs := (join_wt 10 (rows.set i r')).2 (fun e => by rw [e] at hls; simp at hls; omega)
 have his := join_in 10 (rows.set i r')
 rw [← nl_is] at hjs his
 refine ⟨rows.set i r', .cell 1 rfl, by rw [en]; omega, ?_⟩
 refine ⟨_, _, .sub (.cons₂ _ (List.sublist_cons_self _ _)), k _ _ ⟨by omega, fun c hc => ?_⟩ (by omega)⟩
 rcases his c hc with q' | ⟨p, hp, hd⟩
 · omega
 · rcases List.mem_or_eq_of_mem_set hp with h | h
   · exact htc c (hin p h c hd)
   · rw [h] at hd; exact hrc c hd
theorem cutS_in {z : Str} {l u : Option Int} {c : Nat} (h : c ∈ signs (L2.cutS z l u)) : c ∈ signs z := by
 have h : c ∈ ((z.cps.toList.drop _).take _).toArray.toList := h
 rw [List.toList_toArray] at h
 exact List.mem_of_mem_drop (List.mem_of_mem_take h)
theorem tI_dig {i : Int} (h0 : 0 ≤ i) : ∀ c ∈ signs (tI i), c < 1000 := fun c hc => by
 obtain ⟨n, rfl⟩ : ∃ n : Nat, i = (n : Int) := ⟨i.toNat, by omega⟩
 have e : (tI (n : Int)).cps.toList = TL.numL n := TL.tl_num n
 have hc : c ∈ (tI (n : Int)).cps.toList := hc
 rw [e] at hc
 have := TL.numL_digits n c hc
 omega
theorem app_lt {x y : Str} (hx : ∀ c ∈ signs x, c < 1000) (hy : ∀ c ∈ signs y, c < 1000) : ∀ c ∈ signs (x ++ y), c < 1000 := fun c hc => by
 rw [signs_add] at hc
 exact (List.mem_append.mp hc).elim (hx c) (hy c)
theorem join_txn {ps : List Str} {n : Nat} (h : wt ps ≤ n) (hc : ∀ p ∈ ps, ∀ c ∈ signs p, c < 1000) : TxN n (Txt.join (Str.ofString " ") ps) := by
 rw [sp_is]
 have hj := join_wt 32 ps
 refine ⟨by omega, fun c hc' => ?_⟩
 rcases join_in 32 ps c hc' with q | ⟨p, hp, hd⟩
 · omega
 · exact hc p hp c hd
theorem od_addMB {α : Type} {xs ys : List α} {f : α → D} {M : Mem} {Φ : D → Mem → Prop} (hl : xs.length + ys.length ≤ 1000000) (k : Φ (.lst ((xs ++ ys).map f)) M) : OpD rAddU (.lst (xs.map f)) (.lst (ys.map f)) M Φ := od_addL (by rw [List.length_map, List.length_map]; exact Nat.le_trans hl (by decide)) (by rw [← List.map_append]; exact k)
theorem log10 {i : Int} (h0 : 0 ≤ i) (h1 : i < 10000000000) : i.natAbs.log2 < 1920 := by
 by_cases h : i.natAbs = 0
 · rw [h]; decide
 · exact (Nat.log2_lt h).mpr (Nat.lt_of_lt_of_le (show i.natAbs < 2 ^ 34 by omega) (Nat.pow_le_pow_right (by decide) (by decide)))
abbrev s_law_spoilt : Stmt := top 46
def n_law_spoilt : List Str := ["_law_state", "_law_kind", "_law_text", "_law_place", "_law_words_here", "_law_at", "_law_figures", "_law_other"]
theorem sc_law_spoilt : FnScope n_law_spoilt ["_law_state", "_law_kind", "_law_text"] (defScope s_law_spoilt) := ⟨rfl, rfl, rfl, by decide +kernel, rfl, by decide +kernel, by decide +kernel⟩
theorem d_law_spoilt {P : Program} {w : World} {K : PySem.W.Frag} {mg : Str → Option Value} {base : Heap} {f : Addr} {fd : FuncData} (F : Fun K "_law_spoilt" "_law_spoilt" s_law_spoilt f fd)
   (D_law_take : Def P w K mg base 1 "_law_take" ["_law_state", "_law_many"] pTake) (G_len : mg "len" = none) (D_law_sign : Def P w K mg base 2 "_law_sign" ["_law_state"] pSign) (D_law_cut : Def P w K mg base 2 "_law_cut" ["_law_state", "_law_text"] pCut) (G_str : mg "str" = none) (G_min : mg "min" = none) : FnOk P w K mg base CX0 3 f fd ["_law_state", "_law_kind", "_law_text"] (lift pSpoil) := by
 refine fnok_of (N := n_law_spoilt) (k := 2) F sc_law_spoilt (fun ds M Φ h => by obtain ⟨s, g, b, M', t, kd, n, rfl, rfl, hb, hk0, hk9, ⟨htl, htc⟩, hn, k⟩ := h; rfl) fun X B I ds M Φ h => ?_
 obtain ⟨s, g, b, M', t, kd, n, rfl, rfl, hb, hk0, hk9, ⟨htl, htc⟩, hn, k⟩ := h
 obtain ⟨rfl, rfl, rfl, rfl, rfl, hN, hs, hf, z, xe⟩ := I
 have hp := passes_of xe
 have n0 : Lo X 0 "_law_state" := lo_of hN hs hf (by decide +kernel)
 have n1 : Lo X 1 "_law_kind" := lo_of hN hs hf (by decide +kernel)
 have n2 : Lo X 2 "_law_text" := lo_of hN hs hf (by decide +kernel)
 have n3 : Lo X 3 "_law_place" := lo_of hN hs hf (by decide +kernel)
 have n4 : Lo X 4 "_law_words_here" := lo_of hN hs hf (by decide +kernel)
 have n5 : Lo X 5 "_law_at" := lo_of hN hs hf (by decide +kernel)
 have n6 : Lo X 6 "_law_figures" := lo_of hN hs hf (by decide +kernel)
 have n7 : Lo X 7 "_law_other" := lo_of hN hs hf (by decide +kernel)
 have l_law_take : Gl X "_law_take" := gl_of hs (by decide +kernel)
 have g_len : Gn X "len" := gn_of hs (by decide +kernel) G_len
 have l_law_sign : Gl X "_law_sign" := gl_of hs (by decide +kernel)
 have l_law_cut : Gl X "_law_cut" := gl_of hs (by decide +kernel)
 have g_str : Gn X "str" := gn_of hs (by decide +kernel) G_str
 have g_min : Gn X "min" := gn_of hs (by decide +kernel) G_min
 clear F hf
 change DSs _ X (_ :: _) [_, _, _, _, _, _, _, _] _ _
 have hls : t.length ≤ sizeLine := Nat.le_trans (show _ ≤ 50000 by omega) (by decide)
 have e1 : (Str.ofString "0").length = 1 := by decide +kernel
 have e2 : (Str.ofString "-").length = 1 := by decide +kernel
 have e3 : (Str.ofString " ").length = 1 := by decide +kernel
 repeat' kpc_text
 refine cd_lenS hls ?_
 repeat' ((fail_if_success refine (stSet "_law_words_here") ?_); kpc_text)
 · rename_i pl hp0 hp1 hkd
   refine SlD.str hls ?_
   repeat' kpc_text
   refine ⟨s, g, _, M', rfl, rfl, by omega, fun c b2 hc hb2 => ?_⟩
   have h1 := cutS_len t none (some pl)
   have h2 := cutS_len t (some pl) none
   have h3 := txs_len [c]
   refine od_addS (by rw [h3]; exact Nat.le_trans (show _ ≤ 50001 by simp; omega) (by decide)) ?_
   repeat' kpc_text
   refine SlD.str hls ?_
   refine od_addS (by rw [PySem.Str.length_append, h3]; exact Nat.le_trans (show _ ≤ 100001 by simp; omega) (by decide)) ?_
   exact ⟨_, _, .refl, k _ _ ⟨by rw [PySem.Str.length_append, PySem.Str.length_append, h3]; simp; omega, app_lt (app_lt (fun c hc => htc c (cutS_in hc)) (fun d hd => by rw [List.mem_singleton.mp (show d ∈ [c] from hd)]; exact hc)) fun c hc => htc c (cutS_in hc)⟩ (by omega)⟩
 · rename_i pl hp0 hp1 hkd0 hkd
   refine SlD.str hls ?_
   repeat' kpc_text
   refine SlD.str hls ?_
   have h1 := cutS_len t none (some pl)
   have h2 := cutS_len t (some (pl + 1)) none
   refine od_addS (Nat.le_trans (show _ ≤ 100000 by omega) (by decide)) ?_
   exact ⟨_, _, .refl, k _ _ ⟨by rw [PySem.Str.length_append]; omega, app_lt (fun c hc => htc c (cutS_in hc)) fun c hc => htc c (cutS_in hc)⟩ (by omega)⟩
 · rename_i pl hp0 hp1 hkd0 hkd1 hkd
   refine SlD.str hls ?_
   repeat' kpc_text
   refine ⟨s, g, _, M', rfl, rfl, by omega, fun c b2 hc hb2 => ?_⟩
   have h1 := cutS_len t none (some pl)
   have h2 := cutS_len t (some (pl + 1)) none
   have h3 := txs_len [c]
   refine od_addS (by rw [h3]; exact Nat.le_trans (show _ ≤ 50001 by simp; omega) (by decide)) ?_
   repeat' kpc_text
   refine SlD.str hls ?_
   refine od_addS (by rw [PySem.Str.length_append, h3]; exact Nat.le_trans (show _ ≤ 100001 by simp; omega) (by decide)) ?_
   exact ⟨_, _, .refl, k _ _ ⟨by rw [PySem.Str.length_append, PySem.Str.length_append, h3]; simp; omega, app_lt (app_lt (fun c hc => htc c (cutS_in hc)) (fun d hd => by rw [List.mem_singleton.mp (show d ∈ [c] from hd)]; exact hc)) fun c hc => htc c (cutS_in hc)⟩ (by omega)⟩
 · refine ⟨s, g, _, M', t, n, rfl, rfl, by omega, ⟨htl, htc⟩, by omega, fun t' b2 ht' hb2 => ?_⟩
   repeat' kpc_text
   exact ⟨_, _, .refl, k _ _ ⟨by have := ht'.len; omega, ht'.lt⟩ (by omega)⟩
 · rename_i pl hp0 hp1 hkd0 hkd1 hkd2 hkd6
   refine ds_cons (ds_own 1 z n4 (df_split ?_))
   repeat' kpc_text
   refine ⟨by decide +kernel, Nat.le_trans (show _ ≤ 100002 by omega) (by decide), fun q => ?_⟩
   have hcn := split_cnt_le (x := t) (c := 32) (by decide)
   have hwt := split_wt t (c := 32) (by decide)
   have hin := fun w hw => split_in (x := t) (r := w) (c := 32) (by decide) hw
   rw [← sp_is] at hcn hwt hin
   have hne : 1 ≤ (Txt.split t (Str.ofString " ")).length := by
     cases hr : Txt.split t (Str.ofString " ") with
     | nil => rw [hr] at hwt; simp [wt] at hwt
     | cons a l => simp
   generalize Txt.split t (Str.ofString " ") = ws at hcn hwt hin hne ⊢
   have hwc : ∀ w ∈ ws, ∀ c ∈ signs w, c < 1000 := fun w hw c hc => htc c (hin w hw c hc)
   repeat' kpc_text
   · rename_i at0 ha0 ha1 hk7
     obtain ⟨i, rfl⟩ : ∃ i : Nat, at0 = (i : Int) := ⟨at0.toNat, by omega⟩
     refine de_strI (by assumption) ?_
     repeat' kpc_text
     rename_i fr hfr0 hfr1
     refine cd_strI (log10 hfr0 hfr1) ?_
     have hfl : (tI fr).length ≤ 10 := tI_len hfr0 (by omega)
     have hfc := tI_dig hfr0
     show DPt _ _ _ _ _ _
     repeat' kpc_text
     refine SlD.str (Nat.le_trans (show _ ≤ 10 by exact hfl) (by decide)) ?_
     rename_i cu hcu0 hcu1
     have hgl := cutS_len (tI fr) none (some (1 + cu))
     have hgc : ∀ c ∈ signs (L2.cutS (tI fr) none (some (1 + cu))), c < 1000 := fun c hc => hfc c (cutS_in hc)
     show Sets _ _ (.str (L2.cutS (tI fr) none (some (1 + cu)))) _
     generalize L2.cutS (tI fr) none (some (1 + cu)) = fg at hgl hgc ⊢
     repeat' kpc_text
     rename_i x hx
     have hx : ws[i]? = some x := by simpa using hx
     have hxm := List.mem_of_getElem? hx
     have hwa := wt_at hx
     refine od_addS (Nat.le_trans (show _ ≤ 50010 by omega) (by decide)) ?_
     repeat' kpc_text
     rename_i x2 hx2
     obtain rfl : x = x2 := Option.some.inj (hx.symm.trans (by simpa using hx2))
     refine od_addS (by rw [e1]; exact Nat.le_trans (show _ ≤ 50010 by omega) (by decide)) ?_
     repeat' kpc_text
     rename_i x3 hx3
     obtain rfl : x = x3 := Option.some.inj (hx.symm.trans (by simpa using hx3))
     refine od_addS (by rw [e2]; exact Nat.le_trans (show _ ≤ 50010 by omega) (by decide)) ?_
     repeat' kpc_text
     rename_i tw htw0 htw1
     refine od_ixMp D.str [x ++ fg, Str.ofString "0" ++ x, Str.ofString "-" ++ x] (by omega) (by simp; omega) fun y hy => ?_
     have hxc := hwc x hxm
     have hyy : y.length ≤ x.length + 10 ∧ ∀ c ∈ signs y, c < 1000 := by
       simp only [List.mem_cons, List.not_mem_nil, or_false] at hy
       rcases hy with rfl | rfl | rfl
       · exact ⟨by rw [PySem.Str.length_append]; omega, app_lt hxc hgc⟩
       · exact ⟨by rw [PySem.Str.length_append, e1]; omega, app_lt (by decide +kernel) hxc⟩
       · exact ⟨by rw [PySem.Str.length_append, e2]; omega, app_lt (by decide +kernel) hxc⟩
     obtain ⟨hyl, hyc⟩ := hyy
     repeat' kpc_text
     have hset := set_split y hx
     have hws : wt (ws.set i y) ≤ 2 * n + 12 := by
       rw [hset, wt_app, wt_cons]
       omega
     have hls2 : (ws.set i y).length = ws.length := List.length_set
     have hss := wt_sum (ws.set i y)
     have hcs : ∀ p ∈ ws.set i y, ∀ c ∈ signs p, c < 1000 := fun p hp => by
       rcases List.mem_or_eq_of_mem_set hp with h | h
       · exact hwc p h
       · rw [h]; exact hyc
     have hjs := join_txn hws hcs
     refine ⟨ws.set i y, .cell 1 rfl, by rw [e3]; omega, ?_⟩
     exact ⟨_, _, .sub (.cons₂ _ (List.sublist_cons_self _ _)), k _ _ ⟨by have := hjs.len; omega, hjs.lt⟩ (by omega)⟩
   · rename_i at0 ha0 ha1 hk7 o0 ho0 ho1 ot hot
     obtain ⟨i, rfl⟩ : ∃ i : Nat, at0 = (i : Int) := ⟨at0.toNat, by omega⟩
     have hom := List.mem_of_getElem? hot
     have hi : i < ws.length := by omega
     have hwo : ot.length + 1 ≤ wt ws := by
       have := wt_at hot
       omega
     have hkk : kd = 3 ∨ kd = 4 ∨ kd = 5 := by omega
     refine SlD.lst (.cell 1 rfl) ?_
     rw [cut_map, cut_to (by omega)]
     rcases hkk with rfl | rfl | rfl
     · repeat' kpc_text
       rename_i x hx
       have hx : ws[i]? = some x := by simpa using hx
       have hwa := wt_at hx
       have hxm := List.mem_of_getElem? hx
       refine od_ixL (d := .lst (([] : List Str).map .str)) rfl ?_
       refine od_addMB (by simp only [List.length_take, List.length_cons, List.length_nil]; omega) ?_
       repeat' kpc_text
       refine SlD.lst (.cell 1 rfl) ?_
       rw [cut_map, cut_from (by omega)]
       refine od_addMB (by simp only [List.length_append, List.length_take, List.length_drop, List.length_cons, List.length_nil]; omega) ?_
       rw [show (i : Int).toNat = i from rfl, show ((i : Int) + 1).toNat = i + 1 by omega]
       have hwX : wt ([] : List Str) = 0 := rfl
       have hwx : wt (ws.take i ++ ([] : List Str) ++ ws.drop (i + 1)) ≤ 2 * n + 2 := by
         rw [wt_app, wt_app, hwX]
         omega
       have hcx : ∀ p ∈ ws.take i ++ ([] : List Str) ++ ws.drop (i + 1), ∀ c ∈ signs p, c < 1000 := fun p hp => by
         rcases List.mem_append.mp hp with hp | hp
         · rcases List.mem_append.mp hp with hp | hp
           · exact hwc p (List.mem_of_mem_take hp)
           · simp at hp
         · exact hwc p (List.mem_of_mem_drop hp)
       have hsx := wt_sum (ws.take i ++ ([] : List Str) ++ ws.drop (i + 1))
       have hjx := join_txn hwx hcx
       refine ⟨_, .val _, by rw [e3]; omega, ?_⟩
       exact ⟨_, _, .sub (.cons₂ _ (List.sublist_cons_self _ _)), k _ _ ⟨by have := hjx.len; omega, hjx.lt⟩ (by omega)⟩
     · repeat' kpc_text
       rename_i x hx
       have hx : ws[i]? = some x := by simpa using hx
       have hwa := wt_at hx
       have hxm := List.mem_of_getElem? hx
       refine od_ixL (d := .lst (([ot] : List Str).map .str)) rfl ?_
       refine od_addMB (by simp only [List.length_take, List.length_cons, List.length_nil]; omega) ?_
       repeat' kpc_text
       refine SlD.lst (.cell 1 rfl) ?_
       rw [cut_map, cut_from (by omega)]
       refine od_addMB (by simp only [List.length_append, List.length_take, List.length_drop, List.length_cons, List.length_nil]; omega) ?_
       rw [show (i : Int).toNat = i from rfl, show ((i : Int) + 1).toNat = i + 1 by omega]
       have hwX : wt ([ot] : List Str) = ot.length + 1 := by rw [wt_cons]; rfl
       have hwx : wt (ws.take i ++ ([ot] : List Str) ++ ws.drop (i + 1)) ≤ 2 * n + 2 := by
         rw [wt_app, wt_app, hwX]
         omega
       have hcx : ∀ p ∈ ws.take i ++ ([ot] : List Str) ++ ws.drop (i + 1), ∀ c ∈ signs p, c < 1000 := fun p hp => by
         rcases List.mem_append.mp hp with hp | hp
         · rcases List.mem_append.mp hp with hp | hp
           · exact hwc p (List.mem_of_mem_take hp)
           · simp only [List.mem_cons, List.not_mem_nil, or_false] at hp
             subst hp
             exact hwc _ hom
         · exact hwc p (List.mem_of_mem_drop hp)
       have hsx := wt_sum (ws.take i ++ ([ot] : List Str) ++ ws.drop (i + 1))
       have hjx := join_txn hwx hcx
       refine ⟨_, .val _, by rw [e3]; omega, ?_⟩
       exact ⟨_, _, .sub (.cons₂ _ (List.sublist_cons_self _ _)), k _ _ ⟨by have := hjx.len; omega, hjx.lt⟩ (by omega)⟩
     · repeat' kpc_text
       rename_i x hx
       have hx : ws[i]? = some x := by simpa using hx
       have hwa := wt_at hx
       have hxm := List.mem_of_getElem? hx
       refine od_ixL (d := .lst (([ot, x] : List Str).map .str)) rfl ?_
       refine od_addMB (by simp only [List.length_take, List.length_cons, List.length_nil]; omega) ?_
       repeat' kpc_text
       refine SlD.lst (.cell 1 rfl) ?_
       rw [cut_map, cut_from (by omega)]
       refine od_addMB (by simp only [List.length_append, List.length_take, List.length_drop, List.length_cons, List.length_nil]; omega) ?_
       rw [show (i : Int).toNat = i from rfl, show ((i : Int) + 1).toNat = i + 1 by omega]
       have hwX : wt ([ot, x] : List Str) = ot.length + 1 + (x.length + 1) := by rw [wt_cons, wt_cons]; rfl
       have hwx : wt (ws.take i ++ ([ot, x] : List Str) ++ ws.drop (i + 1)) ≤ 2 * n + 2 := by
         rw [wt_app, wt_app, hwX]
         omega
       have hcx : ∀ p ∈ ws.take i ++ ([ot, x] : List Str) ++ ws.drop (i + 1), ∀ c ∈ signs p, c < 1000 := fun p hp => by
         rcases List.mem_append.mp hp with hp | hp
         · rcases List.mem_append.mp hp with hp | hp
           · exact hwc p (List.mem_of_mem_take hp)
           · simp only [List.mem_cons, List.not_mem_nil, or_false] at hp
             rcases hp with rfl | rfl
             · exact hwc _ hom
             · exact hwc _ hxm
         · exact hwc p (List.mem_of_mem_drop hp)
       have hsx := wt_sum (ws.take i ++ ([ot, x] : List Str) ++ ws.drop (i + 1))
       have hjx := join_txn hwx hcx
       refine ⟨_, .val _, by rw [e3]; omega, ?_⟩
       exact ⟨_, _, .sub (.cons₂ _ (List.sublist_cons_self _ _)), k _ _ ⟨by have := hjx.len; omega, hjx.lt⟩ (by omega)⟩
def pLawName : DSp := fun ds M Φ => ∃ z : Str, ds = [.str z] ∧ z.length ≤ 200000 ∧ Φ (.bl (nameB z)) M
def pLawWrong : DSp := fun ds M Φ => ∃ (way : List Leg) (zs : List Str), ∃ y, ds = [.lst (way.map legD), y] ∧ IsL M y (zs.map .str) ∧ way.length ≤ 200000 ∧ Φ (optD (wrongF way zs)) M
def dueD : Option PB → D
 | none => .non
 | some (.name z) => .tup [.str (Str.ofString "name"), .str z]
 | some (.taken z) => .tup [.str (Str.ofString "taken"), .str z]
 | some .width => .tup [.str (Str.ofString "width"), .int 0]
 | some (.way k) => .tup [.str (Str.ofString "way"), .int (k : Nat)]
def pLawDue : DSp := fun ds M Φ => ∃ ls ss, ds = [.lst (ls.map legD), .lst (ss.map smD)] ∧ LnIn ls ∧ SmIn ss ∧ Φ (dueD (planF ls ss)) M
def pLawWords : DSp := fun ds M Φ => ∃ row : Str, ds = [.str row] ∧ row.length ≤ 100000 ∧ Φ (.lst ((wordsF row).map .str)) M
def numZ : Option Int → Int
 | none => 0
 | some i => i
def pLawNum : DSp := fun ds M Φ => ∃ z : Str, ds = [.str z] ∧ 1 ≤ z.length ∧ z.length ≤ 200000 ∧ Φ (.int (numZ (numF z))) M
def itemD : Option (Leg ⊕ Sm) → D
 | none => .non
 | some (.inl l) => legD l
 | some (.inr x) => smD x
def pLawItem : DSp := fun ds M Φ => ∃ ws : List Str, ds = [.lst (ws.map .str)] ∧ WdIn ws ∧ 1 ≤ ws.length ∧ Φ (itemD (itemF ws)) M
def readD (r : Option Nat × List Leg × List Sm) : D := .tup [match r.1 with | some i => .tup [.str (Str.ofString "text"), .int (i : Nat)] | none => dueD (planF r.2.1 r.2.2), .lst (r.2.1.map legD), .lst (r.2.2.map smD)]
def pLawRead : DSp := fun ds M Φ => ∃ t : Str, ds = [.str t] ∧ TxB t ∧ Φ (readD (readF t)) M
abbrev s_law_is_name : Stmt := top 47
def n_law_is_name : List Str := ["_law_text", "_law_sign_here"]
theorem sc_law_is_name : FnScope n_law_is_name ["_law_text"] (defScope s_law_is_name) := ⟨rfl, rfl, rfl, by decide +kernel, rfl, by decide +kernel, by decide +kernel⟩
theorem d_law_is_name {P : Program} {w : World} {K : PySem.W.Frag} {mg : Str → Option Value} {base : Heap} {f : Addr} {fd : FuncData} (F : Fun K "_law_is_name" "_law_is_name" s_law_is_name f fd)
   (G_len : mg "len" = none) (G_all : mg "all" = none) : FnOk P w K mg base CX0 1 f fd ["_law_text"] (lift pLawName) := by
 refine fnok_of (N := n_law_is_name) (k := 0) F sc_law_is_name (fun ds M Φ h => by obtain ⟨zz, rfl, hl, k⟩ := h; rfl) fun X B I ds M Φ h => ?_
 obtain ⟨zz, rfl, hl, k⟩ := h
 obtain ⟨rfl, rfl, rfl, rfl, rfl, hN, hs, hf, z, xe⟩ := I
 have hp := passes_of xe
 have n0 : Lo X 0 "_law_text" := lo_of hN hs hf (by decide +kernel)
 have g_len : Gn X "len" := gn_of hs (by decide +kernel) G_len
 have g_all : Gn X "all" := gn_of hs (by decide +kernel) G_all
 clear F hf
 change DSs _ X (_ :: _) [_, _] _ _
 have hz : zz.length ≤ sizeLine := Nat.le_trans hl (by decide)
 have ez : zz.length = zz.cps.toList.length := TL.len_tl zz
 repeat' kpc_text
 refine cd_lenS hz ?_
 repeat' kpc_text
 · rename_i h1 h2
   refine DE.f (df_lc 0 z hN hs [("_law_sign_here", 1)] (.one 1) (by decide +kernel) (by decide) (fun X' bk => pg_one bk z (bk.lo hN hs (by decide +kernel))) (di_str ?_))
   repeat' kpc_text
   refine LcH.mapT (zz.cps.toList) ((fun c => D.str ⟨#[c]⟩)) (fun c => decide (c ∈ letters.cps.toList)) (.bl) (Nat.le_trans (show List.length _ ≤ 1000000 by first | omega | (simp; done) | (simp; omega)) (by decide)) (fun q acc a ha => ?_) ?_
   · refine ⟨_, rfl, fun X' bk => ?_⟩
     have c1 : Lo X' 1 "_law_sign_here" := bk.lo hN hs (by decide +kernel)
     have z' := bk.z z
     repeat' kpc_text
     exact ⟨rfl, rfl⟩
   repeat' kpc_text
   refine cd_all (.val _) ?_
   rw [show nameB zz = (zz.cps.toList.map fun c => decide (c ∈ letters.cps.toList)).all id from by
     unfold nameB
     rw [decide_eq_true (show 1 ≤ zz.length by omega), decide_eq_true (show zz.length ≤ 8 by omega), List.all_map]; rfl] at k
   exact ⟨_, _, .refl, k⟩
 · rename_i h1 h2
   rw [show nameB zz = false from by unfold nameB; rw [decide_eq_false (show ¬ zz.length ≤ 8 by omega), Bool.and_false]; rfl] at k
   exact ⟨_, _, .refl, k⟩
 · rename_i h1
   rw [show nameB zz = false from by unfold nameB; rw [decide_eq_false (show ¬ 1 ≤ zz.length by omega)]; rfl] at k
   exact ⟨_, _, .refl, k⟩
abbrev s_law_wrong : Stmt := top 48
def n_law_wrong : List Str := ["_law_way_here", "_law_lanes", "_law_met", "_law_place", "_law_lane", "_law_wait_here"]
theorem sc_law_wrong : FnScope n_law_wrong ["_law_way_here", "_law_lanes"] (defScope s_law_wrong) := ⟨rfl, rfl, rfl, by decide +kernel, rfl, by decide +kernel, by decide +kernel⟩
theorem d_law_wrong {P : Program} {w : World} {K : PySem.W.Frag} {mg : Str → Option Value} {base : Heap} {f : Addr} {fd : FuncData} (F : Fun K "_law_wrong" "_law_wrong" s_law_wrong f fd)
   (G_enumerate : mg "enumerate" = none) (G_len : mg "len" = none) : FnOk P w K mg base CX0 1 f fd ["_law_way_here", "_law_lanes"] (lift pLawWrong) := by
 refine fnok_of (N := n_law_wrong) (k := 0) F sc_law_wrong (fun ds M Φ h => by obtain ⟨way, zs, y, rfl, hy, hwl, k⟩ := h; rfl) fun X B I ds M Φ h => ?_
 obtain ⟨way, zs, y, rfl, hy, hwl, k⟩ := h
 obtain ⟨rfl, rfl, rfl, rfl, rfl, hN, hs, hf, z, xe⟩ := I
 have hp := passes_of xe
 have n0 : Lo X 0 "_law_way_here" := lo_of hN hs hf (by decide +kernel)
 have n1 : Lo X 1 "_law_lanes" := lo_of hN hs hf (by decide +kernel)
 have n2 : Lo X 2 "_law_met" := lo_of hN hs hf (by decide +kernel)
 have n3 : Lo X 3 "_law_place" := lo_of hN hs hf (by decide +kernel)
 have n4 : Lo X 4 "_law_lane" := lo_of hN hs hf (by decide +kernel)
 have n5 : Lo X 5 "_law_wait_here" := lo_of hN hs hf (by decide +kernel)
 have g_enumerate : Gn X "enumerate" := gn_of hs (by decide +kernel) G_enumerate
 have g_len : Gn X "len" := gn_of hs (by decide +kernel) G_len
 clear F hf
 change DSs _ X (_ :: _) [_, _, _, _, _, _] _ _
 repeat' ((fail_if_success refine (stSet "_law_met") ?_); kpc_text)
 first | refine ds_cons (ds_own 0 z n2 (df_lst (da_nil ⟨by decide, fun q => ?_⟩))) | refine ds_own 0 z n2 (df_lst (da_nil ⟨by decide, fun q => ?_⟩))
 kpc_text
 repeat' ((fail_if_success refine stFor ?_); kpc_text)
 first | refine ds_cons (ds_forC [3, 4, 5] z (by assumption) (di_enum (by assumption) ?_)) | refine ds_forC [3, 4, 5] z (by assumption) (di_enum (by assumption) ?_)
 repeat' kpc_text
 refine ⟨fun i vs M1 => (∃ (met : List Str) (o3 o4 o5 : Option D), [o3, o4, o5] = vs ∧ (q, .lst (met.map .str)) :: M = M1 ∧ (wrongGo zs i met (way.drop i) = wrongGo zs 0 [] way) ∧ (met.length = i) ∧ (i ≤ 4)), ⟨[], _, _, _, rfl, rfl, (rfl), (rfl), (by omega)⟩, ?_, ?_⟩
 · rintro i x vs δ M1 hx ⟨met, o3, o4, o5, rfl, rfl, hg, hml, hi4⟩ hδ
   obtain rfl : δ = [_, _, _, o3, o4, o5] := hδ
   obtain ⟨y0, hy0, rfl⟩ := enum_get hx
   obtain ⟨l, hl, rfl⟩ := map_get hy0
   have hgo := wrong_at_go (ls := zs) (met := met) hl
   have hil : i < way.length := (List.getElem?_eq_some_iff.mp hl).1
   have hne : way ≠ [] := fun e => by rw [e] at hil; simp at hil
   rw [hg] at hgo
   have hz2 : IsL ((q, .lst (met.map .str)) :: M) y (zs.map .str) := isl_cons hy
   have bad : badLeg i zs met l → Φ (.int (i : Nat)) M := fun hb => by
     rw [if_pos hb] at hgo
     rw [show wrongF way zs = some i from (if_neg hne).trans hgo] at k
     exact k
   repeat' kpc_text
   · exact ⟨_, _, .sub (List.sublist_cons_self _ _), bad (.inl (by omega))⟩
   · rename_i h1
     refine od_notinZ hz2 ?_
     repeat' kpc_text
     · rename_i h2
       exact ⟨_, _, .sub (List.sublist_cons_self _ _), bad (.inr (.inl h2))⟩
     · rename_i h2
       refine od_inZ (.cell 0 rfl) ?_
       repeat' kpc_text
       · rename_i h3
         exact ⟨_, _, .sub (List.sublist_cons_self _ _), bad (.inr (.inr (.inl h3)))⟩
       · rename_i h3 h4
         exact ⟨_, _, .sub (List.sublist_cons_self _ _), bad (.inr (.inr (.inr fun h => by have := h.1; omega)))⟩
       · rename_i h3 h4 h5
         exact ⟨_, _, .sub (List.sublist_cons_self _ _), bad (.inr (.inr (.inr fun h => by have := h.2; omega)))⟩
       · rename_i h3 h4 h5
         rw [if_neg (fun hb => by
           rcases hb with h | h | h | h
           · omega
           · exact h h2
           · exact h3 h
           · exact h ⟨by omega, by omega⟩)] at hgo
         have em : (met ++ [l.1]).map D.str = met.map D.str ++ [D.str l.1] := by rw [List.map_append]; rfl
         exact ⟨[_, _, _], rfl, met ++ [l.1], _, _, _, rfl, (by rw [em]; rfl), (hgo.symm), (by rw [List.length_append, hml]; rfl), (by omega)⟩
 · rintro vs δ M1 ⟨met, o3, o4, o5, rfl, rfl, hg, hml, hi4⟩ hδ
   obtain rfl : δ = [_, _, _, o3, o4, o5] := hδ
   try simp only [range_len, List.length_map, enum_len] at hg hml hi4
   rw [List.drop_length] at hg
   have hg : none = wrongGo zs 0 [] way := hg
   repeat' kpc_text
   · rename_i h1
     have hne : way ≠ [] := fun e => by rw [e] at h1; simp at h1
     rw [show wrongF way zs = none from (if_neg hne).trans hg.symm] at k
     exact ⟨_, _, .sub (List.sublist_cons_self _ _), k⟩
   · rename_i h1
     rw [show wrongF way zs = some 0 from if_pos (List.length_eq_zero_iff.mp (by omega))] at k
     exact ⟨_, _, .sub (List.sublist_cons_self _ _), k⟩
abbrev s_law_due : Stmt := top 49
def n_law_due : List Str := ["_law_lanes", "_law_streams", "_law_met", "_law_name_here", "_law_width", "_law_known", "_law_numbers", "_law_way_here"]
theorem sc_law_due : FnScope n_law_due ["_law_lanes", "_law_streams"] (defScope s_law_due) := ⟨rfl, rfl, rfl, by decide +kernel, rfl, by decide +kernel, by decide +kernel⟩
theorem d_law_due {P : Program} {w : World} {K : PySem.W.Frag} {mg : Str → Option Value} {base : Heap} {f : Addr} {fd : FuncData} (F : Fun K "_law_due" "_law_due" s_law_due f fd)
   (D_law_is_name : Def P w K mg base 1 "_law_is_name" ["_law_text"] pLawName) (D_law_wrong : Def P w K mg base 1 "_law_wrong" ["_law_way_here", "_law_lanes"] pLawWrong) : FnOk P w K mg base CX0 2 f fd ["_law_lanes", "_law_streams"] (lift pLawDue) := by
 refine fnok_of (N := n_law_due) (k := 1) F sc_law_due (fun ds M Φ h => by obtain ⟨ls, ss, rfl, ⟨hll, hln⟩, ⟨hsl, hsn⟩, k⟩ := h; rfl) fun X B I ds M Φ h => ?_
 obtain ⟨ls, ss, rfl, ⟨hll, hln⟩, ⟨hsl, hsn⟩, k⟩ := h
 obtain ⟨rfl, rfl, rfl, rfl, rfl, hN, hs, hf, z, xe⟩ := I
 have hp := passes_of xe
 have n0 : Lo X 0 "_law_lanes" := lo_of hN hs hf (by decide +kernel)
 have n1 : Lo X 1 "_law_streams" := lo_of hN hs hf (by decide +kernel)
 have n2 : Lo X 2 "_law_met" := lo_of hN hs hf (by decide +kernel)
 have n3 : Lo X 3 "_law_name_here" := lo_of hN hs hf (by decide +kernel)
 have n4 : Lo X 4 "_law_width" := lo_of hN hs hf (by decide +kernel)
 have n5 : Lo X 5 "_law_known" := lo_of hN hs hf (by decide +kernel)
 have n6 : Lo X 6 "_law_numbers" := lo_of hN hs hf (by decide +kernel)
 have n7 : Lo X 7 "_law_way_here" := lo_of hN hs hf (by decide +kernel)
 have l_law_is_name : Gl X "_law_is_name" := gl_of hs (by decide +kernel)
 have l_law_wrong : Gl X "_law_wrong" := gl_of hs (by decide +kernel)
 clear F hf
 change DSs _ X (_ :: _) [_, _, _, _, _, _, _, _] _ _
 repeat' ((fail_if_success refine (stSet "_law_met") ?_); kpc_text)
 first | refine ds_cons (ds_own 0 z n2 (df_lst (da_nil ⟨by decide, fun q3 => ?_⟩))) | refine ds_own 0 z n2 (df_lst (da_nil ⟨by decide, fun q3 => ?_⟩))
 kpc_text
 repeat' ((fail_if_success refine stFor ?_); kpc_text)
 first | refine ds_cons (ds_forC [3, 4] z (by assumption) (di_list ?_)) | refine ds_forC [3, 4] z (by assumption) (di_list ?_)
 repeat' kpc_text
 refine ⟨fun i vs M1 => (∃  (o3 o4 : Option D), [o3, o4] = vs ∧ (q3, .lst (((ls.take i).map (·.1)).map .str)) :: M = M1 ∧ (lnGo [] ls = lnGo ((ls.take i).map (·.1)) (ls.drop i))), ⟨_, _, rfl, rfl, (rfl)⟩, ?_, ?_⟩
 · rintro i x vs δ M1 hx ⟨o3, o4, rfl, rfl, hg⟩ hδ
   obtain rfl : δ = [_, _, _, o3, o4, _, _, _] := hδ
   obtain ⟨l, hlx, rfl⟩ := map_get hx
   have hi := (List.getElem?_eq_some_iff.mp hlx).1
   have hlm := hln l (List.mem_of_getElem? hlx)
   rw [ln_at_go hlx] at hg
   have bad : ∀ e, badLn ((ls.take i).map (·.1)) l = some e → Φ (dueD (some e)) M := fun e he => by
     rw [show planF ls ss = some e from by unfold planF; rw [hg, he]] at k
     exact k
   have htl : (ls.take i).length ≤ 200000 := by rw [List.length_take]; omega
   repeat' kpc_text
   refine ⟨l.1, rfl, hlm, ?_⟩
   repeat' kpc_text
   · rename_i h1
     have h1 : nameB l.1 = true := by simpa using h1
     refine od_inZ (.cell 0 rfl) ?_
     repeat' kpc_text
     · rename_i h2
       exact ⟨_, _, .sub (List.sublist_cons_self _ _), bad (.taken l.1) (by unfold badLn; rw [if_neg (by rw [h1]; decide), if_pos h2])⟩
     · rename_i h2 h3
       exact ⟨_, _, .sub (List.sublist_cons_self _ _), bad .width (by unfold badLn; rw [if_neg (by rw [h1]; decide), if_neg h2, if_neg (fun h => by have := h.1; omega)])⟩
     · rename_i h2 h3 h4
       exact ⟨_, _, .sub (List.sublist_cons_self _ _), bad .width (by unfold badLn; rw [if_neg (by rw [h1]; decide), if_neg h2, if_neg (fun h => by have := h.2; omega)])⟩
     · rename_i h2 h3 h4
       have hok : badLn ((ls.take i).map (·.1)) l = none := by unfold badLn; rw [if_neg (by rw [h1]; decide), if_neg h2, if_pos ⟨by omega, by omega⟩]
       rw [hok] at hg
       have em2 := take_snoc (·.1) hlx
       have em3 : ((ls.take (i + 1)).map (·.1)).map D.str = ((ls.take i).map (·.1)).map D.str ++ [D.str l.1] := by rw [em2, List.map_append]; rfl
       exact ⟨[_, _], rfl, _, _, rfl, (by rw [em3]; rfl), (by rw [em2]; exact hg)⟩
   · rename_i h1
     exact ⟨_, _, .sub (List.sublist_cons_self _ _), bad (.name l.1) (by unfold badLn; rw [if_pos (by simpa using h1)])⟩
 · rintro vs δ M1 ⟨o3, o4, rfl, rfl, hg⟩ hδ
   obtain rfl : δ = [_, _, _, o3, o4, _, _, _] := hδ
   try simp only [range_len, List.length_map, enum_len] at hg
   rw [List.length_map, List.take_length]
   rw [List.take_length, List.drop_length] at hg
   have hg0 : lnGo [] ls = none := hg
   have hpl : planF ls ss = smGo (ls.map (·.1)) [] ss := by unfold planF; rw [hg0]
   repeat' ((fail_if_success refine (stSet "_law_known") ?_); kpc_text)
   first | refine ds_cons (ds_own 1 z n5 (df_lst (da_nil ⟨by decide, fun q4 => ?_⟩))) | refine ds_own 1 z n5 (df_lst (da_nil ⟨by decide, fun q4 => ?_⟩))
   kpc_text
   repeat' ((fail_if_success refine stFor ?_); kpc_text)
   first | refine ds_cons (ds_forC [3, 6, 7] z (by assumption) (di_list ?_)) | refine ds_forC [3, 6, 7] z (by assumption) (di_list ?_)
   repeat' kpc_text
   refine ⟨fun i vs M1 => (∃  (o3 o6 o7 : Option D), [o3, o6, o7] = vs ∧ (q3, .lst ((ls.map (·.1)).map .str)) :: (q4, .lst (((ss.take i).map (·.nm)).map .str)) :: M = M1 ∧ (smGo (ls.map (·.1)) [] ss = smGo (ls.map (·.1)) ((ss.take i).map (·.nm)) (ss.drop i))), ⟨_, _, _, rfl, rfl, (rfl)⟩, ?_, ?_⟩
   · rintro i x vs δ M1 hx ⟨o3, o6, o7, rfl, rfl, hg2⟩ hδ
     obtain rfl : δ = [_, _, _, o3, _, _, o6, o7] := hδ
     obtain ⟨x, hxx, rfl⟩ := map_get hx
     have hi := (List.getElem?_eq_some_iff.mp hxx).1
     obtain ⟨hxm, hxw⟩ := hsn x (List.mem_of_getElem? hxx)
     have htl : (ss.take i).length ≤ 200000 := by rw [List.length_take]; omega
     rw [sm_at_go hxx] at hg2
     have bad : ∀ e, badSm (ls.map (·.1)) ((ss.take i).map (·.nm)) x = some e → Φ (dueD (some e)) M := fun e he => by
       rw [show planF ls ss = some e from by rw [hpl, hg2, he]] at k
       exact k
     repeat' kpc_text
     refine ⟨x.nm, rfl, hxm, ?_⟩
     repeat' kpc_text
     · rename_i h1
       have h1 : nameB x.nm = true := by simpa using h1
       refine od_inZ (.cell 1 rfl) ?_
       repeat' kpc_text
       · rename_i h2
         exact ⟨_, _, .sub (.cons _ (.cons _ (.refl _))), bad (.taken x.nm) (by unfold badSm; rw [if_neg (by rw [h1]; decide), if_pos h2])⟩
       · rename_i h2
         refine ⟨x.way, ls.map (·.1), _, rfl, .cell 0 rfl, hxw, ?_⟩
         cases hwf : wrongF x.way (ls.map (·.1)) with
         | some p =>
           unfold optD
           repeat' kpc_text
           refine ⟨x.way, ls.map (·.1), _, rfl, .cell 0 rfl, hxw, ?_⟩
           rw [hwf]
           repeat' kpc_text
           exact ⟨_, _, .sub (.cons _ (.cons _ (.refl _))), bad (.way p) (by unfold badSm; rw [if_neg (by rw [h1]; decide), if_neg h2, hwf]; rfl)⟩
         | none =>
           have hok : badSm (ls.map (·.1)) ((ss.take i).map (·.nm)) x = none := by unfold badSm; rw [if_neg (by rw [h1]; decide), if_neg h2, hwf]; rfl
           rw [hok] at hg2
           unfold optD
           repeat' kpc_text
           have em2 := take_snoc (·.nm) hxx
           have em3 : ((ss.take (i + 1)).map (·.nm)).map D.str = ((ss.take i).map (·.nm)).map D.str ++ [D.str x.nm] := by rw [em2, List.map_append]; rfl
           exact ⟨[_, _, _], rfl, _, _, _, rfl, (by rw [em3]; rfl), (by rw [em2]; exact hg2)⟩
     · rename_i h1
       exact ⟨_, _, .sub (.cons _ (.cons _ (.refl _))), bad (.name x.nm) (by unfold badSm; rw [if_pos (by simpa using h1)])⟩
   · rintro vs δ M1 ⟨o3, o6, o7, rfl, rfl, hg2⟩ hδ
     obtain rfl : δ = [_, _, _, o3, _, _, o6, o7] := hδ
     try simp only [range_len, List.length_map, enum_len] at hg2
     rw [List.take_length, List.drop_length] at hg2
     have hg3 : planF ls ss = none := by rw [hpl, hg2]; rfl
     rw [hg3] at k
     repeat' kpc_text
     exact ⟨_, _, .sub (.cons _ (.cons _ (.refl _))), k⟩
abbrev s_law_words : Stmt := top 50
def n_law_words : List Str := ["_law_row", "_law_words_here", "_law_word", "_law_sign_here"]
theorem sc_law_words : FnScope n_law_words ["_law_row"] (defScope s_law_words) := ⟨rfl, rfl, rfl, by decide +kernel, rfl, by decide +kernel, by decide +kernel⟩
theorem d_law_words {P : Program} {w : World} {K : PySem.W.Frag} {mg : Str → Option Value} {base : Heap} {f : Addr} {fd : FuncData} (F : Fun K "_law_words" "_law_words" s_law_words f fd)
    : FnOk P w K mg base CX0 1 f fd ["_law_row"] (lift pLawWords) := by
 refine fnok_of (N := n_law_words) (k := 0) F sc_law_words (fun ds M Φ h => by obtain ⟨row, rfl, hl, k⟩ := h; rfl) fun X B I ds M Φ h => ?_
 obtain ⟨row, rfl, hl, k⟩ := h
 obtain ⟨rfl, rfl, rfl, rfl, rfl, hN, hs, hf, z, xe⟩ := I
 have hp := passes_of xe
 have n0 : Lo X 0 "_law_row" := lo_of hN hs hf (by decide +kernel)
 have n1 : Lo X 1 "_law_words_here" := lo_of hN hs hf (by decide +kernel)
 have n2 : Lo X 2 "_law_word" := lo_of hN hs hf (by decide +kernel)
 have n3 : Lo X 3 "_law_sign_here" := lo_of hN hs hf (by decide +kernel)
 clear F hf
 change DSs _ X (_ :: _) [_, _, _, _] _ _
 obtain ⟨rr, rfl⟩ : ∃ rr, row = txs rr := ⟨_, (TL.mk_tl row).symm⟩
 rw [txs_len] at hl
 rw [words_is] at k
 have k : Φ (.lst (((wordsL rr).map txs).map .str)) M := k
 repeat' ((fail_if_success refine (stSet "_law_words_here") ?_); kpc_text)
 first | refine ds_cons (ds_own 0 z n1 (df_lst (da_nil ⟨by decide, fun q => ?_⟩))) | refine ds_own 0 z n1 (df_lst (da_nil ⟨by decide, fun q => ?_⟩))
 kpc_text
 repeat' ((fail_if_success refine stFor ?_); kpc_text)
 first | refine ds_cons (ds_forC [2, 3] z (by assumption) (di_str ?_)) | refine ds_forC [2, 3] z (by assumption) (di_str ?_)
 repeat' ((fail_if_success refine stFor ?_); kpc_text)
 rw [show Str.ofString "" = txs [] from by decide +kernel]
 repeat' kpc_text
 rw [sp_is]
 refine od_addS (by rw [txs_len, txs_len]; exact Nat.le_trans (show _ ≤ 100001 by simp; omega) (by decide)) ?_
 rw [txs_add]
 refine ⟨_, rfl, ?_⟩
 refine ⟨fun i vs M1 => (∃ (dn : List (List Nat)) (cur : List Nat) (o3 : Option D), [some (.str (txs cur)), o3] = vs ∧ (q, .lst (((dn.filter fun w => !w.isEmpty).map txs).map .str)) :: M = M1 ∧ (∀ rest, cutL 32 [] ((rr ++ [32]).take i ++ rest) = dn ++ cutL 32 cur rest) ∧ (cur.length ≤ i) ∧ (dn.length ≤ i)), ⟨[], [], _, rfl, rfl, ((fun rest => rfl)), (Nat.le_refl 0), (Nat.le_refl 0)⟩, ?_, ?_⟩
 · rintro i x vs δ M1 hx ⟨dn, cur, o3, rfl, rfl, hc, hcl, hdn⟩ hδ
   obtain rfl : δ = [_, _, _, o3] := hδ
   have hx : ((rr ++ [32]).map fun c => D.str ⟨#[c]⟩)[i]? = some x := hx
   rw [List.getElem?_map] at hx
   cases e : (rr ++ [32])[i]? with
   | none => rw [e] at hx; cases hx
   | some c =>
     rw [e] at hx
     obtain rfl := Option.some.inj hx
     have hil := (List.getElem?_eq_some_iff.mp e).1
     rw [List.length_append, List.length_singleton] at hil
     have ht : (rr ++ [32]).take (i + 1) = (rr ++ [32]).take i ++ [c] := by rw [List.take_add_one, e]; rfl
     have hfl : (dn.filter fun w => !w.isEmpty).length ≤ dn.length := List.length_filter_le _ _
     repeat' kpc_text
     · rename_i h1
       have hc32 : c ≠ 32 := fun q => h1 (by rw [q])
       refine c_addT (b := [c]) (by simp; omega) ?_
       repeat' kpc_text
       exact ⟨[_, _], rfl, dn, cur ++ [c], _, rfl, rfl, ((fun rest => by rw [ht, List.append_assoc, hc ([c] ++ rest)]; congr 1; exact if_neg hc32)), (by simp; omega), (by omega)⟩
     · rename_i h1 h2
       have hc32 : c = 32 := one_str h1
       subst hc32
       have hne : cur ≠ [] := fun q => h2 (by rw [q])
       have hf : (dn ++ [cur]).filter (fun w => !w.isEmpty) = dn.filter (fun w => !w.isEmpty) ++ [cur] := by
         rw [List.filter_append]
         congr 1
         cases cur with
         | nil => exact absurd rfl hne
         | cons a l => rfl
       exact ⟨[_, _], rfl, dn ++ [cur], [], _, rfl, (by rw [hf, List.map_append, List.map_append]; rfl), ((fun rest => by rw [ht, List.append_assoc, hc ([32] ++ rest), List.append_assoc]; rfl)), (by simp), (by simp; omega)⟩
     · rename_i h1 h2
       have hc32 : c = 32 := one_str h1
       subst hc32
       have he : cur = [] := congrArg (fun z : Str => z.cps.toList) h2
       subst he
       have hf : (dn ++ [[]]).filter (fun w : List Nat => !w.isEmpty) = dn.filter (fun w => !w.isEmpty) := by
         rw [List.filter_append]; simp
       exact ⟨[_, _], rfl, dn ++ [[]], [], _, rfl, (by rw [hf]), ((fun rest => by rw [ht, List.append_assoc, hc ([32] ++ rest), List.append_assoc]; rfl)), (by simp), (by simp; omega)⟩
 · rintro vs δ M1 ⟨dn, cur, o3, rfl, rfl, hc, hcl, hdn⟩ hδ
   obtain rfl : δ = [_, _, _, o3] := hδ
   try simp only [range_len, List.length_map, enum_len] at hc hcl hdn
   have hc1 := hc []
   rw [List.take_length, List.append_nil, show cutL 32 [] (rr ++ [32]) = cutL 32 [] rr ++ cutL 32 [] [] from cutL_app 32 [] rr []] at hc1
   have hdd := (List.append_inj' hc1 rfl).1
   rw [← hdd]
   repeat' kpc_text
   exact ⟨_, _, .frz 0 rfl, k⟩
abbrev s_law_number : Stmt := top 51
def n_law_number : List Str := ["_law_word", "_law_sign_here"]
theorem sc_law_number : FnScope n_law_number ["_law_word"] (defScope s_law_number) := ⟨rfl, rfl, rfl, by decide +kernel, rfl, by decide +kernel, by decide +kernel⟩
theorem d_law_number {P : Program} {w : World} {K : PySem.W.Frag} {mg : Str → Option Value} {base : Heap} {f : Addr} {fd : FuncData} (F : Fun K "_law_number" "_law_number" s_law_number f fd)
   (G_len : mg "len" = none) (G_all : mg "all" = none) (G_int : mg "int" = none) : FnOk P w K mg base CX0 1 f fd ["_law_word"] (lift pLawNum) := by
 refine fnok_of (N := n_law_number) (k := 0) F sc_law_number (fun ds M Φ h => by obtain ⟨t, rfl, h1, hl, k⟩ := h; rfl) fun X B I ds M Φ h => ?_
 obtain ⟨t, rfl, h1, hl, k⟩ := h
 obtain ⟨rfl, rfl, rfl, rfl, rfl, hN, hs, hf, z, xe⟩ := I
 have hp := passes_of xe
 have n0 : Lo X 0 "_law_word" := lo_of hN hs hf (by decide +kernel)
 have g_len : Gn X "len" := gn_of hs (by decide +kernel) G_len
 have g_all : Gn X "all" := gn_of hs (by decide +kernel) G_all
 have g_int : Gn X "int" := gn_of hs (by decide +kernel) G_int
 clear F hf
 change DSs _ X (_ :: _) [_, _] _ _
 have hz : t.length ≤ sizeLine := Nat.le_trans hl (by decide)
 repeat' kpc_text
 refine cd_lenS hz ?_
 repeat' kpc_text
 · rename_i h0
   rw [show numF t = none from if_pos (.inl (by omega))] at k
   exact ⟨_, _, .refl, k⟩
 rename_i h0
 obtain ⟨c0, rest, hcs⟩ : ∃ c0 rest, t.cps.toList = c0 :: rest := by
   cases hc : t.cps.toList with
   | nil =>
     have : t.cps.toList.length = t.length := rfl
     rw [hc] at this
     simp at this
     omega
   | cons c0 rest => exact ⟨_, _, rfl⟩
 refine od_ixS (c := c0) hz (show atI t.cps.toList ((0 : Nat) : Int) = some c0 from atI_nat (by rw [hcs]; rfl)) ?_
 repeat' kpc_text
 · rename_i h2
   have h48 : c0 = 48 := one_str (d := 48) h2
   rw [show numF t = none from if_pos (.inr (by rw [hcs, h48]; rfl))] at k
   exact ⟨_, _, .refl, k⟩
 rename_i h2
 have hn48 : ¬ c0 = 48 := fun e => h2 (by rw [e]; rfl)
 have hnf : numF t = if ∀ c ∈ t.cps.toList, c ∈ figures.cps.toList then some ((PySem.NumText.digitsVal t.cps.toList : Nat) : Int) else none := if_neg fun hh => by
   rcases hh with hh | hh
   · omega
   · rw [hcs] at hh
     exact hn48 (Option.some.inj hh)
 have etl : t.length = t.cps.toList.length := TL.len_tl t
 refine DE.f (df_lc 0 z hN hs [("_law_sign_here", 1)] (.one 1) (by decide +kernel) (by decide) (fun X' bk => pg_one bk z (bk.lo hN hs (by decide +kernel))) (di_str ?_))
 repeat' kpc_text
 refine LcH.mapT (t.cps.toList) ((fun c => D.str ⟨#[c]⟩)) (fun c => decide (c ∈ figures.cps.toList)) (.bl) (Nat.le_trans (show List.length _ ≤ 1000000 by first | omega | (simp; done) | (simp; omega)) (by decide)) (fun q acc a ha => ?_) ?_
 · refine ⟨_, rfl, fun X' bk => ?_⟩
   have c1 : Lo X' 1 "_law_sign_here" := bk.lo hN hs (by decide +kernel)
   have z' := bk.z z
   repeat' kpc_text
   exact ⟨rfl, rfl⟩
 repeat' kpc_text
 refine cd_all (.val _) ?_
 repeat' kpc_text
 · rename_i h3
   rw [List.all_map] at h3
   have hall : ∀ c ∈ t.cps.toList, c ∈ figures.cps.toList := fun c hc => of_decide_eq_true (List.all_eq_true.mp h3 c hc)
   rw [show numF t = some ((PySem.NumText.digitsVal t.cps.toList : Nat) : Int) from hnf.trans (if_pos hall)] at k
   refine de_intS (by assumption) ?_
   repeat' kpc_text
   refine cd_intS (PySem.intText_digits (fun c hc => fig_digit c (hall c hc)) (by rw [hcs]; simp) (by omega)) (by omega) ?_
   exact ⟨_, _, .refl, k⟩
 · rename_i h3
   rw [List.all_map] at h3
   rw [show numF t = none from hnf.trans (if_neg fun hall => by
     have : t.cps.toList.all (id ∘ fun c => decide (c ∈ figures.cps.toList)) = true := List.all_eq_true.mpr fun c hc => decide_eq_true (hall c hc)
     rw [h3] at this; cases this)] at k
   exact ⟨_, _, .refl, k⟩
theorem numF_pos {z : Str} {i : Int} (hz : 1 ≤ z.length) (h : numF z = some i) : 1 ≤ i := by
 unfold numF at h
 split at h
 · cases h
 · rename_i h0
   split at h
   · rename_i hall
     obtain rfl := Option.some.inj h
     cases hc : z.cps.toList with
     | nil =>
       have e : z.length = z.cps.toList.length := TL.len_tl z
       rw [hc] at e
       simp at e
       omega
     | cons c r =>
       have hc1 := fig_digit c (hall c (by rw [hc]; exact .head _))
       have hn : c ≠ 48 := fun q => h0 (.inr (by rw [hc, q]; rfl))
       have := PySem.NumText.digitsVal_pos (c := c) (cs := r) (by omega)
       omega
   · cases h
theorem numsF_z {ws : List Str} (h : ∀ z ∈ ws, numF z ≠ none) : numsF ws = some (ws.map fun z => numZ (numF z)) := numsF_of (by
 rw [List.map_map]
 refine List.map_congr_left fun z hz => ?_
 show numF z = some (numZ (numF z))
 cases e : numF z with
 | none => exact absurd e (h z hz)
 | some i => rfl)
theorem numsF_none {ws : List Str} {z : Str} (hz : z ∈ ws) (h : numF z = none) : numsF ws = none := if_pos (List.mem_map.mpr ⟨z, hz, h⟩)
abbrev wayZ (tl : List Str) (p : Nat) : List Leg := (List.range p).map fun i => (tl.getD (2 * i) default, numZ (numF (tl.getD (2 * i + 1) default)))
theorem cut25 (w0 nm a b c : Str) (tl : List Str) : cutD (w0 :: nm :: a :: b :: c :: tl) (some 2) (some 5) = [a, b, c] ∧ cutD (w0 :: nm :: a :: b :: c :: tl) (some 5) none = tl := by
 constructor
 · unfold cutD
   have hl : (w0 :: nm :: a :: b :: c :: tl).length = tl.length + 5 := rfl
   rw [hl, show HT.sIx (tl.length + 5) 0 (some 2) = min 2 (tl.length + 5) from HT.sIx_nat _ _ 2, show HT.sIx (tl.length + 5) (tl.length + 5) (some 5) = min 5 (tl.length + 5) from HT.sIx_nat _ _ 5, show min 2 (tl.length + 5) = 2 by omega, show min 5 (tl.length + 5) = 5 by omega]
   rfl
 · rw [cut_from (by decide)]; rfl
theorem getD_mem {tl : List Str} {i : Nat} (h : i < tl.length) : tl.getD i default ∈ tl := by
 rw [List.getD_eq_getElem?_getD, List.getElem?_eq_getElem h]
 exact List.getElem_mem h
theorem getD_some {tl : List Str} {i : Nat} (h : i < tl.length) : tl[i]? = some (tl.getD i default) := by
 rw [List.getD_eq_getElem?_getD, List.getElem?_eq_getElem h]; rfl
theorem pairs_wayZ {tl : List Str} {p : Nat} (hl : tl.length = 2 * p) (hw : ∀ z ∈ tl, 1 ≤ z.length) : pairsF tl = if 0 ∈ (wayZ tl p).map (·.2) then none else some (wayZ tl p) := by
 have e0 : step2 0 tl = (List.range p).map fun i => tl.getD (2 * i) default := step2_even _ p 0 tl hl (by decide) fun i hi => getD_some (by omega)
 have e1 : step2 1 tl = (List.range p).map fun i => tl.getD (2 * i + 1) default := step2_even _ p 1 tl hl (by decide) fun i hi => getD_some (by omega)
 have ew : (wayZ tl p).map (·.2) = (step2 1 tl).map fun z => numZ (numF z) := by
   rw [e1, List.map_map, List.map_map]; rfl
 unfold pairsF
 rw [if_neg (by omega)]
 by_cases h : ∃ z ∈ step2 1 tl, numF z = none
 · obtain ⟨z, hz, hn⟩ := h
   rw [numsF_none hz hn, if_pos]
   rw [ew]
   exact List.mem_map.mpr ⟨z, hz, by rw [hn]; rfl⟩
 · have hall : ∀ z ∈ step2 1 tl, numF z ≠ none := fun z hz hn => h ⟨z, hz, hn⟩
   rw [numsF_z hall, if_neg]
   · show some ((step2 0 tl).zip ((step2 1 tl).map fun z => numZ (numF z))) = _
     rw [e0, e1, List.map_map]
     congr 1
     show _ = (List.range p).map fun i => (tl.getD (2 * i) default, numZ (numF (tl.getD (2 * i + 1) default)))
     generalize List.range p = l
     induction l with
     | nil => rfl
     | cons a l ih => rw [List.map_cons, List.map_cons, List.zip_cons_cons, ih]; rfl
   · rw [ew]
     intro q
     obtain ⟨z, hz, e⟩ := List.mem_map.mp q
     cases en : numF z with
     | none => exact hall z hz en
     | some i =>
       have := numF_pos (hw z (step2_mem hz)) en
       rw [en] at e
       have e : i = 0 := e
       omega
theorem stream_is {w0 nm a b c : Str} {tl : List Str} {p : Nat} (hl : tl.length = 2 * p) (hp : 1 ≤ p) (hw : ∀ z ∈ w0 :: nm :: a :: b :: c :: tl, 1 ≤ z.length) : streamF (w0 :: nm :: a :: b :: c :: tl) =
   if (1 ≤ numZ (numF b) ∧ numZ (numF b) ≤ numZ (numF c) ∧ numZ (numF c) ≤ numZ (numF a) ∧ numZ (numF a) ≤ 1000000000) ∧ ¬ 0 ∈ (wayZ tl p).map (·.2) then some ⟨nm, ⟨numZ (numF a), numZ (numF b), numZ (numF c)⟩, wayZ tl p⟩ else none := by
 unfold streamF
 rw [if_neg (by simp only [List.length_cons]; omega), (cut25 w0 nm a b c tl).1, (cut25 w0 nm a b c tl).2, pairs_wayZ hl fun z hz => hw z (by simp [hz])]
 by_cases h : ∃ z ∈ [a, b, c], numF z = none
 · obtain ⟨z, hz, hn⟩ := h
   have hno : ¬ ((1 ≤ numZ (numF b) ∧ numZ (numF b) ≤ numZ (numF c) ∧ numZ (numF c) ≤ numZ (numF a) ∧ numZ (numF a) ≤ 1000000000) ∧ ¬ 0 ∈ (wayZ tl p).map (·.2)) := by
     rintro ⟨⟨q1, q2, q3, q4⟩, _⟩
     have e0 : numZ none = 0 := rfl
     simp only [List.mem_cons, List.not_mem_nil, or_false] at hz
     rcases hz with rfl | rfl | rfl
     · rw [hn] at q3
       omega
     · rw [hn] at q1
       omega
     · rw [hn] at q2
       omega
   rw [numsF_none hz hn, if_neg hno]
 · rw [numsF_z fun z hz hn => h ⟨z, hz, hn⟩]
   by_cases h0 : 0 ∈ (wayZ tl p).map (·.2)
   · rw [if_pos h0, if_neg (fun q => q.2 h0)]
     rfl
   · rw [if_neg h0]
     show (if _ then _ else _) = _
     by_cases hq : 1 ≤ numZ (numF b) ∧ numZ (numF b) ≤ numZ (numF c) ∧ numZ (numF c) ≤ numZ (numF a) ∧ numZ (numF a) ≤ 1000000000
     · rw [if_pos hq, if_pos ⟨hq, h0⟩]; rfl
     · rw [if_neg hq, if_neg (fun q => hq q.1)]
theorem lane_none {ws : List Str} (h : ws.length ≠ 3) : laneF ws = none := by
 rcases ws with _ | ⟨a1, _ | ⟨a2, _ | ⟨a3, _ | ⟨a4, ws⟩⟩⟩⟩ <;> first | rfl | exact absurd rfl h
theorem stream_none {ws : List Str} (h : ws.length < 7 ∨ ws.length % 2 = 0) : streamF ws = none := by
 unfold streamF
 by_cases h7 : ws.length < 7
 · rw [if_pos h7]
 · rw [if_neg h7]
   have e : pairsF (cutD ws (some 5) none) = none := if_pos (by
     rw [cut_from (by decide), List.length_drop]
     show (ws.length - 5) % 2 = 1
     omega)
   rw [e]
   cases numsF (cutD ws (some 2) (some 5)) with
   | none => rfl
   | some l => rcases l with _ | ⟨_, _ | ⟨_, _ | ⟨_, _ | _⟩⟩⟩ <;> rfl
theorem item_lane_in {ws : List Str} (h : WdIn ws) {l : Leg} (e : itemF ws = some (.inl l)) : l.1.length ≤ 200000 := by
 unfold itemF at e
 split at e
 · obtain ⟨l', h1, h2⟩ := Option.map_eq_some_iff.mp e
   cases h2
   exact lane_in h h1
 · split at e
   · obtain ⟨l', h1, h2⟩ := Option.map_eq_some_iff.mp e
     cases h2
   · cases e
theorem item_stream_in {ws : List Str} (h : WdIn ws) {x : Sm} (e : itemF ws = some (.inr x)) : x.nm.length ≤ 200000 ∧ x.way.length ≤ 200000 := by
 unfold itemF at e
 split at e
 · obtain ⟨l', h1, h2⟩ := Option.map_eq_some_iff.mp e
   cases h2
 · split at e
   · obtain ⟨l', h1, h2⟩ := Option.map_eq_some_iff.mp e
     cases h2
     exact stream_in h h1
   · cases e
abbrev s_law_item : Stmt := top 52
def n_law_item : List Str := ["_law_words_here", "_law_size", "_law_rate", "_law_mouth", "_law_way_here", "_law_k", "_law_word", "_law_leg"]
theorem sc_law_item : FnScope n_law_item ["_law_words_here"] (defScope s_law_item) := ⟨rfl, rfl, rfl, by decide +kernel, rfl, by decide +kernel, by decide +kernel⟩
theorem d_law_item {P : Program} {w : World} {K : PySem.W.Frag} {mg : Str → Option Value} {base : Heap} {f : Addr} {fd : FuncData} (F : Fun K "_law_item" "_law_item" s_law_item f fd)
   (G_len : mg "len" = none) (D_law_number : Def P w K mg base 1 "_law_number" ["_law_word"] pLawNum) (G_range : mg "range" = none) : FnOk P w K mg base CX0 2 f fd ["_law_words_here"] (lift pLawItem) := by
 refine fnok_of (N := n_law_item) (k := 1) F sc_law_item (fun ds M Φ h => by obtain ⟨ws, rfl, hwd, h1, k⟩ := h; rfl) fun X B I ds M Φ h => ?_
 obtain ⟨ws, rfl, hwd, h1, k⟩ := h
 obtain ⟨rfl, rfl, rfl, rfl, rfl, hN, hs, hf, z, xe⟩ := I
 have hp := passes_of xe
 have n0 : Lo X 0 "_law_words_here" := lo_of hN hs hf (by decide +kernel)
 have n1 : Lo X 1 "_law_size" := lo_of hN hs hf (by decide +kernel)
 have n2 : Lo X 2 "_law_rate" := lo_of hN hs hf (by decide +kernel)
 have n3 : Lo X 3 "_law_mouth" := lo_of hN hs hf (by decide +kernel)
 have n4 : Lo X 4 "_law_way_here" := lo_of hN hs hf (by decide +kernel)
 have n5 : Lo X 5 "_law_k" := lo_of hN hs hf (by decide +kernel)
 have g_len : Gn X "len" := gn_of hs (by decide +kernel) G_len
 have l_law_number : Gl X "_law_number" := gl_of hs (by decide +kernel)
 have g_range : Gn X "range" := gn_of hs (by decide +kernel) G_range
 clear F hf
 change DSs _ X (_ :: _) [_, _, _, _, _, _, _, _] _ _
 obtain ⟨w0, rest, rfl⟩ : ∃ w0 rest, ws = w0 :: rest := by
   cases ws with
   | nil => simp at h1
   | cons w0 rest => exact ⟨_, _, rfl⟩
 have i0 : ∀ x, (w0 :: rest)[Int.toNat 0]? = some x → x = w0 := fun x h => (Option.some.inj h).symm
 have hww := hwd.2
 repeat' kpc_text
 · rename_i x hx hL h3 z hz
   obtain rfl := i0 x hx
   rw [item_lane hL] at k
   obtain ⟨a1, a2, rfl⟩ : ∃ a1 a2, rest = [a1, a2] := by
     rcases rest with _ | ⟨a1, _ | ⟨a2, _ | ⟨a3, rest⟩⟩⟩
     · simp at h3
     · simp at h3
     · exact ⟨_, _, rfl⟩
     · simp at h3; omega
   obtain rfl : a2 = z := by simpa using hz
   have hz1 := hww a2 (by simp)
   have hla : laneF [x, a1, a2] = (numF a2).map fun i => (a1, i) := rfl
   refine ⟨a2, rfl, hz1.1, hz1.2, ?_⟩
   cases hn : numF a2 with
   | none =>
     rw [show numZ none = 0 from rfl]
     rw [hla, hn] at k
     repeat' kpc_text
     · exact ⟨_, _, .refl, k⟩
     · rename_i y hy hS
       exact (lane_stream hL (i0 y hy ▸ hS)).elim
   | some i =>
     have hp := numF_pos hz1.1 hn
     rw [show numZ (some i) = i from rfl]
     rw [hla, hn] at k
     repeat' kpc_text
     rename_i u hu v hv
     obtain rfl : a1 = u := by simpa using hu
     obtain rfl : a2 = v := by simpa using hv
     refine ⟨a2, rfl, hz1.1, hz1.2, ?_⟩
     rw [hn]
     repeat' kpc_text
     exact ⟨_, _, .refl, k⟩
 · rename_i x hx hL h3 y hy hS
   obtain rfl := i0 x hx
   rw [item_lane hL, lane_none (by omega)] at k
   exact ⟨_, _, .refl, k⟩
 · rename_i x hx hL h3 y hy hS h7
   exact (lane_stream (i0 x hx ▸ hL) (i0 y hy ▸ hS)).elim
 · rename_i x hx hL h3 y hy hS h7 h8
   exact (lane_stream (i0 x hx ▸ hL) (i0 y hy ▸ hS)).elim
 · rename_i x hx hL h3 y hy hS h7 h8
   exact (lane_stream (i0 x hx ▸ hL) (i0 y hy ▸ hS)).elim
 · rename_i x hx hL y hy hS
   obtain rfl := i0 x hx
   obtain rfl := i0 y hy
   rw [item_none hL hS] at k
   exact ⟨_, _, .refl, k⟩
 · rename_i x hx hL y hy hS h7
   obtain rfl := i0 x hx
   obtain rfl := i0 y hy
   rw [item_stream hL hS, stream_none (.inl (by omega))] at k
   exact ⟨_, _, .refl, k⟩
 · rename_i x hx hL y hy hS h7 h8
   obtain rfl := i0 x hx
   obtain rfl := i0 y hy
   rw [item_stream hL hS, stream_none (.inr (by omega))] at k
   exact ⟨_, _, .refl, k⟩
 · rename_i x hx hL y hy hS h7 h8
   obtain rfl := i0 x hx
   obtain rfl := i0 y hy
   rw [item_stream hL hS] at k
   obtain ⟨nm, sa, sb, sc, tl, rfl⟩ : ∃ nm sa sb sc tl, rest = nm :: sa :: sb :: sc :: tl := by
     rcases rest with _ | ⟨nm, _ | ⟨a, _ | ⟨b, _ | ⟨c, tl⟩⟩⟩⟩
     · simp at h7
     · simp at h7
     · simp at h7
     · simp at h7
     · exact ⟨_, _, _, _, _, rfl⟩
   simp only [List.length_cons] at h7 h8
   obtain ⟨p, hp⟩ : ∃ p, tl.length = 2 * p := ⟨tl.length / 2, by omega⟩
   have hp1 : 1 ≤ p := by omega
   have hwl := hwd.1
   simp only [List.length_cons] at hwl
   rw [stream_is hp hp1 fun z hz => (hww z hz).1] at k
   refine DE.f (df_lc 0 z hN hs [("_law_word", 6)] (.one 6) (by decide +kernel) (by decide) (fun X' bk => pg_one bk z (bk.lo hN hs (by decide +kernel))) (di_list ?_))
   repeat' kpc_text
   refine sl_any ?_
   rw [(cut25 y nm sa sb sc tl).1]
   refine ⟨_, rfl, ?_⟩
   refine LcH.mapT ([sa, sb, sc]) (.str) (fun z => numZ (numF z)) (.int) (Nat.le_trans (show List.length _ ≤ 1000000 by first | omega | (simp; done) | (simp; omega)) (by decide)) (fun q acc a ha => ?_) ?_
   · refine ⟨_, rfl, fun X' bk => ?_⟩
     have c6 : Lo X' 6 "_law_word" := bk.lo hN hs (by decide +kernel)
     have z' := bk.z z
     have D_law_number' := bk.df D_law_number
     have l_law_number' : Gl X' "_law_number" := bk.gl hs (by decide +kernel)
     repeat' kpc_text
     have hz := hww a (by simp at ha; rcases ha with rfl | rfl | rfl <;> simp)
     refine ⟨_, rfl, hz.1, hz.2, ?_⟩
     exact ⟨rfl, rfl⟩
   rw [show [sa, sb, sc].map (fun z => numZ (numF z)) = [numZ (numF sa), numZ (numF sb), numZ (numF sc)] from rfl]
   refine dg_lst (by assumption) rfl ?_
   generalize hga : numZ (numF sa) = va at k ⊢
   generalize hgb : numZ (numF sb) = vb at k ⊢
   generalize hgc : numZ (numF sc) = vc at k ⊢
   repeat' ((fail_if_success refine (stSet "_law_way_here") ?_); kpc_text)
   first | refine ds_cons (ds_own 0 z n4 (df_lst (da_nil ⟨by decide, fun q => ?_⟩))) | refine ds_own 0 z n4 (df_lst (da_nil ⟨by decide, fun q => ?_⟩))
   kpc_text
   have hj : ((y :: nm :: sa :: sb :: sc :: tl).length : Int) = 2 * (p : Int) + 5 := by simp only [List.length_cons]; omega
   have hat : ∀ m, m < tl.length → (y :: nm :: sa :: sb :: sc :: tl)[m + 5]? = some (tl.getD m default) := fun m hm => (getD_some (tl := tl) hm : tl[m]? = _)
   repeat' ((fail_if_success refine stFor ?_); kpc_text)
   first | refine ds_cons (ds_forC [5] z (by assumption) (di_range3 (by assumption) ?_)) | refine ds_forC [5] z (by assumption) (di_range3 (by assumption) ?_)
   repeat' kpc_text
   refine ⟨5, (y :: nm :: sa :: sb :: sc :: tl).length, 2, p, rfl, rfl, rfl, RgC.two (by decide) (by decide) (by omega) (by omega) (by rw [if_pos (by omega)]; omega), ?_⟩
   refine ⟨fun i vs M1 => (∃  (o5 : Option D), [o5] = vs ∧ (q, .lst ((wayZ tl i).map legD)) :: M = M1), ⟨_, rfl, rfl⟩, ?_, ?_⟩
   · rintro i x vs δ M1 hx ⟨o5, rfl, rfl⟩ hδ
     obtain rfl : δ = [_, _, _, _, _, o5, _, _] := hδ
     rw [List.getElem?_map] at hx
     have hip : i < p := by
       by_cases h : i < p
       · exact h
       · rw [List.getElem?_eq_none (by simp; omega)] at hx; cases hx
     rw [List.getElem?_range hip] at hx
     obtain rfl : x = D.int ((2 * i + 5 : Nat) : Int) := by
       have hx : some (D.int (5 + (i : Int) * 2)) = some x := hx
       rw [← Option.some.inj hx]
       congr 1
       omega
     repeat' kpc_text
     rename_i u hu v hv
     obtain rfl : u = tl.getD (2 * i) default := by
       have e := hat (2 * i) (by omega)
       have hu : (y :: nm :: sa :: sb :: sc :: tl)[2 * i + 5]? = some u := hu
       exact Option.some.inj (hu.symm.trans e)
     obtain rfl : v = tl.getD (2 * i + 1) default := by
       have e := hat (2 * i + 1) (by omega)
       rw [show (((2 * i + 5 : Nat) : Int) + 1).toNat = 2 * i + 1 + 5 by omega] at hv
       exact Option.some.inj (hv.symm.trans e)
     have hvm : tl.getD (2 * i + 1) default ∈ y :: nm :: sa :: sb :: sc :: tl := by
       have := getD_mem (tl := tl) (i := 2 * i + 1) (by omega)
       simp only [List.mem_cons]
       exact .inr (.inr (.inr (.inr (.inr this))))
     refine ⟨_, rfl, (hww _ hvm).1, (hww _ hvm).2, ?_⟩
     repeat' kpc_text
     have em : wayZ tl (i + 1) = wayZ tl i ++ [(tl.getD (2 * i) default, numZ (numF (tl.getD (2 * i + 1) default)))] := by
       show (List.range (i + 1)).map _ = _
       rw [List.range_succ, List.map_append]; rfl
     exact ⟨[_], rfl, _, rfl, (by rw [em, List.map_append]; rfl)⟩
   · rintro vs δ M1 ⟨o5, rfl, rfl⟩ hδ
     obtain rfl : δ = [_, _, _, _, _, o5, _, _] := hδ
     rw [List.length_map, List.length_range]
     repeat' kpc_text
     · refine ⟨_, _, .sub (List.sublist_cons_self _ _), ?_⟩
       rw [if_neg (fun q => by have := q.1; omega)] at k
       exact k
     · rename_i q1 q2 q3 q4
       refine DE.f (df_lcC 0 z hN hs [("_law_leg", 7)] (.one 7) (by decide +kernel) (by decide) (fun X' bk => pg_one bk z (bk.lo hN hs (by decide +kernel))) (di_cell ?_))
       repeat' kpc_text
       refine ⟨_, _, rfl, ⟨0, rfl⟩, ?_⟩
       refine LcHC.mapT (wayZ tl p) (legD) (fun l => l.2) (.int) (Nat.le_trans (show List.length _ ≤ 1000000 by first | omega | (simp; done) | (simp; omega)) (by decide)) (fun q acc a ha => ?_) (by kbt_pows) ?_
       · refine ⟨_, rfl, fun X' bk => ?_⟩
         have c7 : Lo X' 7 "_law_leg" := bk.lo hN hs (by decide +kernel)
         have z' := bk.z z
         repeat' kpc_text
         exact ⟨rfl, rfl⟩
       repeat' kpc_text
       · rename_i h0
         refine ⟨_, _, .sub (List.sublist_cons_self _ _), ?_⟩
         rw [if_neg (fun q => q.2 h0)] at k
         exact k
       · rename_i h0 u hu
         obtain rfl : nm = u := Option.some.inj hu
         rw [if_pos ⟨⟨q1, q2, q3, q4⟩, h0⟩] at k
         exact ⟨_, _, .frzT 2 0 rfl rfl, k⟩
     · refine ⟨_, _, .sub (List.sublist_cons_self _ _), ?_⟩
       rw [if_neg (fun q => by have := q.1; omega)] at k
       exact k
     · refine ⟨_, _, .sub (List.sublist_cons_self _ _), ?_⟩
       rw [if_neg (fun q => by have := q.1; omega)] at k
       exact k
     · refine ⟨_, _, .sub (List.sublist_cons_self _ _), ?_⟩
       rw [if_neg (fun q => by have := q.1; omega)] at k
       exact k
abbrev s_law_read : Stmt := top 53
def n_law_read : List Str := ["_law_text", "_law_lanes", "_law_streams", "_law_at", "_law_row", "_law_words_here", "_law_item_here"]
theorem sc_law_read : FnScope n_law_read ["_law_text"] (defScope s_law_read) := ⟨rfl, rfl, rfl, by decide +kernel, rfl, by decide +kernel, by decide +kernel⟩
theorem d_law_read {P : Program} {w : World} {K : PySem.W.Frag} {mg : Str → Option Value} {base : Heap} {f : Addr} {fd : FuncData} (F : Fun K "_law_read" "_law_read" s_law_read f fd)
   (G_enumerate : mg "enumerate" = none) (D_law_words : Def P w K mg base 1 "_law_words" ["_law_row"] pLawWords) (D_law_item : Def P w K mg base 2 "_law_item" ["_law_words_here"] pLawItem) (G_len : mg "len" = none) (D_law_due : Def P w K mg base 2 "_law_due" ["_law_lanes", "_law_streams"] pLawDue) : FnOk P w K mg base CX0 3 f fd ["_law_text"] (lift pLawRead) := by
 refine fnok_of (N := n_law_read) (k := 2) F sc_law_read (fun ds M Φ h => by obtain ⟨t, rfl, ⟨htl, htc⟩, k⟩ := h; rfl) fun X B I ds M Φ h => ?_
 obtain ⟨t, rfl, ⟨htl, htc⟩, k⟩ := h
 obtain ⟨rfl, rfl, rfl, rfl, rfl, hN, hs, hf, z, xe⟩ := I
 have hp := passes_of xe
 have n0 : Lo X 0 "_law_text" := lo_of hN hs hf (by decide +kernel)
 have n1 : Lo X 1 "_law_lanes" := lo_of hN hs hf (by decide +kernel)
 have n2 : Lo X 2 "_law_streams" := lo_of hN hs hf (by decide +kernel)
 have n3 : Lo X 3 "_law_at" := lo_of hN hs hf (by decide +kernel)
 have n4 : Lo X 4 "_law_row" := lo_of hN hs hf (by decide +kernel)
 have n5 : Lo X 5 "_law_words_here" := lo_of hN hs hf (by decide +kernel)
 have n6 : Lo X 6 "_law_item_here" := lo_of hN hs hf (by decide +kernel)
 have g_enumerate : Gn X "enumerate" := gn_of hs (by decide +kernel) G_enumerate
 have l_law_words : Gl X "_law_words" := gl_of hs (by decide +kernel)
 have l_law_item : Gl X "_law_item" := gl_of hs (by decide +kernel)
 have g_len : Gn X "len" := gn_of hs (by decide +kernel) G_len
 have l_law_due : Gl X "_law_due" := gl_of hs (by decide +kernel)
 clear F hf
 change DSs _ X (_ :: _) [_, _, _, _, _, _, _] _ _
 repeat' ((fail_if_success refine (stSet "_law_lanes") ?_); kpc_text)
 first | refine ds_cons (ds_own 0 z n1 (df_lst (da_nil ⟨by decide, fun ql => ?_⟩))) | refine ds_own 0 z n1 (df_lst (da_nil ⟨by decide, fun ql => ?_⟩))
 kpc_text
 repeat' ((fail_if_success refine (stSet "_law_streams") ?_); kpc_text)
 first | refine ds_cons (ds_own 0 z n2 (df_lst (da_nil ⟨by decide, fun qs => ?_⟩))) | refine ds_own 0 z n2 (df_lst (da_nil ⟨by decide, fun qs => ?_⟩))
 kpc_text
 repeat' ((fail_if_success refine stFor ?_); kpc_text)
 first | refine ds_cons (ds_forC [3, 4, 5, 6] z (by assumption) (di_enum (by assumption) ?_)) | refine ds_forC [3, 4, 5, 6] z (by assumption) (di_enum (by assumption) ?_)
 repeat' ((fail_if_success refine stSplit ?_); kpc_text)
 refine DE.f (df_split ?_)
 repeat' kpc_text
 refine ⟨by decide +kernel, Nat.le_trans (show _ ≤ 100002 by omega) (by decide), ?_⟩
 refine ⟨_, rfl, ?_⟩
 refine ⟨fun i vs M1 => (∃ (ls : List Leg) (ss : List Sm) (o3 o4 o5 o6 : Option D), [o3, o4, o5, o6] = vs ∧ (qs, .lst (ss.map smD)) :: (ql, .lst (ls.map legD)) :: M = M1 ∧ (readGo i ls ss ((Txt.split t (Str.ofString "\n")).drop i) = readF t) ∧ (InB i ls ss)), ⟨[], [], _, _, _, _, rfl, rfl, (rfl), (⟨by simp, by simp, fun l h => (by cases h), fun l h => (by cases h)⟩)⟩, ?_, ?_⟩
 · rintro i x vs δ M1 hx ⟨ls, ss, o3, o4, o5, o6, rfl, rfl, hg, hin⟩ hδ
   obtain rfl : δ = [_, _, _, o3, o4, o5, o6] := hδ
   obtain ⟨y0, hy0, rfl⟩ := enum_get hx
   obtain ⟨r, hr, rfl⟩ := map_get hy0
   have hrm := List.mem_of_getElem? hr
   rw [nl_is] at hrm
   have hrl := split_len_le (by decide) hrm
   have hrc := split_in (by decide) hrm
   have hwd := words_wd (row := r) (by omega)
   have hok := ok_strsB (l := wordsF r) fun z hz c hc => htc c (hrc c (words_in hz c hc))
   rw [rd_at hr] at hg
   have hil := (List.getElem?_eq_some_iff.mp hr).1
   have hcn := split_cnt_le (x := t) (c := 10) (by decide)
   rw [← nl_is] at hcn
   have hll := hin.ll
   have hsl := hin.sl
   repeat' kpc_text
   refine ⟨r, rfl, by omega, ?_⟩
   repeat' kpc_text
   refine od_eqNil (.val _) hok ?_
   rw [List.isEmpty_map]
   generalize wordsF r = ws at hwd hok hg
   cases ws with
   | nil =>
     repeat' kpc_text
     rw [if_pos rfl] at hg
     exact ⟨[_, _, _, _], rfl, _, _, _, _, _, _, rfl, rfl, (hg), (hin.more)⟩
   | cons w0 rest =>
     rw [if_neg (by simp)] at hg
     repeat' kpc_text
     refine ⟨_, rfl, hwd, by simp, ?_⟩
     cases hit : itemF (w0 :: rest) with
     | none =>
       rw [hit] at hg
       rw [show itemD none = D.non from rfl]
       repeat' kpc_text
       rw [← hg] at k
       exact ⟨_, _, .trans (.frzT 1 1 rfl rfl) (.frzT 2 0 rfl rfl), k⟩
     | some it =>
       cases it with
       | inl l =>
         rw [hit] at hg
         rw [show itemD (some (.inl l)) = legD l from rfl]
         repeat' kpc_text
         have em : (ls ++ [l]).map legD = ls.map legD ++ [legD l] := by rw [List.map_append]; rfl
         exact ⟨[_, _, _, _], rfl, _, _, _, _, _, _, rfl, (by rw [em]; exact rfl), (hg), (hin.addL (item_lane_in hwd hit))⟩
       | inr x =>
         rw [hit] at hg
         rw [show itemD (some (.inr x)) = smD x from rfl]
         repeat' kpc_text
         have em : (ss ++ [x]).map smD = ss.map smD ++ [smD x] := by rw [List.map_append]; rfl
         exact ⟨[_, _, _, _], rfl, _, _, _, _, _, _, rfl, (by rw [em]; exact rfl), (hg), (hin.addS (item_stream_in hwd hit))⟩
 · rintro vs δ M1 ⟨ls, ss, o3, o4, o5, o6, rfl, rfl, hg, hin⟩ hδ
   obtain rfl : δ = [_, _, _, o3, o4, o5, o6] := hδ
   try simp only [range_len, List.length_map, enum_len] at hg hin
   rw [List.drop_length] at hg
   have hg : readF t = (none, ls, ss) := hg.symm
   have hcn := split_cnt_le (x := t) (c := 10) (by decide)
   rw [← nl_is] at hcn
   have hins := hin.ins (by omega)
   rw [hg] at k
   repeat' ((fail_if_success refine stRet ?_); kpc_text)
   refine ws_upE 0 rfl ?_
   apply Exists.intro
   refine ⟨?_, ?_⟩
   · kx_is
   refine ws_upE 0 rfl ?_
   apply Exists.intro
   refine ⟨?_, ?_⟩
   · kx_is
   repeat' kpc_text
   refine ⟨ls, ss, rfl, hins.1, hins.2, ?_⟩
   repeat' kpc_text
   exact ⟨_, _, .refl, k⟩
def C1000 (z : Str) : Prop := ∀ c ∈ signs z, c < 1000
structure ChB (ls : List Leg) (ss : List Sm) : Prop where
 ln : ∀ l ∈ ls, C1000 l.1
 sn : ∀ x ∈ ss, C1000 x.nm
 sw : ∀ x ∈ ss, ∀ l ∈ x.way, C1000 l.1
theorem lane_ch {ws : List Str} (h : ∀ w ∈ ws, C1000 w) {l : Leg} (e : laneF ws = some l) : C1000 l.1 := by
 unfold laneF at e
 split at e
 · obtain ⟨i, _, rfl⟩ := Option.map_eq_some_iff.mp e
   exact h _ (by simp)
 · cases e
theorem zip_mem {α β : Type} : ∀ {l : List α} {m : List β} {p : α × β}, p ∈ l.zip m → p.1 ∈ l
 | [], _, _, h => by simp at h
 | _ :: _, [], _, h => by simp at h
 | a :: l, b :: m, p, h => by
   rw [List.zip_cons_cons] at h
   rcases List.mem_cons.mp h with rfl | h
   · exact .head _
   · exact .tail _ (zip_mem h)
theorem stream_ch {ws : List Str} (h : ∀ w ∈ ws, C1000 w) {x : Sm} (e : streamF ws = some x) : C1000 x.nm ∧ ∀ l ∈ x.way, C1000 l.1 := by
 unfold streamF at e
 split at e
 · cases e
 · rename_i h7
   split at e
   · rename_i a r m way h1 h2
     split at e
     · obtain rfl := Option.some.inj e
       refine ⟨?_, fun l hl => ?_⟩
       · have h1 : 1 < ws.length := by omega
         show C1000 (ws.getD 1 (Str.ofString ""))
         rw [List.getD_eq_getElem?_getD, List.getElem?_eq_getElem h1]
         exact h _ (List.getElem_mem h1)
       · unfold pairsF at h2
         split at h2
         · cases h2
         · split at h2
           · cases h2
           · obtain rfl := Option.some.inj h2
             have hl : l ∈ List.zip _ _ := hl
             exact h _ ((cutD_sub ws (some 5) none).subset (step2_mem (zip_mem hl)))
     · cases e
   · cases e
theorem readGo_ch : ∀ (rows : List Str) (i : Nat) (ls : List Leg) (ss : List Sm), (∀ r ∈ rows, C1000 r) → ChB ls ss → ChB (readGo i ls ss rows).2.1 (readGo i ls ss rows).2.2
 | [], _, _, _, _, h => h
 | r :: rs, i, ls, ss, hr, h => by
   have hw : ∀ w ∈ wordsF r, C1000 w := fun w hw c hc => hr r (.head _) c (words_in hw c hc)
   have hrs : ∀ r ∈ rs, C1000 r := fun x hx => hr x (.tail _ hx)
   rw [readGo]
   split
   · exact readGo_ch rs _ _ _ hrs h
   · rw [show itemF (wordsF r) = itemF (wordsF r) from rfl]
     cases hit : itemF (wordsF r) with
     | none => exact h
     | some it =>
       cases it with
       | inl l =>
         refine readGo_ch rs _ _ _ hrs ⟨fun x hx => ?_, h.sn, h.sw⟩
         rcases List.mem_append.mp hx with q | q
         · exact h.ln x q
         · rw [List.mem_singleton.mp q]
           unfold itemF at hit
           split at hit
           · obtain ⟨l', e1, e2⟩ := Option.map_eq_some_iff.mp hit
             cases e2
             exact lane_ch hw e1
           · split at hit
             · obtain ⟨l', e1, e2⟩ := Option.map_eq_some_iff.mp hit
               cases e2
             · cases hit
       | inr x =>
         have hx : C1000 x.nm ∧ ∀ l ∈ x.way, C1000 l.1 := by
           unfold itemF at hit
           split at hit
           · obtain ⟨l', e1, e2⟩ := Option.map_eq_some_iff.mp hit
             cases e2
           · split at hit
             · obtain ⟨l', e1, e2⟩ := Option.map_eq_some_iff.mp hit
               cases e2
               exact stream_ch hw e1
             · cases hit
         refine readGo_ch rs _ _ _ hrs ⟨h.ln, fun y hy => ?_, fun y hy => ?_⟩
         · rcases List.mem_append.mp hy with q | q
           · exact h.sn y q
           · rw [List.mem_singleton.mp q]; exact hx.1
         · rcases List.mem_append.mp hy with q | q
           · exact h.sw y q
           · rw [List.mem_singleton.mp q]; exact hx.2
theorem readF_ch {t : Str} (h : TxB t) : ChB (readF t).2.1 (readF t).2.2 := readGo_ch _ _ _ _ (fun r hr c hc => by
 rw [nl_is] at hr
 exact h.lt c (split_in (by decide) hr c hc)) ⟨fun l h => (by cases h), fun x h => (by cases h), fun x h => (by cases h)⟩
theorem readGo_inb : ∀ (rows : List Str) (i n : Nat) (ls : List Leg) (ss : List Sm), (∀ r ∈ rows, r.length ≤ 100000) → InB n ls ss → InB (n + rows.length) (readGo i ls ss rows).2.1 (readGo i ls ss rows).2.2
 | [], _, _, _, _, _, h => h
 | r :: rs, i, n, ls, ss, hr, h => by
   have hwd := words_wd (hr r (.head _))
   have hrs : ∀ r ∈ rs, r.length ≤ 100000 := fun x hx => hr x (.tail _ hx)
   have e : n + (r :: rs).length = (n + 1) + rs.length := by simp only [List.length_cons]; omega
   rw [e, readGo]
   split
   · exact readGo_inb rs _ _ _ _ hrs h.more
   · cases hit : itemF (wordsF r) with
     | none =>
       have := h.more
       exact ⟨by have := h.ll; show ls.length ≤ _; omega, by have := h.sl; show ss.length ≤ _; omega, h.ln, h.sn⟩
     | some it =>
       cases it with
       | inl l => exact readGo_inb rs _ _ _ _ hrs (h.addL (item_lane_in hwd hit))
       | inr x => exact readGo_inb rs _ _ _ _ hrs (h.addS (item_stream_in hwd hit))
theorem readF_in {t : Str} (h : TxB t) : LnIn (readF t).2.1 ∧ SmIn (readF t).2.2 := by
 have hc := split_cnt_le (x := t) (c := 10) (by decide)
 rw [← nl_is] at hc
 have := h.len
 refine (readGo_inb (Txt.split t (Str.ofString "\n")) 0 0 [] [] (fun r hr => ?_) ⟨by simp, by simp, fun l h => (by cases h), fun l h => (by cases h)⟩).ins (by omega)
 rw [nl_is] at hr
 have := split_len_le (by decide) hr
 omega
theorem tI_num {z : Str} {i : Int} (hz : 1 ≤ z.length) (h : numF z = some i) : tI i = z := by
 unfold numF at h
 split at h
 · cases h
 · rename_i h0
   split at h
   · rename_i hall
     obtain rfl := Option.some.inj h
     have e : z.length = z.cps.toList.length := TL.len_tl z
     have hd : PySem.NumText.AllDigits z.cps.toList := fun c hc => fig_digit c (hall c hc)
     refine TL.ext_tl ?_
     show TL.tl (Str.ofString (toString ((PySem.NumText.digitsVal z.cps.toList : Nat) : Int))) = TL.tl z
     rw [TL.tl_num]
     unfold TL.numL
     obtain ⟨n, hn⟩ : ∃ n, z.cps.toList.length = n + 1 := ⟨z.cps.toList.length - 1, by omega⟩
     have ht := PySem.NumText.toDigits_digitsVal n z.cps.toList hn hd (by
       cases hc : z.cps.toList with
       | nil => rw [hc] at hn; simp at hn
       | cons c r =>
         have hc1 := hd c (by rw [hc]; exact .head _)
         have hn : c ≠ 48 := fun q => h0 (.inr (by rw [hc, q]; rfl))
         exact .inr ⟨c, r, rfl, by omega⟩)
     rw [ht, List.map_map]
     show z.cps.toList.map (Char.toNat ∘ Char.ofNat) = z.cps.toList
     have hid : ∀ l : List Nat, (∀ c ∈ l, 48 ≤ c ∧ c ≤ 57) → l.map (Char.toNat ∘ Char.ofNat) = l := by
       intro l
       induction l with
       | nil => intro _; rfl
       | cons c l ih =>
         intro hl
         have h1 := hl c (.head _)
         have h2 : ∀ c, c < 58 → 48 ≤ c → (Char.toNat ∘ Char.ofNat) c = c := by decide +kernel
         rw [List.map_cons, h2 c (by omega) h1.1, ih fun d hd => hl d (.tail _ hd)]
     exact hid _ hd
   · cases h
theorem lane_back {w0 : Str} {rest : List Str} (hw : ∀ z ∈ w0 :: rest, 1 ≤ z.length) (h0 : w0 = Str.ofString "lane") {l : Leg} (h : laneF (w0 :: rest) = some l) : w0 :: rest = lnW l := by
 unfold laneF at h
 split at h
 · rename_i a n z hz
   injection hz with e1 e2
   subst e1 e2
   obtain ⟨i, h1, rfl⟩ := Option.map_eq_some_iff.mp h
   rw [h0]
   show [_, n, z] = [_, n, tI i]
   rw [tI_num (hw z (by simp)) h1]
 · cases h
theorem wayZ_flat {tl : List Str} {p : Nat} (hl : tl.length = 2 * p) (hw : ∀ z ∈ tl, 1 ≤ z.length) (h0 : ¬ 0 ∈ (wayZ tl p).map (·.2)) : ((wayZ tl p).map lgW).flatten = tl := by
 refine List.ext_getElem? fun i => ?_
 have hlen : ((wayZ tl p).map lgW).flatten.length = 2 * p := by rw [legs_flat_len]; simp
 by_cases hi : i < 2 * p
 · have hj : i / 2 < (wayZ tl p).length := by simp; omega
   obtain ⟨a1, a2⟩ := legs_at (wayZ tl p) (i / 2) hj
   have hg : (wayZ tl p).getD (i / 2) default = (tl.getD (2 * (i / 2)) default, numZ (numF (tl.getD (2 * (i / 2) + 1) default))) := by
     rw [List.getD_eq_getElem?_getD, List.getElem?_map, List.getElem?_range (by omega)]; rfl
   rw [hg] at a1 a2
   by_cases hp : i % 2 = 0
   · have e : i = 2 * (i / 2) := by omega
     rw [← e] at a1
     rw [a1]
     exact (getD_some (by omega)).symm
   · have e : i = 2 * (i / 2) + 1 := by omega
     rw [← e] at a2
     rw [a2]
     have hz : tl.getD i default ∈ tl := getD_mem (by omega)
     rw [getD_some (tl := tl) (i := i) (by omega)]
     congr 1
     show tI (numZ (numF (tl.getD i default))) = _
     cases hn : numF (tl.getD i default) with
     | none =>
       refine absurd (List.mem_map.mpr ⟨(tl.getD (2 * (i / 2)) default, numZ (numF (tl.getD (2 * (i / 2) + 1) default))), List.mem_map.mpr ⟨i / 2, List.mem_range.mpr (by omega), rfl⟩, ?_⟩) h0
       show numZ (numF (tl.getD (2 * (i / 2) + 1) default)) = 0
       rw [← e, hn]; rfl
     | some v => exact tI_num (hw _ hz) hn
 · rw [List.getElem?_eq_none (by omega), List.getElem?_eq_none (by omega)]
theorem stream_back {w0 : Str} {rest : List Str} (hw : ∀ z ∈ w0 :: rest, 1 ≤ z.length) (h0 : w0 = Str.ofString "stream") {x : Sm} (h : streamF (w0 :: rest) = some x) : w0 :: rest = smW x ∧ JOk x.j := by
 have h7 : ¬ (w0 :: rest).length < 7 := fun q => by rw [stream_none (.inl q)] at h; cases h
 have h2 : ¬ (w0 :: rest).length % 2 = 0 := fun q => by rw [stream_none (.inr q)] at h; cases h
 obtain ⟨nm, a, b, c, tl, rfl⟩ : ∃ nm a b c tl, rest = nm :: a :: b :: c :: tl := by
   rcases rest with _ | ⟨nm, _ | ⟨a, _ | ⟨b, _ | ⟨c, tl⟩⟩⟩⟩
   · simp at h7
   · simp at h7
   · simp at h7
   · simp at h7
   · exact ⟨_, _, _, _, _, rfl⟩
 simp only [List.length_cons] at h7 h2
 obtain ⟨p, hp⟩ : ∃ p, tl.length = 2 * p := ⟨tl.length / 2, by omega⟩
 rw [stream_is hp (by omega) hw] at h
 split at h
 · rename_i hq
   obtain rfl := Option.some.inj h
   obtain ⟨⟨q1, q2, q3, q4⟩, q5⟩ := hq
   refine ⟨?_, ⟨q1, q2, q3, q4⟩⟩
   have nz : ∀ z ∈ w0 :: nm :: a :: b :: c :: tl, 1 ≤ numZ (numF z) → tI (numZ (numF z)) = z := fun z hz h1 => by
     cases hn : numF z with
     | none =>
       rw [hn] at h1
       have : numZ none = 0 := rfl
       omega
     | some v => exact tI_num (hw z hz) hn
   show _ = smW0 _ ++ ((wayZ tl p).map lgW).flatten
   rw [wayZ_flat hp (fun z hz => hw z (by simp [hz])) q5]
   show _ = Str.ofString "stream" :: nm :: tI (numZ (numF a)) :: tI (numZ (numF b)) :: tI (numZ (numF c)) :: tl
   rw [nz a (by simp) (by omega), nz b (by simp) q1, nz c (by simp) (by omega), h0]
 · cases h
theorem item_back {ws : List Str} (hw : ∀ z ∈ ws, 1 ≤ z.length) {it : Leg ⊕ Sm} (h : itemF ws = some it) : match it with | .inl l => ws = lnW l | .inr x => ws = smW x ∧ JOk x.j := by
 cases ws with
 | nil => cases h
 | cons w0 rest =>
   by_cases hL : w0 = Str.ofString "lane"
   · rw [item_lane hL] at h
     obtain ⟨l, h1, rfl⟩ := Option.map_eq_some_iff.mp h
     exact lane_back hw hL h1
   · by_cases hS : w0 = Str.ofString "stream"
     · rw [item_stream hL hS] at h
       obtain ⟨x, h1, rfl⟩ := Option.map_eq_some_iff.mp h
       exact stream_back hw hS h1
     · rw [item_none hL hS] at h; cases h
def wtP (ls : List Leg) (ss : List Sm) : Nat := (ls.map fun l => wt (lnW l)).sum + (ss.map fun x => wt (smW x)).sum
theorem wt_words (r : Str) : wt (wordsF r) ≤ r.length + 1 := by
 have h : ∀ ps : List Str, wt (ps.filterMap fun a => if ¬ a = Str.ofString "" then some a else none) ≤ wt ps := by
   intro ps
   induction ps with
   | nil => exact Nat.le_refl _
   | cons p ps ih =>
     rw [List.filterMap_cons, wt_cons]
     by_cases q : ¬ p = Str.ofString ""
     · rw [if_pos q]
       show wt (p :: _) ≤ _
       rw [wt_cons]
       omega
     · rw [if_neg q]
       exact (show wt (ps.filterMap fun a => if ¬ a = Str.ofString "" then some a else none) ≤ _ from by omega)
 have := h (Txt.split r (Str.ofString " "))
 have h2 := split_wt r (c := 32) (by decide)
 rw [← sp_is] at h2
 unfold wordsF
 omega
theorem readGo_back : ∀ (rows : List Str) (i : Nat) (ls : List Leg) (ss : List Sm), (∀ x ∈ ss, JOk x.j) → (readGo i ls ss rows).1 = none →
   wtP (readGo i ls ss rows).2.1 (readGo i ls ss rows).2.2 ≤ wtP ls ss + wt rows ∧ (∀ x ∈ (readGo i ls ss rows).2.2, JOk x.j) ∧ (readGo i ls ss rows).2.1.length + (readGo i ls ss rows).2.2.length ≤ ls.length + ss.length + rows.length
 | [], _, ls, ss, hj, _ => ⟨Nat.le_add_right _ _, hj, Nat.le_add_right _ _⟩
 | r :: rs, i, ls, ss, hj, h => by
   have hww : ∀ z ∈ wordsF r, 1 ≤ z.length := fun z hz => (words_mem hz).1
   have hwl := wt_words r
   rw [readGo] at h ⊢
   rw [wt_cons, List.length_cons]
   split
   · rename_i hb
     rw [if_pos hb] at h
     have := readGo_back rs (i + 1) ls ss hj h
     exact ⟨by omega, this.2.1, by omega⟩
   · rename_i hb
     rw [if_neg hb] at h
     cases hit : itemF (wordsF r) with
     | none => rw [hit] at h; cases h
     | some it =>
       rw [hit] at h
       have hib := item_back hww hit
       cases it with
       | inl l =>
         have hib : wordsF r = lnW l := hib
         have h3 := readGo_back rs (i + 1) (ls ++ [l]) ss hj h
         have e : wtP (ls ++ [l]) ss = wtP ls ss + wt (lnW l) := by
           unfold wtP
           rw [List.map_append, List.sum_append]
           simp
           omega
         rw [e, ← hib, List.length_append, List.length_singleton] at h3
         obtain ⟨g1, g2, g3⟩ := h3
         refine ⟨?_, g2, ?_⟩
         · show wtP (readGo (i + 1) (ls ++ [l]) ss rs).2.1 (readGo (i + 1) (ls ++ [l]) ss rs).2.2 ≤ _
           omega
         · show (readGo (i + 1) (ls ++ [l]) ss rs).2.1.length + (readGo (i + 1) (ls ++ [l]) ss rs).2.2.length ≤ _
           omega
       | inr x =>
         have hib : wordsF r = smW x ∧ JOk x.j := hib
         have h3 := readGo_back rs (i + 1) ls (ss ++ [x]) (fun y hy => by
           rcases List.mem_append.mp hy with q | q
           · exact hj y q
           · rw [List.mem_singleton.mp q]; exact hib.2) h
         have e : wtP ls (ss ++ [x]) = wtP ls ss + wt (smW x) := by
           unfold wtP
           rw [List.map_append, List.sum_append]
           simp
           omega
         rw [e, ← hib.1, List.length_append, List.length_singleton] at h3
         obtain ⟨g1, g2, g3⟩ := h3
         refine ⟨?_, g2, ?_⟩
         · show wtP (readGo (i + 1) ls (ss ++ [x]) rs).2.1 (readGo (i + 1) ls (ss ++ [x]) rs).2.2 ≤ _
           omega
         · show (readGo (i + 1) ls (ss ++ [x]) rs).2.1.length + (readGo (i + 1) ls (ss ++ [x]) rs).2.2.length ≤ _
           omega
theorem readF_back {t : Str} {ls : List Leg} {ss : List Sm} (h : readF t = (none, ls, ss)) : wtP ls ss ≤ t.length + 1 ∧ (∀ x ∈ ss, JOk x.j) ∧ ls.length + ss.length ≤ t.length + 1 := by
 have hb := readGo_back (Txt.split t (Str.ofString "\n")) 0 [] [] (fun x h => by cases h) (by
   show (readF t).1 = none
   rw [h])
 have hw := split_wt t (c := 10) (by decide)
 have hc := split_cnt_le (x := t) (c := 10) (by decide)
 rw [← nl_is] at hw hc
 have e : readGo 0 [] [] (Txt.split t (Str.ofString "\n")) = (none, ls, ss) := h
 rw [e] at hb
 obtain ⟨g1, g2, g3⟩ := hb
 have g1 : wtP ls ss ≤ wtP [] [] + wt (Txt.split t (Str.ofString "\n")) := g1
 have g3 : ls.length + ss.length ≤ [].length + [].length + (Txt.split t (Str.ofString "\n")).length := g3
 have e0 : wtP [] [] = 0 := rfl
 exact ⟨by omega, g2, by simp only [List.length_nil] at g3; omega⟩
theorem lnGo_none : ∀ (ls : List Leg) (met : List Str), lnGo met ls = none → ∀ l ∈ ls, nameB l.1 = true ∧ WdOk l.2
 | [], _, _, l, hl => by cases hl
 | x :: r, met, h, l, hl => by
   have e : lnGo met (x :: r) = match badLn met x with | some e => some e | none => lnGo (met ++ [x.1]) r := rfl
   rw [e] at h
   cases hb : badLn met x with
   | some b => rw [hb] at h; cases h
   | none =>
     rw [hb] at h
     rcases List.mem_cons.mp hl with rfl | hl
     · unfold badLn at hb
       split at hb
       · cases hb
       · rename_i h1
         split at hb
         · cases hb
         · split at hb
           · rename_i h3
             exact ⟨by cases hq : nameB l.1 with | true => rfl | false => exact absurd hq h1, h3⟩
           · cases hb
     · exact lnGo_none r _ h l hl
theorem wrongGo_none {zs : List Str} : ∀ (way : List Leg) (k : Nat) (met : List Str), k ≤ 4 → wrongGo zs k met way = none → k + way.length ≤ 4 ∧ ∀ l ∈ way, l.1 ∈ zs ∧ WdOk l.2
 | [], k, _, hk, _ => ⟨hk, fun l hl => by cases hl⟩
 | x :: r, k, met, hk, h => by
   have e : wrongGo zs k met (x :: r) = if badLeg k zs met x then some k else wrongGo zs (k + 1) (met ++ [x.1]) r := rfl
   rw [e] at h
   by_cases hb : badLeg k zs met x
   · rw [if_pos hb] at h; cases h
   · rw [if_neg hb] at h
     have h1 : ¬ k = 4 := fun q => hb (.inl q)
     have h2 : x.1 ∈ zs := Classical.byContradiction fun q => hb (.inr (.inl q))
     have h3 : WdOk x.2 := Classical.byContradiction fun q => hb (.inr (.inr (.inr q)))
     obtain ⟨g1, g2⟩ := wrongGo_none r (k + 1) _ (by omega) h
     refine ⟨by simp only [List.length_cons]; omega, fun l hl => ?_⟩
     rcases List.mem_cons.mp hl with rfl | hl
     · exact ⟨h2, h3⟩
     · exact g2 l hl
theorem wrongF_none {zs : List Str} {way : List Leg} (h : wrongF way zs = none) : 1 ≤ way.length ∧ way.length ≤ 4 ∧ ∀ l ∈ way, l.1 ∈ zs ∧ WdOk l.2 := by
 unfold wrongF at h
 split at h
 · cases h
 · rename_i hne
   obtain ⟨g1, g2⟩ := wrongGo_none way 0 [] (by omega) h
   refine ⟨?_, by omega, g2⟩
   cases way with
   | nil => exact absurd rfl hne
   | cons a l => simp
theorem smGo_none {zs : List Str} : ∀ (ss : List Sm) (met : List Str), smGo zs met ss = none → ∀ x ∈ ss, nameB x.nm = true ∧ wrongF x.way zs = none
 | [], _, _, x, hx => by cases hx
 | y :: r, met, h, x, hx => by
   have e : smGo zs met (y :: r) = match badSm zs met y with | some e => some e | none => smGo zs (met ++ [y.nm]) r := rfl
   rw [e] at h
   cases hb : badSm zs met y with
   | some b => rw [hb] at h; cases h
   | none =>
     rw [hb] at h
     rcases List.mem_cons.mp hx with rfl | hx
     · unfold badSm at hb
       split at hb
       · cases hb
       · rename_i h1
         split at hb
         · cases hb
         · refine ⟨by cases hq : nameB x.nm with | true => rfl | false => exact absurd hq h1, ?_⟩
           cases hq : wrongF x.way zs with
           | none => rfl
           | some k => rw [hq] at hb; cases hb
     · exact smGo_none r _ h x hx
structure GoodP (ls : List Leg) (ss : List Sm) : Prop where
 ln : ∀ l ∈ ls, nameB l.1 = true ∧ WdOk l.2
 sn : ∀ x ∈ ss, nameB x.nm = true
 sj : ∀ x ∈ ss, JOk x.j
 s1 : ∀ x ∈ ss, 1 ≤ x.way.length
 s4 : ∀ x ∈ ss, x.way.length ≤ 4
 sw : ∀ x ∈ ss, ∀ l ∈ x.way, nameB l.1 = true ∧ WdOk l.2
theorem good_of {ls : List Leg} {ss : List Sm} (h : planF ls ss = none) (hj : ∀ x ∈ ss, JOk x.j) : GoodP ls ss := by
 unfold planF at h
 cases hb : lnGo [] ls with
 | some b => rw [hb] at h; cases h
 | none =>
   rw [hb] at h
   have h1 := lnGo_none ls [] hb
   have h2 := smGo_none ss [] h
   refine ⟨h1, fun x hx => (h2 x hx).1, hj, fun x hx => (wrongF_none (h2 x hx).2).1, fun x hx => (wrongF_none (h2 x hx).2).2.1, fun x hx l hl => ?_⟩
   obtain ⟨g1, g2⟩ := (wrongF_none (h2 x hx).2).2.2 l hl
   obtain ⟨y, hy, e⟩ := List.mem_map.mp g1
   rw [← e]
   exact ⟨(h1 y hy).1, g2⟩
theorem GoodP.lnt {ls : List Leg} {ss : List Sm} (h : GoodP ls ss) : ∀ l ∈ ls, LgT l := fun l hl => ⟨(name_len (h.ln l hl).1).2, (h.ln l hl).2⟩
theorem GoodP.smt {ls : List Leg} {ss : List Sm} (h : GoodP ls ss) : ∀ x ∈ ss, SmT x := fun x hx => ⟨(name_len (h.sn x hx)).2, h.sj x hx, h.s4 x hx, fun l hl => ⟨(name_len (h.sw x hx l hl).1).2, (h.sw x hx l hl).2⟩⟩
theorem words_join {ws : List Str} (hne : ws ≠ []) (hw : ∀ w ∈ ws, WdS w) : (wordsL (signs (Txt.join (Str.ofString " ") ws))).map txs = ws ∧ 10 ∉ signs (Txt.join (Str.ofString " ") ws) := by
 have e : Txt.split (Txt.join (Str.ofString " ") ws) (Str.ofString " ") = ws := by
   rw [sp_is]
   exact TL.split_join (s := 32) (S := []) rfl (by simp) hne fun p hp => (hw p hp).sp
 constructor
 · have h := words_is (Txt.join (Str.ofString " ") ws)
   refine h.symm.trans ?_
   unfold wordsF
   rw [e]
   have : ∀ l : List Str, (∀ w ∈ l, WdS w) → (l.filterMap fun a => if ¬ a = Str.ofString "" then some a else none) = l := by
     intro l
     induction l with
     | nil => intro _; rfl
     | cons a l ih =>
       intro hl
       have ha : ¬ a = Str.ofString "" := fun q => (hl a (.head _)).ne (by rw [q]; rfl)
       rw [List.filterMap_cons, if_pos ha]
       show a :: _ = _
       rw [ih fun w hw => hl w (.tail _ hw)]
   exact this ws hw
 · intro q
   rw [sp_is] at q
   rcases join_in 32 ws 10 q with h | ⟨p, hp, hd⟩
   · exact absurd h (by decide)
   · exact (hw p hp).nl hd
def rowL (ws : List Str) : List Nat := signs (Txt.join (Str.ofString " ") ws)
theorem go_lanes : ∀ (l1 : List Leg) (i : Nat) (ls : List Leg) (ss : List Sm) (more : List Str), (∀ l ∈ l1, nameB l.1 = true ∧ WdOk l.2) → readGo i ls ss ((l1.map fun l => txs (rowL (lnW l))) ++ more) = readGo (i + l1.length) (ls ++ l1) ss more
 | [], i, ls, ss, more, _ => by rw [List.append_nil]; rfl
 | l :: l1, i, ls, ss, more, h => by
   have hl := h l (.head _)
   have hw := words_join (ws := lnW l) (by simp) (lnW_ws hl.1 hl.2)
   show readGo i ls ss (txs (rowL (lnW l)) :: ((l1.map fun l => txs (rowL (lnW l))) ++ more)) = _
   rw [go_lane (r := rowL (lnW l)) hw.1 (by simp) (item_lnW hl.2), go_lanes l1 (i + 1) (ls ++ [l]) ss more fun x hx => h x (.tail _ hx)]
   rw [List.append_assoc, List.length_cons, show i + 1 + l1.length = i + (l1.length + 1) by omega]; rfl
theorem go_streams {ls0 : List Leg} {ss0 : List Sm} (hg : GoodP ls0 ss0) : ∀ (s1 : List Sm) (i : Nat) (ls : List Leg) (ss : List Sm) (more : List Str), (∀ x ∈ s1, x ∈ ss0) → readGo i ls ss ((s1.map fun x => txs (rowL (smW x))) ++ more) = readGo (i + s1.length) ls (ss ++ s1) more
 | [], i, ls, ss, more, _ => by rw [List.append_nil]; rfl
 | x :: s1, i, ls, ss, more, h => by
   have hx := h x (.head _)
   have hne : smW x ≠ [] := by simp [smW, smW0]
   have hw := words_join (ws := smW x) hne (smW_ws (hg.sn x hx) (hg.sj x hx) (hg.sw x hx))
   show readGo i ls ss (txs (rowL (smW x)) :: ((s1.map fun x => txs (rowL (smW x))) ++ more)) = _
   rw [go_stream (r := rowL (smW x)) hw.1 hne (item_smW (hg.smt x hx) (hg.s1 x hx)), go_streams hg s1 (i + 1) ls (ss ++ [x]) more fun y hy => h y (.tail _ hy)]
   rw [List.append_assoc, List.length_cons, show i + 1 + s1.length = i + (s1.length + 1) by omega]; rfl
theorem text_signs (ls : List Leg) (ss : List Sm) : signs (textF ls ss) = (((ls.map lnW ++ ss.map smW).map rowL).map (· ++ [10])).flatten := by
 rw [← due_text]
 show signs (dueF _) = _
 unfold dueF
 rw [due_signs]
 show [] ++ _ = _
 rw [List.nil_append, List.map_map]
 rfl
theorem text_read {ls : List Leg} {ss : List Sm} (hg : GoodP ls ss) : readF (textF ls ss) = (none, ls, ss) := by
 have hm : ∀ r ∈ (ls.map lnW ++ ss.map smW).map rowL, 10 ∉ r := fun r hr => by
   obtain ⟨ws, hws, rfl⟩ := List.mem_map.mp hr
   rcases List.mem_append.mp hws with h | h
   · obtain ⟨l, hl, rfl⟩ := List.mem_map.mp h
     exact (words_join (by simp) (lnW_ws (hg.ln l hl).1 (hg.ln l hl).2)).2
   · obtain ⟨x, hx, rfl⟩ := List.mem_map.mp h
     exact (words_join (by simp [smW, smW0]) (smW_ws (hg.sn x hx) (hg.sj x hx) (hg.sw x hx))).2
 have e : textF ls ss = txs (signs (textF ls ss)) := (TL.mk_tl _).symm
 rw [e, read_lines, text_signs]
 have hl := told_lines ((ls.map lnW ++ ss.map smW).map rowL) [] hm (by simp)
 rw [List.append_nil] at hl
 rw [hl, List.map_append, List.map_append, List.map_append, List.append_assoc, List.map_map, List.map_map, List.map_map, List.map_map]
 have h1 := go_lanes ls 0 [] [] ((ss.map fun x => txs (rowL (smW x))) ++ [txs []]) hg.ln
 have h2 := go_streams hg ss (0 + ls.length) ([] ++ ls) [] [txs []] fun x hx => hx
 rw [h2] at h1
 refine h1.trans ?_
 rw [go_blank wordsL_nil]
 rfl
theorem row_len {ws : List Str} (hne : ws ≠ []) : (rowL ws ++ [10]).length = wt ws := by
 have := (join_wt 32 ws).2 hne
 rw [← sp_is] at this
 have e : (Txt.join (Str.ofString " ") ws).length = (rowL ws).length := TL.len_tl _
 rw [List.length_append]
 show (rowL ws).length + 1 = _
 omega
theorem text_len {ls : List Leg} {ss : List Sm} : (textF ls ss).length = wtP ls ss := by
 have e : (textF ls ss).length = (signs (textF ls ss)).length := TL.len_tl _
 rw [e, text_signs, List.length_flatten, List.map_append, List.map_append, List.map_append, List.sum_append]
 unfold wtP
 congr 1
 · rw [List.map_map, List.map_map, List.map_map]
   congr 1
   exact List.map_congr_left fun l _ => row_len (ws := lnW l) (by simp)
 · rw [List.map_map, List.map_map, List.map_map]
   congr 1
   exact List.map_congr_left fun x _ => row_len (ws := smW x) (by simp [smW, smW0])
theorem text_tx {ls : List Leg} {ss : List Sm} (hg : GoodP ls ss) (h : wtP ls ss ≤ 100000) : TxB (textF ls ss) := ⟨by rw [text_len]; exact h, fun c hc => by
 rw [text_signs] at hc
 obtain ⟨r, hr, hcr⟩ := List.mem_flatten.mp hc
 obtain ⟨r', hr', rfl⟩ := List.mem_map.mp hr
 obtain ⟨ws, hws, rfl⟩ := List.mem_map.mp hr'
 have hwd : ∀ w ∈ ws, WdS w := by
   rcases List.mem_append.mp hws with h | h
   · obtain ⟨l, hl, rfl⟩ := List.mem_map.mp h
     exact lnW_ws (hg.ln l hl).1 (hg.ln l hl).2
   · obtain ⟨x, hx, rfl⟩ := List.mem_map.mp h
     exact smW_ws (hg.sn x hx) (hg.sj x hx) (hg.sw x hx)
 rcases List.mem_append.mp hcr with q | q
 · have q : c ∈ signs (Txt.join (Str.ofString " ") ws) := q
   rw [sp_is] at q
   rcases join_in 32 ws c q with h | ⟨p, hp, hd⟩
   · omega
   · exact (hwd p hp).lt c hd
 · rw [List.mem_singleton.mp q]; decide⟩
def pPlanBy (cP cJ : Addr) : DSpE := fun ds M Φ _ => ∃ t : Str, ds = [.str t] ∧ TxB t ∧ (∀ i ls ss, readF t = (some i, ls, ss) → Φ .non M) ∧ ∀ ls ss, readF t = (none, ls, ss) → (planF ls ss = none → Φ (paD cP cJ ls ss) M) ∧ ∀ e, planF ls ss = some e → Φ .non M
abbrev s_law_plan_by : Stmt := top 54
def n_law_plan_by : List Str := ["_law_text", "_law_plan_here"]
theorem sc_law_plan_by : FnScope n_law_plan_by ["_law_text"] (defScope s_law_plan_by) := ⟨rfl, rfl, rfl, by decide +kernel, rfl, by decide +kernel, by decide +kernel⟩
theorem d_law_plan_by {P : Program} {w : World} {K : PySem.W.Frag} {mg : Str → Option Value} {base : Heap} {c_LaneError c_NoName c_NoWay c_NoLane c_NoJar c_NoText c_Taken c_Plan c_Jar : Addr} {f : Addr} {fd : FuncData} (F : FunG K "_law_plan_by" "_law_plan_by" s_law_plan_by f fd)
   (E_plan_of_1 : DefE P w K mg base 6 "plan_of" 1 [] (selN 1) (pPlanOf c_Plan c_Jar ⟨c_NoName, c_Taken, c_NoLane, c_NoWay⟩ c_NoText)) (Q_LaneError : MgP mg "LaneError" c_LaneError) (XM_NoName_LaneError : ExmP K (.ref c_NoName) (.ref c_LaneError) true) (XM_NoWay_LaneError : ExmP K (.ref c_NoWay) (.ref c_LaneError) true) (XM_NoLane_LaneError : ExmP K (.ref c_NoLane) (.ref c_LaneError) true) (XM_NoJar_LaneError : ExmP K (.ref c_NoJar) (.ref c_LaneError) true) (XM_NoText_LaneError : ExmP K (.ref c_NoText) (.ref c_LaneError) true) (XM_Taken_LaneError : ExmP K (.ref c_Taken) (.ref c_LaneError) true) : FnOk P w K mg base (L2.CX P w) 7 f fd ["_law_text"] (liftE (pPlanBy c_Plan c_Jar)) := by
 refine fnokG_of (N := n_law_plan_by) (k := 6) F sc_law_plan_by (fun ds M Φ Ξ h => by obtain ⟨t, rfl, ht, k0, k1⟩ := h; rfl) fun X kp ds M Φ Ξ h I => ?_
 obtain ⟨t, rfl, ht, k0, k1⟩ := h
 obtain ⟨rfl, rfl, rfl, rfl, rfl, hN, hs, hf, z, hp, tk, hst, hfr⟩ := I
 have nd := z.nd
 have n0 : Lo X 0 "_law_text" := lo_of hN hs hf (by decide +kernel)
 have n1 : Lo X 1 "_law_plan_here" := lo_of hN hs hf (by decide +kernel)
 have l_plan_of : Gl X "plan_of" := gl_of hs (by decide +kernel)
 have l_LaneError : Gl X "LaneError" := gl_of hs (by decide +kernel)
 clear F hf
 change DSs _ X (_ :: _) [_, _] _ _
 repeat' ((fail_if_success refine stTry ?_); kpc_text)
 refine ds_cutC [1] (fun vs M1 => (∃ (d : D), [some d] = vs ∧ M = M1 ∧ (Φ d M))) ?_ ?_
 · repeat' ((fail_if_success refine stTry ?_); kpc_text)
   first | refine ds_cons (ds_try [(c_LaneError, none, _)] hst hfr z.nd tk ⟨⟨l_LaneError, by decide, Q_LaneError.is⟩, rfl, trivial, trivial⟩ (fun pn xe kp' hp' tk' => ?_)) | refine ds_try [(c_LaneError, none, _)] hst hfr z.nd tk ⟨⟨l_LaneError, by decide, Q_LaneError.is⟩, rfl, trivial, trivial⟩ (fun pn xe kp' hp' tk' => ?_)
   repeat' kpc_text
   refine ⟨t, rfl, ht, fun i ls ss e => ?_, fun ls ss e => ⟨fun h => ?_, fun x h => ?_⟩⟩
   · repeat' kpc_text
     exact ⟨[_], rfl, _, rfl, rfl, (k0 i ls ss e)⟩
   · repeat' kpc_text
     exact ⟨[_], rfl, _, rfl, rfl, ((k1 ls ss e).1 h)⟩
   · have kx := (k1 ls ss e).2 x h
     cases x with
     | name z' =>
       repeat' kpc_text
       exact ⟨[_], rfl, _, rfl, rfl, (kx)⟩
     | taken z' =>
       repeat' kpc_text
       exact ⟨[_], rfl, _, rfl, rfl, (kx)⟩
     | width =>
       repeat' kpc_text
       exact ⟨[_], rfl, _, rfl, rfl, (kx)⟩
     | way p =>
       repeat' kpc_text
       exact ⟨[_], rfl, _, rfl, rfl, (kx)⟩
 · rintro vs δ M1 ⟨d, rfl, rfl, hd⟩ hδ
   obtain rfl : δ = [_, _] := hδ
   repeat' kpc_text
   exact ⟨_, _, .refl, hd⟩
theorem stEqN {B : Bx} {X : Cx} {b : Expr} {p1 pos : Pos} {δ : Env'} {M : Mem} {Φ : D → Mem → Prop} (a : Str) (h : DE B X (.Compare (.Name a p1) [.Eq] [b] pos) δ M Φ) : DE B X (.Compare (.Name a p1) [.Eq] [b] pos) δ M Φ := h
theorem isi_ss {K : PySem.W.Frag} {t : Str} {M : Mem} {Φ : D → Mem → Prop} (k : Φ (.bl true) M) : CallD (rIsi K) [.str t, .raw (.ty "str")] M Φ := cd_isi (S := "str") rfl (by decide +kernel) k
theorem form_is (ls : List Leg) (ss : List Sm) : Txt.join (Str.ofString "") ((ls.map lnW ++ ss.map smW).map fun r => Txt.join (Str.ofString " ") r ++ Str.ofString "\n") = textF ls ss := by
 have e1 : (ls.map lnW).map (fun r => Txt.join (Str.ofString " ") r ++ Str.ofString "\n") = (ls.map lnRow).map (· ++ Str.ofString "\n") := by
   rw [List.map_map, List.map_map]
   refine List.map_congr_left fun l _ => ?_
   show Txt.join (Str.ofString " ") (lnW l) ++ _ = lnRow l ++ _
   rw [lane_row]
 have e2 : (ss.map smW).map (fun r => Txt.join (Str.ofString " ") r ++ Str.ofString "\n") = (ss.map smRow).map (· ++ Str.ofString "\n") := by
   rw [List.map_map, List.map_map]
   refine List.map_congr_left fun x _ => ?_
   show Txt.join (Str.ofString " ") (smW x) ++ _ = smRow x ++ _
   rw [stream_text]
 unfold textF
 rw [List.map_append, e1, e2, List.map_append]
theorem row_in {ls : List Leg} {ss : List Sm} (hl : ∀ l ∈ ls, LgT l) (hs : ∀ x ∈ ss, SmT x) {r : List Str} (h : r ∈ ls.map lnW ++ ss.map smW) : r.length ≤ 13 ∧ (∀ y ∈ r, y.length ≤ 10) ∧ (Txt.join (Str.ofString " ") r).length ≤ 128 := by
 rcases List.mem_append.mp h with h | h
 · obtain ⟨l, hm, rfl⟩ := List.mem_map.mp h
   have h1 := (hl l hm).nm
   have h2 : (tI l.2).length ≤ 10 := (hl l hm).tx.2
   have h3 := lnRow_len (hl l hm)
   have h4 : (Str.ofString "lane").length = 4 := by decide +kernel
   refine ⟨by show 3 ≤ 13; decide, fun y hy => ?_, by rw [lane_row]; omega⟩
   have hy : y = Str.ofString "lane" ∨ y = l.1 ∨ y = tI l.2 := by simpa [lnW] using hy
   rcases hy with rfl | rfl | rfl <;> omega
 · obtain ⟨x, hm, rfl⟩ := List.mem_map.mp h
   have hx := hs x hm
   have h1 := hx.nm
   have h4 : (Str.ofString "stream").length = 6 := by decide +kernel
   obtain ⟨_, _, _, l1, l2, l3⟩ := hx.jo.tx
   have e1 : (tI x.j.size).length ≤ 10 := l1
   have e2 : (tI x.j.rate).length ≤ 10 := l2
   have e3 : (tI x.j.mouth).length ≤ 10 := l3
   have hw := hx.l4
   refine ⟨?_, fun y hy => ?_, by rw [stream_text]; exact smRow_len hx⟩
   · unfold smW
     rw [List.length_append, List.length_flatten]
     have hc : (((x.way.map lgW).map List.length)).sum ≤ (x.way.map lgW).length * 2 := sum_le fun q hq => by
       obtain ⟨l, _, rfl⟩ := List.mem_map.mp hq
       exact Nat.le_refl 2
     rw [List.length_map] at hc
     show 5 + _ ≤ 13
     omega
   · unfold smW at hy
     rcases List.mem_append.mp hy with hy | hy
     · have hy : y = Str.ofString "stream" ∨ y = x.nm ∨ y = tI x.j.size ∨ y = tI x.j.rate ∨ y = tI x.j.mouth := by simpa [smW0] using hy
       rcases hy with rfl | rfl | rfl | rfl | rfl <;> omega
     · obtain ⟨q, hq, hy⟩ := List.mem_flatten.mp hy
       obtain ⟨l, hl2, rfl⟩ := List.mem_map.mp hq
       have g1 := (hx.lg l hl2).nm
       have g2 : (tI l.2).length ≤ 10 := (hx.lg l hl2).tx.2
       have hy : y = l.1 ∨ y = tI l.2 := by simpa [lgW] using hy
       rcases hy with rfl | rfl <;> omega
theorem spoil_n {i : Nat} (h : i ≤ 3) : 6012 * 2 ^ i - 12 ≤ 50000 ∧ 2 * (6012 * 2 ^ i - 12) + 12 = 6012 * 2 ^ (i + 1) - 12 := by
 have h : i = 0 ∨ i = 1 ∨ i = 2 ∨ i = 3 := by omega
 rcases h with rfl | rfl | rfl | rfl <;> decide
theorem spoil_m {i : Nat} (h : i ≤ 4) : 6012 * 2 ^ i - 12 ≤ 100000 := by
 have h : i = 0 ∨ i = 1 ∨ i = 2 ∨ i = 3 ∨ i = 4 := by omega
 rcases h with rfl | rfl | rfl | rfl | rfl <;> decide
abbrev s_law : Stmt := top 55
def n_law : List Str := ["_law_script", "_law_state", "_law_kinds", "_law_lanes", "_law_streams", "_law_text", "_law_kind", "_law_due_here", "_law_plan_here", "_law_form", "_law_found", "_law_twice", "_law_k", "_law_row"]
theorem sc_law : FnScope n_law ["_law_script"] (defScope s_law) := ⟨rfl, rfl, rfl, by decide +kernel, rfl, by decide +kernel, by decide +kernel⟩
theorem d_law {P : Program} {w : World} {K : PySem.W.Frag} {mg : Str → Option Value} {base : Heap} {c_Jar c_Plan : Addr} {f : Addr} {fd : FuncData} (F : FunG K "law" "law" s_law f fd)
   (D_law_begun : Def P w K mg base 1 "_law_begun" ["_law_script"] (pBegun K)) (D_law_take : Def P w K mg base 1 "_law_take" ["_law_state", "_law_many"] pTake) (G_range : mg "range" = none) (G_max : mg "max" = none) (D_law_plan : Def P w K mg base 4 "_law_plan" ["_law_state"] pPlanG) (D_law_loose : Def P w K mg base 2 "_law_loose" ["_law_state", "_law_rows_here", "_law_lanes"] pLoose) (D_law_rows : Def P w K mg base 1 "_law_rows" ["_law_lanes", "_law_streams"] pRows) (G_len : mg "len" = none) (D_law_spoilt : Def P w K mg base 3 "_law_spoilt" ["_law_state", "_law_kind", "_law_text"] pSpoil) (D_law_read : Def P w K mg base 3 "_law_read" ["_law_text"] pLawRead) (E_law_plan_by_1 : DefE P w K mg base 7 "_law_plan_by" 1 [] (selN 1) (pPlanBy c_Plan c_Jar)) (KT_Jar_Plan : KitP K (.ref c_Jar) (.ref c_Plan) false) (IP_Jar : InsP K c_Jar) (KT_Plan_Plan : KitP K (.ref c_Plan) (.ref c_Plan) true) (IP_Plan : InsP K c_Plan) (KT_tuple_Plan : KitP K (.type "tuple") (.ref c_Plan) false) (KT_str_Plan : KitP K (.type "str") (.ref c_Plan) false) (KT_NoneType_Plan : KitP K (.type "NoneType") (.ref c_Plan) false) (KT_int_Plan : KitP K (.type "int") (.ref c_Plan) false) (KT_list_Plan : KitP K (.type "list") (.ref c_Plan) false) (G_isinstance : mg "isinstance" = none) (Q_Plan : MgP mg "Plan" c_Plan) (E_written_1 : DefE P w K mg base 5 "written" 1 [] (selN 1) (pWritten c_Plan c_Jar)) (G_str : mg "str" = none) (M_Plan_eq_1 : MethE P w K mg base 6 c_Plan "__eq__" 1 [] (selN 2) (pPlanEq c_Plan c_Jar)) (EQ_Plan : EqC K c_Plan) (E_plan_of_1 : DefE P w K mg base 6 "plan_of" 1 [] (selN 1) (pPlanOf c_Plan c_Jar ⟨c_NoName, c_Taken, c_NoLane, c_NoWay⟩ c_NoText)) : FnOk P w K mg base (L2.CX P w) 8 f fd ["_law_script"] (liftE (pLawE K)) := by
 refine fnokG_of (N := n_law) (k := 7) F sc_law (fun ds M Φ Ξ h => by obtain ⟨ns, rfl, hl, k⟩ := h; rfl) fun X kp ds M Φ Ξ h I => ?_
 obtain ⟨ns, rfl, hl, k⟩ := h
 obtain ⟨rfl, rfl, rfl, rfl, rfl, hN, hs, hf, z, hp, tk, hst, hfr⟩ := I
 have nd := z.nd
 have n0 : Lo X 0 "_law_script" := lo_of hN hs hf (by decide +kernel)
 have n1 : Lo X 1 "_law_state" := lo_of hN hs hf (by decide +kernel)
 have n2 : Lo X 2 "_law_kinds" := lo_of hN hs hf (by decide +kernel)
 have n3 : Lo X 3 "_law_lanes" := lo_of hN hs hf (by decide +kernel)
 have n4 : Lo X 4 "_law_streams" := lo_of hN hs hf (by decide +kernel)
 have n5 : Lo X 5 "_law_text" := lo_of hN hs hf (by decide +kernel)
 have n6 : Lo X 6 "_law_kind" := lo_of hN hs hf (by decide +kernel)
 have n7 : Lo X 7 "_law_due_here" := lo_of hN hs hf (by decide +kernel)
 have n8 : Lo X 8 "_law_plan_here" := lo_of hN hs hf (by decide +kernel)
 have n9 : Lo X 9 "_law_form" := lo_of hN hs hf (by decide +kernel)
 have n10 : Lo X 10 "_law_found" := lo_of hN hs hf (by decide +kernel)
 have n11 : Lo X 11 "_law_twice" := lo_of hN hs hf (by decide +kernel)
 have l_law_begun : Gl X "_law_begun" := gl_of hs (by decide +kernel)
 have l_law_take : Gl X "_law_take" := gl_of hs (by decide +kernel)
 have g_range : Gn X "range" := gn_of hs (by decide +kernel) G_range
 have g_max : Gn X "max" := gn_of hs (by decide +kernel) G_max
 have l_law_plan : Gl X "_law_plan" := gl_of hs (by decide +kernel)
 have l_law_loose : Gl X "_law_loose" := gl_of hs (by decide +kernel)
 have l_law_rows : Gl X "_law_rows" := gl_of hs (by decide +kernel)
 have g_len : Gn X "len" := gn_of hs (by decide +kernel) G_len
 have l_law_spoilt : Gl X "_law_spoilt" := gl_of hs (by decide +kernel)
 have l_law_read : Gl X "_law_read" := gl_of hs (by decide +kernel)
 have l_law_plan_by : Gl X "_law_plan_by" := gl_of hs (by decide +kernel)
 have g_isinstance : Gn X "isinstance" := gn_of hs (by decide +kernel) G_isinstance
 have l_Plan : Gl X "Plan" := gl_of hs (by decide +kernel)
 have l_written : Gl X "written" := gl_of hs (by decide +kernel)
 have g_str : Gn X "str" := gn_of hs (by decide +kernel) G_str
 have l_plan_of : Gl X "plan_of" := gl_of hs (by decide +kernel)
 clear F hf
 change DSs _ X (_ :: _) [_, _, _, _, _, _, _, _, _, _, _, _, _, _] _ _
 repeat' ((fail_if_success refine (stSet "_law_kinds") ?_); kpc_text)
 rename_i s g
 repeat' ((fail_if_success refine (stSet "_law_kinds") ?_); kpc_text)
 first | refine ds_cons (ds_lc 1 z n2 hN hs [("_law_k", 12)] (.one 12) (by decide +kernel) (by decide) (fun X' bk => pg_one bk z (bk.lo hN hs (by decide +kernel))) (by decide +kernel) (by decide +kernel) (by decide +kernel) (by decide +kernel) (di_range1 (by assumption) ?_)) | refine ds_lc 1 z n2 hN hs [("_law_k", 12)] (.one 12) (by decide +kernel) (by decide) (fun X' bk => pg_one bk z (bk.lo hN hs (by decide +kernel))) (by decide +kernel) (by decide +kernel) (by decide +kernel) (by decide +kernel) (di_range1 (by assumption) ?_)
 repeat' kpc_text
 repeat' kpc_text
 rename_i kc hkc0 hkc1
 refine ⟨by omega, by omega, ?_⟩
 refine LcH.drawT (β := Int) (fun x => 0 ≤ x ∧ x < 9) (.int) 1 (by omega) (by omega) (fun q acc i b1 hi hb1 => ?_) ?_
 · refine ⟨_, rfl, fun X' bk => ?_⟩
   have c12 : Lo X' 12 "_law_k" := bk.lo hN hs (by decide +kernel)
   have c1 : Nm X' 1 "_law_state" := bk.nm hN hs (by decide +kernel)
   have z' := bk.z z
   have D_law_take' := bk.df D_law_take
   have l_law_take' : Gl X' "_law_take" := bk.gl hs (by decide +kernel)
   repeat' kpc_text
   rename_i r hr0 hr1
   exact ⟨r, _, ⟨hr0, hr1⟩, by omega, rfl, rfl⟩
 intro kds b1 hkl hkd hb1
 repeat' kpc_text
 refine ⟨s, g, _, M, rfl, rfl, by omega, fun ls0 ss0 b2 hpo hb2 => ?_⟩
 have h6 := hpo.l6
 have h8 := hpo.s8
 repeat' kpc_text
 refine ⟨ls0, ss0, rfl, by omega, by omega, hpo.lnt, hpo.smt, ?_⟩
 repeat' kpc_text
 refine ⟨s, g, _, M, ls0, ss0, rfl, rfl, hpo, by omega, fun t0 b3 ht0 htl0 hrd0 hb3 => ?_⟩
 repeat' ((fail_if_success refine stFor ?_); kpc_text)
 first | refine ds_cons (ds_forC [5, 6] z (by assumption) (di_list ?_)) | refine ds_forC [5, 6] z (by assumption) (di_list ?_)
 repeat' kpc_text
 refine ⟨fun i vs M1 => (∃ (t : Str) (b4 : Nat) (o6 : Option D), [some (.str t), o6] = vs ∧ (s, .st g b4) :: M = M1 ∧ (TxN (6012 * 2 ^ i - 12) t) ∧ (b3 ≤ b4 + 20 * i)), ⟨t0, b3, _, rfl, rfl, (⟨htl0, ht0.lt⟩), (by omega)⟩, ?_, ?_⟩
 · rintro i x vs δ M1 hx ⟨t, b4, o6, rfl, rfl, ht, hb4⟩ hδ
   obtain rfl : δ = [_, _, _, _, _, _, o6, _, _, _, _, _, _, _] := hδ
   obtain ⟨kd, hkx, rfl⟩ := map_get hx
   have hil := (List.getElem?_eq_some_iff.mp hkx).1
   have hkb := hkd kd (List.mem_of_getElem? hkx)
   have hsn := spoil_n (i := i) (by omega)
   repeat' kpc_text
   refine ⟨s, g, _, M, t, kd, _, rfl, rfl, by omega, hkb.1, hkb.2, ht, hsn.1, fun t' b5 ht' hb5 => ?_⟩
   repeat' kpc_text
   exact ⟨[_, _], rfl, t', b5, _, rfl, rfl, ((by rw [← hsn.2]; exact ht')), (by omega)⟩
 · rintro vs δ M1 ⟨t, b4, o6, rfl, rfl, ht, hb4⟩ hδ
   obtain rfl : δ = [_, _, _, _, _, _, o6, _, _, _, _, _, _, _] := hδ
   try simp only [range_len, List.length_map, enum_len] at ht hb4
   have hsm := spoil_m (i := kds.length) (by omega)
   have htb : TxB t := ⟨Nat.le_trans ht.len hsm, ht.lt⟩
   have hch := readF_ch htb
   have hbd := readF_in htb
   repeat' kpc_text
   refine ⟨t, rfl, htb, ?_⟩
   cases hr : readF t with
   | mk o p =>
   obtain ⟨ls, ss⟩ := p
   cases o with
   | some i =>
     rw [show readD (some i, ls, ss) = .tup [.tup [.str (Str.ofString "text"), .int (i : Nat)], .lst (ls.map legD), .lst (ss.map smD)] from rfl]
     repeat' kpc_text
     refine ⟨t, rfl, htb, fun i' ls' ss' e => ?_, fun ls' ss' e => by rw [hr] at e; cases e⟩
     rw [hr] at e
     cases e
     repeat' kpc_text
     exact ⟨_, _, .sub (List.sublist_cons_self _ _), k⟩
   | none =>
     cases hpf : planF ls ss with
     | some e =>
       cases e with
       | name z' =>
         rw [show readD (none, ls, ss) = .tup [dueD (planF ls ss), .lst (ls.map legD), .lst (ss.map smD)] from rfl, hpf]
         rw [show dueD (some (.name z')) = .tup [.str (Str.ofString "name"), .str z'] from rfl]
         repeat' kpc_text
         refine ⟨t, rfl, htb, (fun i' ls' ss' e => by rw [hr] at e; cases e), fun ls' ss' e => ?_⟩
         rw [hr] at e
         cases e
         refine ⟨(fun h => by rw [hpf] at h; cases h), fun e' h => ?_⟩
         repeat' kpc_text
         exact ⟨_, _, .sub (List.sublist_cons_self _ _), k⟩
       | taken z' =>
         rw [show readD (none, ls, ss) = .tup [dueD (planF ls ss), .lst (ls.map legD), .lst (ss.map smD)] from rfl, hpf]
         rw [show dueD (some (.taken z')) = .tup [.str (Str.ofString "taken"), .str z'] from rfl]
         repeat' kpc_text
         refine ⟨t, rfl, htb, (fun i' ls' ss' e => by rw [hr] at e; cases e), fun ls' ss' e => ?_⟩
         rw [hr] at e
         cases e
         refine ⟨(fun h => by rw [hpf] at h; cases h), fun e' h => ?_⟩
         repeat' kpc_text
         exact ⟨_, _, .sub (List.sublist_cons_self _ _), k⟩
       | width =>
         rw [show readD (none, ls, ss) = .tup [dueD (planF ls ss), .lst (ls.map legD), .lst (ss.map smD)] from rfl, hpf]
         rw [show dueD (some (.width)) = .tup [.str (Str.ofString "width"), .int 0] from rfl]
         repeat' kpc_text
         refine ⟨t, rfl, htb, (fun i' ls' ss' e => by rw [hr] at e; cases e), fun ls' ss' e => ?_⟩
         rw [hr] at e
         cases e
         refine ⟨(fun h => by rw [hpf] at h; cases h), fun e' h => ?_⟩
         repeat' kpc_text
         exact ⟨_, _, .sub (List.sublist_cons_self _ _), k⟩
       | way p' =>
         rw [show readD (none, ls, ss) = .tup [dueD (planF ls ss), .lst (ls.map legD), .lst (ss.map smD)] from rfl, hpf]
         rw [show dueD (some (.way p')) = .tup [.str (Str.ofString "way"), .int (p' : Nat)] from rfl]
         repeat' kpc_text
         refine ⟨t, rfl, htb, (fun i' ls' ss' e => by rw [hr] at e; cases e), fun ls' ss' e => ?_⟩
         rw [hr] at e
         cases e
         refine ⟨(fun h => by rw [hpf] at h; cases h), fun e' h => ?_⟩
         repeat' kpc_text
         exact ⟨_, _, .sub (List.sublist_cons_self _ _), k⟩
     | none =>
       rw [show readD (none, ls, ss) = .tup [dueD (planF ls ss), .lst (ls.map legD), .lst (ss.map smD)] from rfl, hpf]
       rw [show dueD none = D.non from rfl]
       obtain ⟨hwt, hjo, hsum⟩ := readF_back hr
       have hg := good_of hpf hjo
       have hsn := (spoil_n (i := 3) (by omega)).1
       have htl3 : t.length ≤ 50000 := by
         have h3 : kds.length = 0 ∨ kds.length = 1 ∨ kds.length = 2 ∨ kds.length = 3 := by omega
         have hlt := ht.len
         rcases h3 with h | h | h | h <;> rw [h] at hlt <;> omega
       have htx := text_tx hg (by omega)
       have hrd := text_read hg
       repeat' kpc_text
       refine ⟨t, rfl, htb, (fun i' ls' ss' e => by rw [hr] at e; cases e), fun ls' ss' e => ?_⟩
       rw [hr] at e
       cases e
       refine ⟨fun h => ?_, (fun e' h => by rw [hpf] at h; cases h)⟩
       have l1 : (Str.ofString " ").length = 1 := by decide +kernel
       have l2 : (Str.ofString "\n").length = 1 := by decide +kernel
       have l0 : (Str.ofString "").length = 0 := by decide +kernel
       have e2 : (decide (ls = ls) && decide (ss = ss)) = true := by simp
       have htlen := text_len (ls := ls) (ss := ss)
       repeat' kpc_text
       refine DE.f (df_lc 0 z hN hs [("_law_row", 13)] (.one 13) (by decide +kernel) (by decide) (fun X' bk => pg_one bk z (bk.lo hN hs (by decide +kernel))) (di_list ?_))
       repeat' kpc_text
       refine ⟨ls, ss, rfl, by omega, by omega, hg.lnt, hg.smt, ?_⟩
       refine ⟨_, rfl, ?_⟩
       refine LcH.mapT (ls.map lnW ++ ss.map smW) (rD) ((fun r => Txt.join (Str.ofString " ") r ++ Str.ofString "\n")) (.str) (Nat.le_trans (show List.length _ ≤ 1000000 by first | omega | (simp; done) | (simp; omega)) (by decide)) (fun q acc a ha => ?_) ?_
       · refine ⟨_, rfl, fun X' bk => ?_⟩
         have c13 : Lo X' 13 "_law_row" := bk.lo hN hs (by decide +kernel)
         have z' := bk.z z
         repeat' kpc_text
         obtain ⟨r1, r2, r3⟩ := row_in hg.lnt hg.smt ha
         refine ⟨a, .val _, ?_, ?_⟩
         · have h1 : (a.map (·.length)).sum ≤ a.length * 10 := sum_le r2
           rw [l1]; omega
         repeat' kpc_text
         refine od_addS (Nat.le_trans (show _ ≤ 200 by rw [l2]; omega) (by decide)) ?_
         exact ⟨rfl, rfl⟩
       repeat' kpc_text
       refine ⟨_, .val _, ?_, ?_⟩
       · rw [l0, Nat.mul_zero, Nat.add_zero, ← joinE_len, form_is, htlen]
         omega
       rw [form_is]
       repeat' kpc_text
       refine ⟨ls, ss, rfl, by omega, hg.lnt, hg.smt, ?_⟩
       repeat' kpc_text
       refine CallD.inl (CallD.inl (isi_ss ?_))
       repeat' kpc_text
       · rename_i hne
         exact absurd rfl hne
       refine ⟨_, rfl, htx, (fun i' ls' ss' e => by rw [hrd] at e; cases e), fun ls' ss' e => ?_⟩
       rw [hrd] at e
       cases e
       refine ⟨fun h => ?_, (fun e' h => by rw [hpf] at h; cases h)⟩
       repeat' ((fail_if_success refine (stEqN "_law_twice") ?_); kpc_text)
       refine de_eqO (by assumption) M_Plan_eq_1 (by decide) ?_
       repeat' kpc_text
       refine od_own (.val _ _ _) (.own (.val _ _ _)) ⟨ls, ss, _, _, rfl, .pa ls ss, _, rfl, ?_⟩
       rw [Bool.false_xor, e2]
       repeat' ((fail_if_success refine (stEqN "_law_plan_here") ?_); kpc_text)
       refine de_eqO (by assumption) M_Plan_eq_1 (by decide) ?_
       repeat' kpc_text
       refine od_own (.val _ _ _) (.own (.val _ _ _)) ⟨ls, ss, _, _, rfl, .pa ls ss, _, rfl, ?_⟩
       rw [Bool.false_xor, e2]
       repeat' kpc_text
       refine ⟨ls, ss, rfl, by omega, hg.lnt, hg.smt, ?_⟩
       repeat' kpc_text
       exact ⟨_, _, .sub (List.sublist_cons_self _ _), by rw [decide_eq_true rfl]; exact k⟩
abbrev s_NoName__init : Stmt := inClass (top 4) 0
def n_NoName__init : List Str := ["self", "name"]
theorem sc_NoName__init : FnScope n_NoName__init ["self", "name"] (defScope s_NoName__init) := ⟨rfl, rfl, rfl, by decide +kernel, rfl, by decide +kernel, by decide +kernel⟩
theorem x_NoName__init {P : Program} {w : World} {K : PySem.W.Frag} {mg : Str → Option Value} {base : Heap} {C f : Addr} {fd : FuncData} (F : Fun K "__init__" "NoName.__init__" s_NoName__init f fd) (T : OexC K C) (N_name : PySem.W.findIn K (.ref C) "name" = some none) : FnOk P w K mg base CX0 1 f fd ["self", "name"] (spXI C ["name"]) := by
 refine F.ok sc_NoName__init (fun vs H Q E hl => ?_) fun cdv A outer s H vs Q E hr hl => ?_
 · obtain ⟨a, args, rfl, hl, _⟩ := hl
   simpa using hl
 · obtain ⟨a, args, rfl, hl, ha, kk⟩ := hl
   match args, hl with
   | [v0], _ =>
     refine ⟨_, pss_one (ps_ost (pv 0) (pv 1)), ?_⟩
     refine ⟨_, rfl, _, rfl, a, C, rfl, T, N_name, .inl ⟨ha, fun dx n1 n2 => ?_⟩⟩
     exact kk dx _ n1 n2 (by repeat (first | exact upd_same | rw [upd_ne n2] | rw [upd_ne (Ne.symm n2)])) (by repeat (first | exact upd_same | rw [upd_ne n2] | rw [upd_ne (Ne.symm n2)])) (fun b h1 h2 => by simp only [upd_ne h1, upd_ne h2])
abbrev s_Taken__init : Stmt := inClass (top 5) 0
def n_Taken__init : List Str := ["self", "name"]
theorem sc_Taken__init : FnScope n_Taken__init ["self", "name"] (defScope s_Taken__init) := ⟨rfl, rfl, rfl, by decide +kernel, rfl, by decide +kernel, by decide +kernel⟩
theorem x_Taken__init {P : Program} {w : World} {K : PySem.W.Frag} {mg : Str → Option Value} {base : Heap} {C f : Addr} {fd : FuncData} (F : Fun K "__init__" "Taken.__init__" s_Taken__init f fd) (T : OexC K C) (N_name : PySem.W.findIn K (.ref C) "name" = some none) : FnOk P w K mg base CX0 1 f fd ["self", "name"] (spXI C ["name"]) := by
 refine F.ok sc_Taken__init (fun vs H Q E hl => ?_) fun cdv A outer s H vs Q E hr hl => ?_
 · obtain ⟨a, args, rfl, hl, _⟩ := hl
   simpa using hl
 · obtain ⟨a, args, rfl, hl, ha, kk⟩ := hl
   match args, hl with
   | [v0], _ =>
     refine ⟨_, pss_one (ps_ost (pv 0) (pv 1)), ?_⟩
     refine ⟨_, rfl, _, rfl, a, C, rfl, T, N_name, .inl ⟨ha, fun dx n1 n2 => ?_⟩⟩
     exact kk dx _ n1 n2 (by repeat (first | exact upd_same | rw [upd_ne n2] | rw [upd_ne (Ne.symm n2)])) (by repeat (first | exact upd_same | rw [upd_ne n2] | rw [upd_ne (Ne.symm n2)])) (fun b h1 h2 => by simp only [upd_ne h1, upd_ne h2])
abbrev s_NoWay__init : Stmt := inClass (top 6) 0
def n_NoWay__init : List Str := ["self", "place"]
theorem sc_NoWay__init : FnScope n_NoWay__init ["self", "place"] (defScope s_NoWay__init) := ⟨rfl, rfl, rfl, by decide +kernel, rfl, by decide +kernel, by decide +kernel⟩
theorem x_NoWay__init {P : Program} {w : World} {K : PySem.W.Frag} {mg : Str → Option Value} {base : Heap} {C f : Addr} {fd : FuncData} (F : Fun K "__init__" "NoWay.__init__" s_NoWay__init f fd) (T : OexC K C) (N_place : PySem.W.findIn K (.ref C) "place" = some none) : FnOk P w K mg base CX0 1 f fd ["self", "place"] (spXI C ["place"]) := by
 refine F.ok sc_NoWay__init (fun vs H Q E hl => ?_) fun cdv A outer s H vs Q E hr hl => ?_
 · obtain ⟨a, args, rfl, hl, _⟩ := hl
   simpa using hl
 · obtain ⟨a, args, rfl, hl, ha, kk⟩ := hl
   match args, hl with
   | [v0], _ =>
     refine ⟨_, pss_one (ps_ost (pv 0) (pv 1)), ?_⟩
     refine ⟨_, rfl, _, rfl, a, C, rfl, T, N_place, .inl ⟨ha, fun dx n1 n2 => ?_⟩⟩
     exact kk dx _ n1 n2 (by repeat (first | exact upd_same | rw [upd_ne n2] | rw [upd_ne (Ne.symm n2)])) (by repeat (first | exact upd_same | rw [upd_ne n2] | rw [upd_ne (Ne.symm n2)])) (fun b h1 h2 => by simp only [upd_ne h1, upd_ne h2])
abbrev s_NoText__init : Stmt := inClass (top 7) 0
def n_NoText__init : List Str := ["self", "row"]
theorem sc_NoText__init : FnScope n_NoText__init ["self", "row"] (defScope s_NoText__init) := ⟨rfl, rfl, rfl, by decide +kernel, rfl, by decide +kernel, by decide +kernel⟩
theorem x_NoText__init {P : Program} {w : World} {K : PySem.W.Frag} {mg : Str → Option Value} {base : Heap} {C f : Addr} {fd : FuncData} (F : Fun K "__init__" "NoText.__init__" s_NoText__init f fd) (T : OexC K C) (N_row : PySem.W.findIn K (.ref C) "row" = some none) : FnOk P w K mg base CX0 1 f fd ["self", "row"] (spXI C ["row"]) := by
 refine F.ok sc_NoText__init (fun vs H Q E hl => ?_) fun cdv A outer s H vs Q E hr hl => ?_
 · obtain ⟨a, args, rfl, hl, _⟩ := hl
   simpa using hl
 · obtain ⟨a, args, rfl, hl, ha, kk⟩ := hl
   match args, hl with
   | [v0], _ =>
     refine ⟨_, pss_one (ps_ost (pv 0) (pv 1)), ?_⟩
     refine ⟨_, rfl, _, rfl, a, C, rfl, T, N_row, .inl ⟨ha, fun dx n1 n2 => ?_⟩⟩
     exact kk dx _ n1 n2 (by repeat (first | exact upd_same | rw [upd_ne n2] | rw [upd_ne (Ne.symm n2)])) (by repeat (first | exact upd_same | rw [upd_ne n2] | rw [upd_ne (Ne.symm n2)])) (fun b h1 h2 => by simp only [upd_ne h1, upd_ne h2])
theorem all_mk {l : PySem.W.OpenLaw} {w : World} {K : PySem.W.Frag} {h : Heap} {mg : Str → Option Value} {fa f1 f2 f3 f4 f5 f6 f7 f8 f9 f10 f11 f12 f13 f14 f15 f16 f17 f18 f19 f20 f21 f22 f23 f24 f25 f26 f27 f28 f29 f30 f31 f32 f33 f34 f35 f36 f37 f38 f39 f40 c_NoJar c_Jar c_NoName c_NoWay c_NoLane c_NoText c_Taken c_Plan c_LaneError : Addr} (X : K.In h) (G : h.Ns mainGlobals mg) (hfa : mg "law" = some (.ref fa))
   (ac_NoJar : PySem.W.nsIn K mainGlobals "NoJar" = some (some (.ref c_NoJar)))
   (ac_Jar : PySem.W.nsIn K mainGlobals "Jar" = some (some (.ref c_Jar)))
   (ac_NoName : PySem.W.nsIn K mainGlobals "NoName" = some (some (.ref c_NoName)))
   (ac_NoWay : PySem.W.nsIn K mainGlobals "NoWay" = some (some (.ref c_NoWay)))
   (ac_NoLane : PySem.W.nsIn K mainGlobals "NoLane" = some (some (.ref c_NoLane)))
   (ac_NoText : PySem.W.nsIn K mainGlobals "NoText" = some (some (.ref c_NoText)))
   (ac_Taken : PySem.W.nsIn K mainGlobals "Taken" = some (some (.ref c_Taken)))
   (ac_Plan : PySem.W.nsIn K mainGlobals "Plan" = some (some (.ref c_Plan)))
   (ac_LaneError : PySem.W.nsIn K mainGlobals "LaneError" = some (some (.ref c_LaneError)))
   {od1 an1 : Option Addr} {sl1 : Array (Option Value)} {oc1 kV1 dc1 pm1 cd1 ct1 : Value}
   (a1 : PySem.W.nsIn K mainGlobals "_law_begun" = some (some (.ref f1)))
   (l1 : K.lookup f1 = some ⟨oc1, od1, .func (PySem.W.fnOf "_law_begun" "_law_begun" (defArgs s_law_begun) (defBody s_law_begun) (defScope s_law_begun) .none kV1 dc1 pm1 an1 cd1 ct1), sl1⟩)
   (c1 : PySem.W.codeIn K cd1 "_law_begun" = true)
   (k1 : PySem.W.keepIn K (.ref f1) = true)
   {od2 an2 : Option Addr} {sl2 : Array (Option Value)} {oc2 kV2 dc2 pm2 cd2 ct2 : Value}
   (a2 : PySem.W.nsIn K mainGlobals "_law_take" = some (some (.ref f2)))
   (l2 : K.lookup f2 = some ⟨oc2, od2, .func (PySem.W.fnOf "_law_take" "_law_take" (defArgs s_law_take) (defBody s_law_take) (defScope s_law_take) .none kV2 dc2 pm2 an2 cd2 ct2), sl2⟩)
   (c2 : PySem.W.codeIn K cd2 "_law_take" = true)
   (k2 : PySem.W.keepIn K (.ref f2) = true)
   {od3 an3 : Option Addr} {sl3 : Array (Option Value)} {oc3 kV3 dc3 pm3 cd3 ct3 : Value}
   (a3 : PySem.W.nsIn K mainGlobals "_law_name" = some (some (.ref f3)))
   (l3 : K.lookup f3 = some ⟨oc3, od3, .func (PySem.W.fnOf "_law_name" "_law_name" (defArgs s_law_name) (defBody s_law_name) (defScope s_law_name) .none kV3 dc3 pm3 an3 cd3 ct3), sl3⟩)
   (c3 : PySem.W.codeIn K cd3 "_law_name" = true)
   (k3 : PySem.W.keepIn K (.ref f3) = true)
   {od4 an4 : Option Addr} {sl4 : Array (Option Value)} {oc4 kV4 dc4 pm4 cd4 ct4 : Value}
   (a4 : PySem.W.nsIn K mainGlobals "_law_wait" = some (some (.ref f4)))
   (l4 : K.lookup f4 = some ⟨oc4, od4, .func (PySem.W.fnOf "_law_wait" "_law_wait" (defArgs s_law_wait) (defBody s_law_wait) (defScope s_law_wait) .none kV4 dc4 pm4 an4 cd4 ct4), sl4⟩)
   (c4 : PySem.W.codeIn K cd4 "_law_wait" = true)
   (k4 : PySem.W.keepIn K (.ref f4) = true)
   {od5 an5 : Option Addr} {sl5 : Array (Option Value)} {oc5 kV5 dc5 pm5 cd5 ct5 : Value}
   (a5 : PySem.W.nsIn K mainGlobals "_law_jar" = some (some (.ref f5)))
   (l5 : K.lookup f5 = some ⟨oc5, od5, .func (PySem.W.fnOf "_law_jar" "_law_jar" (defArgs s_law_jar) (defBody s_law_jar) (defScope s_law_jar) .none kV5 dc5 pm5 an5 cd5 ct5), sl5⟩)
   (c5 : PySem.W.codeIn K cd5 "_law_jar" = true)
   (k5 : PySem.W.keepIn K (.ref f5) = true)
   {od6 an6 : Option Addr} {sl6 : Array (Option Value)} {oc6 kV6 dc6 pm6 cd6 ct6 : Value}
   (a6 : PySem.W.nsIn K mainGlobals "_law_way" = some (some (.ref f6)))
   (l6 : K.lookup f6 = some ⟨oc6, od6, .func (PySem.W.fnOf "_law_way" "_law_way" (defArgs s_law_way) (defBody s_law_way) (defScope s_law_way) .none kV6 dc6 pm6 an6 cd6 ct6), sl6⟩)
   (c6 : PySem.W.codeIn K cd6 "_law_way" = true)
   (k6 : PySem.W.keepIn K (.ref f6) = true)
   {od7 an7 : Option Addr} {sl7 : Array (Option Value)} {oc7 kV7 dc7 pm7 cd7 ct7 : Value}
   (a7 : PySem.W.nsIn K mainGlobals "_law_plan" = some (some (.ref f7)))
   (l7 : K.lookup f7 = some ⟨oc7, od7, .func (PySem.W.fnOf "_law_plan" "_law_plan" (defArgs s_law_plan) (defBody s_law_plan) (defScope s_law_plan) .none kV7 dc7 pm7 an7 cd7 ct7), sl7⟩)
   (c7 : PySem.W.codeIn K cd7 "_law_plan" = true)
   (k7 : PySem.W.keepIn K (.ref f7) = true)
   {od8 an8 : Option Addr} {sl8 : Array (Option Value)} {oc8 kV8 dc8 pm8 cd8 ct8 : Value}
   (a8 : PySem.W.nsIn K mainGlobals "_law_loose" = some (some (.ref f8)))
   (l8 : K.lookup f8 = some ⟨oc8, od8, .func (PySem.W.fnOf "_law_loose" "_law_loose" (defArgs s_law_loose) (defBody s_law_loose) (defScope s_law_loose) .none kV8 dc8 pm8 an8 cd8 ct8), sl8⟩)
   (c8 : PySem.W.codeIn K cd8 "_law_loose" = true)
   (k8 : PySem.W.keepIn K (.ref f8) = true)
   {od9 an9 : Option Addr} {sl9 : Array (Option Value)} {oc9 kV9 dc9 pm9 cd9 ct9 : Value}
   (a9 : PySem.W.nsIn K mainGlobals "_law_rows" = some (some (.ref f9)))
   (l9 : K.lookup f9 = some ⟨oc9, od9, .func (PySem.W.fnOf "_law_rows" "_law_rows" (defArgs s_law_rows) (defBody s_law_rows) (defScope s_law_rows) .none kV9 dc9 pm9 an9 cd9 ct9), sl9⟩)
   (c9 : PySem.W.codeIn K cd9 "_law_rows" = true)
   (k9 : PySem.W.keepIn K (.ref f9) = true)
   {od10 an10 : Option Addr} {sl10 : Array (Option Value)} {oc10 kV10 dc10 pm10 cd10 ct10 : Value}
   (a10 : PySem.W.nsIn K mainGlobals "_law_sign" = some (some (.ref f10)))
   (l10 : K.lookup f10 = some ⟨oc10, od10, .func (PySem.W.fnOf "_law_sign" "_law_sign" (defArgs s_law_sign) (defBody s_law_sign) (defScope s_law_sign) .none kV10 dc10 pm10 an10 cd10 ct10), sl10⟩)
   (c10 : PySem.W.codeIn K cd10 "_law_sign" = true)
   (k10 : PySem.W.keepIn K (.ref f10) = true)
   {od11 an11 : Option Addr} {sl11 : Array (Option Value)} {oc11 kV11 dc11 pm11 cd11 ct11 : Value}
   (a11 : PySem.W.nsIn K mainGlobals "_law_cut" = some (some (.ref f11)))
   (l11 : K.lookup f11 = some ⟨oc11, od11, .func (PySem.W.fnOf "_law_cut" "_law_cut" (defArgs s_law_cut) (defBody s_law_cut) (defScope s_law_cut) .none kV11 dc11 pm11 an11 cd11 ct11), sl11⟩)
   (c11 : PySem.W.codeIn K cd11 "_law_cut" = true)
   (k11 : PySem.W.keepIn K (.ref f11) = true)
   {od12 an12 : Option Addr} {sl12 : Array (Option Value)} {oc12 kV12 dc12 pm12 cd12 ct12 : Value}
   (a12 : PySem.W.nsIn K mainGlobals "_law_spoilt" = some (some (.ref f12)))
   (l12 : K.lookup f12 = some ⟨oc12, od12, .func (PySem.W.fnOf "_law_spoilt" "_law_spoilt" (defArgs s_law_spoilt) (defBody s_law_spoilt) (defScope s_law_spoilt) .none kV12 dc12 pm12 an12 cd12 ct12), sl12⟩)
   (c12 : PySem.W.codeIn K cd12 "_law_spoilt" = true)
   (k12 : PySem.W.keepIn K (.ref f12) = true)
   {od13 an13 : Option Addr} {sl13 : Array (Option Value)} {oc13 kV13 dc13 pm13 cd13 ct13 : Value}
   (a13 : PySem.W.nsIn K mainGlobals "_law_words" = some (some (.ref f13)))
   (l13 : K.lookup f13 = some ⟨oc13, od13, .func (PySem.W.fnOf "_law_words" "_law_words" (defArgs s_law_words) (defBody s_law_words) (defScope s_law_words) .none kV13 dc13 pm13 an13 cd13 ct13), sl13⟩)
   (c13 : PySem.W.codeIn K cd13 "_law_words" = true)
   (k13 : PySem.W.keepIn K (.ref f13) = true)
   {od14 an14 : Option Addr} {sl14 : Array (Option Value)} {oc14 kV14 dc14 pm14 cd14 ct14 : Value}
   (a14 : PySem.W.nsIn K mainGlobals "_law_number" = some (some (.ref f14)))
   (l14 : K.lookup f14 = some ⟨oc14, od14, .func (PySem.W.fnOf "_law_number" "_law_number" (defArgs s_law_number) (defBody s_law_number) (defScope s_law_number) .none kV14 dc14 pm14 an14 cd14 ct14), sl14⟩)
   (c14 : PySem.W.codeIn K cd14 "_law_number" = true)
   (k14 : PySem.W.keepIn K (.ref f14) = true)
   {od15 an15 : Option Addr} {sl15 : Array (Option Value)} {oc15 kV15 dc15 pm15 cd15 ct15 : Value}
   (a15 : PySem.W.nsIn K mainGlobals "_law_item" = some (some (.ref f15)))
   (l15 : K.lookup f15 = some ⟨oc15, od15, .func (PySem.W.fnOf "_law_item" "_law_item" (defArgs s_law_item) (defBody s_law_item) (defScope s_law_item) .none kV15 dc15 pm15 an15 cd15 ct15), sl15⟩)
   (c15 : PySem.W.codeIn K cd15 "_law_item" = true)
   (k15 : PySem.W.keepIn K (.ref f15) = true)
   {od16 an16 : Option Addr} {sl16 : Array (Option Value)} {oc16 kV16 dc16 pm16 cd16 ct16 : Value}
   (a16 : PySem.W.nsIn K mainGlobals "_law_is_name" = some (some (.ref f16)))
   (l16 : K.lookup f16 = some ⟨oc16, od16, .func (PySem.W.fnOf "_law_is_name" "_law_is_name" (defArgs s_law_is_name) (defBody s_law_is_name) (defScope s_law_is_name) .none kV16 dc16 pm16 an16 cd16 ct16), sl16⟩)
   (c16 : PySem.W.codeIn K cd16 "_law_is_name" = true)
   (k16 : PySem.W.keepIn K (.ref f16) = true)
   {od17 an17 : Option Addr} {sl17 : Array (Option Value)} {oc17 kV17 dc17 pm17 cd17 ct17 : Value}
   (a17 : PySem.W.nsIn K mainGlobals "_law_wrong" = some (some (.ref f17)))
   (l17 : K.lookup f17 = some ⟨oc17, od17, .func (PySem.W.fnOf "_law_wrong" "_law_wrong" (defArgs s_law_wrong) (defBody s_law_wrong) (defScope s_law_wrong) .none kV17 dc17 pm17 an17 cd17 ct17), sl17⟩)
   (c17 : PySem.W.codeIn K cd17 "_law_wrong" = true)
   (k17 : PySem.W.keepIn K (.ref f17) = true)
   {od18 an18 : Option Addr} {sl18 : Array (Option Value)} {oc18 kV18 dc18 pm18 cd18 ct18 : Value}
   (a18 : PySem.W.nsIn K mainGlobals "_law_due" = some (some (.ref f18)))
   (l18 : K.lookup f18 = some ⟨oc18, od18, .func (PySem.W.fnOf "_law_due" "_law_due" (defArgs s_law_due) (defBody s_law_due) (defScope s_law_due) .none kV18 dc18 pm18 an18 cd18 ct18), sl18⟩)
   (c18 : PySem.W.codeIn K cd18 "_law_due" = true)
   (k18 : PySem.W.keepIn K (.ref f18) = true)
   {od19 an19 : Option Addr} {sl19 : Array (Option Value)} {oc19 kV19 dc19 pm19 cd19 ct19 : Value}
   (a19 : PySem.W.nsIn K mainGlobals "_law_read" = some (some (.ref f19)))
   (l19 : K.lookup f19 = some ⟨oc19, od19, .func (PySem.W.fnOf "_law_read" "_law_read" (defArgs s_law_read) (defBody s_law_read) (defScope s_law_read) .none kV19 dc19 pm19 an19 cd19 ct19), sl19⟩)
   (c19 : PySem.W.codeIn K cd19 "_law_read" = true)
   (k19 : PySem.W.keepIn K (.ref f19) = true)
   {od20 an20 : Option Addr} {sl20 : Array (Option Value)} {oc20 kV20 dc20 pm20 cd20 ct20 : Value}
   (a20 : PySem.W.nsIn K mainGlobals "words_of" = some (some (.ref f20)))
   (l20 : K.lookup f20 = some ⟨oc20, od20, .func (PySem.W.fnOf "words_of" "words_of" (defArgs s_words_of) (defBody s_words_of) (defScope s_words_of) .none kV20 dc20 pm20 an20 cd20 ct20), sl20⟩)
   (c20 : PySem.W.codeIn K cd20 "words_of" = true)
   (k20 : PySem.W.keepIn K (.ref f20) = true)
   {od21 an21 : Option Addr} {sl21 : Array (Option Value)} {oc21 kV21 dc21 pm21 cd21 ct21 : Value}
   (a21 : PySem.W.nsIn K mainGlobals "number_of" = some (some (.ref f21)))
   (l21 : K.lookup f21 = some ⟨oc21, od21, .func (PySem.W.fnOf "number_of" "number_of" (defArgs s_number_of) (defBody s_number_of) (defScope s_number_of) .none kV21 dc21 pm21 an21 cd21 ct21), sl21⟩)
   (c21 : PySem.W.codeIn K cd21 "number_of" = true)
   (k21 : PySem.W.keepIn K (.ref f21) = true)
   {od22 an22 : Option Addr} {sl22 : Array (Option Value)} {oc22 kV22 dc22 pm22 cd22 ct22 : Value}
   (a22 : PySem.W.nsIn K mainGlobals "lane_of" = some (some (.ref f22)))
   (l22 : K.lookup f22 = some ⟨oc22, od22, .func (PySem.W.fnOf "lane_of" "lane_of" (defArgs s_lane_of) (defBody s_lane_of) (defScope s_lane_of) .none kV22 dc22 pm22 an22 cd22 ct22), sl22⟩)
   (c22 : PySem.W.codeIn K cd22 "lane_of" = true)
   (k22 : PySem.W.keepIn K (.ref f22) = true)
   {od23 an23 : Option Addr} {sl23 : Array (Option Value)} {oc23 kV23 dc23 pm23 cd23 ct23 : Value}
   (a23 : PySem.W.nsIn K mainGlobals "numbers_of" = some (some (.ref f23)))
   (l23 : K.lookup f23 = some ⟨oc23, od23, .func (PySem.W.fnOf "numbers_of" "numbers_of" (defArgs s_numbers_of) (defBody s_numbers_of) (defScope s_numbers_of) .none kV23 dc23 pm23 an23 cd23 ct23), sl23⟩)
   (c23 : PySem.W.codeIn K cd23 "numbers_of" = true)
   (k23 : PySem.W.keepIn K (.ref f23) = true)
   {od24 an24 : Option Addr} {sl24 : Array (Option Value)} {oc24 kV24 dc24 pm24 cd24 ct24 : Value}
   (a24 : PySem.W.nsIn K mainGlobals "pairs_of" = some (some (.ref f24)))
   (l24 : K.lookup f24 = some ⟨oc24, od24, .func (PySem.W.fnOf "pairs_of" "pairs_of" (defArgs s_pairs_of) (defBody s_pairs_of) (defScope s_pairs_of) .none kV24 dc24 pm24 an24 cd24 ct24), sl24⟩)
   (c24 : PySem.W.codeIn K cd24 "pairs_of" = true)
   (k24 : PySem.W.keepIn K (.ref f24) = true)
   {od25 an25 : Option Addr} {sl25 : Array (Option Value)} {oc25 kV25 dc25 pm25 cd25 ct25 : Value}
   (a25 : PySem.W.findIn K (.ref c_Jar) "__init__" = some (some (.ref f25)))
   (n25 : PySem.W.isFn K (.ref f25) = true)
   (l25 : K.lookup f25 = some ⟨oc25, od25, .func (PySem.W.fnOf "__init__" "Jar.__init__" (defArgs s_Jar__init) (defBody s_Jar__init) (defScope s_Jar__init) .none kV25 dc25 pm25 an25 cd25 ct25), sl25⟩)
   (c25 : PySem.W.codeIn K cd25 "Jar.__init__" = true)
   (k25 : PySem.W.keepIn K (.ref f25) = true)
   {od26 an26 : Option Addr} {sl26 : Array (Option Value)} {oc26 kV26 dc26 pm26 cd26 ct26 : Value}
   (a26 : PySem.W.nsIn K mainGlobals "stream_of" = some (some (.ref f26)))
   (l26 : K.lookup f26 = some ⟨oc26, od26, .func (PySem.W.fnOf "stream_of" "stream_of" (defArgs s_stream_of) (defBody s_stream_of) (defScope s_stream_of) .none kV26 dc26 pm26 an26 cd26 ct26), sl26⟩)
   (c26 : PySem.W.codeIn K cd26 "stream_of" = true)
   (k26 : PySem.W.keepIn K (.ref f26) = true)
   {od27 an27 : Option Addr} {sl27 : Array (Option Value)} {oc27 kV27 dc27 pm27 cd27 ct27 : Value}
   (a27 : PySem.W.nsIn K mainGlobals "is_name" = some (some (.ref f27)))
   (l27 : K.lookup f27 = some ⟨oc27, od27, .func (PySem.W.fnOf "is_name" "is_name" (defArgs s_is_name) (defBody s_is_name) (defScope s_is_name) .none kV27 dc27 pm27 an27 cd27 ct27), sl27⟩)
   (c27 : PySem.W.codeIn K cd27 "is_name" = true)
   (k27 : PySem.W.keepIn K (.ref f27) = true)
   {od28 an28 : Option Addr} {sl28 : Array (Option Value)} {oc28 kV28 dc28 pm28 cd28 ct28 : Value}
   (a28 : PySem.W.nsIn K mainGlobals "look_at_name" = some (some (.ref f28)))
   (l28 : K.lookup f28 = some ⟨oc28, od28, .func (PySem.W.fnOf "look_at_name" "look_at_name" (defArgs s_look_at_name) (defBody s_look_at_name) (defScope s_look_at_name) .none kV28 dc28 pm28 an28 cd28 ct28), sl28⟩)
   (c28 : PySem.W.codeIn K cd28 "look_at_name" = true)
   (k28 : PySem.W.keepIn K (.ref f28) = true)
   {od29 an29 : Option Addr} {sl29 : Array (Option Value)} {oc29 kV29 dc29 pm29 cd29 ct29 : Value}
   (a29 : PySem.W.nsIn K mainGlobals "is_size" = some (some (.ref f29)))
   (l29 : K.lookup f29 = some ⟨oc29, od29, .func (PySem.W.fnOf "is_size" "is_size" (defArgs s_is_size) (defBody s_is_size) (defScope s_is_size) .none kV29 dc29 pm29 an29 cd29 ct29), sl29⟩)
   (c29 : PySem.W.codeIn K cd29 "is_size" = true)
   (k29 : PySem.W.keepIn K (.ref f29) = true)
   {od30 an30 : Option Addr} {sl30 : Array (Option Value)} {oc30 kV30 dc30 pm30 cd30 ct30 : Value}
   (a30 : PySem.W.nsIn K mainGlobals "wrong_at" = some (some (.ref f30)))
   (l30 : K.lookup f30 = some ⟨oc30, od30, .func (PySem.W.fnOf "wrong_at" "wrong_at" (defArgs s_wrong_at) (defBody s_wrong_at) (defScope s_wrong_at) .none kV30 dc30 pm30 an30 cd30 ct30), sl30⟩)
   (c30 : PySem.W.codeIn K cd30 "wrong_at" = true)
   (k30 : PySem.W.keepIn K (.ref f30) = true)
   {od31 an31 : Option Addr} {sl31 : Array (Option Value)} {oc31 kV31 dc31 pm31 cd31 ct31 : Value}
   (a31 : PySem.W.findIn K (.ref c_Plan) "__init__" = some (some (.ref f31)))
   (n31 : PySem.W.isFn K (.ref f31) = true)
   (l31 : K.lookup f31 = some ⟨oc31, od31, .func (PySem.W.fnOf "__init__" "Plan.__init__" (defArgs s_Plan__init) (defBody s_Plan__init) (defScope s_Plan__init) .none kV31 dc31 pm31 an31 cd31 ct31), sl31⟩)
   (c31 : PySem.W.codeIn K cd31 "Plan.__init__" = true)
   (k31 : PySem.W.keepIn K (.ref f31) = true)
   {od32 an32 : Option Addr} {sl32 : Array (Option Value)} {oc32 kV32 dc32 pm32 cd32 ct32 : Value}
   (a32 : PySem.W.nsIn K mainGlobals "plan_of" = some (some (.ref f32)))
   (l32 : K.lookup f32 = some ⟨oc32, od32, .func (PySem.W.fnOf "plan_of" "plan_of" (defArgs s_plan_of) (defBody s_plan_of) (defScope s_plan_of) .none kV32 dc32 pm32 an32 cd32 ct32), sl32⟩)
   (c32 : PySem.W.codeIn K cd32 "plan_of" = true)
   (k32 : PySem.W.keepIn K (.ref f32) = true)
   {od33 an33 : Option Addr} {sl33 : Array (Option Value)} {oc33 kV33 dc33 pm33 cd33 ct33 : Value}
   (a33 : PySem.W.nsIn K mainGlobals "_law_plan_by" = some (some (.ref f33)))
   (l33 : K.lookup f33 = some ⟨oc33, od33, .func (PySem.W.fnOf "_law_plan_by" "_law_plan_by" (defArgs s_law_plan_by) (defBody s_law_plan_by) (defScope s_law_plan_by) .none kV33 dc33 pm33 an33 cd33 ct33), sl33⟩)
   (c33 : PySem.W.codeIn K cd33 "_law_plan_by" = true)
   (k33 : PySem.W.keepIn K (.ref f33) = true)
   {od34 an34 : Option Addr} {sl34 : Array (Option Value)} {oc34 kV34 dc34 pm34 cd34 ct34 : Value}
   (a34 : PySem.W.findIn K (.ref c_Jar) "__str__" = some (some (.ref f34)))
   (n34 : PySem.W.isFn K (.ref f34) = true)
   (l34 : K.lookup f34 = some ⟨oc34, od34, .func (PySem.W.fnOf "__str__" "Jar.__str__" (defArgs s_Jar__str) (defBody s_Jar__str) (defScope s_Jar__str) .none kV34 dc34 pm34 an34 cd34 ct34), sl34⟩)
   (c34 : PySem.W.codeIn K cd34 "Jar.__str__" = true)
   (k34 : PySem.W.keepIn K (.ref f34) = true)
   {od35 an35 : Option Addr} {sl35 : Array (Option Value)} {oc35 kV35 dc35 pm35 cd35 ct35 : Value}
   (a35 : PySem.W.nsIn K mainGlobals "stream_row" = some (some (.ref f35)))
   (l35 : K.lookup f35 = some ⟨oc35, od35, .func (PySem.W.fnOf "stream_row" "stream_row" (defArgs s_stream_row) (defBody s_stream_row) (defScope s_stream_row) .none kV35 dc35 pm35 an35 cd35 ct35), sl35⟩)
   (c35 : PySem.W.codeIn K cd35 "stream_row" = true)
   (k35 : PySem.W.keepIn K (.ref f35) = true)
   {od36 an36 : Option Addr} {sl36 : Array (Option Value)} {oc36 kV36 dc36 pm36 cd36 ct36 : Value}
   (a36 : PySem.W.nsIn K mainGlobals "written" = some (some (.ref f36)))
   (l36 : K.lookup f36 = some ⟨oc36, od36, .func (PySem.W.fnOf "written" "written" (defArgs s_written) (defBody s_written) (defScope s_written) .none kV36 dc36 pm36 an36 cd36 ct36), sl36⟩)
   (c36 : PySem.W.codeIn K cd36 "written" = true)
   (k36 : PySem.W.keepIn K (.ref f36) = true)
   {od37 an37 : Option Addr} {sl37 : Array (Option Value)} {oc37 kV37 dc37 pm37 cd37 ct37 : Value}
   (a37 : PySem.W.findIn K (.ref c_Jar) "told" = some (some (.ref f37)))
   (n37 : PySem.W.isFn K (.ref f37) = true)
   (l37 : K.lookup f37 = some ⟨oc37, od37, .func (PySem.W.fnOf "told" "Jar.told" (defArgs s_Jar_told) (defBody s_Jar_told) (defScope s_Jar_told) .none kV37 dc37 pm37 an37 cd37 ct37), sl37⟩)
   (c37 : PySem.W.codeIn K cd37 "Jar.told" = true)
   (k37 : PySem.W.keepIn K (.ref f37) = true)
   {od38 an38 : Option Addr} {sl38 : Array (Option Value)} {oc38 kV38 dc38 pm38 cd38 ct38 : Value}
   (a38 : PySem.W.findIn K (.ref c_Jar) "__eq__" = some (some (.ref f38)))
   (n38 : PySem.W.isFn K (.ref f38) = true)
   (l38 : K.lookup f38 = some ⟨oc38, od38, .func (PySem.W.fnOf "__eq__" "Jar.__eq__" (defArgs s_Jar__eq) (defBody s_Jar__eq) (defScope s_Jar__eq) .none kV38 dc38 pm38 an38 cd38 ct38), sl38⟩)
   (c38 : PySem.W.codeIn K cd38 "Jar.__eq__" = true)
   (k38 : PySem.W.keepIn K (.ref f38) = true)
   {od39 an39 : Option Addr} {sl39 : Array (Option Value)} {oc39 kV39 dc39 pm39 cd39 ct39 : Value}
   (a39 : PySem.W.findIn K (.ref c_Plan) "__eq__" = some (some (.ref f39)))
   (n39 : PySem.W.isFn K (.ref f39) = true)
   (l39 : K.lookup f39 = some ⟨oc39, od39, .func (PySem.W.fnOf "__eq__" "Plan.__eq__" (defArgs s_Plan__eq) (defBody s_Plan__eq) (defScope s_Plan__eq) .none kV39 dc39 pm39 an39 cd39 ct39), sl39⟩)
   (c39 : PySem.W.codeIn K cd39 "Plan.__eq__" = true)
   (k39 : PySem.W.keepIn K (.ref f39) = true)
   {od40 an40 : Option Addr} {sl40 : Array (Option Value)} {oc40 kV40 dc40 pm40 cd40 ct40 : Value}
   (a40 : PySem.W.nsIn K mainGlobals "law" = some (some (.ref f40)))
   (l40 : K.lookup f40 = some ⟨oc40, od40, .func (PySem.W.fnOf "law" "law" (defArgs s_law) (defBody s_law) (defScope s_law) .none kV40 dc40 pm40 an40 cd40 ct40), sl40⟩)
   (c40 : PySem.W.codeIn K cd40 "law" = true)
   (k40 : PySem.W.keepIn K (.ref f40) = true)
   (z_len : PySem.W.nsIn K mainGlobals "len" = some none)
   (z_range : PySem.W.nsIn K mainGlobals "range" = some none)
   (z_sorted : PySem.W.nsIn K mainGlobals "sorted" = some none)
   (z_list : PySem.W.nsIn K mainGlobals "list" = some none)
   (z_min : PySem.W.nsIn K mainGlobals "min" = some none)
   (z_enumerate : PySem.W.nsIn K mainGlobals "enumerate" = some none)
   (z_str : PySem.W.nsIn K mainGlobals "str" = some none)
   (z_all : PySem.W.nsIn K mainGlobals "all" = some none)
   (z_int : PySem.W.nsIn K mainGlobals "int" = some none)
   {t_FIGURES : Tok}
   (v_FIGURES : PySem.W.nsIn K mainGlobals "FIGURES" = some (some (.str "0123456789" t_FIGURES)))
   (z_zip : PySem.W.nsIn K mainGlobals "zip" = some none)
   {t_MOST : Tok}
   (v_MOST : PySem.W.nsIn K mainGlobals "MOST" = some (some (.int 1000000000 t_MOST)))
   (xk_NoJar : PySem.W.keepIn K (.ref c_NoJar) = true)
   (xs_NoJar : PySem.W.subIn K (.ref c_NoJar) (.type "BaseException") = some true)
   (xt_NoJar : PySem.W.typeIn K (.ref c_NoJar) = some (.type "type"))
   (xq_NoJar : PySem.W.excIn K c_NoJar [.type "ValueError", .type "Exception", .type "BaseException", .type "object"] "ValueError.__new__" = true)
   (pg_Jar : PySem.W.plainGet K c_Jar Str.empty = true)
   (hd_Jar : PySem.W.hasDictIn K c_Jar = true)
   (po_Jar : PySem.W.plainOver K c_Jar = true)
   (sa_Jar : PySem.W.findIn K (.ref c_Jar) "__setattr__" = some (some (.builtin "object.__setattr__")))
   (yA_Jar_size : PySem.W.findIn K (.ref c_Jar) "size" = some none)
   (yA_Jar_rate : PySem.W.findIn K (.ref c_Jar) "rate" = some none)
   (yA_Jar_mouth : PySem.W.findIn K (.ref c_Jar) "mouth" = some none)
   (mk_Jar : PySem.W.makesIn K c_Jar = true)
   (mkk_Jar : PySem.W.keepIn K (.ref c_Jar) = true)
   (sb_NoName_NoJar : PySem.W.subIn K (.ref c_NoName) (.ref c_NoJar) = some false)
   (sb_NoJar_NoJar : PySem.W.subIn K (.ref c_NoJar) (.ref c_NoJar) = some true)
   (xhd_NoJar : PySem.W.hasDictIn K c_NoJar = true)
   (sb_NoWay_NoJar : PySem.W.subIn K (.ref c_NoWay) (.ref c_NoJar) = some false)
   (sb_NoLane_NoJar : PySem.W.subIn K (.ref c_NoLane) (.ref c_NoJar) = some false)
   (sb_NoText_NoJar : PySem.W.subIn K (.ref c_NoText) (.ref c_NoJar) = some false)
   (sb_Taken_NoJar : PySem.W.subIn K (.ref c_Taken) (.ref c_NoJar) = some false)
   {t_LETTERS : Tok}
   (v_LETTERS : PySem.W.nsIn K mainGlobals "LETTERS" = some (some (.str "abcdefghijklmnopqrstuvwxyz" t_LETTERS)))
   (xk_NoName : PySem.W.keepIn K (.ref c_NoName) = true)
   (xs_NoName : PySem.W.subIn K (.ref c_NoName) (.type "BaseException") = some true)
   (xt_NoName : PySem.W.typeIn K (.ref c_NoName) = some (.type "type"))
   {nm_NoName q_NoName : Str} {N_NoName : Addr} {bs_NoName bm_NoName sub_NoName : List Value} {sn_NoName : List Str} {ab_NoName : Bool} {col_NoName : Option Bool} {dd_NoName : Option Addr} {m0_NoName m1_NoName m2_NoName m3_NoName m5_NoName : Option Value} {fI_NoName : Addr}
   (xL_NoName : K.lookup c_NoName = some (excClassObj nm_NoName q_NoName c_NoName N_NoName bs_NoName bm_NoName true sn_NoName sub_NoName ab_NoName col_NoName dd_NoName m0_NoName m1_NoName m2_NoName m3_NoName m5_NoName "ValueError.__new__"))
   (xr_NoName : PySem.HandSPX.refsVE bm_NoName = true)
   (xsa_NoName : PySem.W.findIn K (.ref c_NoName) "__setattr__" = some (some (.builtin "object.__setattr__")))
   (xi_NoName : PySem.W.findIn K (.ref c_NoName) "__init__" = some (some (.ref fI_NoName)))
   (xti_NoName : PySem.W.typeIn K (.ref fI_NoName) = some (.type "function"))
   (xki_NoName : PySem.W.keepIn K (.ref fI_NoName) = true)
   {odI_NoName anI_NoName : Option Addr} {slI_NoName : Array (Option Value)} {ocI_NoName kVI_NoName dcI_NoName pmI_NoName cdI_NoName ctI_NoName : Value}
   (xl_NoName : K.lookup fI_NoName = some ⟨ocI_NoName, odI_NoName, .func (PySem.W.fnOf "__init__" "NoName.__init__" (defArgs s_NoName__init) (defBody s_NoName__init) (defScope s_NoName__init) .none kVI_NoName dcI_NoName pmI_NoName anI_NoName cdI_NoName ctI_NoName), slI_NoName⟩)
   (xc_NoName : PySem.W.codeIn K cdI_NoName "NoName.__init__" = true)
   (xn_NoName_name : PySem.W.findIn K (.ref c_NoName) "name" = some none)
   (xk_Taken : PySem.W.keepIn K (.ref c_Taken) = true)
   (xs_Taken : PySem.W.subIn K (.ref c_Taken) (.type "BaseException") = some true)
   (xt_Taken : PySem.W.typeIn K (.ref c_Taken) = some (.type "type"))
   {nm_Taken q_Taken : Str} {N_Taken : Addr} {bs_Taken bm_Taken sub_Taken : List Value} {sn_Taken : List Str} {ab_Taken : Bool} {col_Taken : Option Bool} {dd_Taken : Option Addr} {m0_Taken m1_Taken m2_Taken m3_Taken m5_Taken : Option Value} {fI_Taken : Addr}
   (xL_Taken : K.lookup c_Taken = some (excClassObj nm_Taken q_Taken c_Taken N_Taken bs_Taken bm_Taken true sn_Taken sub_Taken ab_Taken col_Taken dd_Taken m0_Taken m1_Taken m2_Taken m3_Taken m5_Taken "ValueError.__new__"))
   (xr_Taken : PySem.HandSPX.refsVE bm_Taken = true)
   (xsa_Taken : PySem.W.findIn K (.ref c_Taken) "__setattr__" = some (some (.builtin "object.__setattr__")))
   (xi_Taken : PySem.W.findIn K (.ref c_Taken) "__init__" = some (some (.ref fI_Taken)))
   (xti_Taken : PySem.W.typeIn K (.ref fI_Taken) = some (.type "function"))
   (xki_Taken : PySem.W.keepIn K (.ref fI_Taken) = true)
   {odI_Taken anI_Taken : Option Addr} {slI_Taken : Array (Option Value)} {ocI_Taken kVI_Taken dcI_Taken pmI_Taken cdI_Taken ctI_Taken : Value}
   (xl_Taken : K.lookup fI_Taken = some ⟨ocI_Taken, odI_Taken, .func (PySem.W.fnOf "__init__" "Taken.__init__" (defArgs s_Taken__init) (defBody s_Taken__init) (defScope s_Taken__init) .none kVI_Taken dcI_Taken pmI_Taken anI_Taken cdI_Taken ctI_Taken), slI_Taken⟩)
   (xc_Taken : PySem.W.codeIn K cdI_Taken "Taken.__init__" = true)
   (xn_Taken_name : PySem.W.findIn K (.ref c_Taken) "name" = some none)
   {t_GREATEST : Tok}
   (v_GREATEST : PySem.W.nsIn K mainGlobals "GREATEST" = some (some (.int 1000000000 t_GREATEST)))
   {t_LEGS : Tok}
   (v_LEGS : PySem.W.nsIn K mainGlobals "LEGS" = some (some (.int 4 t_LEGS)))
   (pg_Plan : PySem.W.plainGet K c_Plan Str.empty = true)
   (hd_Plan : PySem.W.hasDictIn K c_Plan = true)
   (po_Plan : PySem.W.plainOver K c_Plan = true)
   (sa_Plan : PySem.W.findIn K (.ref c_Plan) "__setattr__" = some (some (.builtin "object.__setattr__")))
   (yA_Plan_lanes : PySem.W.findIn K (.ref c_Plan) "lanes" = some none)
   (yA_Plan_streams : PySem.W.findIn K (.ref c_Plan) "streams" = some none)
   (xk_NoLane : PySem.W.keepIn K (.ref c_NoLane) = true)
   (xs_NoLane : PySem.W.subIn K (.ref c_NoLane) (.type "BaseException") = some true)
   (xt_NoLane : PySem.W.typeIn K (.ref c_NoLane) = some (.type "type"))
   (xq_NoLane : PySem.W.excIn K c_NoLane [.type "ValueError", .type "Exception", .type "BaseException", .type "object"] "ValueError.__new__" = true)
   (xk_NoWay : PySem.W.keepIn K (.ref c_NoWay) = true)
   (xs_NoWay : PySem.W.subIn K (.ref c_NoWay) (.type "BaseException") = some true)
   (xt_NoWay : PySem.W.typeIn K (.ref c_NoWay) = some (.type "type"))
   {nm_NoWay q_NoWay : Str} {N_NoWay : Addr} {bs_NoWay bm_NoWay sub_NoWay : List Value} {sn_NoWay : List Str} {ab_NoWay : Bool} {col_NoWay : Option Bool} {dd_NoWay : Option Addr} {m0_NoWay m1_NoWay m2_NoWay m3_NoWay m5_NoWay : Option Value} {fI_NoWay : Addr}
   (xL_NoWay : K.lookup c_NoWay = some (excClassObj nm_NoWay q_NoWay c_NoWay N_NoWay bs_NoWay bm_NoWay true sn_NoWay sub_NoWay ab_NoWay col_NoWay dd_NoWay m0_NoWay m1_NoWay m2_NoWay m3_NoWay m5_NoWay "ValueError.__new__"))
   (xr_NoWay : PySem.HandSPX.refsVE bm_NoWay = true)
   (xsa_NoWay : PySem.W.findIn K (.ref c_NoWay) "__setattr__" = some (some (.builtin "object.__setattr__")))
   (xi_NoWay : PySem.W.findIn K (.ref c_NoWay) "__init__" = some (some (.ref fI_NoWay)))
   (xti_NoWay : PySem.W.typeIn K (.ref fI_NoWay) = some (.type "function"))
   (xki_NoWay : PySem.W.keepIn K (.ref fI_NoWay) = true)
   {odI_NoWay anI_NoWay : Option Addr} {slI_NoWay : Array (Option Value)} {ocI_NoWay kVI_NoWay dcI_NoWay pmI_NoWay cdI_NoWay ctI_NoWay : Value}
   (xl_NoWay : K.lookup fI_NoWay = some ⟨ocI_NoWay, odI_NoWay, .func (PySem.W.fnOf "__init__" "NoWay.__init__" (defArgs s_NoWay__init) (defBody s_NoWay__init) (defScope s_NoWay__init) .none kVI_NoWay dcI_NoWay pmI_NoWay anI_NoWay cdI_NoWay ctI_NoWay), slI_NoWay⟩)
   (xc_NoWay : PySem.W.codeIn K cdI_NoWay "NoWay.__init__" = true)
   (xn_NoWay_place : PySem.W.findIn K (.ref c_NoWay) "place" = some none)
   (z_tuple : PySem.W.nsIn K mainGlobals "tuple" = some none)
   (xk_NoText : PySem.W.keepIn K (.ref c_NoText) = true)
   (xs_NoText : PySem.W.subIn K (.ref c_NoText) (.type "BaseException") = some true)
   (xt_NoText : PySem.W.typeIn K (.ref c_NoText) = some (.type "type"))
   {nm_NoText q_NoText : Str} {N_NoText : Addr} {bs_NoText bm_NoText sub_NoText : List Value} {sn_NoText : List Str} {ab_NoText : Bool} {col_NoText : Option Bool} {dd_NoText : Option Addr} {m0_NoText m1_NoText m2_NoText m3_NoText m5_NoText : Option Value} {fI_NoText : Addr}
   (xL_NoText : K.lookup c_NoText = some (excClassObj nm_NoText q_NoText c_NoText N_NoText bs_NoText bm_NoText true sn_NoText sub_NoText ab_NoText col_NoText dd_NoText m0_NoText m1_NoText m2_NoText m3_NoText m5_NoText "ValueError.__new__"))
   (xr_NoText : PySem.HandSPX.refsVE bm_NoText = true)
   (xsa_NoText : PySem.W.findIn K (.ref c_NoText) "__setattr__" = some (some (.builtin "object.__setattr__")))
   (xi_NoText : PySem.W.findIn K (.ref c_NoText) "__init__" = some (some (.ref fI_NoText)))
   (xti_NoText : PySem.W.typeIn K (.ref fI_NoText) = some (.type "function"))
   (xki_NoText : PySem.W.keepIn K (.ref fI_NoText) = true)
   {odI_NoText anI_NoText : Option Addr} {slI_NoText : Array (Option Value)} {ocI_NoText kVI_NoText dcI_NoText pmI_NoText cdI_NoText ctI_NoText : Value}
   (xl_NoText : K.lookup fI_NoText = some ⟨ocI_NoText, odI_NoText, .func (PySem.W.fnOf "__init__" "NoText.__init__" (defArgs s_NoText__init) (defBody s_NoText__init) (defScope s_NoText__init) .none kVI_NoText dcI_NoText pmI_NoText anI_NoText cdI_NoText ctI_NoText), slI_NoText⟩)
   (xc_NoText : PySem.W.codeIn K cdI_NoText "NoText.__init__" = true)
   (xn_NoText_row : PySem.W.findIn K (.ref c_NoText) "row" = some none)
   (mk_Plan : PySem.W.makesIn K c_Plan = true)
   (mkk_Plan : PySem.W.keepIn K (.ref c_Plan) = true)
   (sb_NoName_LaneError : PySem.W.subIn K (.ref c_NoName) (.ref c_LaneError) = some true)
   (sb_LaneError_LaneError : PySem.W.subIn K (.ref c_LaneError) (.ref c_LaneError) = some true)
   (xhd_LaneError : PySem.W.hasDictIn K c_LaneError = true)
   (xt0_LaneError : PySem.W.typeIn K (.ref c_LaneError) = some (.type "type"))
   (xk_LaneError : PySem.W.keepIn K (.ref c_LaneError) = true)
   (xs_LaneError : PySem.W.subIn K (.ref c_LaneError) (.type "BaseException") = some true)
   (xt_LaneError : PySem.W.typeIn K (.ref c_LaneError) = some (.type "type"))
   (sb_NoWay_LaneError : PySem.W.subIn K (.ref c_NoWay) (.ref c_LaneError) = some true)
   (sb_NoLane_LaneError : PySem.W.subIn K (.ref c_NoLane) (.ref c_LaneError) = some true)
   (sb_NoJar_LaneError : PySem.W.subIn K (.ref c_NoJar) (.ref c_LaneError) = some true)
   (sb_NoText_LaneError : PySem.W.subIn K (.ref c_NoText) (.ref c_LaneError) = some true)
   (sb_Taken_LaneError : PySem.W.subIn K (.ref c_Taken) (.ref c_LaneError) = some true)
   (fmo_Jar : PySem.W.mroIn K c_Jar (.type "object") = some true)
   (fmf_Jar : PySem.W.findIn K (.ref c_Jar) "__format__" = some (some (.builtin "object.__format__")))
   (sb_Jar_Jar : PySem.W.subIn K (.ref c_Jar) (.ref c_Jar) = some true)
   (xhd_Jar : PySem.W.hasDictIn K c_Jar = true)
   (xt0_Jar : PySem.W.typeIn K (.ref c_Jar) = some (.type "type"))
   (ob1 : PySem.W.specialIn K (.builtin "object.__class__") "__get__" = some (some (.builtin "getset_descriptor.__get__")))
   (ob2 : PySem.W.takesIn K (.builtin "object.__class__") = some true)
   (iha_Jar : PySem.W.findIn K (.ref c_Jar) "__class__" = some (some (.builtin "object.__class__")))
   (ihm_Jar : PySem.W.mroIn K c_Jar (.type "object") = some true)
   (sb_Plan_Jar : PySem.W.subIn K (.ref c_Plan) (.ref c_Jar) = some false)
   (iha_Plan : PySem.W.findIn K (.ref c_Plan) "__class__" = some (some (.builtin "object.__class__")))
   (ihm_Plan : PySem.W.mroIn K c_Plan (.type "object") = some true)
   (sb_tuple_Jar : PySem.W.subIn K (.type "tuple") (.ref c_Jar) = some false)
   (sb_str_Jar : PySem.W.subIn K (.type "str") (.ref c_Jar) = some false)
   (sb_NoneType_Jar : PySem.W.subIn K (.type "NoneType") (.ref c_Jar) = some false)
   (sb_int_Jar : PySem.W.subIn K (.type "int") (.ref c_Jar) = some false)
   (sb_list_Jar : PySem.W.subIn K (.type "list") (.ref c_Jar) = some false)
   (z_isinstance : PySem.W.nsIn K mainGlobals "isinstance" = some none)
   (sb_Jar_Plan : PySem.W.subIn K (.ref c_Jar) (.ref c_Plan) = some false)
   (sb_Plan_Plan : PySem.W.subIn K (.ref c_Plan) (.ref c_Plan) = some true)
   (xhd_Plan : PySem.W.hasDictIn K c_Plan = true)
   (xt0_Plan : PySem.W.typeIn K (.ref c_Plan) = some (.type "type"))
   (sb_tuple_Plan : PySem.W.subIn K (.type "tuple") (.ref c_Plan) = some false)
   (sb_str_Plan : PySem.W.subIn K (.type "str") (.ref c_Plan) = some false)
   (sb_NoneType_Plan : PySem.W.subIn K (.type "NoneType") (.ref c_Plan) = some false)
   (sb_int_Plan : PySem.W.subIn K (.type "int") (.ref c_Plan) = some false)
   (sb_list_Plan : PySem.W.subIn K (.type "list") (.ref c_Plan) = some false)
   (qhm_Jar : PySem.W.mroIn K c_Jar (.type "object") = some true)
   (qne_Jar : PySem.W.findIn K (.ref c_Jar) "__ne__" = some (some (.builtin "object.__ne__")))
   (z_max : PySem.W.nsIn K mainGlobals "max" = some none)
   (qhm_Plan : PySem.W.mroIn K c_Plan (.type "object") = some true)
   (qne_Plan : PySem.W.findIn K (.ref c_Plan) "__ne__" = some (some (.builtin "object.__ne__")))
   : ∃ fd : FuncData, (∀ (s : Shared) (v : Value), BindsTo s fd ⟨[v], []⟩ [("_law_script", v)]) ∧ ∀ base : Heap, K.In base → base.Ns mainGlobals mg → FnOk l.prog w K mg base (L2.CX l.prog w) 8 fa fd ["_law_script"] (liftE (pLawE K)) := by
 have e := hfa.symm.trans (PySem.W.mg_of X G a40)
 cases e
 have G_len : mg "len" = none := PySem.W.mg_none_of X G z_len
 have G_range : mg "range" = none := PySem.W.mg_none_of X G z_range
 have G_sorted : mg "sorted" = none := PySem.W.mg_none_of X G z_sorted
 have G_list : mg "list" = none := PySem.W.mg_none_of X G z_list
 have G_min : mg "min" = none := PySem.W.mg_none_of X G z_min
 have G_enumerate : mg "enumerate" = none := PySem.W.mg_none_of X G z_enumerate
 have G_str : mg "str" = none := PySem.W.mg_none_of X G z_str
 have G_all : mg "all" = none := PySem.W.mg_none_of X G z_all
 have G_int : mg "int" = none := PySem.W.mg_none_of X G z_int
 have C_FIGURES : ∃ t, mg "FIGURES" = some (.str "0123456789" t) := ⟨_, PySem.W.mg_of X G v_FIGURES⟩
 have G_zip : mg "zip" = none := PySem.W.mg_none_of X G z_zip
 have C_MOST : ∃ t, mg "MOST" = some (.int 1000000000 t) := ⟨_, PySem.W.mg_of X G v_MOST⟩
 have X_NoJar : Ex0 K mg "NoJar" c_NoJar := ⟨PySem.W.mg_of X G ac_NoJar, xq_NoJar, xk_NoJar, xs_NoJar, xt_NoJar⟩
 have CL_Jar : Cls K c_Jar := ⟨pg_Jar, hd_Jar, po_Jar, sa_Jar⟩
 have A_Jar_size : FldP K c_Jar "size" := ⟨CL_Jar, yA_Jar_size⟩
 have A_Jar_rate : FldP K c_Jar "rate" := ⟨CL_Jar, yA_Jar_rate⟩
 have A_Jar_mouth : FldP K c_Jar "mouth" := ⟨CL_Jar, yA_Jar_mouth⟩
 have QF_number_of : MgP mg "number_of" f21 := ⟨PySem.W.mg_of X G a21⟩
 have Q_NoJar : MgP mg "NoJar" c_NoJar := ⟨PySem.W.mg_of X G ac_NoJar⟩
 have XM_NoName_NoJar : ExmP K (.ref c_NoName) (.ref c_NoJar) false := ⟨exm_mk xs_NoJar xhd_NoJar xt_NoJar sb_NoName_NoJar⟩
 have XM_NoWay_NoJar : ExmP K (.ref c_NoWay) (.ref c_NoJar) false := ⟨exm_mk xs_NoJar xhd_NoJar xt_NoJar sb_NoWay_NoJar⟩
 have XM_NoLane_NoJar : ExmP K (.ref c_NoLane) (.ref c_NoJar) false := ⟨exm_mk xs_NoJar xhd_NoJar xt_NoJar sb_NoLane_NoJar⟩
 have XM_NoJar_NoJar : ExmP K (.ref c_NoJar) (.ref c_NoJar) true := ⟨exm_mk xs_NoJar xhd_NoJar xt_NoJar sb_NoJar_NoJar⟩
 have XM_NoText_NoJar : ExmP K (.ref c_NoText) (.ref c_NoJar) false := ⟨exm_mk xs_NoJar xhd_NoJar xt_NoJar sb_NoText_NoJar⟩
 have XM_Taken_NoJar : ExmP K (.ref c_Taken) (.ref c_NoJar) false := ⟨exm_mk xs_NoJar xhd_NoJar xt_NoJar sb_Taken_NoJar⟩
 have C_LETTERS : ∃ t, mg "LETTERS" = some (.str "abcdefghijklmnopqrstuvwxyz" t) := ⟨_, PySem.W.mg_of X G v_LETTERS⟩
 have T_NoName : OexC K c_NoName := ⟨⟨_, _, _, _, _, _, _, _, _, _, _, _, _, _, _, xL_NoName, xr_NoName⟩, xsa_NoName, xs_NoName, xt_NoName, xk_NoName⟩
 have FI_NoName := fun_mk (st := s_NoName__init) xl_NoName xc_NoName xki_NoName
 have T_Taken : OexC K c_Taken := ⟨⟨_, _, _, _, _, _, _, _, _, _, _, _, _, _, _, xL_Taken, xr_Taken⟩, xsa_Taken, xs_Taken, xt_Taken, xk_Taken⟩
 have FI_Taken := fun_mk (st := s_Taken__init) xl_Taken xc_Taken xki_Taken
 have C_GREATEST : ∃ t, mg "GREATEST" = some (.int 1000000000 t) := ⟨_, PySem.W.mg_of X G v_GREATEST⟩
 have C_LEGS : ∃ t, mg "LEGS" = some (.int 4 t) := ⟨_, PySem.W.mg_of X G v_LEGS⟩
 have CL_Plan : Cls K c_Plan := ⟨pg_Plan, hd_Plan, po_Plan, sa_Plan⟩
 have A_Plan_lanes : FldP K c_Plan "lanes" := ⟨CL_Plan, yA_Plan_lanes⟩
 have A_Plan_streams : FldP K c_Plan "streams" := ⟨CL_Plan, yA_Plan_streams⟩
 have X_NoLane : Ex0 K mg "NoLane" c_NoLane := ⟨PySem.W.mg_of X G ac_NoLane, xq_NoLane, xk_NoLane, xs_NoLane, xt_NoLane⟩
 have T_NoWay : OexC K c_NoWay := ⟨⟨_, _, _, _, _, _, _, _, _, _, _, _, _, _, _, xL_NoWay, xr_NoWay⟩, xsa_NoWay, xs_NoWay, xt_NoWay, xk_NoWay⟩
 have FI_NoWay := fun_mk (st := s_NoWay__init) xl_NoWay xc_NoWay xki_NoWay
 have G_tuple : mg "tuple" = none := PySem.W.mg_none_of X G z_tuple
 have T_NoText : OexC K c_NoText := ⟨⟨_, _, _, _, _, _, _, _, _, _, _, _, _, _, _, xL_NoText, xr_NoText⟩, xsa_NoText, xs_NoText, xt_NoText, xk_NoText⟩
 have FI_NoText := fun_mk (st := s_NoText__init) xl_NoText xc_NoText xki_NoText
 have Q_LaneError : MgP mg "LaneError" c_LaneError := ⟨PySem.W.mg_of X G ac_LaneError⟩
 have XM_NoName_LaneError : ExmP K (.ref c_NoName) (.ref c_LaneError) true := ⟨exm_mk xs_LaneError xhd_LaneError xt_LaneError sb_NoName_LaneError⟩
 have XM_NoWay_LaneError : ExmP K (.ref c_NoWay) (.ref c_LaneError) true := ⟨exm_mk xs_LaneError xhd_LaneError xt_LaneError sb_NoWay_LaneError⟩
 have XM_NoLane_LaneError : ExmP K (.ref c_NoLane) (.ref c_LaneError) true := ⟨exm_mk xs_LaneError xhd_LaneError xt_LaneError sb_NoLane_LaneError⟩
 have XM_NoJar_LaneError : ExmP K (.ref c_NoJar) (.ref c_LaneError) true := ⟨exm_mk xs_LaneError xhd_LaneError xt_LaneError sb_NoJar_LaneError⟩
 have XM_NoText_LaneError : ExmP K (.ref c_NoText) (.ref c_LaneError) true := ⟨exm_mk xs_LaneError xhd_LaneError xt_LaneError sb_NoText_LaneError⟩
 have XM_Taken_LaneError : ExmP K (.ref c_Taken) (.ref c_LaneError) true := ⟨exm_mk xs_LaneError xhd_LaneError xt_LaneError sb_Taken_LaneError⟩
 have FC_Jar : FmtC K c_Jar := ⟨fmf_Jar, fmo_Jar⟩
 have KT_Jar_Jar : KitP K (.ref c_Jar) (.ref c_Jar) true := ⟨kit_same⟩
 have IP_Jar : InsP K c_Jar := ⟨CL_Jar, iha_Jar, ob1, ob2, ihm_Jar⟩
 have KT_Plan_Jar : KitP K (.ref c_Plan) (.ref c_Jar) false := ⟨kit_ref xhd_Jar xt0_Jar sb_Plan_Jar sb_Jar_Jar⟩
 have IP_Plan : InsP K c_Plan := ⟨CL_Plan, iha_Plan, ob1, ob2, ihm_Plan⟩
 have KT_tuple_Jar : KitP K (.type "tuple") (.ref c_Jar) false := ⟨kit_ref xhd_Jar xt0_Jar sb_tuple_Jar sb_Jar_Jar⟩
 have KT_str_Jar : KitP K (.type "str") (.ref c_Jar) false := ⟨kit_ref xhd_Jar xt0_Jar sb_str_Jar sb_Jar_Jar⟩
 have KT_NoneType_Jar : KitP K (.type "NoneType") (.ref c_Jar) false := ⟨kit_ref xhd_Jar xt0_Jar sb_NoneType_Jar sb_Jar_Jar⟩
 have KT_int_Jar : KitP K (.type "int") (.ref c_Jar) false := ⟨kit_ref xhd_Jar xt0_Jar sb_int_Jar sb_Jar_Jar⟩
 have KT_list_Jar : KitP K (.type "list") (.ref c_Jar) false := ⟨kit_ref xhd_Jar xt0_Jar sb_list_Jar sb_Jar_Jar⟩
 have G_isinstance : mg "isinstance" = none := PySem.W.mg_none_of X G z_isinstance
 have Q_Jar : MgP mg "Jar" c_Jar := ⟨PySem.W.mg_of X G ac_Jar⟩
 have KT_Jar_Plan : KitP K (.ref c_Jar) (.ref c_Plan) false := ⟨kit_ref xhd_Plan xt0_Plan sb_Jar_Plan sb_Plan_Plan⟩
 have KT_Plan_Plan : KitP K (.ref c_Plan) (.ref c_Plan) true := ⟨kit_same⟩
 have KT_tuple_Plan : KitP K (.type "tuple") (.ref c_Plan) false := ⟨kit_ref xhd_Plan xt0_Plan sb_tuple_Plan sb_Plan_Plan⟩
 have KT_str_Plan : KitP K (.type "str") (.ref c_Plan) false := ⟨kit_ref xhd_Plan xt0_Plan sb_str_Plan sb_Plan_Plan⟩
 have KT_NoneType_Plan : KitP K (.type "NoneType") (.ref c_Plan) false := ⟨kit_ref xhd_Plan xt0_Plan sb_NoneType_Plan sb_Plan_Plan⟩
 have KT_int_Plan : KitP K (.type "int") (.ref c_Plan) false := ⟨kit_ref xhd_Plan xt0_Plan sb_int_Plan sb_Plan_Plan⟩
 have KT_list_Plan : KitP K (.type "list") (.ref c_Plan) false := ⟨kit_ref xhd_Plan xt0_Plan sb_list_Plan sb_Plan_Plan⟩
 have Q_Plan : MgP mg "Plan" c_Plan := ⟨PySem.W.mg_of X G ac_Plan⟩
 have EQ_Jar : EqC K c_Jar := ⟨qne_Jar, qhm_Jar⟩
 have G_max : mg "max" = none := PySem.W.mg_none_of X G z_max
 have EQ_Plan : EqC K c_Plan := ⟨qne_Plan, qhm_Plan⟩
 have F1 := fun_mk (st := s_law_begun) l1 c1 k1
 have b1 := F1.binds (ps := ["_law_script"]) fun _ _ _ _ _ _ us hl => match us, hl with | [_], _ => rfl
 have F2 := fun_mk (st := s_law_take) l2 c2 k2
 have b2 := F2.binds (ps := ["_law_state", "_law_many"]) fun _ _ _ _ _ _ us hl => match us, hl with | [_, _], _ => rfl
 have F3 := fun_mk (st := s_law_name) l3 c3 k3
 have b3 := F3.binds (ps := ["_law_state", "_law_met"]) fun _ _ _ _ _ _ us hl => match us, hl with | [_, _], _ => rfl
 have F4 := fun_mk (st := s_law_wait) l4 c4 k4
 have b4 := F4.binds (ps := ["_law_state"]) fun _ _ _ _ _ _ us hl => match us, hl with | [_], _ => rfl
 have F5 := fun_mk (st := s_law_jar) l5 c5 k5
 have b5 := F5.binds (ps := ["_law_state"]) fun _ _ _ _ _ _ us hl => match us, hl with | [_], _ => rfl
 have F6 := fun_mk (st := s_law_way) l6 c6 k6
 have b6 := F6.binds (ps := ["_law_state", "_law_lanes"]) fun _ _ _ _ _ _ us hl => match us, hl with | [_, _], _ => rfl
 have F7 := fun_mk (st := s_law_plan) l7 c7 k7
 have b7 := F7.binds (ps := ["_law_state"]) fun _ _ _ _ _ _ us hl => match us, hl with | [_], _ => rfl
 have F8 := fun_mk (st := s_law_loose) l8 c8 k8
 have b8 := F8.binds (ps := ["_law_state", "_law_rows_here", "_law_lanes"]) fun _ _ _ _ _ _ us hl => match us, hl with | [_, _, _], _ => rfl
 have F9 := fun_mk (st := s_law_rows) l9 c9 k9
 have b9 := F9.binds (ps := ["_law_lanes", "_law_streams"]) fun _ _ _ _ _ _ us hl => match us, hl with | [_, _], _ => rfl
 have F10 := fun_mk (st := s_law_sign) l10 c10 k10
 have b10 := F10.binds (ps := ["_law_state"]) fun _ _ _ _ _ _ us hl => match us, hl with | [_], _ => rfl
 have F11 := fun_mk (st := s_law_cut) l11 c11 k11
 have b11 := F11.binds (ps := ["_law_state", "_law_text"]) fun _ _ _ _ _ _ us hl => match us, hl with | [_, _], _ => rfl
 have F12 := fun_mk (st := s_law_spoilt) l12 c12 k12
 have b12 := F12.binds (ps := ["_law_state", "_law_kind", "_law_text"]) fun _ _ _ _ _ _ us hl => match us, hl with | [_, _, _], _ => rfl
 have F13 := fun_mk (st := s_law_words) l13 c13 k13
 have b13 := F13.binds (ps := ["_law_row"]) fun _ _ _ _ _ _ us hl => match us, hl with | [_], _ => rfl
 have F14 := fun_mk (st := s_law_number) l14 c14 k14
 have b14 := F14.binds (ps := ["_law_word"]) fun _ _ _ _ _ _ us hl => match us, hl with | [_], _ => rfl
 have F15 := fun_mk (st := s_law_item) l15 c15 k15
 have b15 := F15.binds (ps := ["_law_words_here"]) fun _ _ _ _ _ _ us hl => match us, hl with | [_], _ => rfl
 have F16 := fun_mk (st := s_law_is_name) l16 c16 k16
 have b16 := F16.binds (ps := ["_law_text"]) fun _ _ _ _ _ _ us hl => match us, hl with | [_], _ => rfl
 have F17 := fun_mk (st := s_law_wrong) l17 c17 k17
 have b17 := F17.binds (ps := ["_law_way_here", "_law_lanes"]) fun _ _ _ _ _ _ us hl => match us, hl with | [_, _], _ => rfl
 have F18 := fun_mk (st := s_law_due) l18 c18 k18
 have b18 := F18.binds (ps := ["_law_lanes", "_law_streams"]) fun _ _ _ _ _ _ us hl => match us, hl with | [_, _], _ => rfl
 have F19 := fun_mk (st := s_law_read) l19 c19 k19
 have b19 := F19.binds (ps := ["_law_text"]) fun _ _ _ _ _ _ us hl => match us, hl with | [_], _ => rfl
 have F20 := fung_mk (st := s_words_of) l20 c20
 have F21 := fung_mk (st := s_number_of) l21 c21
 have F22 := fung_mk (st := s_lane_of) l22 c22
 have F23 := fung_mk (st := s_numbers_of) l23 c23
 have F24 := fung_mk (st := s_pairs_of) l24 c24
 have F25 := fung_mk (st := s_Jar__init) l25 c25
 have F26 := fung_mk (st := s_stream_of) l26 c26
 have F27 := fun_mk (st := s_is_name) l27 c27 k27
 have b27 := F27.binds (ps := ["text"]) fun _ _ _ _ _ _ us hl => match us, hl with | [_], _ => rfl
 have F28 := fung_mk (st := s_look_at_name) l28 c28
 have F29 := fun_mk (st := s_is_size) l29 c29 k29
 have b29 := F29.binds (ps := ["number"]) fun _ _ _ _ _ _ us hl => match us, hl with | [_], _ => rfl
 have F30 := fun_mk (st := s_wrong_at) l30 c30 k30
 have b30 := F30.binds (ps := ["way", "lanes"]) fun _ _ _ _ _ _ us hl => match us, hl with | [_, _], _ => rfl
 have F31 := fung_mk (st := s_Plan__init) l31 c31
 have F32 := fung_mk (st := s_plan_of) l32 c32
 have F33 := fung_mk (st := s_law_plan_by) l33 c33
 have F34 := fung_mk (st := s_Jar__str) l34 c34
 have F35 := fung_mk (st := s_stream_row) l35 c35
 have F36 := fung_mk (st := s_written) l36 c36
 have F37 := fung_mk (st := s_Jar_told) l37 c37
 have F38 := fung_mk (st := s_Jar__eq) l38 c38
 have F39 := fung_mk (st := s_Plan__eq) l39 c39
 have F40 := fung_mk (st := s_law) l40 c40
 refine ⟨PySem.W.fnOf "law" "law" (defArgs s_law) (defBody s_law) (defScope s_law) .none kV40 dc40 pm40 an40 cd40 ct40, fun s v => .of_eq rfl, fun base _ _ => ?_⟩
 have X_NoName : ExI l.prog w K mg base "NoName" c_NoName ["name"] := ⟨PySem.W.mg_of X G ac_NoName, T_NoName, ⟨fI_NoName, _, ["self", "name"], xi_NoName, xti_NoName, FI_NoName.binds (ps := ["self", "name"]) fun _ _ _ _ _ _ us hl => (match us, hl with | [_, _], _ => rfl), x_NoName__init FI_NoName T_NoName xn_NoName_name⟩⟩
 have X_Taken : ExI l.prog w K mg base "Taken" c_Taken ["name"] := ⟨PySem.W.mg_of X G ac_Taken, T_Taken, ⟨fI_Taken, _, ["self", "name"], xi_Taken, xti_Taken, FI_Taken.binds (ps := ["self", "name"]) fun _ _ _ _ _ _ us hl => (match us, hl with | [_, _], _ => rfl), x_Taken__init FI_Taken T_Taken xn_Taken_name⟩⟩
 have X_NoWay : ExI l.prog w K mg base "NoWay" c_NoWay ["place"] := ⟨PySem.W.mg_of X G ac_NoWay, T_NoWay, ⟨fI_NoWay, _, ["self", "place"], xi_NoWay, xti_NoWay, FI_NoWay.binds (ps := ["self", "place"]) fun _ _ _ _ _ _ us hl => (match us, hl with | [_, _], _ => rfl), x_NoWay__init FI_NoWay T_NoWay xn_NoWay_place⟩⟩
 have X_NoText : ExI l.prog w K mg base "NoText" c_NoText ["row"] := ⟨PySem.W.mg_of X G ac_NoText, T_NoText, ⟨fI_NoText, _, ["self", "row"], xi_NoText, xti_NoText, FI_NoText.binds (ps := ["self", "row"]) fun _ _ _ _ _ _ us hl => (match us, hl with | [_, _], _ => rfl), x_NoText__init FI_NoText T_NoText xn_NoText_row⟩⟩
 have O_law_begun : FnOk l.prog w K mg base CX0 1 f1 _ ["_law_script"] (lift (pBegun K)) := d_law_begun F1
 have O_law_take : FnOk l.prog w K mg base CX0 1 f2 _ ["_law_state", "_law_many"] (lift pTake) := d_law_take F2 G_len
 have D_law_take : Def l.prog w K mg base 1 "_law_take" ["_law_state", "_law_many"] pTake := ⟨_, _, PySem.W.mg_of X G a2, k2, b2, O_law_take⟩
 have O_law_name : FnOk l.prog w K mg base CX0 2 f3 _ ["_law_state", "_law_met"] (lift pNameG) := d_law_name F3 D_law_take G_len G_range
 have O_law_wait : FnOk l.prog w K mg base CX0 2 f4 _ ["_law_state"] (lift pWaitG) := d_law_wait F4 D_law_take
 have O_law_jar : FnOk l.prog w K mg base CX0 2 f5 _ ["_law_state"] (lift pJarD) := d_law_jar F5 D_law_take G_sorted
 have D_law_wait : Def l.prog w K mg base 2 "_law_wait" ["_law_state"] pWaitG := ⟨_, _, PySem.W.mg_of X G a4, k4, b4, O_law_wait⟩
 have O_law_way : FnOk l.prog w K mg base CX0 3 f6 _ ["_law_state", "_law_lanes"] (lift pWayG) := d_law_way F6 G_list G_range D_law_take G_min G_len D_law_wait
 have D_law_name : Def l.prog w K mg base 2 "_law_name" ["_law_state", "_law_met"] pNameG := ⟨_, _, PySem.W.mg_of X G a3, k3, b3, O_law_name⟩
 have D_law_jar : Def l.prog w K mg base 2 "_law_jar" ["_law_state"] pJarD := ⟨_, _, PySem.W.mg_of X G a5, k5, b5, O_law_jar⟩
 have D_law_way : Def l.prog w K mg base 3 "_law_way" ["_law_state", "_law_lanes"] pWayG := ⟨_, _, PySem.W.mg_of X G a6, k6, b6, O_law_way⟩
 have O_law_plan : FnOk l.prog w K mg base CX0 4 f7 _ ["_law_state"] (lift pPlanG) := d_law_plan F7 G_range D_law_take D_law_name D_law_wait G_min G_len D_law_jar D_law_way
 have O_law_loose : FnOk l.prog w K mg base CX0 2 f8 _ ["_law_state", "_law_rows_here", "_law_lanes"] (lift pLoose) := d_law_loose F8 G_len D_law_take G_enumerate G_min
 have O_law_rows : FnOk l.prog w K mg base CX0 1 f9 _ ["_law_lanes", "_law_streams"] (lift pRows) := d_law_rows F9 G_str
 have O_law_sign : FnOk l.prog w K mg base CX0 2 f10 _ ["_law_state"] (lift pSign) := d_law_sign F10 D_law_take G_len
 have O_law_cut : FnOk l.prog w K mg base CX0 2 f11 _ ["_law_state", "_law_text"] (lift pCut) := d_law_cut F11 D_law_take G_len
 have D_law_sign : Def l.prog w K mg base 2 "_law_sign" ["_law_state"] pSign := ⟨_, _, PySem.W.mg_of X G a10, k10, b10, O_law_sign⟩
 have D_law_cut : Def l.prog w K mg base 2 "_law_cut" ["_law_state", "_law_text"] pCut := ⟨_, _, PySem.W.mg_of X G a11, k11, b11, O_law_cut⟩
 have O_law_spoilt : FnOk l.prog w K mg base CX0 3 f12 _ ["_law_state", "_law_kind", "_law_text"] (lift pSpoil) := d_law_spoilt F12 D_law_take G_len D_law_sign D_law_cut G_str G_min
 have O_law_words : FnOk l.prog w K mg base CX0 1 f13 _ ["_law_row"] (lift pLawWords) := d_law_words F13
 have O_law_number : FnOk l.prog w K mg base CX0 1 f14 _ ["_law_word"] (lift pLawNum) := d_law_number F14 G_len G_all G_int
 have D_law_number : Def l.prog w K mg base 1 "_law_number" ["_law_word"] pLawNum := ⟨_, _, PySem.W.mg_of X G a14, k14, b14, O_law_number⟩
 have O_law_item : FnOk l.prog w K mg base CX0 2 f15 _ ["_law_words_here"] (lift pLawItem) := d_law_item F15 G_len D_law_number G_range
 have O_law_is_name : FnOk l.prog w K mg base CX0 1 f16 _ ["_law_text"] (lift pLawName) := d_law_is_name F16 G_len G_all
 have O_law_wrong : FnOk l.prog w K mg base CX0 1 f17 _ ["_law_way_here", "_law_lanes"] (lift pLawWrong) := d_law_wrong F17 G_enumerate G_len
 have D_law_is_name : Def l.prog w K mg base 1 "_law_is_name" ["_law_text"] pLawName := ⟨_, _, PySem.W.mg_of X G a16, k16, b16, O_law_is_name⟩
 have D_law_wrong : Def l.prog w K mg base 1 "_law_wrong" ["_law_way_here", "_law_lanes"] pLawWrong := ⟨_, _, PySem.W.mg_of X G a17, k17, b17, O_law_wrong⟩
 have O_law_due : FnOk l.prog w K mg base CX0 2 f18 _ ["_law_lanes", "_law_streams"] (lift pLawDue) := d_law_due F18 D_law_is_name D_law_wrong
 have D_law_words : Def l.prog w K mg base 1 "_law_words" ["_law_row"] pLawWords := ⟨_, _, PySem.W.mg_of X G a13, k13, b13, O_law_words⟩
 have D_law_item : Def l.prog w K mg base 2 "_law_item" ["_law_words_here"] pLawItem := ⟨_, _, PySem.W.mg_of X G a15, k15, b15, O_law_item⟩
 have D_law_due : Def l.prog w K mg base 2 "_law_due" ["_law_lanes", "_law_streams"] pLawDue := ⟨_, _, PySem.W.mg_of X G a18, k18, b18, O_law_due⟩
 have O_law_read : FnOk l.prog w K mg base CX0 3 f19 _ ["_law_text"] (lift pLawRead) := d_law_read F19 G_enumerate D_law_words D_law_item G_len D_law_due
 have O_words_of : FnOk l.prog w K mg base (L2.CX l.prog w) 1 f20 _ ["row"] (liftE pWordsOf) := d_words_of F20
 have O_number_of : FnOk l.prog w K mg base (L2.CX l.prog w) 1 f21 _ ["word"] (liftE pNumber) := d_number_of F21 G_len C_FIGURES G_int
 have E_number_of_1 : DefE l.prog w K mg base 1 "number_of" 1 [] (selN 1) pNumber := ⟨⟨f21, PySem.W.mg_of X G a21, k21, ⟨⟨_, ["word"], ⟨fun s us ws hK h1 h2 => match us, ws, h1, h2 with | [u0], [], _, _ => ⟨[u0], (.at rfl .nil), .of_eq rfl⟩⟩, O_number_of⟩⟩⟩⟩
 have O_lane_of : FnOk l.prog w K mg base (L2.CX l.prog w) 2 f22 _ ["words"] (liftE pLaneOf) := d_lane_of F22 G_len E_number_of_1
 have FV_number_of_1 : FunV l.prog w K mg base 1 f21 1 [] (selN 1) pNumber := ⟨k21, ⟨⟨_, ["word"], ⟨fun s us ws hK h1 h2 => match us, ws, h1, h2 with | [u0], [], _, _ => ⟨[u0], (.at rfl .nil), .of_eq rfl⟩⟩, O_number_of⟩⟩⟩
 have O_numbers_of : FnOk l.prog w K mg base (L2.CX l.prog w) 2 f23 _ ["words", "reader"] (liftE (pNumbers f21)) := d_numbers_of F23 FV_number_of_1
 have E_numbers_of_2 : DefE l.prog w K mg base 2 "numbers_of" 2 [] (selN 2) (pNumbers f21) := ⟨⟨f23, PySem.W.mg_of X G a23, k23, ⟨⟨_, ["words", "reader"], ⟨fun s us ws hK h1 h2 => match us, ws, h1, h2 with | [u0, u1], [], _, _ => ⟨[u0, u1], (.at rfl (.at rfl .nil)), .of_eq rfl⟩⟩, O_numbers_of⟩⟩⟩⟩
 have O_pairs_of : FnOk l.prog w K mg base (L2.CX l.prog w) 3 f24 _ ["words", "reader"] (liftE (pPairs f21)) := d_pairs_of F24 G_len E_numbers_of_2 G_list G_zip
 have O_Jar__init : FnOk l.prog w K mg base (L2.CX l.prog w) 1 f25 _ ["self", "size", "rate", "mouth"] (liftE (pJarI c_Jar c_NoJar)) := d_Jar__init F25 C_MOST X_NoJar A_Jar_size A_Jar_rate A_Jar_mouth
 have E_pairs_of_2 : DefE l.prog w K mg base 3 "pairs_of" 2 [] (selN 2) (pPairs f21) := ⟨⟨f24, PySem.W.mg_of X G a24, k24, ⟨⟨_, ["words", "reader"], ⟨fun s us ws hK h1 h2 => match us, ws, h1, h2 with | [u0, u1], [], _, _ => ⟨[u0, u1], (.at rfl (.at rfl .nil)), .of_eq rfl⟩⟩, O_pairs_of⟩⟩⟩⟩
 have N_Jar_3 : MakeE l.prog w K mg base 1 "Jar" c_Jar 3 [] (selN 4) (pJarI c_Jar c_NoJar) := ⟨⟨f25, PySem.W.mg_of X G ac_Jar, ⟨mk_Jar, a25, n25, mkk_Jar⟩, ⟨⟨_, ["self", "size", "rate", "mouth"], ⟨fun s us ws hK h1 h2 => match us, ws, h1, h2 with | [u0, u1, u2, u3], [], _, _ => ⟨[u0, u1, u2, u3], (.at rfl (.at rfl (.at rfl (.at rfl .nil)))), .of_eq rfl⟩⟩, O_Jar__init⟩⟩⟩⟩
 have O_stream_of : FnOk l.prog w K mg base (L2.CX l.prog w) 4 f26 _ ["words"] (liftE (pStreamOf c_Jar)) := d_stream_of F26 E_numbers_of_2 QF_number_of E_pairs_of_2 G_len N_Jar_3 Q_NoJar XM_NoName_NoJar XM_NoWay_NoJar XM_NoLane_NoJar XM_NoJar_NoJar XM_NoText_NoJar XM_Taken_NoJar
 have O_is_name : FnOk l.prog w K mg base CX0 1 f27 _ ["text"] (lift pIsName) := d_is_name F27 G_len C_LETTERS
 have D_is_name : Def l.prog w K mg base 1 "is_name" ["text"] pIsName := ⟨_, _, PySem.W.mg_of X G a27, k27, b27, O_is_name⟩
 have O_look_at_name : FnOk l.prog w K mg base (L2.CX l.prog w) 3 f28 _ ["name", "met"] (liftE (pLook ⟨c_NoName, c_Taken, c_NoLane, c_NoWay⟩)) := d_look_at_name F28 D_is_name X_NoName X_Taken
 have O_is_size : FnOk l.prog w K mg base CX0 1 f29 _ ["number"] (lift pIsSize) := d_is_size F29 C_GREATEST
 have D_is_size : Def l.prog w K mg base 1 "is_size" ["number"] pIsSize := ⟨_, _, PySem.W.mg_of X G a29, k29, b29, O_is_size⟩
 have O_wrong_at : FnOk l.prog w K mg base CX0 2 f30 _ ["way", "lanes"] (lift pWrongAt) := d_wrong_at F30 G_len G_enumerate C_LEGS D_is_size
 have E_look_at_name_2 : DefE l.prog w K mg base 3 "look_at_name" 2 [] (selN 2) (pLook ⟨c_NoName, c_Taken, c_NoLane, c_NoWay⟩) := ⟨⟨f28, PySem.W.mg_of X G a28, k28, ⟨⟨_, ["name", "met"], ⟨fun s us ws hK h1 h2 => match us, ws, h1, h2 with | [u0, u1], [], _, _ => ⟨[u0, u1], (.at rfl (.at rfl .nil)), .of_eq rfl⟩⟩, O_look_at_name⟩⟩⟩⟩
 have D_wrong_at : Def l.prog w K mg base 2 "wrong_at" ["way", "lanes"] pWrongAt := ⟨_, _, PySem.W.mg_of X G a30, k30, b30, O_wrong_at⟩
 have O_Plan__init : FnOk l.prog w K mg base (L2.CX l.prog w) 4 f31 _ ["self", "lanes", "streams"] (liftE (pPlanI c_Plan c_Jar ⟨c_NoName, c_Taken, c_NoLane, c_NoWay⟩)) := d_Plan__init F31 A_Plan_lanes A_Plan_streams E_look_at_name_2 D_is_size X_NoLane D_wrong_at X_NoWay G_tuple
 have E_words_of_1 : DefE l.prog w K mg base 1 "words_of" 1 [] (selN 1) pWordsOf := ⟨⟨f20, PySem.W.mg_of X G a20, k20, ⟨⟨_, ["row"], ⟨fun s us ws hK h1 h2 => match us, ws, h1, h2 with | [u0], [], _, _ => ⟨[u0], (.at rfl .nil), .of_eq rfl⟩⟩, O_words_of⟩⟩⟩⟩
 have E_lane_of_1 : DefE l.prog w K mg base 2 "lane_of" 1 [] (selN 1) pLaneOf := ⟨⟨f22, PySem.W.mg_of X G a22, k22, ⟨⟨_, ["words"], ⟨fun s us ws hK h1 h2 => match us, ws, h1, h2 with | [u0], [], _, _ => ⟨[u0], (.at rfl .nil), .of_eq rfl⟩⟩, O_lane_of⟩⟩⟩⟩
 have E_stream_of_1 : DefE l.prog w K mg base 4 "stream_of" 1 [] (selN 1) (pStreamOf c_Jar) := ⟨⟨f26, PySem.W.mg_of X G a26, k26, ⟨⟨_, ["words"], ⟨fun s us ws hK h1 h2 => match us, ws, h1, h2 with | [u0], [], _, _ => ⟨[u0], (.at rfl .nil), .of_eq rfl⟩⟩, O_stream_of⟩⟩⟩⟩
 have N_Plan_2 : MakeE l.prog w K mg base 4 "Plan" c_Plan 2 [] (selN 3) (pPlanI c_Plan c_Jar ⟨c_NoName, c_Taken, c_NoLane, c_NoWay⟩) := ⟨⟨f31, PySem.W.mg_of X G ac_Plan, ⟨mk_Plan, a31, n31, mkk_Plan⟩, ⟨⟨_, ["self", "lanes", "streams"], ⟨fun s us ws hK h1 h2 => match us, ws, h1, h2 with | [u0, u1, u2], [], _, _ => ⟨[u0, u1, u2], (.at rfl (.at rfl (.at rfl .nil))), .of_eq rfl⟩⟩, O_Plan__init⟩⟩⟩⟩
 have O_plan_of : FnOk l.prog w K mg base (L2.CX l.prog w) 6 f32 _ ["text"] (liftE (pPlanOf c_Plan c_Jar ⟨c_NoName, c_Taken, c_NoLane, c_NoWay⟩ c_NoText)) := d_plan_of F32 G_enumerate E_words_of_1 E_lane_of_1 E_stream_of_1 X_NoText N_Plan_2
 have E_plan_of_1 : DefE l.prog w K mg base 6 "plan_of" 1 [] (selN 1) (pPlanOf c_Plan c_Jar ⟨c_NoName, c_Taken, c_NoLane, c_NoWay⟩ c_NoText) := ⟨⟨f32, PySem.W.mg_of X G a32, k32, ⟨⟨_, ["text"], ⟨fun s us ws hK h1 h2 => match us, ws, h1, h2 with | [u0], [], _, _ => ⟨[u0], (.at rfl .nil), .of_eq rfl⟩⟩, O_plan_of⟩⟩⟩⟩
 have O_law_plan_by : FnOk l.prog w K mg base (L2.CX l.prog w) 7 f33 _ ["_law_text"] (liftE (pPlanBy c_Plan c_Jar)) := d_law_plan_by F33 E_plan_of_1 Q_LaneError XM_NoName_LaneError XM_NoWay_LaneError XM_NoLane_LaneError XM_NoJar_LaneError XM_NoText_LaneError XM_Taken_LaneError
 have O_Jar__str : FnOk l.prog w K mg base (L2.CX l.prog w) 1 f34 _ ["self"] (liftE (pJarStr c_Jar)) := d_Jar__str F34 A_Jar_size A_Jar_rate A_Jar_mouth
 have M_Jar_str_0 : MethE l.prog w K mg base 1 c_Jar "__str__" 0 [] (selN 1) (pJarStr c_Jar) := ⟨⟨f34, CL_Jar, ⟨a34, n34, k34⟩, ⟨⟨_, ["self"], ⟨fun s us ws hK h1 h2 => match us, ws, h1, h2 with | [u0], [], _, _ => ⟨[u0], (.at rfl .nil), .of_eq rfl⟩⟩, O_Jar__str⟩⟩⟩⟩
 have O_stream_row : FnOk l.prog w K mg base (L2.CX l.prog w) 4 f35 _ ["name", "jar", "way"] (liftE (pStreamRow c_Jar)) := d_stream_row F35 M_Jar_str_0 FC_Jar
 have E_stream_row_3 : DefE l.prog w K mg base 4 "stream_row" 3 [] (selN 3) (pStreamRow c_Jar) := ⟨⟨f35, PySem.W.mg_of X G a35, k35, ⟨⟨_, ["name", "jar", "way"], ⟨fun s us ws hK h1 h2 => match us, ws, h1, h2 with | [u0, u1, u2], [], _, _ => ⟨[u0, u1, u2], (.at rfl (.at rfl (.at rfl .nil))), .of_eq rfl⟩⟩, O_stream_row⟩⟩⟩⟩
 have O_written : FnOk l.prog w K mg base (L2.CX l.prog w) 5 f36 _ ["plan"] (liftE (pWritten c_Plan c_Jar)) := d_written F36 A_Plan_lanes A_Plan_streams E_stream_row_3
 have O_Jar_told : FnOk l.prog w K mg base (L2.CX l.prog w) 1 f37 _ ["self"] (liftE (pTold c_Jar)) := d_Jar_told F37 A_Jar_size A_Jar_rate A_Jar_mouth
 have M_Jar_told_0 : MethE l.prog w K mg base 1 c_Jar "told" 0 [] (selN 1) (pTold c_Jar) := ⟨⟨f37, CL_Jar, ⟨a37, n37, k37⟩, ⟨⟨_, ["self"], ⟨fun s us ws hK h1 h2 => match us, ws, h1, h2 with | [u0], [], _, _ => ⟨[u0], (.at rfl .nil), .of_eq rfl⟩⟩, O_Jar_told⟩⟩⟩⟩
 have O_Jar__eq : FnOk l.prog w K mg base (L2.CX l.prog w) 2 f38 _ ["self", "other"] (liftE (pJarEqJ c_Jar)) := d_Jar__eq F38 KT_Jar_Jar IP_Jar KT_Plan_Jar IP_Plan KT_tuple_Jar KT_str_Jar KT_NoneType_Jar KT_int_Jar KT_list_Jar G_isinstance Q_Jar M_Jar_told_0
 have M_Jar_eq_1 : MethE l.prog w K mg base 2 c_Jar "__eq__" 1 [] (selN 2) (pJarEqJ c_Jar) := ⟨⟨f38, CL_Jar, ⟨a38, n38, k38⟩, ⟨⟨_, ["self", "other"], ⟨fun s us ws hK h1 h2 => match us, ws, h1, h2 with | [u0, u1], [], _, _ => ⟨[u0, u1], (.at rfl (.at rfl .nil)), .of_eq rfl⟩⟩, O_Jar__eq⟩⟩⟩⟩
 have O_Plan__eq : FnOk l.prog w K mg base (L2.CX l.prog w) 6 f39 _ ["self", "other"] (liftE (pPlanEq c_Plan c_Jar)) := d_Plan__eq F39 KT_Jar_Plan IP_Jar KT_Plan_Plan IP_Plan KT_tuple_Plan KT_str_Plan KT_NoneType_Plan KT_int_Plan KT_list_Plan G_isinstance Q_Plan M_Jar_eq_1 EQ_Jar A_Plan_lanes A_Plan_streams
 have D_law_begun : Def l.prog w K mg base 1 "_law_begun" ["_law_script"] (pBegun K) := ⟨_, _, PySem.W.mg_of X G a1, k1, b1, O_law_begun⟩
 have D_law_plan : Def l.prog w K mg base 4 "_law_plan" ["_law_state"] pPlanG := ⟨_, _, PySem.W.mg_of X G a7, k7, b7, O_law_plan⟩
 have D_law_loose : Def l.prog w K mg base 2 "_law_loose" ["_law_state", "_law_rows_here", "_law_lanes"] pLoose := ⟨_, _, PySem.W.mg_of X G a8, k8, b8, O_law_loose⟩
 have D_law_rows : Def l.prog w K mg base 1 "_law_rows" ["_law_lanes", "_law_streams"] pRows := ⟨_, _, PySem.W.mg_of X G a9, k9, b9, O_law_rows⟩
 have D_law_spoilt : Def l.prog w K mg base 3 "_law_spoilt" ["_law_state", "_law_kind", "_law_text"] pSpoil := ⟨_, _, PySem.W.mg_of X G a12, k12, b12, O_law_spoilt⟩
 have D_law_read : Def l.prog w K mg base 3 "_law_read" ["_law_text"] pLawRead := ⟨_, _, PySem.W.mg_of X G a19, k19, b19, O_law_read⟩
 have E_law_plan_by_1 : DefE l.prog w K mg base 7 "_law_plan_by" 1 [] (selN 1) (pPlanBy c_Plan c_Jar) := ⟨⟨f33, PySem.W.mg_of X G a33, k33, ⟨⟨_, ["_law_text"], ⟨fun s us ws hK h1 h2 => match us, ws, h1, h2 with | [u0], [], _, _ => ⟨[u0], (.at rfl .nil), .of_eq rfl⟩⟩, O_law_plan_by⟩⟩⟩⟩
 have E_written_1 : DefE l.prog w K mg base 5 "written" 1 [] (selN 1) (pWritten c_Plan c_Jar) := ⟨⟨f36, PySem.W.mg_of X G a36, k36, ⟨⟨_, ["plan"], ⟨fun s us ws hK h1 h2 => match us, ws, h1, h2 with | [u0], [], _, _ => ⟨[u0], (.at rfl .nil), .of_eq rfl⟩⟩, O_written⟩⟩⟩⟩
 have M_Plan_eq_1 : MethE l.prog w K mg base 6 c_Plan "__eq__" 1 [] (selN 2) (pPlanEq c_Plan c_Jar) := ⟨⟨f39, CL_Plan, ⟨a39, n39, k39⟩, ⟨⟨_, ["self", "other"], ⟨fun s us ws hK h1 h2 => match us, ws, h1, h2 with | [u0, u1], [], _, _ => ⟨[u0, u1], (.at rfl (.at rfl .nil)), .of_eq rfl⟩⟩, O_Plan__eq⟩⟩⟩⟩
 exact d_law F40 D_law_begun D_law_take G_range G_max D_law_plan D_law_loose D_law_rows G_len D_law_spoilt D_law_read E_law_plan_by_1 KT_Jar_Plan IP_Jar KT_Plan_Plan IP_Plan KT_tuple_Plan KT_str_Plan KT_NoneType_Plan KT_int_Plan KT_list_Plan G_isinstance Q_Plan E_written_1 G_str M_Plan_eq_1 EQ_Plan E_plan_of_1
theorem walk {l : PySem.W.OpenLaw} {qq : Program} {loose : List Str} {XP : (Str → Option Value) → Heap → Prop} {YP : World → Heap → Prop} {d : DefRec} {K : Params → PySem.W.Frag} (hn : l.most = some 63) (hdf : d.params.defaults = [])
   (hY : ∀ (w : World) (h : Heap), YP w h → (K w.params).In h)
   (F : ∀ (w : World) (mg : Str → Option Value) (fa : Addr) (h : Heap), (K w.params).In h → h.Ns mainGlobals mg → mg d.name = some (.ref fa) →
     ∃ fd : FuncData, (∀ (s : Shared) (u : Value), BindsTo s fd ⟨[u], []⟩ [("_law_script", u)]) ∧ ∀ base : Heap, (K w.params).In base → base.Ns mainGlobals mg → FnOk l.prog w (K w.params) mg base (L2.CX l.prog w) 8 fa fd ["_law_script"] (liftE (pLawE (K w.params)))) :
   PySem.W.WalkO qq loose XP YP l.row.toRowW d [] (fun f vs => PySem.call f vs) :=
 L2.walk_of (n := 63) (k := 8) (x := "_law_script") (CX := fun w => L2.CX l.prog w) (sp := fun w => (liftE (pLawE (K w.params)))) hn (by decide) hdf ⟨rfl, by decide, by decide⟩ hY F (fun _ _ a ns hl _ hS => law_startE hl hS) fun _ _ _ _ _ z => law_out z
end Lw
open PySem PySem.W PyProof.Rows in
set_option maxRecDepth 100000 in
set_option maxHeartbeats 0 in
theorem PySem.Challenge.cw_hourlanes_k27_whole_there_and_back_holds : PySem.Challenge.rw_hourlanes_k27_whole_there_and_back.Holds := by
 w_on; o_law; k_head; (case hw => w_witness2)
 k_fill
 refine Lw.walk (l := PySem.Challenge.rw_hourlanes_k27_whole_there_and_back) rfl rfl (fun w h Y => (by first | exact PySem.W.kIn_of Y | exact PySem.W.km_in_of Y)) ?F
 case F =>
   intro w mg fa h KX G hmg
   refine' Lw.all_mk KX G hmg ?ac_NoJar ?ac_Jar ?ac_NoName ?ac_NoWay ?ac_NoLane ?ac_NoText ?ac_Taken ?ac_Plan ?ac_LaneError ?a1 ?l1 ?c1 ?k1 ?a2 ?l2 ?c2 ?k2 ?a3 ?l3 ?c3 ?k3 ?a4 ?l4 ?c4 ?k4 ?a5 ?l5 ?c5 ?k5 ?a6 ?l6 ?c6 ?k6 ?a7 ?l7 ?c7 ?k7 ?a8 ?l8 ?c8 ?k8 ?a9 ?l9 ?c9 ?k9 ?a10 ?l10 ?c10 ?k10 ?a11 ?l11 ?c11 ?k11 ?a12 ?l12 ?c12 ?k12 ?a13 ?l13 ?c13 ?k13 ?a14 ?l14 ?c14 ?k14 ?a15 ?l15 ?c15 ?k15 ?a16 ?l16 ?c16 ?k16 ?a17 ?l17 ?c17 ?k17 ?a18 ?l18 ?c18 ?k18 ?a19 ?l19 ?c19 ?k19 ?a20 ?l20 ?c20 ?k20 ?a21 ?l21 ?c21 ?k21 ?a22 ?l22 ?c22 ?k22 ?a23 ?l23 ?c23 ?k23 ?a24 ?l24 ?c24 ?k24 ?a25 ?n25 ?l25 ?c25 ?k25 ?a26 ?l26 ?c26 ?k26 ?a27 ?l27 ?c27 ?k27 ?a28 ?l28 ?c28 ?k28 ?a29 ?l29 ?c29 ?k29 ?a30 ?l30 ?c30 ?k30 ?a31 ?n31 ?l31 ?c31 ?k31 ?a32 ?l32 ?c32 ?k32 ?a33 ?l33 ?c33 ?k33 ?a34 ?n34 ?l34 ?c34 ?k34 ?a35 ?l35 ?c35 ?k35 ?a36 ?l36 ?c36 ?k36 ?a37 ?n37 ?l37 ?c37 ?k37 ?a38 ?n38 ?l38 ?c38 ?k38 ?a39 ?n39 ?l39 ?c39 ?k39 ?a40 ?l40 ?c40 ?k40 ?z_len ?z_range ?z_sorted ?z_list ?z_min ?z_enumerate ?z_str ?z_all ?z_int ?v_FIGURES ?z_zip ?v_MOST ?xk_NoJar ?xs_NoJar ?xt_NoJar ?xq_NoJar ?pg_Jar ?hd_Jar ?po_Jar ?sa_Jar ?yA_Jar_size ?yA_Jar_rate ?yA_Jar_mouth ?mk_Jar ?mkk_Jar ?sb_NoName_NoJar ?sb_NoJar_NoJar ?xhd_NoJar ?sb_NoWay_NoJar ?sb_NoLane_NoJar ?sb_NoText_NoJar ?sb_Taken_NoJar ?v_LETTERS ?xk_NoName ?xs_NoName ?xt_NoName ?xL_NoName ?xr_NoName ?xsa_NoName ?xi_NoName ?xti_NoName ?xki_NoName ?xl_NoName ?xc_NoName ?xn_NoName_name ?xk_Taken ?xs_Taken ?xt_Taken ?xL_Taken ?xr_Taken ?xsa_Taken ?xi_Taken ?xti_Taken ?xki_Taken ?xl_Taken ?xc_Taken ?xn_Taken_name ?v_GREATEST ?v_LEGS ?pg_Plan ?hd_Plan ?po_Plan ?sa_Plan ?yA_Plan_lanes ?yA_Plan_streams ?xk_NoLane ?xs_NoLane ?xt_NoLane ?xq_NoLane ?xk_NoWay ?xs_NoWay ?xt_NoWay ?xL_NoWay ?xr_NoWay ?xsa_NoWay ?xi_NoWay ?xti_NoWay ?xki_NoWay ?xl_NoWay ?xc_NoWay ?xn_NoWay_place ?z_tuple ?xk_NoText ?xs_NoText ?xt_NoText ?xL_NoText ?xr_NoText ?xsa_NoText ?xi_NoText ?xti_NoText ?xki_NoText ?xl_NoText ?xc_NoText ?xn_NoText_row ?mk_Plan ?mkk_Plan ?sb_NoName_LaneError ?sb_LaneError_LaneError ?xhd_LaneError ?xt0_LaneError ?xk_LaneError ?xs_LaneError ?xt_LaneError ?sb_NoWay_LaneError ?sb_NoLane_LaneError ?sb_NoJar_LaneError ?sb_NoText_LaneError ?sb_Taken_LaneError ?fmo_Jar ?fmf_Jar ?sb_Jar_Jar ?xhd_Jar ?xt0_Jar ?ob1 ?ob2 ?iha_Jar ?ihm_Jar ?sb_Plan_Jar ?iha_Plan ?ihm_Plan ?sb_tuple_Jar ?sb_str_Jar ?sb_NoneType_Jar ?sb_int_Jar ?sb_list_Jar ?z_isinstance ?sb_Jar_Plan ?sb_Plan_Plan ?xhd_Plan ?xt0_Plan ?sb_tuple_Plan ?sb_str_Plan ?sb_NoneType_Plan ?sb_int_Plan ?sb_list_Plan ?qhm_Jar ?qne_Jar ?z_max ?qhm_Plan ?qne_Plan
   (case ac_NoJar => k_is)
   (case ac_Jar => k_is)
   (case ac_NoName => k_is)
   (case ac_NoWay => k_is)
   (case ac_NoLane => k_is)
   (case ac_NoText => k_is)
   (case ac_Taken => k_is)
   (case ac_Plan => k_is)
   (case ac_LaneError => k_is)
   (case a1 => k_is)
   (case l1 => k_is)
   (case c1 => k_is)
   (case k1 => k_is)
   (case a2 => k_is)
   (case l2 => k_is)
   (case c2 => k_is)
   (case k2 => k_is)
   (case a3 => k_is)
   (case l3 => k_is)
   (case c3 => k_is)
   (case k3 => k_is)
   (case a4 => k_is)
   (case l4 => k_is)
   (case c4 => k_is)
   (case k4 => k_is)
   (case a5 => k_is)
   (case l5 => k_is)
   (case c5 => k_is)
   (case k5 => k_is)
   (case a6 => k_is)
   (case l6 => k_is)
   (case c6 => k_is)
   (case k6 => k_is)
   (case a7 => k_is)
   (case l7 => k_is)
   (case c7 => k_is)
   (case k7 => k_is)
   (case a8 => k_is)
   (case l8 => k_is)
   (case c8 => k_is)
   (case k8 => k_is)
   (case a9 => k_is)
   (case l9 => k_is)
   (case c9 => k_is)
   (case k9 => k_is)
   (case a10 => k_is)
   (case l10 => k_is)
   (case c10 => k_is)
   (case k10 => k_is)
   (case a11 => k_is)
   (case l11 => k_is)
   (case c11 => k_is)
   (case k11 => k_is)
   (case a12 => k_is)
   (case l12 => k_is)
   (case c12 => k_is)
   (case k12 => k_is)
   (case a13 => k_is)
   (case l13 => k_is)
   (case c13 => k_is)
   (case k13 => k_is)
   (case a14 => k_is)
   (case l14 => k_is)
   (case c14 => k_is)
   (case k14 => k_is)
   (case a15 => k_is)
   (case l15 => k_is)
   (case c15 => k_is)
   (case k15 => k_is)
   (case a16 => k_is)
   (case l16 => k_is)
   (case c16 => k_is)
   (case k16 => k_is)
   (case a17 => k_is)
   (case l17 => k_is)
   (case c17 => k_is)
   (case k17 => k_is)
   (case a18 => k_is)
   (case l18 => k_is)
   (case c18 => k_is)
   (case k18 => k_is)
   (case a19 => k_is)
   (case l19 => k_is)
   (case c19 => k_is)
   (case k19 => k_is)
   (case a20 => k_is)
   (case l20 => k_is)
   (case c20 => k_is)
   (case k20 => k_is)
   (case a21 => k_is)
   (case l21 => k_is)
   (case c21 => k_is)
   (case k21 => k_is)
   (case a22 => k_is)
   (case l22 => k_is)
   (case c22 => k_is)
   (case k22 => k_is)
   (case a23 => k_is)
   (case l23 => k_is)
   (case c23 => k_is)
   (case k23 => k_is)
   (case a24 => k_is)
   (case l24 => k_is)
   (case c24 => k_is)
   (case k24 => k_is)
   (case a25 => k_is)
   (case n25 => k_is)
   (case l25 => k_is)
   (case c25 => k_is)
   (case k25 => k_is)
   (case a26 => k_is)
   (case l26 => k_is)
   (case c26 => k_is)
   (case k26 => k_is)
   (case a27 => k_is)
   (case l27 => k_is)
   (case c27 => k_is)
   (case k27 => k_is)
   (case a28 => k_is)
   (case l28 => k_is)
   (case c28 => k_is)
   (case k28 => k_is)
   (case a29 => k_is)
   (case l29 => k_is)
   (case c29 => k_is)
   (case k29 => k_is)
   (case a30 => k_is)
   (case l30 => k_is)
   (case c30 => k_is)
   (case k30 => k_is)
   (case a31 => k_is)
   (case n31 => k_is)
   (case l31 => k_is)
   (case c31 => k_is)
   (case k31 => k_is)
   (case a32 => k_is)
   (case l32 => k_is)
   (case c32 => k_is)
   (case k32 => k_is)
   (case a33 => k_is)
   (case l33 => k_is)
   (case c33 => k_is)
   (case k33 => k_is)
   (case a34 => k_is)
   (case n34 => k_is)
   (case l34 => k_is)
   (case c34 => k_is)
   (case k34 => k_is)
   (case a35 => k_is)
   (case l35 => k_is)
   (case c35 => k_is)
   (case k35 => k_is)
   (case a36 => k_is)
   (case l36 => k_is)
   (case c36 => k_is)
   (case k36 => k_is)
   (case a37 => k_is)
   (case n37 => k_is)
   (case l37 => k_is)
   (case c37 => k_is)
   (case k37 => k_is)
   (case a38 => k_is)
   (case n38 => k_is)
   (case l38 => k_is)
   (case c38 => k_is)
   (case k38 => k_is)
   (case a39 => k_is)
   (case n39 => k_is)
   (case l39 => k_is)
   (case c39 => k_is)
   (case k39 => k_is)
   (case a40 => k_is)
   (case l40 => k_is)
   (case c40 => k_is)
   (case k40 => k_is)
   (case z_len => k_is)
   (case z_range => k_is)
   (case z_sorted => k_is)
   (case z_list => k_is)
   (case z_min => k_is)
   (case z_enumerate => k_is)
   (case z_str => k_is)
   (case z_all => k_is)
   (case z_int => k_is)
   (case v_FIGURES => k_is)
   (case z_zip => k_is)
   (case v_MOST => k_is)
   (case xk_NoJar => k_is)
   (case xs_NoJar => k_is)
   (case xt_NoJar => k_is)
   (case xq_NoJar => k_exc)
   (case pg_Jar => k_is)
   (case hd_Jar => k_is)
   (case po_Jar => k_is)
   (case sa_Jar => k_is)
   (case yA_Jar_size => k_is)
   (case yA_Jar_rate => k_is)
   (case yA_Jar_mouth => k_is)
   (case mk_Jar => k_is)
   (case mkk_Jar => k_is)
   (case sb_NoName_NoJar => first | k_is | rfl | decide +kernel)
   (case sb_NoJar_NoJar => first | k_is | rfl | decide +kernel)
   (case xhd_NoJar => k_is)
   (case sb_NoWay_NoJar => first | k_is | rfl | decide +kernel)
   (case sb_NoLane_NoJar => first | k_is | rfl | decide +kernel)
   (case sb_NoText_NoJar => first | k_is | rfl | decide +kernel)
   (case sb_Taken_NoJar => first | k_is | rfl | decide +kernel)
   (case v_LETTERS => k_is)
   (case xk_NoName => k_is)
   (case xs_NoName => k_is)
   (case xt_NoName => k_is)
   (case xL_NoName => k_is)
   (case xr_NoName => first | rfl | decide +kernel | k_is)
   (case xsa_NoName => k_is)
   (case xi_NoName => k_is)
   (case xti_NoName => k_is)
   (case xki_NoName => k_is)
   (case xl_NoName => k_is)
   (case xc_NoName => k_is)
   (case xn_NoName_name => k_is)
   (case xk_Taken => k_is)
   (case xs_Taken => k_is)
   (case xt_Taken => k_is)
   (case xL_Taken => k_is)
   (case xr_Taken => first | rfl | decide +kernel | k_is)
   (case xsa_Taken => k_is)
   (case xi_Taken => k_is)
   (case xti_Taken => k_is)
   (case xki_Taken => k_is)
   (case xl_Taken => k_is)
   (case xc_Taken => k_is)
   (case xn_Taken_name => k_is)
   (case v_GREATEST => k_is)
   (case v_LEGS => k_is)
   (case pg_Plan => k_is)
   (case hd_Plan => k_is)
   (case po_Plan => k_is)
   (case sa_Plan => k_is)
   (case yA_Plan_lanes => k_is)
   (case yA_Plan_streams => k_is)
   (case xk_NoLane => k_is)
   (case xs_NoLane => k_is)
   (case xt_NoLane => k_is)
   (case xq_NoLane => k_exc)
   (case xk_NoWay => k_is)
   (case xs_NoWay => k_is)
   (case xt_NoWay => k_is)
   (case xL_NoWay => k_is)
   (case xr_NoWay => first | rfl | decide +kernel | k_is)
   (case xsa_NoWay => k_is)
   (case xi_NoWay => k_is)
   (case xti_NoWay => k_is)
   (case xki_NoWay => k_is)
   (case xl_NoWay => k_is)
   (case xc_NoWay => k_is)
   (case xn_NoWay_place => k_is)
   (case z_tuple => k_is)
   (case xk_NoText => k_is)
   (case xs_NoText => k_is)
   (case xt_NoText => k_is)
   (case xL_NoText => k_is)
   (case xr_NoText => first | rfl | decide +kernel | k_is)
   (case xsa_NoText => k_is)
   (case xi_NoText => k_is)
   (case xti_NoText => k_is)
   (case xki_NoText => k_is)
   (case xl_NoText => k_is)
   (case xc_NoText => k_is)
   (case xn_NoText_row => k_is)
   (case mk_Plan => k_is)
   (case mkk_Plan => k_is)
   (case sb_NoName_LaneError => first | k_is | rfl | decide +kernel)
   (case sb_LaneError_LaneError => first | k_is | rfl | decide +kernel)
   (case xhd_LaneError => k_is)
   (case xt0_LaneError => k_is)
   (case xk_LaneError => k_is)
   (case xs_LaneError => k_is)
   (case xt_LaneError => k_is)
   (case sb_NoWay_LaneError => first | k_is | rfl | decide +kernel)
   (case sb_NoLane_LaneError => first | k_is | rfl | decide +kernel)
   (case sb_NoJar_LaneError => first | k_is | rfl | decide +kernel)
   (case sb_NoText_LaneError => first | k_is | rfl | decide +kernel)
   (case sb_Taken_LaneError => first | k_is | rfl | decide +kernel)
   (case fmo_Jar => k_is)
   (case fmf_Jar => k_is)
   (case sb_Jar_Jar => first | k_is | rfl | decide +kernel)
   (case xhd_Jar => k_is)
   (case xt0_Jar => k_is)
   (case ob1 => k_is)
   (case ob2 => k_is)
   (case iha_Jar => k_is)
   (case ihm_Jar => k_is)
   (case sb_Plan_Jar => first | k_is | rfl | decide +kernel)
   (case iha_Plan => k_is)
   (case ihm_Plan => k_is)
   (case sb_tuple_Jar => first | k_is | rfl | decide +kernel)
   (case sb_str_Jar => first | k_is | rfl | decide +kernel)
   (case sb_NoneType_Jar => first | k_is | rfl | decide +kernel)
   (case sb_int_Jar => first | k_is | rfl | decide +kernel)
   (case sb_list_Jar => first | k_is | rfl | decide +kernel)
   (case z_isinstance => k_is)
   (case sb_Jar_Plan => first | k_is | rfl | decide +kernel)
   (case sb_Plan_Plan => first | k_is | rfl | decide +kernel)
   (case xhd_Plan => k_is)
   (case xt0_Plan => k_is)
   (case sb_tuple_Plan => first | k_is | rfl | decide +kernel)
   (case sb_str_Plan => first | k_is | rfl | decide +kernel)
   (case sb_NoneType_Plan => first | k_is | rfl | decide +kernel)
   (case sb_int_Plan => first | k_is | rfl | decide +kernel)
   (case sb_list_Plan => first | k_is | rfl | decide +kernel)
   (case qhm_Jar => k_is)
   (case qne_Jar => k_is)
   (case z_max => k_is)
   (case qhm_Plan => k_is)
   (case qne_Plan => k_is)
