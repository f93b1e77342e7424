import PyProof.Rows.All
import Wide.All
import OpenK.AllK
import Wide.FinOn
import HandS.ForMost
import HandS.ForExc
import HandS.Wide
import HandS.IsInst
import HandS.Defaults
import HandS.Walk
import HandS.Small
import HandS.SortInts
import HandS.SortRule
import HandS.Nested
import HandS.TupAny
import KE.GoesMore
import HandS.Conv
import KE.DataMinMax
import HandS.SortKw
import HandS.TupSets
import HandS.SetFor
import HandS.Strs
import HandS.ExcInit
import HandS.TryMany
import HandS.ExcValue
import HandS.CallSlots
import KE.KExcIs
import HandS.Style
import HandS.Flt
import HandS.TupLe
import HandS.More
import HandS.Text
import HandS.OwnEq
import HandS.FStr
import KE.KCallOwn
import KE.KFmtOwn
import HandS.NoneIn
import KE.IntTextLaws
import KE.KIntText
import KE.SortKeyHeap
import HandS.EndTab
import HandS.Remove
import KE.DataFind
import PyProof.Conv_int_bool
import HandS.WordsDict
import KE.OsRunLaw
import PySem.Challenge.RW_hourlanes_k71_rooms_met_and_never_passed
set_option Elab.async false
set_option linter.all false
set_option maxRecDepth 100000
set_option maxHeartbeats 4000000
namespace Hc
noncomputable section
open PySem PySem.W PySem.Calls PyProof.Rows HeadRun
/-! the head's one run, cut at statements of the top -/
def goS (st : SharedT → Thread → Option (SharedT × Thread)) (n0 : Nat) (ann : Option Value) : Nat → SharedT → Thread → Option (SharedT × Thread)
  | 0, s, t => some (s, t)
  | m + 1, s, t => match through t with
    | true => none
    | false => match stepOk n0 ann t with
      | false => none
      | true => match st s t with
        | some (s', t') => frS s' fun s' => goS st n0 ann m s' t'
        | none => none
theorem goS_go {st : SharedT → Thread → Option (SharedT × Thread)} {n0 : Nat} {ann : Option Value} {m : Nat} : ∀ {k : Nat} {s s' : SharedT} {t t' : Thread}, goS st n0 ann k s t = some (s', t') → goF st n0 ann (k + m) s t = goF st n0 ann m s' t'
  | 0, s, s', t, t', h => by
    have h1 : some (s, t) = some (s', t') := h
    cases h1
    rw [Nat.zero_add]
  | k + 1, s, s', t, t', h => by
    have h1 : (match through t with
      | true => none
      | false => match stepOk n0 ann t with
        | false => none
        | true => match st s t with
          | some (s', t') => frS s' fun s' => goS st n0 ann k s' t'
          | none => none) = some (s', t') := h
    rw [show k + 1 + m = (k + m) + 1 by omega]
    show (match through t with
      | true => some s
      | false => match stepOk n0 ann t with
        | false => none
        | true => match st s t with
          | some (s', t') => frS s' fun s' => goF st n0 ann (k + m) s' t'
          | none => none) = _
    cases ht : through t with
    | true =>
      rw [ht] at h1
      cases h1
    | false =>
      rw [ht] at h1
      cases hk : stepOk n0 ann t with
      | false =>
        rw [hk] at h1
        cases h1
      | true =>
        rw [hk] at h1
        cases hs : st s t with
        | none =>
          rw [hs] at h1
          cases h1
        | some r =>
          obtain ⟨s2, t2⟩ := r
          rw [hs] at h1
          have h3 : (frS s2 fun s' => goS st n0 ann k s' t2) = some (s', t') := h1
          rw [frS_eq] at h3
          show (frS s2 fun s' => goF st n0 ann (k + m) s' t2) = _
          rw [frS_eq]
          exact goS_go h3
theorem goF_mono {st : SharedT → Thread → Option (SharedT × Thread)} {n0 : Nat} {ann : Option Value} (j : Nat) : ∀ {k : Nat} {s r : SharedT} {t : Thread}, goF st n0 ann k s t = some r → goF st n0 ann (k + j) s t = some r
  | 0, _, _, _, h => by cases h
  | k + 1, s, r, t, h => by
    have h1 : (match through t with
      | true => some s
      | false => match stepOk n0 ann t with
        | false => none
        | true => match st s t with
          | some (s', t') => frS s' fun s' => goF st n0 ann k s' t'
          | none => none) = some r := h
    rw [show k + 1 + j = (k + j) + 1 by omega]
    show (match through t with
      | true => some s
      | false => match stepOk n0 ann t with
        | false => none
        | true => match st s t with
          | some (s', t') => frS s' fun s' => goF st n0 ann (k + j) s' t'
          | none => none) = some r
    cases ht : through t with
    | true =>
      rw [ht] at h1
      exact h1
    | false =>
      rw [ht] at h1
      cases hk : stepOk n0 ann t with
      | false =>
        rw [hk] at h1
        cases h1
      | true =>
        rw [hk] at h1
        cases hs : st s t with
        | none =>
          rw [hs] at h1
          cases h1
        | some q =>
          obtain ⟨s2, t2⟩ := q
          rw [hs] at h1
          have h3 : (frS s2 fun s' => goF st n0 ann k s' t2) = some r := h1
          rw [frS_eq] at h3
          show (frS s2 fun s' => goF st n0 ann (k + j) s' t2) = some r
          rw [frS_eq]
          exact goF_mono j h3
theorem nine {A B C D E F G I J : Type} {a a' : A} {b b' : B} {c c' : C} {d d' : D} {e e' : E} {f f' : F} {g g' : G} {i i' : I} {j j' : J} (ha : a = a') (hb : b = b') (hc : c = c') (hd : d = d') (he : e = e') (hf : f = f') (hg : g = g') (hi : i = i') (hj : j = j') : (a, b, c, d, e, f, g, i, j) = (a', b', c', d', e', f', g', i', j') := by rw [ha, hb, hc, hd, he, hf, hg, hi, hj]
/-- so many steps from the boot -/
def bootS (st : SharedT → Thread → Option (SharedT × Thread)) (k : Nat) (p : Program) (w : World) (os : OsState) : Option (Nat × SharedT × Thread) := match putAll (boot_heap w.params).objs.toList .nil 0 with
  | some (t, n) => frNat n fun n0 => (goS st n0 (bootAnn w) k (bootT w os (t, n0)) (topStub p)).map fun r => (n0, r.1, r.2)
  | none => none
theorem bootS_go {st : SharedT → Thread → Option (SharedT × Thread)} {k m M : Nat} {p : Program} {w : World} {os : OsState} {n0 : Nat} {s : SharedT} {t : Thread} (h : bootS st k p w os = some (n0, s, t)) (e : M = k + m) : endF st M p w os = goF st n0 (bootAnn w) m s t := by
  unfold bootS at h
  unfold endF
  cases q : putAll (boot_heap w.params).objs.toList .nil 0 with
  | none =>
    rw [q] at h
    cases h
  | some r =>
    obtain ⟨T, n⟩ := r
    rw [q] at h
    have h1 : (frNat n fun n0 => (goS st n0 (bootAnn w) k (bootT w os (T, n0)) (topStub p)).map fun r => (n0, r.1, r.2)) = some (n0, s, t) := h
    rw [frNat_eq] at h1
    show (frNat n fun n0 => goF st n0 (bootAnn w) M (bootT w os (T, n0)) (topStub p)) = _
    rw [frNat_eq]
    obtain ⟨⟨s2, t2⟩, h2, h3⟩ := Option.map_eq_some_iff.mp h1
    cases h3
    rw [e]
    exact goS_go h2
/-- what is left of the top at a statement -/
def thrOf (b : List Stmt) (env : Env) (c : Code) (p : Pos) (B : List Frame) : Thread := ⟨PySem.W.R.bindR (PySem.W.R.onRaiseR (PySem.W.Fast.tw12563942051412417395 b env) (PySem.W.Fast.tw9442747609961115081 env)) (fun f => Sem.pure (Fin.done f)), c, p, B⟩
open L2
abbrev s (x : String) : Str := Str.ofString x
abbrev r (a : Nat) : Value := .ref a
abbrev i (a : Nat) : Int := Int.ofNat a
abbrev u (x : String) (a : Nat) : Value := .str (Str.ofString x) a
abbrev e (p : Params) (x : String) (a : Nat) (v : Value) : DictEntry := ⟨PyData.keyHash p (Str.ofString x), .str (Str.ofString x) a, v⟩
abbrev dc (l : List DictEntry) (n : Nat) : Data := .dict l.toArray n
abbrev pg : Program := PySem.Challenge.rw_hourlanes_k71_rooms_met_and_never_passed.row.prog
def tp (i : Nat) : Stmt := PySem.Challenge.pw_hourlanes_k71_rooms_met_and_never_passed.main.body.getD i (.Pass ⟨0, 0, 0, 0⟩)
def envT : Env := { scope := pg.main.scope, locals := mainNs, globals := mainNs, cells := [], code := (r 13), frame := (.some 14) }
def codT : Code := Code.body (behindTheImports pg) envT
def frT : List Frame := [topFrame (@PySem.Pos.mk 0 0 0 0)]
def o3_1 (p : Params) : Obj := .mk (.type "dict") .none (dc [(e p "__name__" 165 (u "hourlanes.scenes" 391)), (e p "__doc__" 166 .none), (e p "__package__" 167 .none), (e p "__loader__" 168 (.builtin "__main__.__loader__#opaque")), (e p "__spec__" 169 .none), (e p "__annotations__" 170 (r 6)), (e p "__builtins__" 171 (r 4)), (e p "__file__" 173 (u "/claim/cut.py" 172)), (e p "__cached__" 174 .none), (e p "_wall" 193 (r 21)), (e p "LaneError" 213 (r 31)), (e p "NoJar" 229 (r 44)), (e p "NoTick" 245 (r 56)), (e p "TooMany" 272 (r 75)), (e p "joined" 285 (r 84)), (e p "Flow" 390 (r 152))] 16) #[]
def o11_1 (p : Params) : Obj := .mk (.type "tuple") .none (@PySem.Data.seq #[] 0) #[]
def o12_1 (p : Params) : Obj := .mk .none .none (@PySem.Data.fields (@List.toArray PySem.Value [(@PySem.Value.int (i 1) 0), (@PySem.Value.int (i 0) 0), (r 20), (@PySem.Value.int (i 5) 0), (@PySem.Value.int (i 0) 0), (r 27), (@PySem.Value.int (i 7) 0), (@PySem.Value.int (i 0) 0), (r 40), (@PySem.Value.int (i 9) 0), (@PySem.Value.int (i 0) 0), (r 52), (@PySem.Value.int (i 11) 0), (@PySem.Value.int (i 0) 0), (r 64), (@PySem.Value.int (i 17) 0), (@PySem.Value.int (i 0) 0), (r 83), (@PySem.Value.int (i 27) 0), (@PySem.Value.int (i 0) 0), (r 90)])) #[]
def o13_1 (p : Params) : Obj := .mk (.type "code") .none (@PySem.Data.fields (@List.toArray PySem.Value [(u "<module>" 182), (u "<module>" 183), (u "/claim/cut.py" 184), (@PySem.Value.int (i 1) 0), (@PySem.Value.int (i 0) 0), (@PySem.Value.int (i 0) 0), (@PySem.Value.int (i 0) 0), (@PySem.Value.int (i 0) 0), (r 11), (@PySem.Value.bool Bool.false), (@PySem.Value.int (i 181) 0), (r 12), .none, .none, .none, .none, (@PySem.Value.int (i 185) 0), (@PySem.Value.int (i 1) 0), (u "/claim/cut.py" 186)])) #[]
def o14_1 (p : Params) : Obj := .mk (.type "frame") .none PySem.Data.plain (@List.toArray (@Option PySem.Value) [(.some (r 13)), (.some (r 3)), (.some (r 3)), .none, (.some (u "__main__" 164)), .none, (.some (r 0))])
def o15_1 (p : Params) : Obj := .mk (.type "tuple") .none (@PySem.Data.seq #[] 0) #[]
def o16_1 (p : Params) : Obj := .mk .none .none (@PySem.Data.fields #[]) #[]
def o17_1 (p : Params) : Obj := .mk (.type "tuple") .none (@PySem.Data.seq (@List.toArray PySem.Value [(u "k" 190)]) 0) #[]
def o18_1 (p : Params) : Obj := .mk (.type "tuple") .none (@PySem.Data.seq #[] 0) #[]
def o19_1 (p : Params) : Obj := .mk .none .none (.func (.mk (s "_wall") (s "_wall") (defArgs (tp 0)) (.stmts (defBody (tp 0))) (defScope (tp 0)) 0 [] .none .none .none .none .none .none .none 0)) #[]
def o20_1 (p : Params) : Obj := .mk (.type "code") .none (@PySem.Data.fields (@List.toArray PySem.Value [(u "_wall" 187), (u "_wall" 188), (u "/claim/cut.py" 189), (@PySem.Value.int (i 1) 0), (@PySem.Value.int (i 1) 0), (@PySem.Value.int (i 0) 0), (@PySem.Value.int (i 0) 0), (@PySem.Value.int (i 3) 0), (r 15), (@PySem.Value.bool Bool.true), (@PySem.Value.int (i 181) 0), (r 16), .none, (r 17), (r 18), (r 19), (@PySem.Value.int (i 191) 0), (@PySem.Value.int (i 1) 0), (u "/claim/cut.py" 192)])) #[]
def o21_1 (p : Params) : Obj := .mk (.type "function") .none (.func (.mk (s "_wall") (s "_wall") (defArgs (tp 0)) (.stmts (defBody (tp 0))) (defScope (tp 0)) 3 [] .none .none .none (u "__main__" 164) .none (r 20) .none 0)) #[]
def o22_1 (p : Params) : Obj := .mk (.type "tuple") .none (@PySem.Data.seq (@List.toArray PySem.Value [(.type "ValueError")]) 0) #[]
def o23_1 (p : Params) : Obj := .mk (.type "builtin_function_or_method") .none (@PySem.Data.fields (@List.toArray PySem.Value [(.builtin "type.__prepare__"), (.type "type")])) #[]
def o24_1 (p : Params) : Obj := .mk (.type "dict") .none (dc [(e p "__module__" 203 (u "hourlanes.errors" 194)), (e p "__qualname__" 205 (u "LaneError" 204)), (e p "__firstlineno__" 207 (@PySem.Value.int (i 5) 206)), (e p "__static_attributes__" 208 (r 29))] 4) #[]
def o25_1 (p : Params) : Obj := .mk (.type "tuple") .none (@PySem.Data.seq #[] 0) #[]
def o26_1 (p : Params) : Obj := .mk .none .none (@PySem.Data.fields #[]) #[]
def o27_1 (p : Params) : Obj := .mk (.type "code") .none (@PySem.Data.fields (@List.toArray PySem.Value [(u "LaneError" 198), (u "LaneError" 199), (u "/claim/cut.py" 200), (@PySem.Value.int (i 5) 0), (@PySem.Value.int (i 0) 0), (@PySem.Value.int (i 0) 0), (@PySem.Value.int (i 0) 0), (@PySem.Value.int (i 0) 0), (r 25), (@PySem.Value.bool Bool.false), (@PySem.Value.int (i 181) 0), (r 26), .none, .none, .none, .none, (@PySem.Value.int (i 201) 0), (@PySem.Value.int (i 5) 0), (u "/claim/cut.py" 202)])) #[]
def o28_1 (p : Params) : Obj := .mk (.type "frame") .none PySem.Data.plain (@List.toArray (@Option PySem.Value) [(.some (r 27)), (.some (r 3)), (.some (r 24)), .none, (.some (u "hourlanes.errors" 194)), .none, (.some (r 0))])
def o29_1 (p : Params) : Obj := .mk (.type "tuple") .none (@PySem.Data.seq #[] 0) #[]
def o30_1 (p : Params) : Obj := .mk (.type "dict") .none (dc [(e p "__module__" 203 (u "hourlanes.errors" 194)), (e p "__firstlineno__" 207 (@PySem.Value.int (i 5) 206)), (e p "__static_attributes__" 208 (r 29)), (e p "__weakref__" 210 (r 32)), (e p "__doc__" 211 .none)] 3) #[]
def o31_1 (p : Params) : Obj := .mk (.type "type") .none (@PySem.Data.cls (@PySem.ClassData.mk (s "LaneError") [(.type "ValueError")] [(r 31), (.type "ValueError"), (.type "Exception"), (.type "BaseException"), (.type "object")] 30 (s "LaneError") Bool.true [] [(r 44), (r 56), (r 75)] Bool.false .none Bool.false)) (@List.toArray (@Option PySem.Value) [(.some (r 22)), .none, (.some (u "LaneError" 196)), (.some (u "LaneError" 204)), (.some (.builtin "ValueError.__new__")), (.some (@PySem.Value.bool Bool.true))])
def o32_1 (p : Params) : Obj := .mk (.type "getset_descriptor") .none (@PySem.Data.fields (@List.toArray PySem.Value [(u "__weakref__" 209), (r 31), (.builtin "ExceptionGroup.__weakref__"), .none])) #[]
def o33_1 (p : Params) : Obj := .mk (.type "super") .none (@PySem.Data.fields (@List.toArray PySem.Value [(r 31), (r 31), (r 31)])) #[]
def o34_1 (p : Params) : Obj := .mk (.type "builtin_function_or_method") .none (@PySem.Data.fields (@List.toArray PySem.Value [(.builtin "object.__init_subclass__"), (r 31)])) #[]
def o35_1 (p : Params) : Obj := .mk (.type "tuple") .none (@PySem.Data.seq (@List.toArray PySem.Value [(r 31)]) 0) #[]
def o36_1 (p : Params) : Obj := .mk (.type "builtin_function_or_method") .none (@PySem.Data.fields (@List.toArray PySem.Value [(.builtin "type.__prepare__"), (.type "type")])) #[]
def o37_1 (p : Params) : Obj := .mk (.type "dict") .none (dc [(e p "__module__" 221 (u "hourlanes.errors" 194)), (e p "__qualname__" 223 (u "NoJar" 222)), (e p "__firstlineno__" 225 (@PySem.Value.int (i 7) 224)), (e p "__static_attributes__" 226 (r 42))] 4) #[]
def o38_1 (p : Params) : Obj := .mk (.type "tuple") .none (@PySem.Data.seq #[] 0) #[]
def o39_1 (p : Params) : Obj := .mk .none .none (@PySem.Data.fields #[]) #[]
def o40_1 (p : Params) : Obj := .mk (.type "code") .none (@PySem.Data.fields (@List.toArray PySem.Value [(u "NoJar" 216), (u "NoJar" 217), (u "/claim/cut.py" 218), (@PySem.Value.int (i 7) 0), (@PySem.Value.int (i 0) 0), (@PySem.Value.int (i 0) 0), (@PySem.Value.int (i 0) 0), (@PySem.Value.int (i 0) 0), (r 38), (@PySem.Value.bool Bool.false), (@PySem.Value.int (i 181) 0), (r 39), .none, .none, .none, .none, (@PySem.Value.int (i 219) 0), (@PySem.Value.int (i 7) 0), (u "/claim/cut.py" 220)])) #[]
def o41_1 (p : Params) : Obj := .mk (.type "frame") .none PySem.Data.plain (@List.toArray (@Option PySem.Value) [(.some (r 40)), (.some (r 3)), (.some (r 37)), .none, (.some (u "hourlanes.errors" 194)), .none, (.some (r 0))])
def o42_1 (p : Params) : Obj := .mk (.type "tuple") .none (@PySem.Data.seq #[] 0) #[]
def o43_1 (p : Params) : Obj := .mk (.type "dict") .none (dc [(e p "__module__" 221 (u "hourlanes.errors" 194)), (e p "__firstlineno__" 225 (@PySem.Value.int (i 7) 224)), (e p "__static_attributes__" 226 (r 42)), (e p "__doc__" 227 .none)] 2) #[]
def o44_1 (p : Params) : Obj := .mk (.type "type") .none (@PySem.Data.cls (@PySem.ClassData.mk (s "NoJar") [(r 31)] [(r 44), (r 31), (.type "ValueError"), (.type "Exception"), (.type "BaseException"), (.type "object")] 43 (s "NoJar") Bool.true [] [] Bool.false .none Bool.false)) (@List.toArray (@Option PySem.Value) [(.some (r 35)), .none, (.some (u "NoJar" 214)), (.some (u "NoJar" 222)), (.some (.builtin "ValueError.__new__")), (.some (@PySem.Value.bool Bool.true))])
def o45_1 (p : Params) : Obj := .mk (.type "super") .none (@PySem.Data.fields (@List.toArray PySem.Value [(r 44), (r 44), (r 44)])) #[]
def o46_1 (p : Params) : Obj := .mk (.type "builtin_function_or_method") .none (@PySem.Data.fields (@List.toArray PySem.Value [(.builtin "object.__init_subclass__"), (r 44)])) #[]
def o47_1 (p : Params) : Obj := .mk (.type "tuple") .none (@PySem.Data.seq (@List.toArray PySem.Value [(r 31)]) 0) #[]
def o48_1 (p : Params) : Obj := .mk (.type "builtin_function_or_method") .none (@PySem.Data.fields (@List.toArray PySem.Value [(.builtin "type.__prepare__"), (.type "type")])) #[]
def o49_1 (p : Params) : Obj := .mk (.type "dict") .none (dc [(e p "__module__" 237 (u "hourlanes.errors" 194)), (e p "__qualname__" 239 (u "NoTick" 238)), (e p "__firstlineno__" 241 (@PySem.Value.int (i 9) 240)), (e p "__static_attributes__" 242 (r 54))] 4) #[]
def o50_1 (p : Params) : Obj := .mk (.type "tuple") .none (@PySem.Data.seq #[] 0) #[]
def o51_1 (p : Params) : Obj := .mk .none .none (@PySem.Data.fields #[]) #[]
def o52_1 (p : Params) : Obj := .mk (.type "code") .none (@PySem.Data.fields (@List.toArray PySem.Value [(u "NoTick" 232), (u "NoTick" 233), (u "/claim/cut.py" 234), (@PySem.Value.int (i 9) 0), (@PySem.Value.int (i 0) 0), (@PySem.Value.int (i 0) 0), (@PySem.Value.int (i 0) 0), (@PySem.Value.int (i 0) 0), (r 50), (@PySem.Value.bool Bool.false), (@PySem.Value.int (i 181) 0), (r 51), .none, .none, .none, .none, (@PySem.Value.int (i 235) 0), (@PySem.Value.int (i 9) 0), (u "/claim/cut.py" 236)])) #[]
def o53_1 (p : Params) : Obj := .mk (.type "frame") .none PySem.Data.plain (@List.toArray (@Option PySem.Value) [(.some (r 52)), (.some (r 3)), (.some (r 49)), .none, (.some (u "hourlanes.errors" 194)), .none, (.some (r 0))])
def o54_1 (p : Params) : Obj := .mk (.type "tuple") .none (@PySem.Data.seq #[] 0) #[]
def o55_1 (p : Params) : Obj := .mk (.type "dict") .none (dc [(e p "__module__" 237 (u "hourlanes.errors" 194)), (e p "__firstlineno__" 241 (@PySem.Value.int (i 9) 240)), (e p "__static_attributes__" 242 (r 54)), (e p "__doc__" 243 .none)] 2) #[]
def o56_1 (p : Params) : Obj := .mk (.type "type") .none (@PySem.Data.cls (@PySem.ClassData.mk (s "NoTick") [(r 31)] [(r 56), (r 31), (.type "ValueError"), (.type "Exception"), (.type "BaseException"), (.type "object")] 55 (s "NoTick") Bool.true [] [] Bool.false .none Bool.false)) (@List.toArray (@Option PySem.Value) [(.some (r 47)), .none, (.some (u "NoTick" 230)), (.some (u "NoTick" 238)), (.some (.builtin "ValueError.__new__")), (.some (@PySem.Value.bool Bool.true))])
def o57_1 (p : Params) : Obj := .mk (.type "super") .none (@PySem.Data.fields (@List.toArray PySem.Value [(r 56), (r 56), (r 56)])) #[]
def o58_1 (p : Params) : Obj := .mk (.type "builtin_function_or_method") .none (@PySem.Data.fields (@List.toArray PySem.Value [(.builtin "object.__init_subclass__"), (r 56)])) #[]
def o59_1 (p : Params) : Obj := .mk (.type "tuple") .none (@PySem.Data.seq (@List.toArray PySem.Value [(r 31)]) 0) #[]
def o60_1 (p : Params) : Obj := .mk (.type "builtin_function_or_method") .none (@PySem.Data.fields (@List.toArray PySem.Value [(.builtin "type.__prepare__"), (.type "type")])) #[]
def o61_1 (p : Params) : Obj := .mk (.type "dict") .none (dc [(e p "__module__" 253 (u "hourlanes.errors" 194)), (e p "__qualname__" 255 (u "TooMany" 254)), (e p "__firstlineno__" 257 (@PySem.Value.int (i 11) 256)), (e p "__init__" 266 (r 72)), (e p "__static_attributes__" 269 (r 73))] 5) #[]
def o62_1 (p : Params) : Obj := .mk (.type "tuple") .none (@PySem.Data.seq #[] 0) #[]
def o63_1 (p : Params) : Obj := .mk .none .none (@PySem.Data.fields (@List.toArray PySem.Value [(@PySem.Value.int (i 13) 0), (@PySem.Value.int (i 4) 0), (r 71)])) #[]
def o64_1 (p : Params) : Obj := .mk (.type "code") .none (@PySem.Data.fields (@List.toArray PySem.Value [(u "TooMany" 248), (u "TooMany" 249), (u "/claim/cut.py" 250), (@PySem.Value.int (i 11) 0), (@PySem.Value.int (i 0) 0), (@PySem.Value.int (i 0) 0), (@PySem.Value.int (i 0) 0), (@PySem.Value.int (i 0) 0), (r 62), (@PySem.Value.bool Bool.false), (@PySem.Value.int (i 181) 0), (r 63), .none, .none, .none, .none, (@PySem.Value.int (i 251) 0), (@PySem.Value.int (i 11) 0), (u "/claim/cut.py" 252)])) #[]
def o65_1 (p : Params) : Obj := .mk (.type "frame") .none PySem.Data.plain (@List.toArray (@Option PySem.Value) [(.some (r 64)), (.some (r 3)), (.some (r 61)), .none, (.some (u "hourlanes.errors" 194)), .none, (.some (r 0))])
def o66_1 (p : Params) : Obj := .mk (.type "tuple") .none (@PySem.Data.seq #[] 0) #[]
def o67_1 (p : Params) : Obj := .mk .none .none (@PySem.Data.fields #[]) #[]
def o68_1 (p : Params) : Obj := .mk (.type "tuple") .none (@PySem.Data.seq (@List.toArray PySem.Value [(u "self" 261), (u "name" 262), (u "bound" 263)]) 0) #[]
def o69_1 (p : Params) : Obj := .mk (.type "tuple") .none (@PySem.Data.seq #[] 0) #[]
def o70_1 (p : Params) : Obj := .mk .none .none (.func (.mk (s "__init__") (s "TooMany.__init__") (defArgs (inClass (tp 5) 0)) (.stmts (defBody (inClass (tp 5) 0))) (defScope (inClass (tp 5) 0)) 0 [] .none .none .none .none .none .none .none 0)) #[]
def o71_1 (p : Params) : Obj := .mk (.type "code") .none (@PySem.Data.fields (@List.toArray PySem.Value [(u "__init__" 258), (u "TooMany.__init__" 259), (u "/claim/cut.py" 260), (@PySem.Value.int (i 13) 0), (@PySem.Value.int (i 3) 0), (@PySem.Value.int (i 0) 0), (@PySem.Value.int (i 0) 0), (@PySem.Value.int (i 3) 0), (r 66), (@PySem.Value.bool Bool.true), (@PySem.Value.int (i 181) 0), (r 67), .none, (r 68), (r 69), (r 70), (@PySem.Value.int (i 264) 0), (@PySem.Value.int (i 13) 0), (u "/claim/cut.py" 265)])) #[]
def o72_1 (p : Params) : Obj := .mk (.type "function") .none (.func (.mk (s "__init__") (s "TooMany.__init__") (defArgs (inClass (tp 5) 0)) (.stmts (defBody (inClass (tp 5) 0))) (defScope (inClass (tp 5) 0)) 3 [] .none .none .none (u "hourlanes.errors" 194) .none (r 71) .none 0)) #[]
def o73_1 (p : Params) : Obj := .mk (.type "tuple") .none (@PySem.Data.seq (@List.toArray PySem.Value [(u "bound" 267), (u "name" 268)]) 0) #[]
def o74_1 (p : Params) : Obj := .mk (.type "dict") .none (dc [(e p "__module__" 253 (u "hourlanes.errors" 194)), (e p "__firstlineno__" 257 (@PySem.Value.int (i 11) 256)), (e p "__init__" 266 (r 72)), (e p "__static_attributes__" 269 (r 73)), (e p "__doc__" 270 .none)] 2) #[]
def o75_1 (p : Params) : Obj := .mk (.type "type") .none (@PySem.Data.cls (@PySem.ClassData.mk (s "TooMany") [(r 31)] [(r 75), (r 31), (.type "ValueError"), (.type "Exception"), (.type "BaseException"), (.type "object")] 74 (s "TooMany") Bool.true [] [] Bool.false .none Bool.false)) (@List.toArray (@Option PySem.Value) [(.some (r 59)), .none, (.some (u "TooMany" 246)), (.some (u "TooMany" 254)), (.some (.builtin "ValueError.__new__")), (.some (@PySem.Value.bool Bool.true))])
def o76_1 (p : Params) : Obj := .mk (.type "super") .none (@PySem.Data.fields (@List.toArray PySem.Value [(r 75), (r 75), (r 75)])) #[]
def o77_1 (p : Params) : Obj := .mk (.type "builtin_function_or_method") .none (@PySem.Data.fields (@List.toArray PySem.Value [(.builtin "object.__init_subclass__"), (r 75)])) #[]
def o78_1 (p : Params) : Obj := .mk (.type "tuple") .none (@PySem.Data.seq #[] 0) #[]
def o79_1 (p : Params) : Obj := .mk .none .none (@PySem.Data.fields #[]) #[]
def o80_1 (p : Params) : Obj := .mk (.type "tuple") .none (@PySem.Data.seq (@List.toArray PySem.Value [(u "first" 278), (u "parts" 279), (u "rows" 280), (u "ticks" 281), (u "many" 282)]) 0) #[]
def o81_1 (p : Params) : Obj := .mk (.type "tuple") .none (@PySem.Data.seq #[] 0) #[]
def o82_1 (p : Params) : Obj := .mk .none .none (.func (.mk (s "joined") (s "joined") (defArgs (tp 7)) (.stmts (defBody (tp 7))) (defScope (tp 7)) 0 [] .none .none .none .none .none .none .none 0)) #[]
def o83_1 (p : Params) : Obj := .mk (.type "code") .none (@PySem.Data.fields (@List.toArray PySem.Value [(u "joined" 275), (u "joined" 276), (u "/claim/cut.py" 277), (@PySem.Value.int (i 17) 0), (@PySem.Value.int (i 2) 0), (@PySem.Value.int (i 0) 0), (@PySem.Value.int (i 0) 0), (@PySem.Value.int (i 3) 0), (r 78), (@PySem.Value.bool Bool.true), (@PySem.Value.int (i 181) 0), (r 79), .none, (r 80), (r 81), (r 82), (@PySem.Value.int (i 283) 0), (@PySem.Value.int (i 17) 0), (u "/claim/cut.py" 284)])) #[]
def o84_1 (p : Params) : Obj := .mk (.type "function") .none (.func (.mk (s "joined") (s "joined") (defArgs (tp 7)) (.stmts (defBody (tp 7))) (defScope (tp 7)) 3 [] .none .none .none (u "hourlanes.flows" 273) .none (r 83) .none 0)) #[]
def o85_1 (p : Params) : Obj := .mk (.type "tuple") .none (@PySem.Data.seq #[] 0) #[]
def o86_1 (p : Params) : Obj := .mk (.type "builtin_function_or_method") .none (@PySem.Data.fields (@List.toArray PySem.Value [(.builtin "type.__prepare__"), (.type "type")])) #[]
def o87_1 (p : Params) : Obj := .mk (.type "dict") .none (dc [(e p "__module__" 293 (u "hourlanes.flows" 273)), (e p "__qualname__" 295 (u "Flow" 294)), (e p "__firstlineno__" 297 (@PySem.Value.int (i 27) 296)), (e p "__init__" 306 (r 99)), (e p "may" 313 (r 106)), (e p "come" 322 (r 114)), (e p "ahead" 330 (r 121)), (e p "most" 340 (r 128)), (e p "mouthfuls" 349 (r 135)), (e p "bursts" 363 (r 142)), (e p "fits" 380 (r 149)), (e p "__static_attributes__" 383 (r 150))] 12) #[]
def o88_1 (p : Params) : Obj := .mk (.type "tuple") .none (@PySem.Data.seq #[] 0) #[]
def o89_1 (p : Params) : Obj := .mk .none .none (@PySem.Data.fields (@List.toArray PySem.Value [(@PySem.Value.int (i 29) 0), (@PySem.Value.int (i 4) 0), (r 98), (@PySem.Value.int (i 37) 0), (@PySem.Value.int (i 4) 0), (r 105), (@PySem.Value.int (i 40) 0), (@PySem.Value.int (i 4) 0), (r 113), (@PySem.Value.int (i 46) 0), (@PySem.Value.int (i 4) 0), (r 120), (@PySem.Value.int (i 51) 0), (@PySem.Value.int (i 4) 0), (r 127), (@PySem.Value.int (i 57) 0), (@PySem.Value.int (i 4) 0), (r 134), (@PySem.Value.int (i 64) 0), (@PySem.Value.int (i 4) 0), (r 141), (@PySem.Value.int (i 75) 0), (@PySem.Value.int (i 4) 0), (r 148)])) #[]
def o90_1 (p : Params) : Obj := .mk (.type "code") .none (@PySem.Data.fields (@List.toArray PySem.Value [(u "Flow" 288), (u "Flow" 289), (u "/claim/cut.py" 290), (@PySem.Value.int (i 27) 0), (@PySem.Value.int (i 0) 0), (@PySem.Value.int (i 0) 0), (@PySem.Value.int (i 0) 0), (@PySem.Value.int (i 0) 0), (r 88), (@PySem.Value.bool Bool.false), (@PySem.Value.int (i 181) 0), (r 89), .none, .none, .none, .none, (@PySem.Value.int (i 291) 0), (@PySem.Value.int (i 27) 0), (u "/claim/cut.py" 292)])) #[]
def o91_1 (p : Params) : Obj := .mk (.type "frame") .none PySem.Data.plain (@List.toArray (@Option PySem.Value) [(.some (r 90)), (.some (r 3)), (.some (r 87)), .none, (.some (u "hourlanes.flows" 273)), .none, (.some (r 0))])
def o92_1 (p : Params) : Obj := .mk (.type "tuple") .none (@PySem.Data.seq (@List.toArray PySem.Value [.none]) 0) #[]
def o93_1 (p : Params) : Obj := .mk (.type "tuple") .none (@PySem.Data.seq #[] 0) #[]
def o94_1 (p : Params) : Obj := .mk .none .none (@PySem.Data.fields #[]) #[]
def o95_1 (p : Params) : Obj := .mk (.type "tuple") .none (@PySem.Data.seq (@List.toArray PySem.Value [(u "self" 301), (u "jar" 302), (u "marks" 303)]) 0) #[]
def o96_1 (p : Params) : Obj := .mk (.type "tuple") .none (@PySem.Data.seq #[] 0) #[]
def o97_1 (p : Params) : Obj := .mk .none .none (.func (.mk (s "__init__") (s "Flow.__init__") (defArgs (inClass (tp 8) 0)) (.stmts (defBody (inClass (tp 8) 0))) (defScope (inClass (tp 8) 0)) 0 [] .none .none .none .none .none .none .none 0)) #[]
def o98_1 (p : Params) : Obj := .mk (.type "code") .none (@PySem.Data.fields (@List.toArray PySem.Value [(u "__init__" 298), (u "Flow.__init__" 299), (u "/claim/cut.py" 300), (@PySem.Value.int (i 29) 0), (@PySem.Value.int (i 3) 0), (@PySem.Value.int (i 0) 0), (@PySem.Value.int (i 0) 0), (@PySem.Value.int (i 3) 0), (r 93), (@PySem.Value.bool Bool.true), (@PySem.Value.int (i 181) 0), (r 94), .none, (r 95), (r 96), (r 97), (@PySem.Value.int (i 304) 0), (@PySem.Value.int (i 29) 0), (u "/claim/cut.py" 305)])) #[]
def o99_1 (p : Params) : Obj := .mk (.type "function") .none (.func (.mk (s "__init__") (s "Flow.__init__") (defArgs (inClass (tp 8) 0)) (.stmts (defBody (inClass (tp 8) 0))) (defScope (inClass (tp 8) 0)) 3 [] (r 92) .none .none (u "hourlanes.flows" 273) .none (r 98) .none 0)) #[]
def o100_1 (p : Params) : Obj := .mk (.type "tuple") .none (@PySem.Data.seq #[] 0) #[]
def o101_1 (p : Params) : Obj := .mk .none .none (@PySem.Data.fields #[]) #[]
def o102_1 (p : Params) : Obj := .mk (.type "tuple") .none (@PySem.Data.seq (@List.toArray PySem.Value [(u "self" 310)]) 0) #[]
def o103_1 (p : Params) : Obj := .mk (.type "tuple") .none (@PySem.Data.seq #[] 0) #[]
def o104_1 (p : Params) : Obj := .mk .none .none (.func (.mk (s "may") (s "Flow.may") (defArgs (inClass (tp 8) 1)) (.stmts (defBody (inClass (tp 8) 1))) (defScope (inClass (tp 8) 1)) 0 [] .none .none .none .none .none .none .none 0)) #[]
def o105_1 (p : Params) : Obj := .mk (.type "code") .none (@PySem.Data.fields (@List.toArray PySem.Value [(u "may" 307), (u "Flow.may" 308), (u "/claim/cut.py" 309), (@PySem.Value.int (i 37) 0), (@PySem.Value.int (i 1) 0), (@PySem.Value.int (i 0) 0), (@PySem.Value.int (i 0) 0), (@PySem.Value.int (i 3) 0), (r 100), (@PySem.Value.bool Bool.true), (@PySem.Value.int (i 181) 0), (r 101), .none, (r 102), (r 103), (r 104), (@PySem.Value.int (i 311) 0), (@PySem.Value.int (i 37) 0), (u "/claim/cut.py" 312)])) #[]
def o106_1 (p : Params) : Obj := .mk (.type "function") .none (.func (.mk (s "may") (s "Flow.may") (defArgs (inClass (tp 8) 1)) (.stmts (defBody (inClass (tp 8) 1))) (defScope (inClass (tp 8) 1)) 3 [] .none .none .none (u "hourlanes.flows" 273) .none (r 105) .none 0)) #[]
def o107_1 (p : Params) : Obj := .mk (.type "tuple") .none (@PySem.Data.seq (@List.toArray PySem.Value [(@PySem.Value.int (i 0) 314)]) 0) #[]
def o108_1 (p : Params) : Obj := .mk (.type "tuple") .none (@PySem.Data.seq #[] 0) #[]
def o109_1 (p : Params) : Obj := .mk .none .none (@PySem.Data.fields #[]) #[]
def o110_1 (p : Params) : Obj := .mk (.type "tuple") .none (@PySem.Data.seq (@List.toArray PySem.Value [(u "self" 318), (u "many" 319)]) 0) #[]
def o111_1 (p : Params) : Obj := .mk (.type "tuple") .none (@PySem.Data.seq #[] 0) #[]
def o112_1 (p : Params) : Obj := .mk .none .none (.func (.mk (s "come") (s "Flow.come") (defArgs (inClass (tp 8) 2)) (.stmts (defBody (inClass (tp 8) 2))) (defScope (inClass (tp 8) 2)) 0 [] .none .none .none .none .none .none .none 0)) #[]
def o113_1 (p : Params) : Obj := .mk (.type "code") .none (@PySem.Data.fields (@List.toArray PySem.Value [(u "come" 315), (u "Flow.come" 316), (u "/claim/cut.py" 317), (@PySem.Value.int (i 40) 0), (@PySem.Value.int (i 2) 0), (@PySem.Value.int (i 0) 0), (@PySem.Value.int (i 0) 0), (@PySem.Value.int (i 3) 0), (r 108), (@PySem.Value.bool Bool.true), (@PySem.Value.int (i 181) 0), (r 109), .none, (r 110), (r 111), (r 112), (@PySem.Value.int (i 320) 0), (@PySem.Value.int (i 40) 0), (u "/claim/cut.py" 321)])) #[]
def o114_1 (p : Params) : Obj := .mk (.type "function") .none (.func (.mk (s "come") (s "Flow.come") (defArgs (inClass (tp 8) 2)) (.stmts (defBody (inClass (tp 8) 2))) (defScope (inClass (tp 8) 2)) 3 [] (r 107) .none .none (u "hourlanes.flows" 273) .none (r 113) .none 0)) #[]
def o115_1 (p : Params) : Obj := .mk (.type "tuple") .none (@PySem.Data.seq #[] 0) #[]
def o116_1 (p : Params) : Obj := .mk .none .none (@PySem.Data.fields #[]) #[]
def o117_1 (p : Params) : Obj := .mk (.type "tuple") .none (@PySem.Data.seq (@List.toArray PySem.Value [(u "self" 326), (u "ticks" 327)]) 0) #[]
def o118_1 (p : Params) : Obj := .mk (.type "tuple") .none (@PySem.Data.seq #[] 0) #[]
def o119_1 (p : Params) : Obj := .mk .none .none (.func (.mk (s "ahead") (s "Flow.ahead") (defArgs (inClass (tp 8) 3)) (.stmts (defBody (inClass (tp 8) 3))) (defScope (inClass (tp 8) 3)) 0 [] .none .none .none .none .none .none .none 0)) #[]
def o120_1 (p : Params) : Obj := .mk (.type "code") .none (@PySem.Data.fields (@List.toArray PySem.Value [(u "ahead" 323), (u "Flow.ahead" 324), (u "/claim/cut.py" 325), (@PySem.Value.int (i 46) 0), (@PySem.Value.int (i 2) 0), (@PySem.Value.int (i 0) 0), (@PySem.Value.int (i 0) 0), (@PySem.Value.int (i 3) 0), (r 115), (@PySem.Value.bool Bool.true), (@PySem.Value.int (i 181) 0), (r 116), .none, (r 117), (r 118), (r 119), (@PySem.Value.int (i 328) 0), (@PySem.Value.int (i 46) 0), (u "/claim/cut.py" 329)])) #[]
def o121_1 (p : Params) : Obj := .mk (.type "function") .none (.func (.mk (s "ahead") (s "Flow.ahead") (defArgs (inClass (tp 8) 3)) (.stmts (defBody (inClass (tp 8) 3))) (defScope (inClass (tp 8) 3)) 3 [] .none .none .none (u "hourlanes.flows" 273) .none (r 120) .none 0)) #[]
def o122_1 (p : Params) : Obj := .mk (.type "tuple") .none (@PySem.Data.seq #[] 0) #[]
def o123_1 (p : Params) : Obj := .mk .none .none (@PySem.Data.fields #[]) #[]
def o124_1 (p : Params) : Obj := .mk (.type "tuple") .none (@PySem.Data.seq (@List.toArray PySem.Value [(u "self" 334), (u "after" 335), (u "ticks" 336), (u "marks" 337)]) 0) #[]
def o125_1 (p : Params) : Obj := .mk (.type "tuple") .none (@PySem.Data.seq #[] 0) #[]
def o126_1 (p : Params) : Obj := .mk .none .none (.func (.mk (s "most") (s "Flow.most") (defArgs (inClass (tp 8) 4)) (.stmts (defBody (inClass (tp 8) 4))) (defScope (inClass (tp 8) 4)) 0 [] .none .none .none .none .none .none .none 0)) #[]
def o127_1 (p : Params) : Obj := .mk (.type "code") .none (@PySem.Data.fields (@List.toArray PySem.Value [(u "most" 331), (u "Flow.most" 332), (u "/claim/cut.py" 333), (@PySem.Value.int (i 51) 0), (@PySem.Value.int (i 3) 0), (@PySem.Value.int (i 0) 0), (@PySem.Value.int (i 0) 0), (@PySem.Value.int (i 3) 0), (r 122), (@PySem.Value.bool Bool.true), (@PySem.Value.int (i 181) 0), (r 123), .none, (r 124), (r 125), (r 126), (@PySem.Value.int (i 338) 0), (@PySem.Value.int (i 51) 0), (u "/claim/cut.py" 339)])) #[]
def o128_1 (p : Params) : Obj := .mk (.type "function") .none (.func (.mk (s "most") (s "Flow.most") (defArgs (inClass (tp 8) 4)) (.stmts (defBody (inClass (tp 8) 4))) (defScope (inClass (tp 8) 4)) 3 [] .none .none .none (u "hourlanes.flows" 273) .none (r 127) .none 0)) #[]
def o129_1 (p : Params) : Obj := .mk (.type "tuple") .none (@PySem.Data.seq #[] 0) #[]
def o130_1 (p : Params) : Obj := .mk .none .none (@PySem.Data.fields #[]) #[]
def o131_1 (p : Params) : Obj := .mk (.type "tuple") .none (@PySem.Data.seq (@List.toArray PySem.Value [(u "self" 344), (u "marks" 345), (u "ticks" 346)]) 0) #[]
def o132_1 (p : Params) : Obj := .mk (.type "tuple") .none (@PySem.Data.seq #[] 0) #[]
def o133_1 (p : Params) : Obj := .mk .none .none (.func (.mk (s "mouthfuls") (s "Flow.mouthfuls") (defArgs (inClass (tp 8) 5)) (.stmts (defBody (inClass (tp 8) 5))) (defScope (inClass (tp 8) 5)) 0 [] .none .none .none .none .none .none .none 0)) #[]
def o134_1 (p : Params) : Obj := .mk (.type "code") .none (@PySem.Data.fields (@List.toArray PySem.Value [(u "mouthfuls" 341), (u "Flow.mouthfuls" 342), (u "/claim/cut.py" 343), (@PySem.Value.int (i 57) 0), (@PySem.Value.int (i 3) 0), (@PySem.Value.int (i 0) 0), (@PySem.Value.int (i 0) 0), (@PySem.Value.int (i 3) 0), (r 129), (@PySem.Value.bool Bool.true), (@PySem.Value.int (i 181) 0), (r 130), .none, (r 131), (r 132), (r 133), (@PySem.Value.int (i 347) 0), (@PySem.Value.int (i 57) 0), (u "/claim/cut.py" 348)])) #[]
def o135_1 (p : Params) : Obj := .mk (.type "function") .none (.func (.mk (s "mouthfuls") (s "Flow.mouthfuls") (defArgs (inClass (tp 8) 5)) (.stmts (defBody (inClass (tp 8) 5))) (defScope (inClass (tp 8) 5)) 3 [] .none .none .none (u "hourlanes.flows" 273) .none (r 134) .none 0)) #[]
def o136_1 (p : Params) : Obj := .mk (.type "tuple") .none (@PySem.Data.seq #[] 0) #[]
def o137_1 (p : Params) : Obj := .mk .none .none (@PySem.Data.fields #[]) #[]
def o138_1 (p : Params) : Obj := .mk (.type "tuple") .none (@PySem.Data.seq (@List.toArray PySem.Value [(u "self" 353), (u "after" 354), (u "ticks" 355), (u "marks" 356), (u "rate" 357), (u "mouth" 358), (u "full" 359), (u "left" 360)]) 0) #[]
def o139_1 (p : Params) : Obj := .mk (.type "tuple") .none (@PySem.Data.seq #[] 0) #[]
def o140_1 (p : Params) : Obj := .mk .none .none (.func (.mk (s "bursts") (s "Flow.bursts") (defArgs (inClass (tp 8) 6)) (.stmts (defBody (inClass (tp 8) 6))) (defScope (inClass (tp 8) 6)) 0 [] .none .none .none .none .none .none .none 0)) #[]
def o141_1 (p : Params) : Obj := .mk (.type "code") .none (@PySem.Data.fields (@List.toArray PySem.Value [(u "bursts" 350), (u "Flow.bursts" 351), (u "/claim/cut.py" 352), (@PySem.Value.int (i 64) 0), (@PySem.Value.int (i 3) 0), (@PySem.Value.int (i 0) 0), (@PySem.Value.int (i 0) 0), (@PySem.Value.int (i 3) 0), (r 136), (@PySem.Value.bool Bool.true), (@PySem.Value.int (i 181) 0), (r 137), .none, (r 138), (r 139), (r 140), (@PySem.Value.int (i 361) 0), (@PySem.Value.int (i 64) 0), (u "/claim/cut.py" 362)])) #[]
def o142_1 (p : Params) : Obj := .mk (.type "function") .none (.func (.mk (s "bursts") (s "Flow.bursts") (defArgs (inClass (tp 8) 6)) (.stmts (defBody (inClass (tp 8) 6))) (defScope (inClass (tp 8) 6)) 3 [] .none .none .none (u "hourlanes.flows" 273) .none (r 141) .none 0)) #[]
def o143_1 (p : Params) : Obj := .mk (.type "tuple") .none (@PySem.Data.seq #[] 0) #[]
def o144_1 (p : Params) : Obj := .mk .none .none (@PySem.Data.fields #[]) #[]
def o145_1 (p : Params) : Obj := .mk (.type "tuple") .none (@PySem.Data.seq (@List.toArray PySem.Value [(u "self" 367), (u "rows" 368), (u "size" 369), (u "rate" 370), (u "mouth" 371), (u "marks" 372), (u "at" 373), (u "first" 374), (u "ticks" 375), (u "many" 376), (u "loss" 377)]) 0) #[]
def o146_1 (p : Params) : Obj := .mk (.type "tuple") .none (@PySem.Data.seq #[] 0) #[]
def o147_1 (p : Params) : Obj := .mk .none .none (.func (.mk (s "fits") (s "Flow.fits") (defArgs (inClass (tp 8) 7)) (.stmts (defBody (inClass (tp 8) 7))) (defScope (inClass (tp 8) 7)) 0 [] .none .none .none .none .none .none .none 0)) #[]
def o148_1 (p : Params) : Obj := .mk (.type "code") .none (@PySem.Data.fields (@List.toArray PySem.Value [(u "fits" 364), (u "Flow.fits" 365), (u "/claim/cut.py" 366), (@PySem.Value.int (i 75) 0), (@PySem.Value.int (i 2) 0), (@PySem.Value.int (i 0) 0), (@PySem.Value.int (i 0) 0), (@PySem.Value.int (i 3) 0), (r 143), (@PySem.Value.bool Bool.true), (@PySem.Value.int (i 181) 0), (r 144), .none, (r 145), (r 146), (r 147), (@PySem.Value.int (i 378) 0), (@PySem.Value.int (i 75) 0), (u "/claim/cut.py" 379)])) #[]
def o149_1 (p : Params) : Obj := .mk (.type "function") .none (.func (.mk (s "fits") (s "Flow.fits") (defArgs (inClass (tp 8) 7)) (.stmts (defBody (inClass (tp 8) 7))) (defScope (inClass (tp 8) 7)) 3 [] .none .none .none (u "hourlanes.flows" 273) .none (r 148) .none 0)) #[]
def o150_1 (p : Params) : Obj := .mk (.type "tuple") .none (@PySem.Data.seq (@List.toArray PySem.Value [(u "jar" 381), (u "marks" 382)]) 0) #[]
def o151_1 (p : Params) : Obj := .mk (.type "dict") .none (dc [(e p "__module__" 293 (u "hourlanes.flows" 273)), (e p "__firstlineno__" 297 (@PySem.Value.int (i 27) 296)), (e p "__init__" 306 (r 99)), (e p "may" 313 (r 106)), (e p "come" 322 (r 114)), (e p "ahead" 330 (r 121)), (e p "most" 340 (r 128)), (e p "mouthfuls" 349 (r 135)), (e p "bursts" 363 (r 142)), (e p "fits" 380 (r 149)), (e p "__static_attributes__" 383 (r 150)), (e p "__dict__" 385 (r 153)), (e p "__weakref__" 387 (r 154)), (e p "__doc__" 388 .none)] 4) #[]
def o152_1 (p : Params) : Obj := .mk (.type "type") .none (@PySem.Data.cls (@PySem.ClassData.mk (s "Flow") [(.type "object")] [(r 152), (.type "object")] 151 (s "Flow") Bool.true [] [] Bool.false .none Bool.false)) (@List.toArray (@Option PySem.Value) [.none, .none, (.some (u "Flow" 286)), (.some (u "Flow" 294)), (.some (.builtin "object.__new__")), (.some (@PySem.Value.bool Bool.true))])
def o153_1 (p : Params) : Obj := .mk (.type "getset_descriptor") .none (@PySem.Data.fields (@List.toArray PySem.Value [(u "__dict__" 384), (r 152), (.builtin "function.__dict__"), (.builtin "function.__dict__#set")])) #[]
def o154_1 (p : Params) : Obj := .mk (.type "getset_descriptor") .none (@PySem.Data.fields (@List.toArray PySem.Value [(u "__weakref__" 386), (r 152), (.builtin "ExceptionGroup.__weakref__"), .none])) #[]
def o155_1 (p : Params) : Obj := .mk (.type "super") .none (@PySem.Data.fields (@List.toArray PySem.Value [(r 152), (r 152), (r 152)])) #[]
def o156_1 (p : Params) : Obj := .mk (.type "builtin_function_or_method") .none (@PySem.Data.fields (@List.toArray PySem.Value [(.builtin "object.__init_subclass__"), (r 152)])) #[]
def t1_0 (p : Params) : BT := (.node (o15_1 p) (.node (o31_1 p) (.node (o63_1 p) (.node (o127_1 p) .nil .nil) .nil) (.node (o95_1 p) .nil .nil)) (.node (o47_1 p) (.node (o79_1 p) (.node (o143_1 p) .nil .nil) .nil) (.node (o111_1 p) .nil .nil)))
def t1_1 (p : Params) : BT := (.node (o16_1 p) (.node (o32_1 p) (.node (o64_1 p) (.node (o128_1 p) .nil .nil) .nil) (.node (o96_1 p) .nil .nil)) (.node (o48_1 p) (.node (o80_1 p) (.node (o144_1 p) .nil .nil) .nil) (.node (o112_1 p) .nil .nil)))
def t1_2 (p : Params) : BT := (.node (o17_1 p) (.node (o33_1 p) (.node (o65_1 p) (.node (o129_1 p) .nil .nil) .nil) (.node (o97_1 p) .nil .nil)) (.node (o49_1 p) (.node (o81_1 p) (.node (o145_1 p) .nil .nil) .nil) (.node (o113_1 p) .nil .nil)))
def t1_3 (p : Params) : BT := (.node (o18_1 p) (.node (o34_1 p) (.node (o66_1 p) (.node (o130_1 p) .nil .nil) .nil) (.node (o98_1 p) .nil .nil)) (.node (o50_1 p) (.node (o82_1 p) (.node (o146_1 p) .nil .nil) .nil) (.node (o114_1 p) .nil .nil)))
def t1_4 (p : Params) : BT := (.node (o19_1 p) (.node (o35_1 p) (.node (o67_1 p) (.node (o131_1 p) .nil .nil) .nil) (.node (o99_1 p) .nil .nil)) (.node (o51_1 p) (.node (o83_1 p) (.node (o147_1 p) .nil .nil) .nil) (.node (o115_1 p) .nil .nil)))
def t1_5 (p : Params) : BT := (.node (o20_1 p) (.node (o36_1 p) (.node (o68_1 p) (.node (o132_1 p) .nil .nil) .nil) (.node (o100_1 p) .nil .nil)) (.node (o52_1 p) (.node (o84_1 p) (.node (o148_1 p) .nil .nil) .nil) (.node (o116_1 p) .nil .nil)))
def t1_6 (p : Params) : BT := (.node (o21_1 p) (.node (o37_1 p) (.node (o69_1 p) (.node (o133_1 p) .nil .nil) .nil) (.node (o101_1 p) .nil .nil)) (.node (o53_1 p) (.node (o85_1 p) (.node (o149_1 p) .nil .nil) .nil) (.node (o117_1 p) .nil .nil)))
def t1_7 (p : Params) : BT := (.node (o22_1 p) (.node (o38_1 p) (.node (o70_1 p) (.node (o134_1 p) .nil .nil) .nil) (.node (o102_1 p) .nil .nil)) (.node (o54_1 p) (.node (o86_1 p) (.node (o150_1 p) .nil .nil) .nil) (.node (o118_1 p) .nil .nil)))
def t1_8 (p : Params) : BT := (.node (o23_1 p) (.node (o39_1 p) (.node (o71_1 p) (.node (o135_1 p) .nil .nil) .nil) (.node (o103_1 p) .nil .nil)) (.node (o55_1 p) (.node (o87_1 p) (.node (o151_1 p) .nil .nil) .nil) (.node (o119_1 p) .nil .nil)))
def t1_9 (p : Params) : BT := (.node (o24_1 p) (.node (o40_1 p) (.node (o72_1 p) (.node (o136_1 p) .nil .nil) .nil) (.node (o104_1 p) .nil .nil)) (.node (o56_1 p) (.node (o88_1 p) (.node (o152_1 p) .nil .nil) .nil) (.node (o120_1 p) .nil .nil)))
def t1_10 (p : Params) : BT := (.node (o25_1 p) (.node (o41_1 p) (.node (o73_1 p) (.node (o137_1 p) .nil .nil) .nil) (.node (o105_1 p) .nil .nil)) (.node (o57_1 p) (.node (o89_1 p) (.node (o153_1 p) .nil .nil) .nil) (.node (o121_1 p) .nil .nil)))
def t1_11 (p : Params) : BT := (.node (o26_1 p) (.node (o42_1 p) (.node (o74_1 p) (.node (o138_1 p) .nil .nil) .nil) (.node (o106_1 p) .nil .nil)) (.node (o58_1 p) (.node (o90_1 p) (.node (o154_1 p) .nil .nil) .nil) (.node (o122_1 p) .nil .nil)))
def t1_12 (p : Params) : BT := (.node (o27_1 p) (.node (o43_1 p) (.node (o75_1 p) (.node (o139_1 p) .nil .nil) .nil) (.node (o107_1 p) .nil .nil)) (.node (o59_1 p) (.node (o91_1 p) (.node (o155_1 p) .nil .nil) .nil) (.node (o123_1 p) .nil .nil)))
def t1_13 (p : Params) : BT := (.node (o28_1 p) (.node (o44_1 p) (.node (o76_1 p) (.node (o140_1 p) .nil .nil) .nil) (.node (o108_1 p) .nil .nil)) (.node (o60_1 p) (.node (o92_1 p) (.node (o156_1 p) .nil .nil) .nil) (.node (o124_1 p) .nil .nil)))
def t1_14 (p : Params) : BT := (.node (o29_1 p) (.node (o45_1 p) (.node (o77_1 p) (.node (o141_1 p) .nil .nil) .nil) (.node (o109_1 p) .nil .nil)) (.node (o61_1 p) (.node (o93_1 p) .nil .nil) (.node (o125_1 p) .nil .nil)))
def t1_15 (p : Params) : BT := (.node (o30_1 p) (.node (o46_1 p) (.node (o78_1 p) (.node (o142_1 p) .nil .nil) .nil) (.node (o110_1 p) .nil .nil)) (.node (o62_1 p) (.node (o94_1 p) .nil .nil) (.node (o126_1 p) .nil .nil)))
def tree1 (p : Params) : BT := (.node (boot_o_0 p) (.node (boot_o_1 p) (.node (o3_1 p) (.node (boot_o_7 p) (t1_0 p) (t1_8 p)) (.node (o11_1 p) (t1_4 p) (t1_12 p))) (.node (boot_o_5 p) (.node (boot_o_9 p) (t1_2 p) (t1_10 p)) (.node (o13_1 p) (t1_6 p) (t1_14 p)))) (.node (boot_o_2 p) (.node (boot_o_4 p) (.node (boot_o_8 p) (t1_1 p) (t1_9 p)) (.node (o12_1 p) (t1_5 p) (t1_13 p))) (.node (boot_o_6 p) (.node (boot_o_10 p) (t1_3 p) (t1_11 p)) (.node (o14_1 p) (t1_7 p) (t1_15 p)))))
def st1 (w : World) (os : OsState) : SharedT := ⟨tree1 w.params, 157, (@PySem.Life.mk [] [] [] 0 [] [] Bool.false #[] [] 0 Bool.false Bool.false Bool.false (i 0) [(i 2000), (i 10), (i 10)] Bool.false 0 Bool.true [] [] 0 Bool.false), #[], (@PySem.Drawn.mk 0 0 0 0), 393, os⟩
def th1 : Thread := thrOf (pg.main.body.drop 10) envT codT (@PySem.Pos.mk 88 0 88 8) frT
theorem run1 (w : World) (os : OsState) : bootS (stepQ (denQ tabQ) pg w) 1428 pg w os = some (11, st1 w os, th1) := by kernel_rfl
def o3_2 (p : Params) : Obj := .mk (.type "dict") .none (dc [(e p "__name__" 165 (u "law_hourlanes_k71_rooms_met_and_never_passed" 639)), (e p "__doc__" 166 .none), (e p "__package__" 167 .none), (e p "__loader__" 168 (.builtin "__main__.__loader__#opaque")), (e p "__spec__" 169 .none), (e p "__annotations__" 170 (r 6)), (e p "__builtins__" 171 (r 4)), (e p "__file__" 173 (u "/claim/cut.py" 172)), (e p "__cached__" 174 .none), (e p "_wall" 193 (r 21)), (e p "LaneError" 213 (r 31)), (e p "NoJar" 229 (r 44)), (e p "NoTick" 245 (r 56)), (e p "TooMany" 272 (r 75)), (e p "joined" 285 (r 84)), (e p "Flow" 390 (r 152)), (e p "window" 402 (r 163)), (e p "Scene" 509 (r 240)), (e p "quiet" 526 (r 251)), (e p "starts" 532 (r 256)), (e p "comes_in" 540 (r 261)), (e p "lasts" 546 (r 266)), (e p "room" 552 (r 271)), (e p "swell" 571 (r 278)), (e p "MOST" 575 (@PySem.Value.int (i 1000000000) 574)), (e p "Jar" 638 (r 323)), (e p "_law_begun" 646 (r 332)), (e p "_law_take" 659 (r 339)), (e p "_law_pick" 667 (r 346)), (e p "_law_whole" 674 (r 353)), (e p "_law_small_scene" 680 (r 358)), (e p "_law_made" 686 (r 363)), (e p "_law_is_room" 692 (r 368)), (e p "_law_fit" 698 (r 373)), (e p "_law_met" 704 (r 378)), (e p "_law_stood" 710 (r 383)), (e p "_law_highest" 716 (r 388)), (e p "law" 722 (r 393))] 38) #[]
def o12_2 (p : Params) : Obj := .mk .none .none (@PySem.Data.fields (@List.toArray PySem.Value [(@PySem.Value.int (i 1) 0), (@PySem.Value.int (i 0) 0), (r 20), (@PySem.Value.int (i 5) 0), (@PySem.Value.int (i 0) 0), (r 27), (@PySem.Value.int (i 7) 0), (@PySem.Value.int (i 0) 0), (r 40), (@PySem.Value.int (i 9) 0), (@PySem.Value.int (i 0) 0), (r 52), (@PySem.Value.int (i 11) 0), (@PySem.Value.int (i 0) 0), (r 64), (@PySem.Value.int (i 17) 0), (@PySem.Value.int (i 0) 0), (r 83), (@PySem.Value.int (i 27) 0), (@PySem.Value.int (i 0) 0), (r 90), (@PySem.Value.int (i 89) 0), (@PySem.Value.int (i 0) 0), (r 162), (@PySem.Value.int (i 92) 0), (@PySem.Value.int (i 0) 0), (r 169), (@PySem.Value.int (i 128) 0), (@PySem.Value.int (i 0) 0), (r 250), (@PySem.Value.int (i 136) 0), (@PySem.Value.int (i 0) 0), (r 255), (@PySem.Value.int (i 139) 0), (@PySem.Value.int (i 0) 0), (r 260), (@PySem.Value.int (i 145) 0), (@PySem.Value.int (i 0) 0), (r 265), (@PySem.Value.int (i 156) 0), (@PySem.Value.int (i 0) 0), (r 270), (@PySem.Value.int (i 166) 0), (@PySem.Value.int (i 0) 0), (r 277), (@PySem.Value.int (i 175) 0), (@PySem.Value.int (i 0) 0), (r 284), (@PySem.Value.int (i 196) 0), (@PySem.Value.int (i 0) 0), (r 331), (@PySem.Value.int (i 198) 0), (@PySem.Value.int (i 0) 0), (r 338), (@PySem.Value.int (i 212) 0), (@PySem.Value.int (i 0) 0), (r 345), (@PySem.Value.int (i 214) 0), (@PySem.Value.int (i 0) 0), (r 352), (@PySem.Value.int (i 216) 0), (@PySem.Value.int (i 0) 0), (r 357), (@PySem.Value.int (i 232) 0), (@PySem.Value.int (i 0) 0), (r 362), (@PySem.Value.int (i 236) 0), (@PySem.Value.int (i 0) 0), (r 367), (@PySem.Value.int (i 240) 0), (@PySem.Value.int (i 0) 0), (r 372), (@PySem.Value.int (i 254) 0), (@PySem.Value.int (i 0) 0), (r 377), (@PySem.Value.int (i 262) 0), (@PySem.Value.int (i 0) 0), (r 382), (@PySem.Value.int (i 270) 0), (@PySem.Value.int (i 0) 0), (r 387), (@PySem.Value.int (i 287) 0), (@PySem.Value.int (i 0) 0), (r 392)])) #[]
def o157_2 (p : Params) : Obj := .mk (.type "tuple") .none (@PySem.Data.seq #[] 0) #[]
def o158_2 (p : Params) : Obj := .mk .none .none (@PySem.Data.fields #[]) #[]
def o159_2 (p : Params) : Obj := .mk (.type "tuple") .none (@PySem.Data.seq (@List.toArray PySem.Value [(u "now" 396), (u "first" 397), (u "last" 398), (u "begin" 399)]) 0) #[]
def o160_2 (p : Params) : Obj := .mk (.type "tuple") .none (@PySem.Data.seq #[] 0) #[]
def o161_2 (p : Params) : Obj := .mk .none .none (.func (.mk (s "window") (s "window") (defArgs (tp 10)) (.stmts (defBody (tp 10))) (defScope (tp 10)) 0 [] .none .none .none .none .none .none .none 0)) #[]
def o162_2 (p : Params) : Obj := .mk (.type "code") .none (@PySem.Data.fields (@List.toArray PySem.Value [(u "window" 393), (u "window" 394), (u "/claim/cut.py" 395), (@PySem.Value.int (i 89) 0), (@PySem.Value.int (i 3) 0), (@PySem.Value.int (i 0) 0), (@PySem.Value.int (i 0) 0), (@PySem.Value.int (i 3) 0), (r 157), (@PySem.Value.bool Bool.true), (@PySem.Value.int (i 181) 0), (r 158), .none, (r 159), (r 160), (r 161), (@PySem.Value.int (i 400) 0), (@PySem.Value.int (i 89) 0), (u "/claim/cut.py" 401)])) #[]
def o163_2 (p : Params) : Obj := .mk (.type "function") .none (.func (.mk (s "window") (s "window") (defArgs (tp 10)) (.stmts (defBody (tp 10))) (defScope (tp 10)) 3 [] .none .none .none (u "hourlanes.scenes" 391) .none (r 162) .none 0)) #[]
def o164_2 (p : Params) : Obj := .mk (.type "tuple") .none (@PySem.Data.seq #[] 0) #[]
def o165_2 (p : Params) : Obj := .mk (.type "builtin_function_or_method") .none (@PySem.Data.fields (@List.toArray PySem.Value [(.builtin "type.__prepare__"), (.type "type")])) #[]
def o166_2 (p : Params) : Obj := .mk (.type "dict") .none (dc [(e p "__module__" 410 (u "hourlanes.scenes" 391)), (e p "__qualname__" 412 (u "Scene" 411)), (e p "__firstlineno__" 414 (@PySem.Value.int (i 92) 413)), (e p "__init__" 421 (r 176)), (e p "known_rows" 428 (r 183)), (e p "ask_rows" 434 (r 188)), (e p "need_known" 443 (r 195)), (e p "need_asked" 452 (r 202)), (e p "need" 461 (r 209)), (e p "holds" 470 (r 216)), (e p "with_ask" 480 (r 223)), (e p "with_width" 488 (r 230)), (e p "with_opens" 496 (r 237)), (e p "__static_attributes__" 502 (r 238))] 14) #[]
def o167_2 (p : Params) : Obj := .mk (.type "tuple") .none (@PySem.Data.seq #[] 0) #[]
def o168_2 (p : Params) : Obj := .mk .none .none (@PySem.Data.fields (@List.toArray PySem.Value [(@PySem.Value.int (i 94) 0), (@PySem.Value.int (i 4) 0), (r 175), (@PySem.Value.int (i 101) 0), (@PySem.Value.int (i 4) 0), (r 182), (@PySem.Value.int (i 104) 0), (@PySem.Value.int (i 4) 0), (r 187), (@PySem.Value.int (i 107) 0), (@PySem.Value.int (i 4) 0), (r 194), (@PySem.Value.int (i 110) 0), (@PySem.Value.int (i 4) 0), (r 201), (@PySem.Value.int (i 113) 0), (@PySem.Value.int (i 4) 0), (r 208), (@PySem.Value.int (i 116) 0), (@PySem.Value.int (i 4) 0), (r 215), (@PySem.Value.int (i 119) 0), (@PySem.Value.int (i 4) 0), (r 222), (@PySem.Value.int (i 122) 0), (@PySem.Value.int (i 4) 0), (r 229), (@PySem.Value.int (i 125) 0), (@PySem.Value.int (i 4) 0), (r 236)])) #[]
def o169_2 (p : Params) : Obj := .mk (.type "code") .none (@PySem.Data.fields (@List.toArray PySem.Value [(u "Scene" 405), (u "Scene" 406), (u "/claim/cut.py" 407), (@PySem.Value.int (i 92) 0), (@PySem.Value.int (i 0) 0), (@PySem.Value.int (i 0) 0), (@PySem.Value.int (i 0) 0), (@PySem.Value.int (i 0) 0), (r 167), (@PySem.Value.bool Bool.false), (@PySem.Value.int (i 181) 0), (r 168), .none, .none, .none, .none, (@PySem.Value.int (i 408) 0), (@PySem.Value.int (i 92) 0), (u "/claim/cut.py" 409)])) #[]
def o170_2 (p : Params) : Obj := .mk (.type "frame") .none PySem.Data.plain (@List.toArray (@Option PySem.Value) [(.some (r 169)), (.some (r 3)), (.some (r 166)), .none, (.some (u "hourlanes.scenes" 391)), .none, (.some (r 0))])
def o171_2 (p : Params) : Obj := .mk (.type "tuple") .none (@PySem.Data.seq (@List.toArray PySem.Value [(@PySem.Value.int (i 0) 415)]) 0) #[]
def o172_2 (p : Params) : Obj := .mk (.type "tuple") .none (@PySem.Data.seq #[] 0) #[]
def o173_2 (p : Params) : Obj := .mk .none .none (@PySem.Data.fields #[]) #[]
def o174_2 (p : Params) : Obj := .mk .none .none (.func (.mk (s "__init__") (s "Scene.__init__") (defArgs (inClass (tp 11) 0)) (.stmts (defBody (inClass (tp 11) 0))) (defScope (inClass (tp 11) 0)) 0 [] .none .none .none .none .none .none .none 0)) #[]
def o175_2 (p : Params) : Obj := .mk (.type "code") .none (@PySem.Data.fields (@List.toArray PySem.Value [(u "__init__" 416), (u "Scene.__init__" 417), (u "/claim/cut.py" 418), (@PySem.Value.int (i 94) 0), (@PySem.Value.int (i 6) 0), (@PySem.Value.int (i 0) 0), (@PySem.Value.int (i 0) 0), (@PySem.Value.int (i 3) 0), (r 172), (@PySem.Value.bool Bool.true), (@PySem.Value.int (i 181) 0), (r 173), .none, .none, .none, (r 174), (@PySem.Value.int (i 419) 0), (@PySem.Value.int (i 94) 0), (u "/claim/cut.py" 420)])) #[]
def o176_2 (p : Params) : Obj := .mk (.type "function") .none (.func (.mk (s "__init__") (s "Scene.__init__") (defArgs (inClass (tp 11) 0)) (.stmts (defBody (inClass (tp 11) 0))) (defScope (inClass (tp 11) 0)) 3 [] (r 171) .none .none (u "hourlanes.scenes" 391) .none (r 175) .none 0)) #[]
def o177_2 (p : Params) : Obj := .mk (.type "tuple") .none (@PySem.Data.seq #[] 0) #[]
def o178_2 (p : Params) : Obj := .mk .none .none (@PySem.Data.fields #[]) #[]
def o179_2 (p : Params) : Obj := .mk (.type "tuple") .none (@PySem.Data.seq (@List.toArray PySem.Value [(u "self" 425)]) 0) #[]
def o180_2 (p : Params) : Obj := .mk (.type "tuple") .none (@PySem.Data.seq #[] 0) #[]
def o181_2 (p : Params) : Obj := .mk .none .none (.func (.mk (s "known_rows") (s "Scene.known_rows") (defArgs (inClass (tp 11) 1)) (.stmts (defBody (inClass (tp 11) 1))) (defScope (inClass (tp 11) 1)) 0 [] .none .none .none .none .none .none .none 0)) #[]
def o182_2 (p : Params) : Obj := .mk (.type "code") .none (@PySem.Data.fields (@List.toArray PySem.Value [(u "known_rows" 422), (u "Scene.known_rows" 423), (u "/claim/cut.py" 424), (@PySem.Value.int (i 101) 0), (@PySem.Value.int (i 1) 0), (@PySem.Value.int (i 0) 0), (@PySem.Value.int (i 0) 0), (@PySem.Value.int (i 3) 0), (r 177), (@PySem.Value.bool Bool.true), (@PySem.Value.int (i 181) 0), (r 178), .none, (r 179), (r 180), (r 181), (@PySem.Value.int (i 426) 0), (@PySem.Value.int (i 101) 0), (u "/claim/cut.py" 427)])) #[]
def o183_2 (p : Params) : Obj := .mk (.type "function") .none (.func (.mk (s "known_rows") (s "Scene.known_rows") (defArgs (inClass (tp 11) 1)) (.stmts (defBody (inClass (tp 11) 1))) (defScope (inClass (tp 11) 1)) 3 [] .none .none .none (u "hourlanes.scenes" 391) .none (r 182) .none 0)) #[]
def o184_2 (p : Params) : Obj := .mk (.type "tuple") .none (@PySem.Data.seq #[] 0) #[]
def o185_2 (p : Params) : Obj := .mk .none .none (@PySem.Data.fields #[]) #[]
def o186_2 (p : Params) : Obj := .mk .none .none (.func (.mk (s "ask_rows") (s "Scene.ask_rows") (defArgs (inClass (tp 11) 2)) (.stmts (defBody (inClass (tp 11) 2))) (defScope (inClass (tp 11) 2)) 0 [] .none .none .none .none .none .none .none 0)) #[]
def o187_2 (p : Params) : Obj := .mk (.type "code") .none (@PySem.Data.fields (@List.toArray PySem.Value [(u "ask_rows" 429), (u "Scene.ask_rows" 430), (u "/claim/cut.py" 431), (@PySem.Value.int (i 104) 0), (@PySem.Value.int (i 1) 0), (@PySem.Value.int (i 0) 0), (@PySem.Value.int (i 0) 0), (@PySem.Value.int (i 3) 0), (r 184), (@PySem.Value.bool Bool.true), (@PySem.Value.int (i 181) 0), (r 185), .none, .none, .none, (r 186), (@PySem.Value.int (i 432) 0), (@PySem.Value.int (i 104) 0), (u "/claim/cut.py" 433)])) #[]
def o188_2 (p : Params) : Obj := .mk (.type "function") .none (.func (.mk (s "ask_rows") (s "Scene.ask_rows") (defArgs (inClass (tp 11) 2)) (.stmts (defBody (inClass (tp 11) 2))) (defScope (inClass (tp 11) 2)) 3 [] .none .none .none (u "hourlanes.scenes" 391) .none (r 187) .none 0)) #[]
def o189_2 (p : Params) : Obj := .mk (.type "tuple") .none (@PySem.Data.seq #[] 0) #[]
def o190_2 (p : Params) : Obj := .mk .none .none (@PySem.Data.fields #[]) #[]
def o191_2 (p : Params) : Obj := .mk (.type "tuple") .none (@PySem.Data.seq (@List.toArray PySem.Value [(u "self" 438), (u "first" 439), (u "end" 440)]) 0) #[]
def o192_2 (p : Params) : Obj := .mk (.type "tuple") .none (@PySem.Data.seq #[] 0) #[]
def o193_2 (p : Params) : Obj := .mk .none .none (.func (.mk (s "need_known") (s "Scene.need_known") (defArgs (inClass (tp 11) 3)) (.stmts (defBody (inClass (tp 11) 3))) (defScope (inClass (tp 11) 3)) 0 [] .none .none .none .none .none .none .none 0)) #[]
def o194_2 (p : Params) : Obj := .mk (.type "code") .none (@PySem.Data.fields (@List.toArray PySem.Value [(u "need_known" 435), (u "Scene.need_known" 436), (u "/claim/cut.py" 437), (@PySem.Value.int (i 107) 0), (@PySem.Value.int (i 3) 0), (@PySem.Value.int (i 0) 0), (@PySem.Value.int (i 0) 0), (@PySem.Value.int (i 3) 0), (r 189), (@PySem.Value.bool Bool.true), (@PySem.Value.int (i 181) 0), (r 190), .none, (r 191), (r 192), (r 193), (@PySem.Value.int (i 441) 0), (@PySem.Value.int (i 107) 0), (u "/claim/cut.py" 442)])) #[]
def o195_2 (p : Params) : Obj := .mk (.type "function") .none (.func (.mk (s "need_known") (s "Scene.need_known") (defArgs (inClass (tp 11) 3)) (.stmts (defBody (inClass (tp 11) 3))) (defScope (inClass (tp 11) 3)) 3 [] .none .none .none (u "hourlanes.scenes" 391) .none (r 194) .none 0)) #[]
def o196_2 (p : Params) : Obj := .mk (.type "tuple") .none (@PySem.Data.seq #[] 0) #[]
def o197_2 (p : Params) : Obj := .mk .none .none (@PySem.Data.fields #[]) #[]
def o198_2 (p : Params) : Obj := .mk (.type "tuple") .none (@PySem.Data.seq (@List.toArray PySem.Value [(u "self" 447), (u "first" 448), (u "end" 449)]) 0) #[]
def o199_2 (p : Params) : Obj := .mk (.type "tuple") .none (@PySem.Data.seq #[] 0) #[]
def o200_2 (p : Params) : Obj := .mk .none .none (.func (.mk (s "need_asked") (s "Scene.need_asked") (defArgs (inClass (tp 11) 4)) (.stmts (defBody (inClass (tp 11) 4))) (defScope (inClass (tp 11) 4)) 0 [] .none .none .none .none .none .none .none 0)) #[]
def o201_2 (p : Params) : Obj := .mk (.type "code") .none (@PySem.Data.fields (@List.toArray PySem.Value [(u "need_asked" 444), (u "Scene.need_asked" 445), (u "/claim/cut.py" 446), (@PySem.Value.int (i 110) 0), (@PySem.Value.int (i 3) 0), (@PySem.Value.int (i 0) 0), (@PySem.Value.int (i 0) 0), (@PySem.Value.int (i 3) 0), (r 196), (@PySem.Value.bool Bool.true), (@PySem.Value.int (i 181) 0), (r 197), .none, (r 198), (r 199), (r 200), (@PySem.Value.int (i 450) 0), (@PySem.Value.int (i 110) 0), (u "/claim/cut.py" 451)])) #[]
def o202_2 (p : Params) : Obj := .mk (.type "function") .none (.func (.mk (s "need_asked") (s "Scene.need_asked") (defArgs (inClass (tp 11) 4)) (.stmts (defBody (inClass (tp 11) 4))) (defScope (inClass (tp 11) 4)) 3 [] .none .none .none (u "hourlanes.scenes" 391) .none (r 201) .none 0)) #[]
def o203_2 (p : Params) : Obj := .mk (.type "tuple") .none (@PySem.Data.seq #[] 0) #[]
def o204_2 (p : Params) : Obj := .mk .none .none (@PySem.Data.fields #[]) #[]
def o205_2 (p : Params) : Obj := .mk (.type "tuple") .none (@PySem.Data.seq (@List.toArray PySem.Value [(u "self" 456), (u "first" 457), (u "end" 458)]) 0) #[]
def o206_2 (p : Params) : Obj := .mk (.type "tuple") .none (@PySem.Data.seq #[] 0) #[]
def o207_2 (p : Params) : Obj := .mk .none .none (.func (.mk (s "need") (s "Scene.need") (defArgs (inClass (tp 11) 5)) (.stmts (defBody (inClass (tp 11) 5))) (defScope (inClass (tp 11) 5)) 0 [] .none .none .none .none .none .none .none 0)) #[]
def o208_2 (p : Params) : Obj := .mk (.type "code") .none (@PySem.Data.fields (@List.toArray PySem.Value [(u "need" 453), (u "Scene.need" 454), (u "/claim/cut.py" 455), (@PySem.Value.int (i 113) 0), (@PySem.Value.int (i 3) 0), (@PySem.Value.int (i 0) 0), (@PySem.Value.int (i 0) 0), (@PySem.Value.int (i 3) 0), (r 203), (@PySem.Value.bool Bool.true), (@PySem.Value.int (i 181) 0), (r 204), .none, (r 205), (r 206), (r 207), (@PySem.Value.int (i 459) 0), (@PySem.Value.int (i 113) 0), (u "/claim/cut.py" 460)])) #[]
def o209_2 (p : Params) : Obj := .mk (.type "function") .none (.func (.mk (s "need") (s "Scene.need") (defArgs (inClass (tp 11) 5)) (.stmts (defBody (inClass (tp 11) 5))) (defScope (inClass (tp 11) 5)) 3 [] .none .none .none (u "hourlanes.scenes" 391) .none (r 208) .none 0)) #[]
def o210_2 (p : Params) : Obj := .mk (.type "tuple") .none (@PySem.Data.seq #[] 0) #[]
def o211_2 (p : Params) : Obj := .mk .none .none (@PySem.Data.fields #[]) #[]
def o212_2 (p : Params) : Obj := .mk (.type "tuple") .none (@PySem.Data.seq (@List.toArray PySem.Value [(u "self" 465), (u "first" 466), (u "end" 467)]) 0) #[]
def o213_2 (p : Params) : Obj := .mk (.type "tuple") .none (@PySem.Data.seq #[] 0) #[]
def o214_2 (p : Params) : Obj := .mk .none .none (.func (.mk (s "holds") (s "Scene.holds") (defArgs (inClass (tp 11) 6)) (.stmts (defBody (inClass (tp 11) 6))) (defScope (inClass (tp 11) 6)) 0 [] .none .none .none .none .none .none .none 0)) #[]
def o215_2 (p : Params) : Obj := .mk (.type "code") .none (@PySem.Data.fields (@List.toArray PySem.Value [(u "holds" 462), (u "Scene.holds" 463), (u "/claim/cut.py" 464), (@PySem.Value.int (i 116) 0), (@PySem.Value.int (i 3) 0), (@PySem.Value.int (i 0) 0), (@PySem.Value.int (i 0) 0), (@PySem.Value.int (i 3) 0), (r 210), (@PySem.Value.bool Bool.true), (@PySem.Value.int (i 181) 0), (r 211), .none, (r 212), (r 213), (r 214), (@PySem.Value.int (i 468) 0), (@PySem.Value.int (i 116) 0), (u "/claim/cut.py" 469)])) #[]
def o216_2 (p : Params) : Obj := .mk (.type "function") .none (.func (.mk (s "holds") (s "Scene.holds") (defArgs (inClass (tp 11) 6)) (.stmts (defBody (inClass (tp 11) 6))) (defScope (inClass (tp 11) 6)) 3 [] .none .none .none (u "hourlanes.scenes" 391) .none (r 215) .none 0)) #[]
def o217_2 (p : Params) : Obj := .mk (.type "tuple") .none (@PySem.Data.seq #[] 0) #[]
def o218_2 (p : Params) : Obj := .mk .none .none (@PySem.Data.fields #[]) #[]
def o219_2 (p : Params) : Obj := .mk (.type "tuple") .none (@PySem.Data.seq (@List.toArray PySem.Value [(u "self" 474), (u "flow" 475), (u "after" 476), (u "wait" 477)]) 0) #[]
def o220_2 (p : Params) : Obj := .mk (.type "tuple") .none (@PySem.Data.seq #[] 0) #[]
def o221_2 (p : Params) : Obj := .mk .none .none (.func (.mk (s "with_ask") (s "Scene.with_ask") (defArgs (inClass (tp 11) 7)) (.stmts (defBody (inClass (tp 11) 7))) (defScope (inClass (tp 11) 7)) 0 [] .none .none .none .none .none .none .none 0)) #[]
def o222_2 (p : Params) : Obj := .mk (.type "code") .none (@PySem.Data.fields (@List.toArray PySem.Value [(u "with_ask" 471), (u "Scene.with_ask" 472), (u "/claim/cut.py" 473), (@PySem.Value.int (i 119) 0), (@PySem.Value.int (i 4) 0), (@PySem.Value.int (i 0) 0), (@PySem.Value.int (i 0) 0), (@PySem.Value.int (i 3) 0), (r 217), (@PySem.Value.bool Bool.true), (@PySem.Value.int (i 181) 0), (r 218), .none, (r 219), (r 220), (r 221), (@PySem.Value.int (i 478) 0), (@PySem.Value.int (i 119) 0), (u "/claim/cut.py" 479)])) #[]
def o223_2 (p : Params) : Obj := .mk (.type "function") .none (.func (.mk (s "with_ask") (s "Scene.with_ask") (defArgs (inClass (tp 11) 7)) (.stmts (defBody (inClass (tp 11) 7))) (defScope (inClass (tp 11) 7)) 3 [] .none .none .none (u "hourlanes.scenes" 391) .none (r 222) .none 0)) #[]
def o224_2 (p : Params) : Obj := .mk (.type "tuple") .none (@PySem.Data.seq #[] 0) #[]
def o225_2 (p : Params) : Obj := .mk .none .none (@PySem.Data.fields #[]) #[]
def o226_2 (p : Params) : Obj := .mk (.type "tuple") .none (@PySem.Data.seq (@List.toArray PySem.Value [(u "self" 484), (u "width" 485)]) 0) #[]
def o227_2 (p : Params) : Obj := .mk (.type "tuple") .none (@PySem.Data.seq #[] 0) #[]
def o228_2 (p : Params) : Obj := .mk .none .none (.func (.mk (s "with_width") (s "Scene.with_width") (defArgs (inClass (tp 11) 8)) (.stmts (defBody (inClass (tp 11) 8))) (defScope (inClass (tp 11) 8)) 0 [] .none .none .none .none .none .none .none 0)) #[]
def o229_2 (p : Params) : Obj := .mk (.type "code") .none (@PySem.Data.fields (@List.toArray PySem.Value [(u "with_width" 481), (u "Scene.with_width" 482), (u "/claim/cut.py" 483), (@PySem.Value.int (i 122) 0), (@PySem.Value.int (i 2) 0), (@PySem.Value.int (i 0) 0), (@PySem.Value.int (i 0) 0), (@PySem.Value.int (i 3) 0), (r 224), (@PySem.Value.bool Bool.true), (@PySem.Value.int (i 181) 0), (r 225), .none, (r 226), (r 227), (r 228), (@PySem.Value.int (i 486) 0), (@PySem.Value.int (i 122) 0), (u "/claim/cut.py" 487)])) #[]
def o230_2 (p : Params) : Obj := .mk (.type "function") .none (.func (.mk (s "with_width") (s "Scene.with_width") (defArgs (inClass (tp 11) 8)) (.stmts (defBody (inClass (tp 11) 8))) (defScope (inClass (tp 11) 8)) 3 [] .none .none .none (u "hourlanes.scenes" 391) .none (r 229) .none 0)) #[]
def o231_2 (p : Params) : Obj := .mk (.type "tuple") .none (@PySem.Data.seq #[] 0) #[]
def o232_2 (p : Params) : Obj := .mk .none .none (@PySem.Data.fields #[]) #[]
def o233_2 (p : Params) : Obj := .mk (.type "tuple") .none (@PySem.Data.seq (@List.toArray PySem.Value [(u "self" 492), (u "opens" 493)]) 0) #[]
def o234_2 (p : Params) : Obj := .mk (.type "tuple") .none (@PySem.Data.seq #[] 0) #[]
def o235_2 (p : Params) : Obj := .mk .none .none (.func (.mk (s "with_opens") (s "Scene.with_opens") (defArgs (inClass (tp 11) 9)) (.stmts (defBody (inClass (tp 11) 9))) (defScope (inClass (tp 11) 9)) 0 [] .none .none .none .none .none .none .none 0)) #[]
def o236_2 (p : Params) : Obj := .mk (.type "code") .none (@PySem.Data.fields (@List.toArray PySem.Value [(u "with_opens" 489), (u "Scene.with_opens" 490), (u "/claim/cut.py" 491), (@PySem.Value.int (i 125) 0), (@PySem.Value.int (i 2) 0), (@PySem.Value.int (i 0) 0), (@PySem.Value.int (i 0) 0), (@PySem.Value.int (i 3) 0), (r 231), (@PySem.Value.bool Bool.true), (@PySem.Value.int (i 181) 0), (r 232), .none, (r 233), (r 234), (r 235), (@PySem.Value.int (i 494) 0), (@PySem.Value.int (i 125) 0), (u "/claim/cut.py" 495)])) #[]
def o237_2 (p : Params) : Obj := .mk (.type "function") .none (.func (.mk (s "with_opens") (s "Scene.with_opens") (defArgs (inClass (tp 11) 9)) (.stmts (defBody (inClass (tp 11) 9))) (defScope (inClass (tp 11) 9)) 3 [] .none .none .none (u "hourlanes.scenes" 391) .none (r 236) .none 0)) #[]
def o238_2 (p : Params) : Obj := .mk (.type "tuple") .none (@PySem.Data.seq (@List.toArray PySem.Value [(u "now" 497), (u "open_asks" 498), (u "opens" 499), (u "sure" 500), (u "width" 501)]) 0) #[]
def o239_2 (p : Params) : Obj := .mk (.type "dict") .none (dc [(e p "__module__" 410 (u "hourlanes.scenes" 391)), (e p "__firstlineno__" 414 (@PySem.Value.int (i 92) 413)), (e p "__init__" 421 (r 176)), (e p "known_rows" 428 (r 183)), (e p "ask_rows" 434 (r 188)), (e p "need_known" 443 (r 195)), (e p "need_asked" 452 (r 202)), (e p "need" 461 (r 209)), (e p "holds" 470 (r 216)), (e p "with_ask" 480 (r 223)), (e p "with_width" 488 (r 230)), (e p "with_opens" 496 (r 237)), (e p "__static_attributes__" 502 (r 238)), (e p "__dict__" 504 (r 241)), (e p "__weakref__" 506 (r 242)), (e p "__doc__" 507 .none)] 4) #[]
def o240_2 (p : Params) : Obj := .mk (.type "type") .none (@PySem.Data.cls (@PySem.ClassData.mk (s "Scene") [(.type "object")] [(r 240), (.type "object")] 239 (s "Scene") Bool.true [] [] Bool.false .none Bool.false)) (@List.toArray (@Option PySem.Value) [.none, .none, (.some (u "Scene" 403)), (.some (u "Scene" 411)), (.some (.builtin "object.__new__")), (.some (@PySem.Value.bool Bool.true))])
def o241_2 (p : Params) : Obj := .mk (.type "getset_descriptor") .none (@PySem.Data.fields (@List.toArray PySem.Value [(u "__dict__" 503), (r 240), (.builtin "function.__dict__"), (.builtin "function.__dict__#set")])) #[]
def o242_2 (p : Params) : Obj := .mk (.type "getset_descriptor") .none (@PySem.Data.fields (@List.toArray PySem.Value [(u "__weakref__" 505), (r 240), (.builtin "ExceptionGroup.__weakref__"), .none])) #[]
def o243_2 (p : Params) : Obj := .mk (.type "super") .none (@PySem.Data.fields (@List.toArray PySem.Value [(r 240), (r 240), (r 240)])) #[]
def o244_2 (p : Params) : Obj := .mk (.type "builtin_function_or_method") .none (@PySem.Data.fields (@List.toArray PySem.Value [(.builtin "object.__init_subclass__"), (r 240)])) #[]
def o245_2 (p : Params) : Obj := .mk (.type "tuple") .none (@PySem.Data.seq #[] 0) #[]
def o246_2 (p : Params) : Obj := .mk .none .none (@PySem.Data.fields #[]) #[]
def o247_2 (p : Params) : Obj := .mk (.type "tuple") .none (@PySem.Data.seq (@List.toArray PySem.Value [(u "scene" 515), (u "found" 516), (u "come" 517), (u "hour" 518), (u "many" 519), (u "flow" 520), (u "after" 521), (u "wait" 522), (u "lacking" 523)]) 0) #[]
def o248_2 (p : Params) : Obj := .mk (.type "tuple") .none (@PySem.Data.seq #[] 0) #[]
def o249_2 (p : Params) : Obj := .mk .none .none (.func (.mk (s "quiet") (s "quiet") (defArgs (tp 13)) (.stmts (defBody (tp 13))) (defScope (tp 13)) 0 [] .none .none .none .none .none .none .none 0)) #[]
def o250_2 (p : Params) : Obj := .mk (.type "code") .none (@PySem.Data.fields (@List.toArray PySem.Value [(u "quiet" 512), (u "quiet" 513), (u "/claim/cut.py" 514), (@PySem.Value.int (i 128) 0), (@PySem.Value.int (i 1) 0), (@PySem.Value.int (i 0) 0), (@PySem.Value.int (i 0) 0), (@PySem.Value.int (i 3) 0), (r 245), (@PySem.Value.bool Bool.true), (@PySem.Value.int (i 181) 0), (r 246), .none, (r 247), (r 248), (r 249), (@PySem.Value.int (i 524) 0), (@PySem.Value.int (i 128) 0), (u "/claim/cut.py" 525)])) #[]
def o251_2 (p : Params) : Obj := .mk (.type "function") .none (.func (.mk (s "quiet") (s "quiet") (defArgs (tp 13)) (.stmts (defBody (tp 13))) (defScope (tp 13)) 3 [] .none .none .none (u "hourlanes.judging" 510) .none (r 250) .none 0)) #[]
def o252_2 (p : Params) : Obj := .mk (.type "tuple") .none (@PySem.Data.seq #[] 0) #[]
def o253_2 (p : Params) : Obj := .mk .none .none (@PySem.Data.fields #[]) #[]
def o254_2 (p : Params) : Obj := .mk .none .none (.func (.mk (s "starts") (s "starts") (defArgs (tp 14)) (.stmts (defBody (tp 14))) (defScope (tp 14)) 0 [] .none .none .none .none .none .none .none 0)) #[]
def o255_2 (p : Params) : Obj := .mk (.type "code") .none (@PySem.Data.fields (@List.toArray PySem.Value [(u "starts" 527), (u "starts" 528), (u "/claim/cut.py" 529), (@PySem.Value.int (i 136) 0), (@PySem.Value.int (i 1) 0), (@PySem.Value.int (i 0) 0), (@PySem.Value.int (i 0) 0), (@PySem.Value.int (i 3) 0), (r 252), (@PySem.Value.bool Bool.true), (@PySem.Value.int (i 181) 0), (r 253), .none, .none, .none, (r 254), (@PySem.Value.int (i 530) 0), (@PySem.Value.int (i 136) 0), (u "/claim/cut.py" 531)])) #[]
def o256_2 (p : Params) : Obj := .mk (.type "function") .none (.func (.mk (s "starts") (s "starts") (defArgs (tp 14)) (.stmts (defBody (tp 14))) (defScope (tp 14)) 3 [] .none .none .none (u "hourlanes.judging" 510) .none (r 255) .none 0)) #[]
def o257_2 (p : Params) : Obj := .mk (.type "tuple") .none (@PySem.Data.seq #[] 0) #[]
def o258_2 (p : Params) : Obj := .mk .none .none (@PySem.Data.fields #[]) #[]
def o259_2 (p : Params) : Obj := .mk .none .none (.func (.mk (s "comes_in") (s "comes_in") (defArgs (tp 16)) (.stmts (defBody (tp 16))) (defScope (tp 16)) 0 [] .none .none .none .none .none .none .none 0)) #[]
def o260_2 (p : Params) : Obj := .mk (.type "code") .none (@PySem.Data.fields (@List.toArray PySem.Value [(u "comes_in" 535), (u "comes_in" 536), (u "/claim/cut.py" 537), (@PySem.Value.int (i 139) 0), (@PySem.Value.int (i 3) 0), (@PySem.Value.int (i 0) 0), (@PySem.Value.int (i 0) 0), (@PySem.Value.int (i 3) 0), (r 257), (@PySem.Value.bool Bool.true), (@PySem.Value.int (i 181) 0), (r 258), .none, .none, .none, (r 259), (@PySem.Value.int (i 538) 0), (@PySem.Value.int (i 139) 0), (u "/claim/cut.py" 539)])) #[]
def o261_2 (p : Params) : Obj := .mk (.type "function") .none (.func (.mk (s "comes_in") (s "comes_in") (defArgs (tp 16)) (.stmts (defBody (tp 16))) (defScope (tp 16)) 3 [] .none .none .none (u "hourlanes.rooms" 533) .none (r 260) .none 0)) #[]
def o262_2 (p : Params) : Obj := .mk (.type "tuple") .none (@PySem.Data.seq #[] 0) #[]
def o263_2 (p : Params) : Obj := .mk .none .none (@PySem.Data.fields #[]) #[]
def o264_2 (p : Params) : Obj := .mk .none .none (.func (.mk (s "lasts") (s "lasts") (defArgs (tp 17)) (.stmts (defBody (tp 17))) (defScope (tp 17)) 0 [] .none .none .none .none .none .none .none 0)) #[]
def o265_2 (p : Params) : Obj := .mk (.type "code") .none (@PySem.Data.fields (@List.toArray PySem.Value [(u "lasts" 541), (u "lasts" 542), (u "/claim/cut.py" 543), (@PySem.Value.int (i 145) 0), (@PySem.Value.int (i 2) 0), (@PySem.Value.int (i 0) 0), (@PySem.Value.int (i 0) 0), (@PySem.Value.int (i 3) 0), (r 262), (@PySem.Value.bool Bool.true), (@PySem.Value.int (i 181) 0), (r 263), .none, .none, .none, (r 264), (@PySem.Value.int (i 544) 0), (@PySem.Value.int (i 145) 0), (u "/claim/cut.py" 545)])) #[]
def o266_2 (p : Params) : Obj := .mk (.type "function") .none (.func (.mk (s "lasts") (s "lasts") (defArgs (tp 17)) (.stmts (defBody (tp 17))) (defScope (tp 17)) 3 [] .none .none .none (u "hourlanes.rooms" 533) .none (r 265) .none 0)) #[]
def o267_2 (p : Params) : Obj := .mk (.type "tuple") .none (@PySem.Data.seq #[] 0) #[]
def o268_2 (p : Params) : Obj := .mk .none .none (@PySem.Data.fields #[]) #[]
def o269_2 (p : Params) : Obj := .mk .none .none (.func (.mk (s "room") (s "room") (defArgs (tp 18)) (.stmts (defBody (tp 18))) (defScope (tp 18)) 0 [] .none .none .none .none .none .none .none 0)) #[]
def o270_2 (p : Params) : Obj := .mk (.type "code") .none (@PySem.Data.fields (@List.toArray PySem.Value [(u "room" 547), (u "room" 548), (u "/claim/cut.py" 549), (@PySem.Value.int (i 156) 0), (@PySem.Value.int (i 1) 0), (@PySem.Value.int (i 0) 0), (@PySem.Value.int (i 0) 0), (@PySem.Value.int (i 3) 0), (r 267), (@PySem.Value.bool Bool.true), (@PySem.Value.int (i 181) 0), (r 268), .none, .none, .none, (r 269), (@PySem.Value.int (i 550) 0), (@PySem.Value.int (i 156) 0), (u "/claim/cut.py" 551)])) #[]
def o271_2 (p : Params) : Obj := .mk (.type "function") .none (.func (.mk (s "room") (s "room") (defArgs (tp 18)) (.stmts (defBody (tp 18))) (defScope (tp 18)) 3 [] .none .none .none (u "hourlanes.rooms" 533) .none (r 270) .none 0)) #[]
def o272_2 (p : Params) : Obj := .mk (.type "tuple") .none (@PySem.Data.seq #[] 0) #[]
def o273_2 (p : Params) : Obj := .mk .none .none (@PySem.Data.fields #[]) #[]
def o274_2 (p : Params) : Obj := .mk (.type "tuple") .none (@PySem.Data.seq (@List.toArray PySem.Value [(u "scene" 556), (u "first" 557), (u "last" 558), (u "found" 559), (u "place" 560), (u "flow" 561), (u "after" 562), (u "wait" 563), (u "ahead" 564), (u "ticks" 565), (u "begin" 566), (u "turns" 567), (u "many" 568)]) 0) #[]
def o275_2 (p : Params) : Obj := .mk (.type "tuple") .none (@PySem.Data.seq #[] 0) #[]
def o276_2 (p : Params) : Obj := .mk .none .none (.func (.mk (s "swell") (s "swell") (defArgs (tp 19)) (.stmts (defBody (tp 19))) (defScope (tp 19)) 0 [] .none .none .none .none .none .none .none 0)) #[]
def o277_2 (p : Params) : Obj := .mk (.type "code") .none (@PySem.Data.fields (@List.toArray PySem.Value [(u "swell" 553), (u "swell" 554), (u "/claim/cut.py" 555), (@PySem.Value.int (i 166) 0), (@PySem.Value.int (i 3) 0), (@PySem.Value.int (i 0) 0), (@PySem.Value.int (i 0) 0), (@PySem.Value.int (i 3) 0), (r 272), (@PySem.Value.bool Bool.true), (@PySem.Value.int (i 181) 0), (r 273), .none, (r 274), (r 275), (r 276), (@PySem.Value.int (i 569) 0), (@PySem.Value.int (i 166) 0), (u "/claim/cut.py" 570)])) #[]
def o278_2 (p : Params) : Obj := .mk (.type "function") .none (.func (.mk (s "swell") (s "swell") (defArgs (tp 19)) (.stmts (defBody (tp 19))) (defScope (tp 19)) 3 [] .none .none .none (u "hourlanes.rooms" 533) .none (r 277) .none 0)) #[]
def o279_2 (p : Params) : Obj := .mk (.type "tuple") .none (@PySem.Data.seq #[] 0) #[]
def o280_2 (p : Params) : Obj := .mk (.type "builtin_function_or_method") .none (@PySem.Data.fields (@List.toArray PySem.Value [(.builtin "type.__prepare__"), (.type "type")])) #[]
def o281_2 (p : Params) : Obj := .mk (.type "dict") .none (dc [(e p "__module__" 583 (u "hourlanes.jars" 572)), (e p "__qualname__" 585 (u "Jar" 584)), (e p "__firstlineno__" 587 (@PySem.Value.int (i 175) 586)), (e p "__init__" 597 (r 292)), (e p "__eq__" 605 (r 299)), (e p "__str__" 612 (r 306)), (e p "__repr__" 619 (r 313)), (e p "told" 626 (r 320)), (e p "__static_attributes__" 630 (r 321))] 9) #[]
def o282_2 (p : Params) : Obj := .mk (.type "tuple") .none (@PySem.Data.seq #[] 0) #[]
def o283_2 (p : Params) : Obj := .mk .none .none (@PySem.Data.fields (@List.toArray PySem.Value [(@PySem.Value.int (i 177) 0), (@PySem.Value.int (i 4) 0), (r 291), (@PySem.Value.int (i 184) 0), (@PySem.Value.int (i 4) 0), (r 298), (@PySem.Value.int (i 187) 0), (@PySem.Value.int (i 4) 0), (r 305), (@PySem.Value.int (i 190) 0), (@PySem.Value.int (i 4) 0), (r 312), (@PySem.Value.int (i 193) 0), (@PySem.Value.int (i 4) 0), (r 319)])) #[]
def o284_2 (p : Params) : Obj := .mk (.type "code") .none (@PySem.Data.fields (@List.toArray PySem.Value [(u "Jar" 578), (u "Jar" 579), (u "/claim/cut.py" 580), (@PySem.Value.int (i 175) 0), (@PySem.Value.int (i 0) 0), (@PySem.Value.int (i 0) 0), (@PySem.Value.int (i 0) 0), (@PySem.Value.int (i 0) 0), (r 282), (@PySem.Value.bool Bool.false), (@PySem.Value.int (i 181) 0), (r 283), .none, .none, .none, .none, (@PySem.Value.int (i 581) 0), (@PySem.Value.int (i 175) 0), (u "/claim/cut.py" 582)])) #[]
def o285_2 (p : Params) : Obj := .mk (.type "frame") .none PySem.Data.plain (@List.toArray (@Option PySem.Value) [(.some (r 284)), (.some (r 3)), (.some (r 281)), .none, (.some (u "hourlanes.jars" 572)), .none, (.some (r 0))])
def o286_2 (p : Params) : Obj := .mk (.type "tuple") .none (@PySem.Data.seq #[] 0) #[]
def o287_2 (p : Params) : Obj := .mk .none .none (@PySem.Data.fields #[]) #[]
def o288_2 (p : Params) : Obj := .mk (.type "tuple") .none (@PySem.Data.seq (@List.toArray PySem.Value [(u "self" 591), (u "size" 592), (u "rate" 593), (u "mouth" 594)]) 0) #[]
def o289_2 (p : Params) : Obj := .mk (.type "tuple") .none (@PySem.Data.seq #[] 0) #[]
def o290_2 (p : Params) : Obj := .mk .none .none (.func (.mk (s "__init__") (s "Jar.__init__") (defArgs (inClass (tp 22) 0)) (.stmts (defBody (inClass (tp 22) 0))) (defScope (inClass (tp 22) 0)) 0 [] .none .none .none .none .none .none .none 0)) #[]
def o291_2 (p : Params) : Obj := .mk (.type "code") .none (@PySem.Data.fields (@List.toArray PySem.Value [(u "__init__" 588), (u "Jar.__init__" 589), (u "/claim/cut.py" 590), (@PySem.Value.int (i 177) 0), (@PySem.Value.int (i 4) 0), (@PySem.Value.int (i 0) 0), (@PySem.Value.int (i 0) 0), (@PySem.Value.int (i 3) 0), (r 286), (@PySem.Value.bool Bool.true), (@PySem.Value.int (i 181) 0), (r 287), .none, (r 288), (r 289), (r 290), (@PySem.Value.int (i 595) 0), (@PySem.Value.int (i 177) 0), (u "/claim/cut.py" 596)])) #[]
def o292_2 (p : Params) : Obj := .mk (.type "function") .none (.func (.mk (s "__init__") (s "Jar.__init__") (defArgs (inClass (tp 22) 0)) (.stmts (defBody (inClass (tp 22) 0))) (defScope (inClass (tp 22) 0)) 3 [] .none .none .none (u "hourlanes.jars" 572) .none (r 291) .none 0)) #[]
def o293_2 (p : Params) : Obj := .mk (.type "tuple") .none (@PySem.Data.seq #[] 0) #[]
def o294_2 (p : Params) : Obj := .mk .none .none (@PySem.Data.fields #[]) #[]
def o295_2 (p : Params) : Obj := .mk (.type "tuple") .none (@PySem.Data.seq (@List.toArray PySem.Value [(u "self" 601), (u "other" 602)]) 0) #[]
def o296_2 (p : Params) : Obj := .mk (.type "tuple") .none (@PySem.Data.seq #[] 0) #[]
def o297_2 (p : Params) : Obj := .mk .none .none (.func (.mk (s "__eq__") (s "Jar.__eq__") (defArgs (inClass (tp 22) 1)) (.stmts (defBody (inClass (tp 22) 1))) (defScope (inClass (tp 22) 1)) 0 [] .none .none .none .none .none .none .none 0)) #[]
def o298_2 (p : Params) : Obj := .mk (.type "code") .none (@PySem.Data.fields (@List.toArray PySem.Value [(u "__eq__" 598), (u "Jar.__eq__" 599), (u "/claim/cut.py" 600), (@PySem.Value.int (i 184) 0), (@PySem.Value.int (i 2) 0), (@PySem.Value.int (i 0) 0), (@PySem.Value.int (i 0) 0), (@PySem.Value.int (i 3) 0), (r 293), (@PySem.Value.bool Bool.true), (@PySem.Value.int (i 181) 0), (r 294), .none, (r 295), (r 296), (r 297), (@PySem.Value.int (i 603) 0), (@PySem.Value.int (i 184) 0), (u "/claim/cut.py" 604)])) #[]
def o299_2 (p : Params) : Obj := .mk (.type "function") .none (.func (.mk (s "__eq__") (s "Jar.__eq__") (defArgs (inClass (tp 22) 1)) (.stmts (defBody (inClass (tp 22) 1))) (defScope (inClass (tp 22) 1)) 3 [] .none .none .none (u "hourlanes.jars" 572) .none (r 298) .none 0)) #[]
def o300_2 (p : Params) : Obj := .mk (.type "tuple") .none (@PySem.Data.seq #[] 0) #[]
def o301_2 (p : Params) : Obj := .mk .none .none (@PySem.Data.fields #[]) #[]
def o302_2 (p : Params) : Obj := .mk (.type "tuple") .none (@PySem.Data.seq (@List.toArray PySem.Value [(u "self" 609)]) 0) #[]
def o303_2 (p : Params) : Obj := .mk (.type "tuple") .none (@PySem.Data.seq #[] 0) #[]
def o304_2 (p : Params) : Obj := .mk .none .none (.func (.mk (s "__str__") (s "Jar.__str__") (defArgs (inClass (tp 22) 2)) (.stmts (defBody (inClass (tp 22) 2))) (defScope (inClass (tp 22) 2)) 0 [] .none .none .none .none .none .none .none 0)) #[]
def o305_2 (p : Params) : Obj := .mk (.type "code") .none (@PySem.Data.fields (@List.toArray PySem.Value [(u "__str__" 606), (u "Jar.__str__" 607), (u "/claim/cut.py" 608), (@PySem.Value.int (i 187) 0), (@PySem.Value.int (i 1) 0), (@PySem.Value.int (i 0) 0), (@PySem.Value.int (i 0) 0), (@PySem.Value.int (i 3) 0), (r 300), (@PySem.Value.bool Bool.true), (@PySem.Value.int (i 181) 0), (r 301), .none, (r 302), (r 303), (r 304), (@PySem.Value.int (i 610) 0), (@PySem.Value.int (i 187) 0), (u "/claim/cut.py" 611)])) #[]
def o306_2 (p : Params) : Obj := .mk (.type "function") .none (.func (.mk (s "__str__") (s "Jar.__str__") (defArgs (inClass (tp 22) 2)) (.stmts (defBody (inClass (tp 22) 2))) (defScope (inClass (tp 22) 2)) 3 [] .none .none .none (u "hourlanes.jars" 572) .none (r 305) .none 0)) #[]
def o307_2 (p : Params) : Obj := .mk (.type "tuple") .none (@PySem.Data.seq #[] 0) #[]
def o308_2 (p : Params) : Obj := .mk .none .none (@PySem.Data.fields #[]) #[]
def o309_2 (p : Params) : Obj := .mk (.type "tuple") .none (@PySem.Data.seq (@List.toArray PySem.Value [(u "self" 616)]) 0) #[]
def o310_2 (p : Params) : Obj := .mk (.type "tuple") .none (@PySem.Data.seq #[] 0) #[]
def o311_2 (p : Params) : Obj := .mk .none .none (.func (.mk (s "__repr__") (s "Jar.__repr__") (defArgs (inClass (tp 22) 3)) (.stmts (defBody (inClass (tp 22) 3))) (defScope (inClass (tp 22) 3)) 0 [] .none .none .none .none .none .none .none 0)) #[]
def o312_2 (p : Params) : Obj := .mk (.type "code") .none (@PySem.Data.fields (@List.toArray PySem.Value [(u "__repr__" 613), (u "Jar.__repr__" 614), (u "/claim/cut.py" 615), (@PySem.Value.int (i 190) 0), (@PySem.Value.int (i 1) 0), (@PySem.Value.int (i 0) 0), (@PySem.Value.int (i 0) 0), (@PySem.Value.int (i 3) 0), (r 307), (@PySem.Value.bool Bool.true), (@PySem.Value.int (i 181) 0), (r 308), .none, (r 309), (r 310), (r 311), (@PySem.Value.int (i 617) 0), (@PySem.Value.int (i 190) 0), (u "/claim/cut.py" 618)])) #[]
def o313_2 (p : Params) : Obj := .mk (.type "function") .none (.func (.mk (s "__repr__") (s "Jar.__repr__") (defArgs (inClass (tp 22) 3)) (.stmts (defBody (inClass (tp 22) 3))) (defScope (inClass (tp 22) 3)) 3 [] .none .none .none (u "hourlanes.jars" 572) .none (r 312) .none 0)) #[]
def o314_2 (p : Params) : Obj := .mk (.type "tuple") .none (@PySem.Data.seq #[] 0) #[]
def o315_2 (p : Params) : Obj := .mk .none .none (@PySem.Data.fields #[]) #[]
def o316_2 (p : Params) : Obj := .mk (.type "tuple") .none (@PySem.Data.seq (@List.toArray PySem.Value [(u "self" 623)]) 0) #[]
def o317_2 (p : Params) : Obj := .mk (.type "tuple") .none (@PySem.Data.seq #[] 0) #[]
def o318_2 (p : Params) : Obj := .mk .none .none (.func (.mk (s "told") (s "Jar.told") (defArgs (inClass (tp 22) 4)) (.stmts (defBody (inClass (tp 22) 4))) (defScope (inClass (tp 22) 4)) 0 [] .none .none .none .none .none .none .none 0)) #[]
def o319_2 (p : Params) : Obj := .mk (.type "code") .none (@PySem.Data.fields (@List.toArray PySem.Value [(u "told" 620), (u "Jar.told" 621), (u "/claim/cut.py" 622), (@PySem.Value.int (i 193) 0), (@PySem.Value.int (i 1) 0), (@PySem.Value.int (i 0) 0), (@PySem.Value.int (i 0) 0), (@PySem.Value.int (i 3) 0), (r 314), (@PySem.Value.bool Bool.true), (@PySem.Value.int (i 181) 0), (r 315), .none, (r 316), (r 317), (r 318), (@PySem.Value.int (i 624) 0), (@PySem.Value.int (i 193) 0), (u "/claim/cut.py" 625)])) #[]
def o320_2 (p : Params) : Obj := .mk (.type "function") .none (.func (.mk (s "told") (s "Jar.told") (defArgs (inClass (tp 22) 4)) (.stmts (defBody (inClass (tp 22) 4))) (defScope (inClass (tp 22) 4)) 3 [] .none .none .none (u "hourlanes.jars" 572) .none (r 319) .none 0)) #[]
def o321_2 (p : Params) : Obj := .mk (.type "tuple") .none (@PySem.Data.seq (@List.toArray PySem.Value [(u "mouth" 627), (u "rate" 628), (u "size" 629)]) 0) #[]
def o322_2 (p : Params) : Obj := .mk (.type "dict") .none (dc [(e p "__module__" 583 (u "hourlanes.jars" 572)), (e p "__firstlineno__" 587 (@PySem.Value.int (i 175) 586)), (e p "__init__" 597 (r 292)), (e p "__eq__" 605 (r 299)), (e p "__str__" 612 (r 306)), (e p "__repr__" 619 (r 313)), (e p "told" 626 (r 320)), (e p "__static_attributes__" 630 (r 321)), (e p "__dict__" 632 (r 324)), (e p "__weakref__" 634 (r 325)), (e p "__doc__" 635 .none), (e p "__hash__" 636 .none)] 5) #[]
def o323_2 (p : Params) : Obj := .mk (.type "type") .none (@PySem.Data.cls (@PySem.ClassData.mk (s "Jar") [(.type "object")] [(r 323), (.type "object")] 322 (s "Jar") Bool.true [] [] Bool.false .none Bool.false)) (@List.toArray (@Option PySem.Value) [.none, .none, (.some (u "Jar" 576)), (.some (u "Jar" 584)), (.some (.builtin "object.__new__")), (.some (@PySem.Value.bool Bool.true))])
def o324_2 (p : Params) : Obj := .mk (.type "getset_descriptor") .none (@PySem.Data.fields (@List.toArray PySem.Value [(u "__dict__" 631), (r 323), (.builtin "function.__dict__"), (.builtin "function.__dict__#set")])) #[]
def o325_2 (p : Params) : Obj := .mk (.type "getset_descriptor") .none (@PySem.Data.fields (@List.toArray PySem.Value [(u "__weakref__" 633), (r 323), (.builtin "ExceptionGroup.__weakref__"), .none])) #[]
def o326_2 (p : Params) : Obj := .mk (.type "super") .none (@PySem.Data.fields (@List.toArray PySem.Value [(r 323), (r 323), (r 323)])) #[]
def o327_2 (p : Params) : Obj := .mk (.type "builtin_function_or_method") .none (@PySem.Data.fields (@List.toArray PySem.Value [(.builtin "object.__init_subclass__"), (r 323)])) #[]
def o328_2 (p : Params) : Obj := .mk (.type "tuple") .none (@PySem.Data.seq #[] 0) #[]
def o329_2 (p : Params) : Obj := .mk .none .none (@PySem.Data.fields #[]) #[]
def o330_2 (p : Params) : Obj := .mk .none .none (.func (.mk (s "_law_begun") (s "_law_begun") (defArgs (tp 24)) (.stmts (defBody (tp 24))) (defScope (tp 24)) 0 [] .none .none .none .none .none .none .none 0)) #[]
def o331_2 (p : Params) : Obj := .mk (.type "code") .none (@PySem.Data.fields (@List.toArray PySem.Value [(u "_law_begun" 641), (u "_law_begun" 642), (u "/claim/cut.py" 643), (@PySem.Value.int (i 196) 0), (@PySem.Value.int (i 1) 0), (@PySem.Value.int (i 0) 0), (@PySem.Value.int (i 0) 0), (@PySem.Value.int (i 3) 0), (r 328), (@PySem.Value.bool Bool.true), (@PySem.Value.int (i 181) 0), (r 329), .none, .none, .none, (r 330), (@PySem.Value.int (i 644) 0), (@PySem.Value.int (i 196) 0), (u "/claim/cut.py" 645)])) #[]
def o332_2 (p : Params) : Obj := .mk (.type "function") .none (.func (.mk (s "_law_begun") (s "_law_begun") (defArgs (tp 24)) (.stmts (defBody (tp 24))) (defScope (tp 24)) 3 [] .none .none .none (u "law_hourlanes_k71_rooms_met_and_never_passed" 639) .none (r 331) .none 0)) #[]
def o333_2 (p : Params) : Obj := .mk (.type "tuple") .none (@PySem.Data.seq #[] 0) #[]
def o334_2 (p : Params) : Obj := .mk .none .none (@PySem.Data.fields #[]) #[]
def o335_2 (p : Params) : Obj := .mk (.type "tuple") .none (@PySem.Data.seq (@List.toArray PySem.Value [(u "_law_state" 650), (u "_law_many" 651), (u "_law_found" 652), (u "_law_turn" 653), (u "_law_cell" 654), (u "_law_seed" 655), (u "_law_mixed" 656)]) 0) #[]
def o336_2 (p : Params) : Obj := .mk (.type "tuple") .none (@PySem.Data.seq #[] 0) #[]
def o337_2 (p : Params) : Obj := .mk .none .none (.func (.mk (s "_law_take") (s "_law_take") (defArgs (tp 25)) (.stmts (defBody (tp 25))) (defScope (tp 25)) 0 [] .none .none .none .none .none .none .none 0)) #[]
def o338_2 (p : Params) : Obj := .mk (.type "code") .none (@PySem.Data.fields (@List.toArray PySem.Value [(u "_law_take" 647), (u "_law_take" 648), (u "/claim/cut.py" 649), (@PySem.Value.int (i 198) 0), (@PySem.Value.int (i 2) 0), (@PySem.Value.int (i 0) 0), (@PySem.Value.int (i 0) 0), (@PySem.Value.int (i 3) 0), (r 333), (@PySem.Value.bool Bool.true), (@PySem.Value.int (i 181) 0), (r 334), .none, (r 335), (r 336), (r 337), (@PySem.Value.int (i 657) 0), (@PySem.Value.int (i 198) 0), (u "/claim/cut.py" 658)])) #[]
def o339_2 (p : Params) : Obj := .mk (.type "function") .none (.func (.mk (s "_law_take") (s "_law_take") (defArgs (tp 25)) (.stmts (defBody (tp 25))) (defScope (tp 25)) 3 [] .none .none .none (u "law_hourlanes_k71_rooms_met_and_never_passed" 639) .none (r 338) .none 0)) #[]
def o340_2 (p : Params) : Obj := .mk (.type "tuple") .none (@PySem.Data.seq #[] 0) #[]
def o341_2 (p : Params) : Obj := .mk .none .none (@PySem.Data.fields #[]) #[]
def o342_2 (p : Params) : Obj := .mk (.type "tuple") .none (@PySem.Data.seq (@List.toArray PySem.Value [(u "_law_state" 663), (u "_law_some" 664)]) 0) #[]
def o343_2 (p : Params) : Obj := .mk (.type "tuple") .none (@PySem.Data.seq #[] 0) #[]
def o344_2 (p : Params) : Obj := .mk .none .none (.func (.mk (s "_law_pick") (s "_law_pick") (defArgs (tp 26)) (.stmts (defBody (tp 26))) (defScope (tp 26)) 0 [] .none .none .none .none .none .none .none 0)) #[]
def o345_2 (p : Params) : Obj := .mk (.type "code") .none (@PySem.Data.fields (@List.toArray PySem.Value [(u "_law_pick" 660), (u "_law_pick" 661), (u "/claim/cut.py" 662), (@PySem.Value.int (i 212) 0), (@PySem.Value.int (i 2) 0), (@PySem.Value.int (i 0) 0), (@PySem.Value.int (i 0) 0), (@PySem.Value.int (i 3) 0), (r 340), (@PySem.Value.bool Bool.true), (@PySem.Value.int (i 181) 0), (r 341), .none, (r 342), (r 343), (r 344), (@PySem.Value.int (i 665) 0), (@PySem.Value.int (i 212) 0), (u "/claim/cut.py" 666)])) #[]
def o346_2 (p : Params) : Obj := .mk (.type "function") .none (.func (.mk (s "_law_pick") (s "_law_pick") (defArgs (tp 26)) (.stmts (defBody (tp 26))) (defScope (tp 26)) 3 [] .none .none .none (u "law_hourlanes_k71_rooms_met_and_never_passed" 639) .none (r 345) .none 0)) #[]
def o347_2 (p : Params) : Obj := .mk (.type "tuple") .none (@PySem.Data.seq #[] 0) #[]
def o348_2 (p : Params) : Obj := .mk .none .none (@PySem.Data.fields #[]) #[]
def o349_2 (p : Params) : Obj := .mk (.type "tuple") .none (@PySem.Data.seq (@List.toArray PySem.Value [(u "_law_thing" 671)]) 0) #[]
def o350_2 (p : Params) : Obj := .mk (.type "tuple") .none (@PySem.Data.seq #[] 0) #[]
def o351_2 (p : Params) : Obj := .mk .none .none (.func (.mk (s "_law_whole") (s "_law_whole") (defArgs (tp 27)) (.stmts (defBody (tp 27))) (defScope (tp 27)) 0 [] .none .none .none .none .none .none .none 0)) #[]
def o352_2 (p : Params) : Obj := .mk (.type "code") .none (@PySem.Data.fields (@List.toArray PySem.Value [(u "_law_whole" 668), (u "_law_whole" 669), (u "/claim/cut.py" 670), (@PySem.Value.int (i 214) 0), (@PySem.Value.int (i 1) 0), (@PySem.Value.int (i 0) 0), (@PySem.Value.int (i 0) 0), (@PySem.Value.int (i 3) 0), (r 347), (@PySem.Value.bool Bool.true), (@PySem.Value.int (i 181) 0), (r 348), .none, (r 349), (r 350), (r 351), (@PySem.Value.int (i 672) 0), (@PySem.Value.int (i 214) 0), (u "/claim/cut.py" 673)])) #[]
def o353_2 (p : Params) : Obj := .mk (.type "function") .none (.func (.mk (s "_law_whole") (s "_law_whole") (defArgs (tp 27)) (.stmts (defBody (tp 27))) (defScope (tp 27)) 3 [] .none .none .none (u "law_hourlanes_k71_rooms_met_and_never_passed" 639) .none (r 352) .none 0)) #[]
def o354_2 (p : Params) : Obj := .mk (.type "tuple") .none (@PySem.Data.seq #[] 0) #[]
def o355_2 (p : Params) : Obj := .mk .none .none (@PySem.Data.fields #[]) #[]
def o356_2 (p : Params) : Obj := .mk .none .none (.func (.mk (s "_law_small_scene") (s "_law_small_scene") (defArgs (tp 28)) (.stmts (defBody (tp 28))) (defScope (tp 28)) 0 [] .none .none .none .none .none .none .none 0)) #[]
def o357_2 (p : Params) : Obj := .mk (.type "code") .none (@PySem.Data.fields (@List.toArray PySem.Value [(u "_law_small_scene" 675), (u "_law_small_scene" 676), (u "/claim/cut.py" 677), (@PySem.Value.int (i 216) 0), (@PySem.Value.int (i 1) 0), (@PySem.Value.int (i 0) 0), (@PySem.Value.int (i 0) 0), (@PySem.Value.int (i 3) 0), (r 354), (@PySem.Value.bool Bool.true), (@PySem.Value.int (i 181) 0), (r 355), .none, .none, .none, (r 356), (@PySem.Value.int (i 678) 0), (@PySem.Value.int (i 216) 0), (u "/claim/cut.py" 679)])) #[]
def o358_2 (p : Params) : Obj := .mk (.type "function") .none (.func (.mk (s "_law_small_scene") (s "_law_small_scene") (defArgs (tp 28)) (.stmts (defBody (tp 28))) (defScope (tp 28)) 3 [] .none .none .none (u "law_hourlanes_k71_rooms_met_and_never_passed" 639) .none (r 357) .none 0)) #[]
def o359_2 (p : Params) : Obj := .mk (.type "tuple") .none (@PySem.Data.seq #[] 0) #[]
def o360_2 (p : Params) : Obj := .mk .none .none (@PySem.Data.fields #[]) #[]
def o361_2 (p : Params) : Obj := .mk .none .none (.func (.mk (s "_law_made") (s "_law_made") (defArgs (tp 29)) (.stmts (defBody (tp 29))) (defScope (tp 29)) 0 [] .none .none .none .none .none .none .none 0)) #[]
def o362_2 (p : Params) : Obj := .mk (.type "code") .none (@PySem.Data.fields (@List.toArray PySem.Value [(u "_law_made" 681), (u "_law_made" 682), (u "/claim/cut.py" 683), (@PySem.Value.int (i 232) 0), (@PySem.Value.int (i 1) 0), (@PySem.Value.int (i 0) 0), (@PySem.Value.int (i 0) 0), (@PySem.Value.int (i 3) 0), (r 359), (@PySem.Value.bool Bool.true), (@PySem.Value.int (i 181) 0), (r 360), .none, .none, .none, (r 361), (@PySem.Value.int (i 684) 0), (@PySem.Value.int (i 232) 0), (u "/claim/cut.py" 685)])) #[]
def o363_2 (p : Params) : Obj := .mk (.type "function") .none (.func (.mk (s "_law_made") (s "_law_made") (defArgs (tp 29)) (.stmts (defBody (tp 29))) (defScope (tp 29)) 3 [] .none .none .none (u "law_hourlanes_k71_rooms_met_and_never_passed" 639) .none (r 362) .none 0)) #[]
def o364_2 (p : Params) : Obj := .mk (.type "tuple") .none (@PySem.Data.seq #[] 0) #[]
def o365_2 (p : Params) : Obj := .mk .none .none (@PySem.Data.fields #[]) #[]
def o366_2 (p : Params) : Obj := .mk .none .none (.func (.mk (s "_law_is_room") (s "_law_is_room") (defArgs (tp 30)) (.stmts (defBody (tp 30))) (defScope (tp 30)) 0 [] .none .none .none .none .none .none .none 0)) #[]
def o367_2 (p : Params) : Obj := .mk (.type "code") .none (@PySem.Data.fields (@List.toArray PySem.Value [(u "_law_is_room" 687), (u "_law_is_room" 688), (u "/claim/cut.py" 689), (@PySem.Value.int (i 236) 0), (@PySem.Value.int (i 2) 0), (@PySem.Value.int (i 0) 0), (@PySem.Value.int (i 0) 0), (@PySem.Value.int (i 3) 0), (r 364), (@PySem.Value.bool Bool.true), (@PySem.Value.int (i 181) 0), (r 365), .none, .none, .none, (r 366), (@PySem.Value.int (i 690) 0), (@PySem.Value.int (i 236) 0), (u "/claim/cut.py" 691)])) #[]
def o368_2 (p : Params) : Obj := .mk (.type "function") .none (.func (.mk (s "_law_is_room") (s "_law_is_room") (defArgs (tp 30)) (.stmts (defBody (tp 30))) (defScope (tp 30)) 3 [] .none .none .none (u "law_hourlanes_k71_rooms_met_and_never_passed" 639) .none (r 367) .none 0)) #[]
def o369_2 (p : Params) : Obj := .mk (.type "tuple") .none (@PySem.Data.seq #[] 0) #[]
def o370_2 (p : Params) : Obj := .mk .none .none (@PySem.Data.fields #[]) #[]
def o371_2 (p : Params) : Obj := .mk .none .none (.func (.mk (s "_law_fit") (s "_law_fit") (defArgs (tp 31)) (.stmts (defBody (tp 31))) (defScope (tp 31)) 0 [] .none .none .none .none .none .none .none 0)) #[]
def o372_2 (p : Params) : Obj := .mk (.type "code") .none (@PySem.Data.fields (@List.toArray PySem.Value [(u "_law_fit" 693), (u "_law_fit" 694), (u "/claim/cut.py" 695), (@PySem.Value.int (i 240) 0), (@PySem.Value.int (i 2) 0), (@PySem.Value.int (i 0) 0), (@PySem.Value.int (i 0) 0), (@PySem.Value.int (i 3) 0), (r 369), (@PySem.Value.bool Bool.true), (@PySem.Value.int (i 181) 0), (r 370), .none, .none, .none, (r 371), (@PySem.Value.int (i 696) 0), (@PySem.Value.int (i 240) 0), (u "/claim/cut.py" 697)])) #[]
def o373_2 (p : Params) : Obj := .mk (.type "function") .none (.func (.mk (s "_law_fit") (s "_law_fit") (defArgs (tp 31)) (.stmts (defBody (tp 31))) (defScope (tp 31)) 3 [] .none .none .none (u "law_hourlanes_k71_rooms_met_and_never_passed" 639) .none (r 372) .none 0)) #[]
def o374_2 (p : Params) : Obj := .mk (.type "tuple") .none (@PySem.Data.seq #[] 0) #[]
def o375_2 (p : Params) : Obj := .mk .none .none (@PySem.Data.fields #[]) #[]
def o376_2 (p : Params) : Obj := .mk .none .none (.func (.mk (s "_law_met") (s "_law_met") (defArgs (tp 32)) (.stmts (defBody (tp 32))) (defScope (tp 32)) 0 [] .none .none .none .none .none .none .none 0)) #[]
def o377_2 (p : Params) : Obj := .mk (.type "code") .none (@PySem.Data.fields (@List.toArray PySem.Value [(u "_law_met" 699), (u "_law_met" 700), (u "/claim/cut.py" 701), (@PySem.Value.int (i 254) 0), (@PySem.Value.int (i 4) 0), (@PySem.Value.int (i 0) 0), (@PySem.Value.int (i 0) 0), (@PySem.Value.int (i 3) 0), (r 374), (@PySem.Value.bool Bool.true), (@PySem.Value.int (i 181) 0), (r 375), .none, .none, .none, (r 376), (@PySem.Value.int (i 702) 0), (@PySem.Value.int (i 254) 0), (u "/claim/cut.py" 703)])) #[]
def o378_2 (p : Params) : Obj := .mk (.type "function") .none (.func (.mk (s "_law_met") (s "_law_met") (defArgs (tp 32)) (.stmts (defBody (tp 32))) (defScope (tp 32)) 3 [] .none .none .none (u "law_hourlanes_k71_rooms_met_and_never_passed" 639) .none (r 377) .none 0)) #[]
def o379_2 (p : Params) : Obj := .mk (.type "tuple") .none (@PySem.Data.seq #[] 0) #[]
def o380_2 (p : Params) : Obj := .mk .none .none (@PySem.Data.fields #[]) #[]
def o381_2 (p : Params) : Obj := .mk .none .none (.func (.mk (s "_law_stood") (s "_law_stood") (defArgs (tp 33)) (.stmts (defBody (tp 33))) (defScope (tp 33)) 0 [] .none .none .none .none .none .none .none 0)) #[]
def o382_2 (p : Params) : Obj := .mk (.type "code") .none (@PySem.Data.fields (@List.toArray PySem.Value [(u "_law_stood" 705), (u "_law_stood" 706), (u "/claim/cut.py" 707), (@PySem.Value.int (i 262) 0), (@PySem.Value.int (i 3) 0), (@PySem.Value.int (i 0) 0), (@PySem.Value.int (i 0) 0), (@PySem.Value.int (i 3) 0), (r 379), (@PySem.Value.bool Bool.true), (@PySem.Value.int (i 181) 0), (r 380), .none, .none, .none, (r 381), (@PySem.Value.int (i 708) 0), (@PySem.Value.int (i 262) 0), (u "/claim/cut.py" 709)])) #[]
def o383_2 (p : Params) : Obj := .mk (.type "function") .none (.func (.mk (s "_law_stood") (s "_law_stood") (defArgs (tp 33)) (.stmts (defBody (tp 33))) (defScope (tp 33)) 3 [] .none .none .none (u "law_hourlanes_k71_rooms_met_and_never_passed" 639) .none (r 382) .none 0)) #[]
def o384_2 (p : Params) : Obj := .mk (.type "tuple") .none (@PySem.Data.seq #[] 0) #[]
def o385_2 (p : Params) : Obj := .mk .none .none (@PySem.Data.fields #[]) #[]
def o386_2 (p : Params) : Obj := .mk .none .none (.func (.mk (s "_law_highest") (s "_law_highest") (defArgs (tp 34)) (.stmts (defBody (tp 34))) (defScope (tp 34)) 0 [] .none .none .none .none .none .none .none 0)) #[]
def o387_2 (p : Params) : Obj := .mk (.type "code") .none (@PySem.Data.fields (@List.toArray PySem.Value [(u "_law_highest" 711), (u "_law_highest" 712), (u "/claim/cut.py" 713), (@PySem.Value.int (i 270) 0), (@PySem.Value.int (i 3) 0), (@PySem.Value.int (i 0) 0), (@PySem.Value.int (i 0) 0), (@PySem.Value.int (i 3) 0), (r 384), (@PySem.Value.bool Bool.true), (@PySem.Value.int (i 181) 0), (r 385), .none, .none, .none, (r 386), (@PySem.Value.int (i 714) 0), (@PySem.Value.int (i 270) 0), (u "/claim/cut.py" 715)])) #[]
def o388_2 (p : Params) : Obj := .mk (.type "function") .none (.func (.mk (s "_law_highest") (s "_law_highest") (defArgs (tp 34)) (.stmts (defBody (tp 34))) (defScope (tp 34)) 3 [] .none .none .none (u "law_hourlanes_k71_rooms_met_and_never_passed" 639) .none (r 387) .none 0)) #[]
def o389_2 (p : Params) : Obj := .mk (.type "tuple") .none (@PySem.Data.seq #[] 0) #[]
def o390_2 (p : Params) : Obj := .mk .none .none (@PySem.Data.fields #[]) #[]
def o391_2 (p : Params) : Obj := .mk .none .none (.func (.mk (s "law") (s "law") (defArgs (tp 35)) (.stmts (defBody (tp 35))) (defScope (tp 35)) 0 [] .none .none .none .none .none .none .none 0)) #[]
def o392_2 (p : Params) : Obj := .mk (.type "code") .none (@PySem.Data.fields (@List.toArray PySem.Value [(u "law" 717), (u "law" 718), (u "/claim/cut.py" 719), (@PySem.Value.int (i 287) 0), (@PySem.Value.int (i 1) 0), (@PySem.Value.int (i 0) 0), (@PySem.Value.int (i 0) 0), (@PySem.Value.int (i 3) 0), (r 389), (@PySem.Value.bool Bool.true), (@PySem.Value.int (i 181) 0), (r 390), .none, .none, .none, (r 391), (@PySem.Value.int (i 720) 0), (@PySem.Value.int (i 287) 0), (u "/claim/cut.py" 721)])) #[]
def o393_2 (p : Params) : Obj := .mk (.type "function") .none (.func (.mk (s "law") (s "law") (defArgs (tp 35)) (.stmts (defBody (tp 35))) (defScope (tp 35)) 3 [] .none .none .none (u "law_hourlanes_k71_rooms_met_and_never_passed" 639) .none (r 392) .none 0)) #[]
def t2_0 (p : Params) : BT := (.node (o15_1 p) (.node (o31_1 p) (.node (o63_1 p) (.node (o127_1 p) (.node (o255_2 p) .nil .nil) (.node (o383_2 p) .nil .nil)) (.node (o191_2 p) (.node (o319_2 p) .nil .nil) .nil)) (.node (o95_1 p) (.node (o159_2 p) (.node (o287_2 p) .nil .nil) .nil) (.node (o223_2 p) (.node (o351_2 p) .nil .nil) .nil))) (.node (o47_1 p) (.node (o79_1 p) (.node (o143_1 p) (.node (o271_2 p) .nil .nil) .nil) (.node (o207_2 p) (.node (o335_2 p) .nil .nil) .nil)) (.node (o111_1 p) (.node (o175_2 p) (.node (o303_2 p) .nil .nil) .nil) (.node (o239_2 p) (.node (o367_2 p) .nil .nil) .nil))))
def t2_1 (p : Params) : BT := (.node (o16_1 p) (.node (o32_1 p) (.node (o64_1 p) (.node (o128_1 p) (.node (o256_2 p) .nil .nil) (.node (o384_2 p) .nil .nil)) (.node (o192_2 p) (.node (o320_2 p) .nil .nil) .nil)) (.node (o96_1 p) (.node (o160_2 p) (.node (o288_2 p) .nil .nil) .nil) (.node (o224_2 p) (.node (o352_2 p) .nil .nil) .nil))) (.node (o48_1 p) (.node (o80_1 p) (.node (o144_1 p) (.node (o272_2 p) .nil .nil) .nil) (.node (o208_2 p) (.node (o336_2 p) .nil .nil) .nil)) (.node (o112_1 p) (.node (o176_2 p) (.node (o304_2 p) .nil .nil) .nil) (.node (o240_2 p) (.node (o368_2 p) .nil .nil) .nil))))
def t2_2 (p : Params) : BT := (.node (o17_1 p) (.node (o33_1 p) (.node (o65_1 p) (.node (o129_1 p) (.node (o257_2 p) .nil .nil) (.node (o385_2 p) .nil .nil)) (.node (o193_2 p) (.node (o321_2 p) .nil .nil) .nil)) (.node (o97_1 p) (.node (o161_2 p) (.node (o289_2 p) .nil .nil) .nil) (.node (o225_2 p) (.node (o353_2 p) .nil .nil) .nil))) (.node (o49_1 p) (.node (o81_1 p) (.node (o145_1 p) (.node (o273_2 p) .nil .nil) .nil) (.node (o209_2 p) (.node (o337_2 p) .nil .nil) .nil)) (.node (o113_1 p) (.node (o177_2 p) (.node (o305_2 p) .nil .nil) .nil) (.node (o241_2 p) (.node (o369_2 p) .nil .nil) .nil))))
def t2_3 (p : Params) : BT := (.node (o18_1 p) (.node (o34_1 p) (.node (o66_1 p) (.node (o130_1 p) (.node (o258_2 p) .nil .nil) (.node (o386_2 p) .nil .nil)) (.node (o194_2 p) (.node (o322_2 p) .nil .nil) .nil)) (.node (o98_1 p) (.node (o162_2 p) (.node (o290_2 p) .nil .nil) .nil) (.node (o226_2 p) (.node (o354_2 p) .nil .nil) .nil))) (.node (o50_1 p) (.node (o82_1 p) (.node (o146_1 p) (.node (o274_2 p) .nil .nil) .nil) (.node (o210_2 p) (.node (o338_2 p) .nil .nil) .nil)) (.node (o114_1 p) (.node (o178_2 p) (.node (o306_2 p) .nil .nil) .nil) (.node (o242_2 p) (.node (o370_2 p) .nil .nil) .nil))))
def t2_4 (p : Params) : BT := (.node (o19_1 p) (.node (o35_1 p) (.node (o67_1 p) (.node (o131_1 p) (.node (o259_2 p) .nil .nil) (.node (o387_2 p) .nil .nil)) (.node (o195_2 p) (.node (o323_2 p) .nil .nil) .nil)) (.node (o99_1 p) (.node (o163_2 p) (.node (o291_2 p) .nil .nil) .nil) (.node (o227_2 p) (.node (o355_2 p) .nil .nil) .nil))) (.node (o51_1 p) (.node (o83_1 p) (.node (o147_1 p) (.node (o275_2 p) .nil .nil) .nil) (.node (o211_2 p) (.node (o339_2 p) .nil .nil) .nil)) (.node (o115_1 p) (.node (o179_2 p) (.node (o307_2 p) .nil .nil) .nil) (.node (o243_2 p) (.node (o371_2 p) .nil .nil) .nil))))
def t2_5 (p : Params) : BT := (.node (o20_1 p) (.node (o36_1 p) (.node (o68_1 p) (.node (o132_1 p) (.node (o260_2 p) .nil .nil) (.node (o388_2 p) .nil .nil)) (.node (o196_2 p) (.node (o324_2 p) .nil .nil) .nil)) (.node (o100_1 p) (.node (o164_2 p) (.node (o292_2 p) .nil .nil) .nil) (.node (o228_2 p) (.node (o356_2 p) .nil .nil) .nil))) (.node (o52_1 p) (.node (o84_1 p) (.node (o148_1 p) (.node (o276_2 p) .nil .nil) .nil) (.node (o212_2 p) (.node (o340_2 p) .nil .nil) .nil)) (.node (o116_1 p) (.node (o180_2 p) (.node (o308_2 p) .nil .nil) .nil) (.node (o244_2 p) (.node (o372_2 p) .nil .nil) .nil))))
def t2_6 (p : Params) : BT := (.node (o21_1 p) (.node (o37_1 p) (.node (o69_1 p) (.node (o133_1 p) (.node (o261_2 p) .nil .nil) (.node (o389_2 p) .nil .nil)) (.node (o197_2 p) (.node (o325_2 p) .nil .nil) .nil)) (.node (o101_1 p) (.node (o165_2 p) (.node (o293_2 p) .nil .nil) .nil) (.node (o229_2 p) (.node (o357_2 p) .nil .nil) .nil))) (.node (o53_1 p) (.node (o85_1 p) (.node (o149_1 p) (.node (o277_2 p) .nil .nil) .nil) (.node (o213_2 p) (.node (o341_2 p) .nil .nil) .nil)) (.node (o117_1 p) (.node (o181_2 p) (.node (o309_2 p) .nil .nil) .nil) (.node (o245_2 p) (.node (o373_2 p) .nil .nil) .nil))))
def t2_7 (p : Params) : BT := (.node (o22_1 p) (.node (o38_1 p) (.node (o70_1 p) (.node (o134_1 p) (.node (o262_2 p) .nil .nil) (.node (o390_2 p) .nil .nil)) (.node (o198_2 p) (.node (o326_2 p) .nil .nil) .nil)) (.node (o102_1 p) (.node (o166_2 p) (.node (o294_2 p) .nil .nil) .nil) (.node (o230_2 p) (.node (o358_2 p) .nil .nil) .nil))) (.node (o54_1 p) (.node (o86_1 p) (.node (o150_1 p) (.node (o278_2 p) .nil .nil) .nil) (.node (o214_2 p) (.node (o342_2 p) .nil .nil) .nil)) (.node (o118_1 p) (.node (o182_2 p) (.node (o310_2 p) .nil .nil) .nil) (.node (o246_2 p) (.node (o374_2 p) .nil .nil) .nil))))
def t2_8 (p : Params) : BT := (.node (o23_1 p) (.node (o39_1 p) (.node (o71_1 p) (.node (o135_1 p) (.node (o263_2 p) .nil .nil) (.node (o391_2 p) .nil .nil)) (.node (o199_2 p) (.node (o327_2 p) .nil .nil) .nil)) (.node (o103_1 p) (.node (o167_2 p) (.node (o295_2 p) .nil .nil) .nil) (.node (o231_2 p) (.node (o359_2 p) .nil .nil) .nil))) (.node (o55_1 p) (.node (o87_1 p) (.node (o151_1 p) (.node (o279_2 p) .nil .nil) .nil) (.node (o215_2 p) (.node (o343_2 p) .nil .nil) .nil)) (.node (o119_1 p) (.node (o183_2 p) (.node (o311_2 p) .nil .nil) .nil) (.node (o247_2 p) (.node (o375_2 p) .nil .nil) .nil))))
def t2_9 (p : Params) : BT := (.node (o24_1 p) (.node (o40_1 p) (.node (o72_1 p) (.node (o136_1 p) (.node (o264_2 p) .nil .nil) (.node (o392_2 p) .nil .nil)) (.node (o200_2 p) (.node (o328_2 p) .nil .nil) .nil)) (.node (o104_1 p) (.node (o168_2 p) (.node (o296_2 p) .nil .nil) .nil) (.node (o232_2 p) (.node (o360_2 p) .nil .nil) .nil))) (.node (o56_1 p) (.node (o88_1 p) (.node (o152_1 p) (.node (o280_2 p) .nil .nil) .nil) (.node (o216_2 p) (.node (o344_2 p) .nil .nil) .nil)) (.node (o120_1 p) (.node (o184_2 p) (.node (o312_2 p) .nil .nil) .nil) (.node (o248_2 p) (.node (o376_2 p) .nil .nil) .nil))))
def t2_10 (p : Params) : BT := (.node (o25_1 p) (.node (o41_1 p) (.node (o73_1 p) (.node (o137_1 p) (.node (o265_2 p) .nil .nil) (.node (o393_2 p) .nil .nil)) (.node (o201_2 p) (.node (o329_2 p) .nil .nil) .nil)) (.node (o105_1 p) (.node (o169_2 p) (.node (o297_2 p) .nil .nil) .nil) (.node (o233_2 p) (.node (o361_2 p) .nil .nil) .nil))) (.node (o57_1 p) (.node (o89_1 p) (.node (o153_1 p) (.node (o281_2 p) .nil .nil) .nil) (.node (o217_2 p) (.node (o345_2 p) .nil .nil) .nil)) (.node (o121_1 p) (.node (o185_2 p) (.node (o313_2 p) .nil .nil) .nil) (.node (o249_2 p) (.node (o377_2 p) .nil .nil) .nil))))
def t2_11 (p : Params) : BT := (.node (o26_1 p) (.node (o42_1 p) (.node (o74_1 p) (.node (o138_1 p) (.node (o266_2 p) .nil .nil) .nil) (.node (o202_2 p) (.node (o330_2 p) .nil .nil) .nil)) (.node (o106_1 p) (.node (o170_2 p) (.node (o298_2 p) .nil .nil) .nil) (.node (o234_2 p) (.node (o362_2 p) .nil .nil) .nil))) (.node (o58_1 p) (.node (o90_1 p) (.node (o154_1 p) (.node (o282_2 p) .nil .nil) .nil) (.node (o218_2 p) (.node (o346_2 p) .nil .nil) .nil)) (.node (o122_1 p) (.node (o186_2 p) (.node (o314_2 p) .nil .nil) .nil) (.node (o250_2 p) (.node (o378_2 p) .nil .nil) .nil))))
def t2_12 (p : Params) : BT := (.node (o27_1 p) (.node (o43_1 p) (.node (o75_1 p) (.node (o139_1 p) (.node (o267_2 p) .nil .nil) .nil) (.node (o203_2 p) (.node (o331_2 p) .nil .nil) .nil)) (.node (o107_1 p) (.node (o171_2 p) (.node (o299_2 p) .nil .nil) .nil) (.node (o235_2 p) (.node (o363_2 p) .nil .nil) .nil))) (.node (o59_1 p) (.node (o91_1 p) (.node (o155_1 p) (.node (o283_2 p) .nil .nil) .nil) (.node (o219_2 p) (.node (o347_2 p) .nil .nil) .nil)) (.node (o123_1 p) (.node (o187_2 p) (.node (o315_2 p) .nil .nil) .nil) (.node (o251_2 p) (.node (o379_2 p) .nil .nil) .nil))))
def t2_13 (p : Params) : BT := (.node (o28_1 p) (.node (o44_1 p) (.node (o76_1 p) (.node (o140_1 p) (.node (o268_2 p) .nil .nil) .nil) (.node (o204_2 p) (.node (o332_2 p) .nil .nil) .nil)) (.node (o108_1 p) (.node (o172_2 p) (.node (o300_2 p) .nil .nil) .nil) (.node (o236_2 p) (.node (o364_2 p) .nil .nil) .nil))) (.node (o60_1 p) (.node (o92_1 p) (.node (o156_1 p) (.node (o284_2 p) .nil .nil) .nil) (.node (o220_2 p) (.node (o348_2 p) .nil .nil) .nil)) (.node (o124_1 p) (.node (o188_2 p) (.node (o316_2 p) .nil .nil) .nil) (.node (o252_2 p) (.node (o380_2 p) .nil .nil) .nil))))
def t2_14 (p : Params) : BT := (.node (o29_1 p) (.node (o45_1 p) (.node (o77_1 p) (.node (o141_1 p) (.node (o269_2 p) .nil .nil) .nil) (.node (o205_2 p) (.node (o333_2 p) .nil .nil) .nil)) (.node (o109_1 p) (.node (o173_2 p) (.node (o301_2 p) .nil .nil) .nil) (.node (o237_2 p) (.node (o365_2 p) .nil .nil) .nil))) (.node (o61_1 p) (.node (o93_1 p) (.node (o157_2 p) (.node (o285_2 p) .nil .nil) .nil) (.node (o221_2 p) (.node (o349_2 p) .nil .nil) .nil)) (.node (o125_1 p) (.node (o189_2 p) (.node (o317_2 p) .nil .nil) .nil) (.node (o253_2 p) (.node (o381_2 p) .nil .nil) .nil))))
def t2_15 (p : Params) : BT := (.node (o30_1 p) (.node (o46_1 p) (.node (o78_1 p) (.node (o142_1 p) (.node (o270_2 p) .nil .nil) .nil) (.node (o206_2 p) (.node (o334_2 p) .nil .nil) .nil)) (.node (o110_1 p) (.node (o174_2 p) (.node (o302_2 p) .nil .nil) .nil) (.node (o238_2 p) (.node (o366_2 p) .nil .nil) .nil))) (.node (o62_1 p) (.node (o94_1 p) (.node (o158_2 p) (.node (o286_2 p) .nil .nil) .nil) (.node (o222_2 p) (.node (o350_2 p) .nil .nil) .nil)) (.node (o126_1 p) (.node (o190_2 p) (.node (o318_2 p) .nil .nil) .nil) (.node (o254_2 p) (.node (o382_2 p) .nil .nil) .nil))))
def tree2 (p : Params) : BT := (.node (boot_o_0 p) (.node (boot_o_1 p) (.node (o3_2 p) (.node (boot_o_7 p) (t2_0 p) (t2_8 p)) (.node (o11_1 p) (t2_4 p) (t2_12 p))) (.node (boot_o_5 p) (.node (boot_o_9 p) (t2_2 p) (t2_10 p)) (.node (o13_1 p) (t2_6 p) (t2_14 p)))) (.node (boot_o_2 p) (.node (boot_o_4 p) (.node (boot_o_8 p) (t2_1 p) (t2_9 p)) (.node (o12_2 p) (t2_5 p) (t2_13 p))) (.node (boot_o_6 p) (.node (boot_o_10 p) (t2_3 p) (t2_11 p)) (.node (o14_1 p) (t2_7 p) (t2_15 p)))))
def st2 (w : World) (os : OsState) : SharedT := ⟨tree2 w.params, 394, (@PySem.Life.mk [] [] [] 0 [] [] Bool.false #[] [] 0 Bool.false Bool.false Bool.false (i 0) [(i 2000), (i 10), (i 10)] Bool.false 0 Bool.true [] [] 0 Bool.false), #[], (@PySem.Drawn.mk 0 0 0 0), 723, os⟩
def ls0 (p : Params) : List Obj := [boot_o_0 p, boot_o_1 p, boot_o_2 p, o3_2 p, boot_o_4 p, boot_o_5 p, boot_o_6 p, boot_o_7 p, boot_o_8 p, boot_o_9 p, boot_o_10 p, o11_1 p, o12_2 p, o13_1 p, o14_1 p, o15_1 p, o16_1 p, o17_1 p, o18_1 p, o19_1 p, o20_1 p, o21_1 p, o22_1 p, o23_1 p, o24_1 p, o25_1 p, o26_1 p, o27_1 p, o28_1 p, o29_1 p, o30_1 p, o31_1 p, o32_1 p, o33_1 p, o34_1 p, o35_1 p, o36_1 p, o37_1 p, o38_1 p, o39_1 p, o40_1 p, o41_1 p, o42_1 p, o43_1 p, o44_1 p, o45_1 p, o46_1 p, o47_1 p, o48_1 p, o49_1 p, o50_1 p, o51_1 p, o52_1 p, o53_1 p, o54_1 p, o55_1 p, o56_1 p, o57_1 p, o58_1 p, o59_1 p]
def ls1 (p : Params) : List Obj := [o60_1 p, o61_1 p, o62_1 p, o63_1 p, o64_1 p, o65_1 p, o66_1 p, o67_1 p, o68_1 p, o69_1 p, o70_1 p, o71_1 p, o72_1 p, o73_1 p, o74_1 p, o75_1 p, o76_1 p, o77_1 p, o78_1 p, o79_1 p, o80_1 p, o81_1 p, o82_1 p, o83_1 p, o84_1 p, o85_1 p, o86_1 p, o87_1 p, o88_1 p, o89_1 p, o90_1 p, o91_1 p, o92_1 p, o93_1 p, o94_1 p, o95_1 p, o96_1 p, o97_1 p, o98_1 p, o99_1 p, o100_1 p, o101_1 p, o102_1 p, o103_1 p, o104_1 p, o105_1 p, o106_1 p, o107_1 p, o108_1 p, o109_1 p, o110_1 p, o111_1 p, o112_1 p, o113_1 p, o114_1 p, o115_1 p, o116_1 p, o117_1 p, o118_1 p, o119_1 p]
def ls2 (p : Params) : List Obj := [o120_1 p, o121_1 p, o122_1 p, o123_1 p, o124_1 p, o125_1 p, o126_1 p, o127_1 p, o128_1 p, o129_1 p, o130_1 p, o131_1 p, o132_1 p, o133_1 p, o134_1 p, o135_1 p, o136_1 p, o137_1 p, o138_1 p, o139_1 p, o140_1 p, o141_1 p, o142_1 p, o143_1 p, o144_1 p, o145_1 p, o146_1 p, o147_1 p, o148_1 p, o149_1 p, o150_1 p, o151_1 p, o152_1 p, o153_1 p, o154_1 p, o155_1 p, o156_1 p, o157_2 p, o158_2 p, o159_2 p, o160_2 p, o161_2 p, o162_2 p, o163_2 p, o164_2 p, o165_2 p, o166_2 p, o167_2 p, o168_2 p, o169_2 p, o170_2 p, o171_2 p, o172_2 p, o173_2 p, o174_2 p, o175_2 p, o176_2 p, o177_2 p, o178_2 p, o179_2 p]
def ls3 (p : Params) : List Obj := [o180_2 p, o181_2 p, o182_2 p, o183_2 p, o184_2 p, o185_2 p, o186_2 p, o187_2 p, o188_2 p, o189_2 p, o190_2 p, o191_2 p, o192_2 p, o193_2 p, o194_2 p, o195_2 p, o196_2 p, o197_2 p, o198_2 p, o199_2 p, o200_2 p, o201_2 p, o202_2 p, o203_2 p, o204_2 p, o205_2 p, o206_2 p, o207_2 p, o208_2 p, o209_2 p, o210_2 p, o211_2 p, o212_2 p, o213_2 p, o214_2 p, o215_2 p, o216_2 p, o217_2 p, o218_2 p, o219_2 p, o220_2 p, o221_2 p, o222_2 p, o223_2 p, o224_2 p, o225_2 p, o226_2 p, o227_2 p, o228_2 p, o229_2 p, o230_2 p, o231_2 p, o232_2 p, o233_2 p, o234_2 p, o235_2 p, o236_2 p, o237_2 p, o238_2 p, o239_2 p]
def ls4 (p : Params) : List Obj := [o240_2 p, o241_2 p, o242_2 p, o243_2 p, o244_2 p, o245_2 p, o246_2 p, o247_2 p, o248_2 p, o249_2 p, o250_2 p, o251_2 p, o252_2 p, o253_2 p, o254_2 p, o255_2 p, o256_2 p, o257_2 p, o258_2 p, o259_2 p, o260_2 p, o261_2 p, o262_2 p, o263_2 p, o264_2 p, o265_2 p, o266_2 p, o267_2 p, o268_2 p, o269_2 p, o270_2 p, o271_2 p, o272_2 p, o273_2 p, o274_2 p, o275_2 p, o276_2 p, o277_2 p, o278_2 p, o279_2 p, o280_2 p, o281_2 p, o282_2 p, o283_2 p, o284_2 p, o285_2 p, o286_2 p, o287_2 p, o288_2 p, o289_2 p, o290_2 p, o291_2 p, o292_2 p, o293_2 p, o294_2 p, o295_2 p, o296_2 p, o297_2 p, o298_2 p, o299_2 p]
def ls5 (p : Params) : List Obj := [o300_2 p, o301_2 p, o302_2 p, o303_2 p, o304_2 p, o305_2 p, o306_2 p, o307_2 p, o308_2 p, o309_2 p, o310_2 p, o311_2 p, o312_2 p, o313_2 p, o314_2 p, o315_2 p, o316_2 p, o317_2 p, o318_2 p, o319_2 p, o320_2 p, o321_2 p, o322_2 p, o323_2 p, o324_2 p, o325_2 p, o326_2 p, o327_2 p, o328_2 p, o329_2 p, o330_2 p, o331_2 p, o332_2 p, o333_2 p, o334_2 p, o335_2 p, o336_2 p, o337_2 p, o338_2 p, o339_2 p, o340_2 p, o341_2 p, o342_2 p, o343_2 p, o344_2 p, o345_2 p, o346_2 p, o347_2 p, o348_2 p, o349_2 p, o350_2 p, o351_2 p, o352_2 p, o353_2 p, o354_2 p, o355_2 p, o356_2 p, o357_2 p, o358_2 p, o359_2 p]
def ls6 (p : Params) : List Obj := [o360_2 p, o361_2 p, o362_2 p, o363_2 p, o364_2 p, o365_2 p, o366_2 p, o367_2 p, o368_2 p, o369_2 p, o370_2 p, o371_2 p, o372_2 p, o373_2 p, o374_2 p, o375_2 p, o376_2 p, o377_2 p, o378_2 p, o379_2 p, o380_2 p, o381_2 p, o382_2 p, o383_2 p, o384_2 p, o385_2 p, o386_2 p, o387_2 p, o388_2 p, o389_2 p, o390_2 p, o391_2 p, o392_2 p, o393_2 p]
def lstE (p : Params) : List Obj := ls0 p ++ (ls1 p ++ (ls2 p ++ (ls3 p ++ (ls4 p ++ (ls5 p ++ (ls6 p))))))
def shE (w : World) (os : OsState) : Shared := ⟨⟨(lstE w.params).toArray, (@PySem.Life.mk [] [] [] 0 [] [] Bool.false #[] [] 0 Bool.false Bool.false Bool.false (i 0) [(i 2000), (i 10), (i 10)] Bool.false 0 Bool.true [] [] 0 Bool.false)⟩, #[], (@PySem.Drawn.mk 0 0 0 0), 723, os⟩
theorem absE (w : World) (os : OsState) : (st2 w os).abs = shE w os := by kernel_rfl
theorem runE (w : World) (os : OsState) : goF (stepQ (denQ tabQ) pg w) 11 (bootAnn w) 1459 (st1 w os) th1 = some (st2 w os) := by kernel_rfl
theorem chain {M m : Nat} (w : World) (os : OsState) (h : M = 1428 + m) : endF (stepQ (denQ tabQ) pg w) M pg w os = goF (stepQ (denQ tabQ) pg w) 11 (bootAnn w) (0 + m) (st1 w os) th1 := (bootS_go (k := 1428) (m := 0 + m) (run1 w os) (by omega))
theorem cut {α β γ : Type} {M : Nat} {G1 : Shared → α} {G2 : Shared → β} {G3 : SharedT → γ} {a : α} {b : β} {c : γ} (w : World) (os : OsState) (h : Nat.ble 2887 M = true) (z1 : G1 (shE w os) = a) (z2 : G2 (shE w os) = b) (z3 : G3 (st2 w os) = c) : (endF (stepQ (denQ tabQ) pg w) M pg w os).map (fun s => (G1 s.abs, G2 s.abs, G3 s)) = some (a, b, c) := by
  rw [chain (m := (M - 2887) + 1459) w os (by have := Nat.le_of_ble_eq_true h; omega), show 0 + ((M - 2887) + 1459) = 1459 + (M - 2887) by omega, goF_mono (M - 2887) (runE w os)]
  show some (G1 (st2 w os).abs, G2 (st2 w os).abs, G3 (st2 w os)) = _
  rw [absE, z1, z2, z3]
end
end Hc
namespace Lw
open PySem L2
def top (i : Nat) : Stmt := PySem.Challenge.pw_hourlanes_k71_rooms_met_and_never_passed.main.body.getD i (.Pass ⟨0, 0, 0, 0⟩)
abbrev s_law_begun : Stmt := top 24
abbrev s_law_take : Stmt := top 25
abbrev s_law_pick : Stmt := top 26
abbrev s_law_small_scene : Stmt := top 28
abbrev s_Flow__init : Stmt := inClass (top 8) 0
abbrev s_Jar__init : Stmt := inClass (top 22) 0
abbrev s_Scene__init : Stmt := inClass (top 11) 0
abbrev s_law_made : Stmt := top 29
abbrev s_Scene_ask_rows : Stmt := inClass (top 11) 2
abbrev s_Scene_known_rows : Stmt := inClass (top 11) 1
abbrev s_quiet : Stmt := top 13
abbrev s_starts : Stmt := top 14
abbrev s_window : Stmt := top 10
abbrev s_Flow_ahead : Stmt := inClass (top 8) 3
abbrev s_lasts : Stmt := top 17
abbrev s_Flow_most : Stmt := inClass (top 8) 4
abbrev s_comes_in : Stmt := top 16
abbrev s_Scene_holds : Stmt := inClass (top 11) 6
abbrev s_room : Stmt := top 18
abbrev s_law_whole : Stmt := top 27
abbrev s_law_is_room : Stmt := top 30
abbrev s_Flow_mouthfuls : Stmt := inClass (top 8) 5
abbrev s_joined : Stmt := top 7
abbrev s_Flow_bursts : Stmt := inClass (top 8) 6
abbrev s_swell : Stmt := top 19
abbrev s_Jar_told : Stmt := inClass (top 22) 4
abbrev s_Flow_fits : Stmt := inClass (top 8) 7
abbrev s_law_fit : Stmt := top 31
abbrev s_law_met : Stmt := top 32
abbrev s_law_stood : Stmt := top 33
abbrev s_law_highest : Stmt := top 34
abbrev s_law : Stmt := top 35
def tHook (K : Params → PySem.W.Frag) (as : List Addr) (e : ∀ P, as = (K P).map (·.1)) (ts : List Addr) : PySem.W.Hook := PySem.W.kHook (fun p => K p ++ ts.map fun t => (t, PySem.W.tabObj #[])) (as ++ ts) (fun P => by rw [List.map_append, List.map_map, ← e P]; exact congrArg (as ++ ·) (List.map_id ts).symm)
theorem tk_app {K T : PySem.W.Frag} {a : Addr} {o : Obj} (h : K.lookup a = some o) : (K ++ T).lookup a = some o := by rw [List.lookup_append, h]; rfl
theorem tk_lk {a : Addr} {o : Obj} : ∀ {ts : List Addr}, a ∈ ts → (ts.map fun t => (t, o)).lookup a = some o
  | t :: ts, h => by
    rw [List.map_cons, List.lookup_cons]
    by_cases e : a = t
    · rw [e, beq_self_eq_true]
    · rw [beq_false_of_ne e]
      exact tk_lk ((List.mem_cons.mp h).resolve_left e)
theorem tk_in {K : Params → PySem.W.Frag} {as : List Addr} {e : ∀ P, as = (K P).map (·.1)} {ts : List Addr} {w : World} {h : Heap} (Y : (tHook K as e ts).says w h) : (K w.params).In h := fun a o q => (PySem.W.kIn_of Y) a o (tk_app q)
theorem tk_tab {K : Params → PySem.W.Frag} {as : List Addr} {e : ∀ P, as = (K P).map (·.1)} {ts : List Addr} {w : World} {h : Heap} (Y : (tHook K as e ts).says w h) {t : Addr} (m : t ∈ ts) (n : (K w.params).lookup t = none) : h.get? t = some (PySem.W.tabObj #[]) := (PySem.W.kIn_of Y) t _ (by rw [List.lookup_append, n]; exact tk_lk m)
theorem walk {l : PySem.W.OpenLaw} {qq : Program} {loose : List Str} {XP : (Str → Option Value) → Heap → Prop} {YP : World → Heap → Prop} {d : DefRec} {K : Params → PySem.W.Frag} (hn : l.most = some 63) (hdf : d.params.defaults = [])
    (hY : ∀ (w : World) (h : Heap), YP w h → (K w.params).In h)
    (F : ∀ (w : World) (mg : Str → Option Value) (fa : Addr) (h : Heap), YP w h → (K w.params).In h → h.Ns mainGlobals mg → mg d.name = some (.ref fa) → LamX.LawAtS l w (K w.params) (L2.CX l.prog w) 7 63 "_law_script" mg fa h) :
    PySem.W.WalkO qq loose XP YP l.row.toRowW d [] (fun f vs => PySem.call f vs) :=
  LamX.walk_ofTs (n := 63) (k := 7) (x := "_law_script") (CX := fun w => L2.CX l.prog w) hn (by decide) hdf ⟨rfl, by decide, by decide⟩ hY F fun _ _ _ _ _ z => by obtain ⟨_, _, _, _, _, _, _, _, _, _, _, _, z⟩ := z; exact z
def HFP : Prop := ∀ {l : PySem.W.OpenLaw} {w : World} {K : PySem.W.Frag} {h : Heap} {mg : Str → Option Value} {fa f1 f2 f3 f4 f5 f6 f7 f8 f9 f10 f11 f12 f13 f14 f15 f16 f17 f18 f19 f20 f21 f22 f23 f24 f25 f26 f27 f28 f29 f30 f31 f32 c_Jar c_NoJar c_Flow c_Scene c_NoTick tb_law : Addr} (X : K.In h) (G : h.Ns mainGlobals mg) (hfa : mg "law" = some (.ref fa))
    (ac_Jar : PySem.W.nsIn K mainGlobals "Jar" = some (some (.ref c_Jar)))
    (ac_NoJar : PySem.W.nsIn K mainGlobals "NoJar" = some (some (.ref c_NoJar)))
    (ac_Flow : PySem.W.nsIn K mainGlobals "Flow" = some (some (.ref c_Flow)))
    (ac_Scene : PySem.W.nsIn K mainGlobals "Scene" = some (some (.ref c_Scene)))
    (ac_NoTick : PySem.W.nsIn K mainGlobals "NoTick" = some (some (.ref c_NoTick)))
    {od1 an1 : Option Addr} {sl1 : Array (Option Value)} {oc1 kV1 dc1 pm1 cd1 ct1 : Value}
    (a1 : PySem.W.nsIn K mainGlobals "_law_begun" = some (some (.ref f1)))
    (l1 : K.lookup f1 = some ⟨oc1, od1, .func (PySem.W.fnOf "_law_begun" "_law_begun" (defArgs s_law_begun) (defBody s_law_begun) (defScope s_law_begun) .none kV1 dc1 pm1 an1 cd1 ct1), sl1⟩)
    (c1 : PySem.W.codeIn K cd1 "_law_begun" = true)
    (k1 : PySem.W.keepIn K (.ref f1) = true)
    {od2 an2 : Option Addr} {sl2 : Array (Option Value)} {oc2 kV2 dc2 pm2 cd2 ct2 : Value}
    (a2 : PySem.W.nsIn K mainGlobals "_law_take" = some (some (.ref f2)))
    (l2 : K.lookup f2 = some ⟨oc2, od2, .func (PySem.W.fnOf "_law_take" "_law_take" (defArgs s_law_take) (defBody s_law_take) (defScope s_law_take) .none kV2 dc2 pm2 an2 cd2 ct2), sl2⟩)
    (c2 : PySem.W.codeIn K cd2 "_law_take" = true)
    (k2 : PySem.W.keepIn K (.ref f2) = true)
    {od3 an3 : Option Addr} {sl3 : Array (Option Value)} {oc3 kV3 dc3 pm3 cd3 ct3 : Value}
    (a3 : PySem.W.nsIn K mainGlobals "_law_pick" = some (some (.ref f3)))
    (l3 : K.lookup f3 = some ⟨oc3, od3, .func (PySem.W.fnOf "_law_pick" "_law_pick" (defArgs s_law_pick) (defBody s_law_pick) (defScope s_law_pick) .none kV3 dc3 pm3 an3 cd3 ct3), sl3⟩)
    (c3 : PySem.W.codeIn K cd3 "_law_pick" = true)
    (k3 : PySem.W.keepIn K (.ref f3) = true)
    {od4 an4 : Option Addr} {sl4 : Array (Option Value)} {oc4 kV4 dc4 pm4 cd4 ct4 : Value}
    (a4 : PySem.W.nsIn K mainGlobals "_law_small_scene" = some (some (.ref f4)))
    (l4 : K.lookup f4 = some ⟨oc4, od4, .func (PySem.W.fnOf "_law_small_scene" "_law_small_scene" (defArgs s_law_small_scene) (defBody s_law_small_scene) (defScope s_law_small_scene) .none kV4 dc4 pm4 an4 cd4 ct4), sl4⟩)
    (c4 : PySem.W.codeIn K cd4 "_law_small_scene" = true)
    (k4 : PySem.W.keepIn K (.ref f4) = true)
    {od5 an5 : Option Addr} {sl5 : Array (Option Value)} {oc5 kV5 dc5 pm5 cd5 ct5 : Value}
    (a5 : PySem.W.findIn K (.ref c_Flow) "__init__" = some (some (.ref f5)))
    (n5 : PySem.W.isFn K (.ref f5) = true)
    {T5 : Addr} {Td5 : Option Addr} {Tc5 : Value} {Tn5 : Nat} {Ts5 : Array (Option Value)}
    (l5 : K.lookup f5 = some ⟨oc5, od5, .func (PySem.W.fnOf "__init__" "Flow.__init__" (defArgs s_Flow__init) (defBody s_Flow__init) (defScope s_Flow__init) (.ref T5) kV5 dc5 pm5 an5 cd5 ct5), sl5⟩)
    (lT5 : K.lookup T5 = some ⟨Tc5, Td5, .seq #[.none] Tn5, Ts5⟩)
    (c5 : PySem.W.codeIn K cd5 "Flow.__init__" = true)
    (k5 : PySem.W.keepIn K (.ref f5) = true)
    {od6 an6 : Option Addr} {sl6 : Array (Option Value)} {oc6 kV6 dc6 pm6 cd6 ct6 : Value}
    (a6 : PySem.W.findIn K (.ref c_Jar) "__init__" = some (some (.ref f6)))
    (n6 : PySem.W.isFn K (.ref f6) = true)
    (l6 : K.lookup f6 = some ⟨oc6, od6, .func (PySem.W.fnOf "__init__" "Jar.__init__" (defArgs s_Jar__init) (defBody s_Jar__init) (defScope s_Jar__init) .none kV6 dc6 pm6 an6 cd6 ct6), sl6⟩)
    (c6 : PySem.W.codeIn K cd6 "Jar.__init__" = true)
    (k6 : PySem.W.keepIn K (.ref f6) = true)
    {od7 an7 : Option Addr} {sl7 : Array (Option Value)} {oc7 kV7 dc7 pm7 cd7 ct7 : Value}
    (a7 : PySem.W.findIn K (.ref c_Scene) "__init__" = some (some (.ref f7)))
    (n7 : PySem.W.isFn K (.ref f7) = true)
    {T7 : Addr} {Td7 : Option Addr} {Tc7 : Value} {Tn7 : Nat} {Ts7 : Array (Option Value)}
    (l7 : K.lookup f7 = some ⟨oc7, od7, .func (PySem.W.fnOf "__init__" "Scene.__init__" (defArgs s_Scene__init) (defBody s_Scene__init) (defScope s_Scene__init) (.ref T7) kV7 dc7 pm7 an7 cd7 ct7), sl7⟩)
    {tt7_0 : Tok}
    (lT7 : K.lookup T7 = some ⟨Tc7, Td7, .seq #[(.int 0 tt7_0)] Tn7, Ts7⟩)
    (c7 : PySem.W.codeIn K cd7 "Scene.__init__" = true)
    (k7 : PySem.W.keepIn K (.ref f7) = true)
    {od8 an8 : Option Addr} {sl8 : Array (Option Value)} {oc8 kV8 dc8 pm8 cd8 ct8 : Value}
    (a8 : PySem.W.nsIn K mainGlobals "_law_made" = some (some (.ref f8)))
    (l8 : K.lookup f8 = some ⟨oc8, od8, .func (PySem.W.fnOf "_law_made" "_law_made" (defArgs s_law_made) (defBody s_law_made) (defScope s_law_made) .none kV8 dc8 pm8 an8 cd8 ct8), sl8⟩)
    (c8 : PySem.W.codeIn K cd8 "_law_made" = true)
    (k8 : PySem.W.keepIn K (.ref f8) = true)
    {od9 an9 : Option Addr} {sl9 : Array (Option Value)} {oc9 kV9 dc9 pm9 cd9 ct9 : Value}
    (a9 : PySem.W.findIn K (.ref c_Scene) "ask_rows" = some (some (.ref f9)))
    (n9 : PySem.W.isFn K (.ref f9) = true)
    (l9 : K.lookup f9 = some ⟨oc9, od9, .func (PySem.W.fnOf "ask_rows" "Scene.ask_rows" (defArgs s_Scene_ask_rows) (defBody s_Scene_ask_rows) (defScope s_Scene_ask_rows) .none kV9 dc9 pm9 an9 cd9 ct9), sl9⟩)
    (c9 : PySem.W.codeIn K cd9 "Scene.ask_rows" = true)
    (k9 : PySem.W.keepIn K (.ref f9) = true)
    {od10 an10 : Option Addr} {sl10 : Array (Option Value)} {oc10 kV10 dc10 pm10 cd10 ct10 : Value}
    (a10 : PySem.W.findIn K (.ref c_Scene) "known_rows" = some (some (.ref f10)))
    (n10 : PySem.W.isFn K (.ref f10) = true)
    (l10 : K.lookup f10 = some ⟨oc10, od10, .func (PySem.W.fnOf "known_rows" "Scene.known_rows" (defArgs s_Scene_known_rows) (defBody s_Scene_known_rows) (defScope s_Scene_known_rows) .none kV10 dc10 pm10 an10 cd10 ct10), sl10⟩)
    (c10 : PySem.W.codeIn K cd10 "Scene.known_rows" = true)
    (k10 : PySem.W.keepIn K (.ref f10) = true)
    {od11 an11 : Option Addr} {sl11 : Array (Option Value)} {oc11 kV11 dc11 pm11 cd11 ct11 : Value}
    (a11 : PySem.W.nsIn K mainGlobals "quiet" = some (some (.ref f11)))
    (l11 : K.lookup f11 = some ⟨oc11, od11, .func (PySem.W.fnOf "quiet" "quiet" (defArgs s_quiet) (defBody s_quiet) (defScope s_quiet) .none kV11 dc11 pm11 an11 cd11 ct11), sl11⟩)
    (c11 : PySem.W.codeIn K cd11 "quiet" = true)
    (k11 : PySem.W.keepIn K (.ref f11) = true)
    {od12 an12 : Option Addr} {sl12 : Array (Option Value)} {oc12 kV12 dc12 pm12 cd12 ct12 : Value}
    (a12 : PySem.W.nsIn K mainGlobals "starts" = some (some (.ref f12)))
    (l12 : K.lookup f12 = some ⟨oc12, od12, .func (PySem.W.fnOf "starts" "starts" (defArgs s_starts) (defBody s_starts) (defScope s_starts) .none kV12 dc12 pm12 an12 cd12 ct12), sl12⟩)
    (c12 : PySem.W.codeIn K cd12 "starts" = true)
    (k12 : PySem.W.keepIn K (.ref f12) = true)
    {od13 an13 : Option Addr} {sl13 : Array (Option Value)} {oc13 kV13 dc13 pm13 cd13 ct13 : Value}
    (a13 : PySem.W.nsIn K mainGlobals "window" = some (some (.ref f13)))
    (l13 : K.lookup f13 = some ⟨oc13, od13, .func (PySem.W.fnOf "window" "window" (defArgs s_window) (defBody s_window) (defScope s_window) .none kV13 dc13 pm13 an13 cd13 ct13), sl13⟩)
    (c13 : PySem.W.codeIn K cd13 "window" = true)
    (k13 : PySem.W.keepIn K (.ref f13) = true)
    {od14 an14 : Option Addr} {sl14 : Array (Option Value)} {oc14 kV14 dc14 pm14 cd14 ct14 : Value}
    (a14 : PySem.W.findIn K (.ref c_Flow) "ahead" = some (some (.ref f14)))
    (n14 : PySem.W.isFn K (.ref f14) = true)
    (l14 : K.lookup f14 = some ⟨oc14, od14, .func (PySem.W.fnOf "ahead" "Flow.ahead" (defArgs s_Flow_ahead) (defBody s_Flow_ahead) (defScope s_Flow_ahead) .none kV14 dc14 pm14 an14 cd14 ct14), sl14⟩)
    (c14 : PySem.W.codeIn K cd14 "Flow.ahead" = true)
    (k14 : PySem.W.keepIn K (.ref f14) = true)
    {od15 an15 : Option Addr} {sl15 : Array (Option Value)} {oc15 kV15 dc15 pm15 cd15 ct15 : Value}
    (a15 : PySem.W.nsIn K mainGlobals "lasts" = some (some (.ref f15)))
    (l15 : K.lookup f15 = some ⟨oc15, od15, .func (PySem.W.fnOf "lasts" "lasts" (defArgs s_lasts) (defBody s_lasts) (defScope s_lasts) .none kV15 dc15 pm15 an15 cd15 ct15), sl15⟩)
    (c15 : PySem.W.codeIn K cd15 "lasts" = true)
    (k15 : PySem.W.keepIn K (.ref f15) = true)
    {od16 an16 : Option Addr} {sl16 : Array (Option Value)} {oc16 kV16 dc16 pm16 cd16 ct16 : Value}
    (a16 : PySem.W.findIn K (.ref c_Flow) "most" = some (some (.ref f16)))
    (n16 : PySem.W.isFn K (.ref f16) = true)
    (l16 : K.lookup f16 = some ⟨oc16, od16, .func (PySem.W.fnOf "most" "Flow.most" (defArgs s_Flow_most) (defBody s_Flow_most) (defScope s_Flow_most) .none kV16 dc16 pm16 an16 cd16 ct16), sl16⟩)
    (c16 : PySem.W.codeIn K cd16 "Flow.most" = true)
    (k16 : PySem.W.keepIn K (.ref f16) = true)
    {od17 an17 : Option Addr} {sl17 : Array (Option Value)} {oc17 kV17 dc17 pm17 cd17 ct17 : Value}
    (a17 : PySem.W.nsIn K mainGlobals "comes_in" = some (some (.ref f17)))
    (l17 : K.lookup f17 = some ⟨oc17, od17, .func (PySem.W.fnOf "comes_in" "comes_in" (defArgs s_comes_in) (defBody s_comes_in) (defScope s_comes_in) .none kV17 dc17 pm17 an17 cd17 ct17), sl17⟩)
    (c17 : PySem.W.codeIn K cd17 "comes_in" = true)
    (k17 : PySem.W.keepIn K (.ref f17) = true)
    {od18 an18 : Option Addr} {sl18 : Array (Option Value)} {oc18 kV18 dc18 pm18 cd18 ct18 : Value}
    (a18 : PySem.W.findIn K (.ref c_Scene) "holds" = some (some (.ref f18)))
    (n18 : PySem.W.isFn K (.ref f18) = true)
    (l18 : K.lookup f18 = some ⟨oc18, od18, .func (PySem.W.fnOf "holds" "Scene.holds" (defArgs s_Scene_holds) (defBody s_Scene_holds) (defScope s_Scene_holds) .none kV18 dc18 pm18 an18 cd18 ct18), sl18⟩)
    (c18 : PySem.W.codeIn K cd18 "Scene.holds" = true)
    (k18 : PySem.W.keepIn K (.ref f18) = true)
    {od19 an19 : Option Addr} {sl19 : Array (Option Value)} {oc19 kV19 dc19 pm19 cd19 ct19 : Value}
    (a19 : PySem.W.nsIn K mainGlobals "room" = some (some (.ref f19)))
    (l19 : K.lookup f19 = some ⟨oc19, od19, .func (PySem.W.fnOf "room" "room" (defArgs s_room) (defBody s_room) (defScope s_room) .none kV19 dc19 pm19 an19 cd19 ct19), sl19⟩)
    (c19 : PySem.W.codeIn K cd19 "room" = true)
    (k19 : PySem.W.keepIn K (.ref f19) = true)
    {od20 an20 : Option Addr} {sl20 : Array (Option Value)} {oc20 kV20 dc20 pm20 cd20 ct20 : Value}
    (a20 : PySem.W.nsIn K mainGlobals "_law_whole" = some (some (.ref f20)))
    (l20 : K.lookup f20 = some ⟨oc20, od20, .func (PySem.W.fnOf "_law_whole" "_law_whole" (defArgs s_law_whole) (defBody s_law_whole) (defScope s_law_whole) .none kV20 dc20 pm20 an20 cd20 ct20), sl20⟩)
    (c20 : PySem.W.codeIn K cd20 "_law_whole" = true)
    (k20 : PySem.W.keepIn K (.ref f20) = true)
    {od21 an21 : Option Addr} {sl21 : Array (Option Value)} {oc21 kV21 dc21 pm21 cd21 ct21 : Value}
    (a21 : PySem.W.nsIn K mainGlobals "_law_is_room" = some (some (.ref f21)))
    (l21 : K.lookup f21 = some ⟨oc21, od21, .func (PySem.W.fnOf "_law_is_room" "_law_is_room" (defArgs s_law_is_room) (defBody s_law_is_room) (defScope s_law_is_room) .none kV21 dc21 pm21 an21 cd21 ct21), sl21⟩)
    (c21 : PySem.W.codeIn K cd21 "_law_is_room" = true)
    (k21 : PySem.W.keepIn K (.ref f21) = true)
    {od22 an22 : Option Addr} {sl22 : Array (Option Value)} {oc22 kV22 dc22 pm22 cd22 ct22 : Value}
    (a22 : PySem.W.findIn K (.ref c_Flow) "mouthfuls" = some (some (.ref f22)))
    (n22 : PySem.W.isFn K (.ref f22) = true)
    (l22 : K.lookup f22 = some ⟨oc22, od22, .func (PySem.W.fnOf "mouthfuls" "Flow.mouthfuls" (defArgs s_Flow_mouthfuls) (defBody s_Flow_mouthfuls) (defScope s_Flow_mouthfuls) .none kV22 dc22 pm22 an22 cd22 ct22), sl22⟩)
    (c22 : PySem.W.codeIn K cd22 "Flow.mouthfuls" = true)
    (k22 : PySem.W.keepIn K (.ref f22) = true)
    {od23 an23 : Option Addr} {sl23 : Array (Option Value)} {oc23 kV23 dc23 pm23 cd23 ct23 : Value}
    (a23 : PySem.W.nsIn K mainGlobals "joined" = some (some (.ref f23)))
    (l23 : K.lookup f23 = some ⟨oc23, od23, .func (PySem.W.fnOf "joined" "joined" (defArgs s_joined) (defBody s_joined) (defScope s_joined) .none kV23 dc23 pm23 an23 cd23 ct23), sl23⟩)
    (c23 : PySem.W.codeIn K cd23 "joined" = true)
    (k23 : PySem.W.keepIn K (.ref f23) = true)
    {od24 an24 : Option Addr} {sl24 : Array (Option Value)} {oc24 kV24 dc24 pm24 cd24 ct24 : Value}
    (a24 : PySem.W.findIn K (.ref c_Flow) "bursts" = some (some (.ref f24)))
    (n24 : PySem.W.isFn K (.ref f24) = true)
    (l24 : K.lookup f24 = some ⟨oc24, od24, .func (PySem.W.fnOf "bursts" "Flow.bursts" (defArgs s_Flow_bursts) (defBody s_Flow_bursts) (defScope s_Flow_bursts) .none kV24 dc24 pm24 an24 cd24 ct24), sl24⟩)
    (c24 : PySem.W.codeIn K cd24 "Flow.bursts" = true)
    (k24 : PySem.W.keepIn K (.ref f24) = true)
    {od25 an25 : Option Addr} {sl25 : Array (Option Value)} {oc25 kV25 dc25 pm25 cd25 ct25 : Value}
    (a25 : PySem.W.nsIn K mainGlobals "swell" = some (some (.ref f25)))
    (l25 : K.lookup f25 = some ⟨oc25, od25, .func (PySem.W.fnOf "swell" "swell" (defArgs s_swell) (defBody s_swell) (defScope s_swell) .none kV25 dc25 pm25 an25 cd25 ct25), sl25⟩)
    (c25 : PySem.W.codeIn K cd25 "swell" = true)
    (k25 : PySem.W.keepIn K (.ref f25) = true)
    {od26 an26 : Option Addr} {sl26 : Array (Option Value)} {oc26 kV26 dc26 pm26 cd26 ct26 : Value}
    (a26 : PySem.W.findIn K (.ref c_Jar) "told" = some (some (.ref f26)))
    (n26 : PySem.W.isFn K (.ref f26) = true)
    (l26 : K.lookup f26 = some ⟨oc26, od26, .func (PySem.W.fnOf "told" "Jar.told" (defArgs s_Jar_told) (defBody s_Jar_told) (defScope s_Jar_told) .none kV26 dc26 pm26 an26 cd26 ct26), sl26⟩)
    (c26 : PySem.W.codeIn K cd26 "Jar.told" = true)
    (k26 : PySem.W.keepIn K (.ref f26) = true)
    {od27 an27 : Option Addr} {sl27 : Array (Option Value)} {oc27 kV27 dc27 pm27 cd27 ct27 : Value}
    (a27 : PySem.W.findIn K (.ref c_Flow) "fits" = some (some (.ref f27)))
    (n27 : PySem.W.isFn K (.ref f27) = true)
    (l27 : K.lookup f27 = some ⟨oc27, od27, .func (PySem.W.fnOf "fits" "Flow.fits" (defArgs s_Flow_fits) (defBody s_Flow_fits) (defScope s_Flow_fits) .none kV27 dc27 pm27 an27 cd27 ct27), sl27⟩)
    (c27 : PySem.W.codeIn K cd27 "Flow.fits" = true)
    (k27 : PySem.W.keepIn K (.ref f27) = true)
    {od28 an28 : Option Addr} {sl28 : Array (Option Value)} {oc28 kV28 dc28 pm28 cd28 ct28 : Value}
    (a28 : PySem.W.nsIn K mainGlobals "_law_fit" = some (some (.ref f28)))
    (l28 : K.lookup f28 = some ⟨oc28, od28, .func (PySem.W.fnOf "_law_fit" "_law_fit" (defArgs s_law_fit) (defBody s_law_fit) (defScope s_law_fit) .none kV28 dc28 pm28 an28 cd28 ct28), sl28⟩)
    (c28 : PySem.W.codeIn K cd28 "_law_fit" = true)
    (k28 : PySem.W.keepIn K (.ref f28) = true)
    {od29 an29 : Option Addr} {sl29 : Array (Option Value)} {oc29 kV29 dc29 pm29 cd29 ct29 : Value}
    (a29 : PySem.W.nsIn K mainGlobals "_law_met" = some (some (.ref f29)))
    (l29 : K.lookup f29 = some ⟨oc29, od29, .func (PySem.W.fnOf "_law_met" "_law_met" (defArgs s_law_met) (defBody s_law_met) (defScope s_law_met) .none kV29 dc29 pm29 an29 cd29 ct29), sl29⟩)
    (c29 : PySem.W.codeIn K cd29 "_law_met" = true)
    (k29 : PySem.W.keepIn K (.ref f29) = true)
    {od30 an30 : Option Addr} {sl30 : Array (Option Value)} {oc30 kV30 dc30 pm30 cd30 ct30 : Value}
    (a30 : PySem.W.nsIn K mainGlobals "_law_stood" = some (some (.ref f30)))
    (l30 : K.lookup f30 = some ⟨oc30, od30, .func (PySem.W.fnOf "_law_stood" "_law_stood" (defArgs s_law_stood) (defBody s_law_stood) (defScope s_law_stood) .none kV30 dc30 pm30 an30 cd30 ct30), sl30⟩)
    (c30 : PySem.W.codeIn K cd30 "_law_stood" = true)
    (k30 : PySem.W.keepIn K (.ref f30) = true)
    {od31 an31 : Option Addr} {sl31 : Array (Option Value)} {oc31 kV31 dc31 pm31 cd31 ct31 : Value}
    (a31 : PySem.W.nsIn K mainGlobals "_law_highest" = some (some (.ref f31)))
    (l31 : K.lookup f31 = some ⟨oc31, od31, .func (PySem.W.fnOf "_law_highest" "_law_highest" (defArgs s_law_highest) (defBody s_law_highest) (defScope s_law_highest) .none kV31 dc31 pm31 an31 cd31 ct31), sl31⟩)
    (c31 : PySem.W.codeIn K cd31 "_law_highest" = true)
    (k31 : PySem.W.keepIn K (.ref f31) = true)
    {kc32 : Addr} {od32 an32 : Option Addr} {sl32 : Array (Option Value)} {oc32 kV32 dc32 pm32 ct32 : Value}
    (a32 : PySem.W.nsIn K mainGlobals "law" = some (some (.ref f32)))
    (l32 : K.lookup f32 = some ⟨oc32, od32, .func (PySem.W.fnOf "law" "law" (defArgs s_law) (defBody s_law) (defScope s_law) .none kV32 dc32 pm32 an32 (.ref kc32) ct32), sl32⟩)
    (c32 : PySem.W.codeIn K (.ref kc32) "law" = true)
    (k32 : PySem.W.keepIn K (.ref f32) = true)
    (th32 : PySem.W.codeHdIn K kc32 tb_law = true)
    (tn32 : K.lookup tb_law = none)
    (tt32 : K.lookup tb_law = none → h.get? tb_law = some (PySem.W.tabObj #[]))
    (tnd : ([tb_law] : List Addr).Nodup)
    (z_len : PySem.W.nsIn K mainGlobals "len" = some none)
    (z_range : PySem.W.nsIn K mainGlobals "range" = some none)
    (z_sum : PySem.W.nsIn K mainGlobals "sum" = some none)
    (z_max : PySem.W.nsIn K mainGlobals "max" = some none)
    (pg_Jar : PySem.W.plainGet K c_Jar Str.empty = true)
    (hd_Jar : PySem.W.hasDictIn K c_Jar = true)
    (po_Jar : PySem.W.plainOver K c_Jar = true)
    (sa_Jar : PySem.W.findIn K (.ref c_Jar) "__setattr__" = some (some (.builtin "object.__setattr__")))
    (yA_Jar_size : PySem.W.findIn K (.ref c_Jar) "size" = some none)
    (xk_NoJar : PySem.W.keepIn K (.ref c_NoJar) = true)
    (xs_NoJar : PySem.W.subIn K (.ref c_NoJar) (.type "BaseException") = some true)
    (xt_NoJar : PySem.W.typeIn K (.ref c_NoJar) = some (.type "type"))
    (xq_NoJar : PySem.W.excIn K c_NoJar [.type "ValueError", .type "Exception", .type "BaseException", .type "object"] "ValueError.__new__" = true)
    (pg_Flow : PySem.W.plainGet K c_Flow Str.empty = true)
    (hd_Flow : PySem.W.hasDictIn K c_Flow = true)
    (po_Flow : PySem.W.plainOver K c_Flow = true)
    (sa_Flow : PySem.W.findIn K (.ref c_Flow) "__setattr__" = some (some (.builtin "object.__setattr__")))
    (yA_Flow_jar : PySem.W.findIn K (.ref c_Flow) "jar" = some none)
    (yA_Flow_marks : PySem.W.findIn K (.ref c_Flow) "marks" = some none)
    {t_MOST : Tok}
    (v_MOST : PySem.W.nsIn K mainGlobals "MOST" = some (some (.int 1000000000 t_MOST)))
    (yA_Jar_rate : PySem.W.findIn K (.ref c_Jar) "rate" = some none)
    (yA_Jar_mouth : PySem.W.findIn K (.ref c_Jar) "mouth" = some none)
    (pg_Scene : PySem.W.plainGet K c_Scene Str.empty = true)
    (hd_Scene : PySem.W.hasDictIn K c_Scene = true)
    (po_Scene : PySem.W.plainOver K c_Scene = true)
    (sa_Scene : PySem.W.findIn K (.ref c_Scene) "__setattr__" = some (some (.builtin "object.__setattr__")))
    (yA_Scene_width : PySem.W.findIn K (.ref c_Scene) "width" = some none)
    (yA_Scene_now : PySem.W.findIn K (.ref c_Scene) "now" = some none)
    (yA_Scene_opens : PySem.W.findIn K (.ref c_Scene) "opens" = some none)
    (yA_Scene_sure : PySem.W.findIn K (.ref c_Scene) "sure" = some none)
    (yA_Scene_open_asks : PySem.W.findIn K (.ref c_Scene) "open_asks" = some none)
    (mk_Flow : PySem.W.makesIn K c_Flow = true)
    (mkk_Flow : PySem.W.keepIn K (.ref c_Flow) = true)
    (mk_Jar : PySem.W.makesIn K c_Jar = true)
    (mkk_Jar : PySem.W.keepIn K (.ref c_Jar) = true)
    (mk_Scene : PySem.W.makesIn K c_Scene = true)
    (mkk_Scene : PySem.W.keepIn K (.ref c_Scene) = true)
    (z_list : PySem.W.nsIn K mainGlobals "list" = some none)
    (z_sorted : PySem.W.nsIn K mainGlobals "sorted" = some none)
    (z_set : PySem.W.nsIn K mainGlobals "set" = some none)
    (xk_NoTick : PySem.W.keepIn K (.ref c_NoTick) = true)
    (xs_NoTick : PySem.W.subIn K (.ref c_NoTick) (.type "BaseException") = some true)
    (xt_NoTick : PySem.W.typeIn K (.ref c_NoTick) = some (.type "type"))
    (xq_NoTick : PySem.W.excIn K c_NoTick [.type "ValueError", .type "Exception", .type "BaseException", .type "object"] "ValueError.__new__" = true)
    (z_min : PySem.W.nsIn K mainGlobals "min" = some none)
    (z_isinstance : PySem.W.nsIn K mainGlobals "isinstance" = some none)
    (z_int : PySem.W.nsIn K mainGlobals "int" = some none)
    (z_bool : PySem.W.nsIn K mainGlobals "bool" = some none)
    (z_tuple : PySem.W.nsIn K mainGlobals "tuple" = some none)
    (z_all : PySem.W.nsIn K mainGlobals "all" = some none)
    (z_enumerate : PySem.W.nsIn K mainGlobals "enumerate" = some none),
    LamX.LawAtS l w K (L2.CX l.prog w) 7 63 "_law_script" mg fa h
def tHookH (_ : HFP) (K : Params → PySem.W.Frag) (as : List Addr) (e : ∀ P, as = (K P).map (·.1)) (ts : List Addr) : PySem.W.Hook := tHook K as e ts
section
local macro_rules | `(tactic| o_headL ($_ $a $b $c)) => `(tactic| o_headL (Lw.tHookH (by assumption) $a $b $c [390]))
local macro_rules | `(tactic| kernel_rfl) => `(tactic| (with_reducible refine Hc.cut (G1 := HeadRun.looksF _ _) (G2 := HeadRun.seenQ _ _ _ _) (G3 := fun s => List.map (HeadRun.getT s) _) _ _ (by decide) ?h1 ?h2 ?h3; (case h1 => as_aux_lemma => kernel_rfl); (case h2 => delta HeadRun.seenQ PySem.W.Fast.tw4187177175401517315 PySem.W.openGood; refine Hc.nine (by as_aux_lemma => kernel_rfl) (by as_aux_lemma => kernel_rfl) (by as_aux_lemma => kernel_rfl) (by as_aux_lemma => kernel_rfl) (by as_aux_lemma => kernel_rfl) (by as_aux_lemma => kernel_rfl) (by as_aux_lemma => kernel_rfl) (by as_aux_lemma => kernel_rfl) (by as_aux_lemma => kernel_rfl)); (case h3 => as_aux_lemma => kernel_rfl)))
open PySem.W PyProof.Rows in
set_option maxHeartbeats 0 in
theorem pre (HF : HFP) : PySem.Challenge.rw_hourlanes_k71_rooms_met_and_never_passed.Holds := by
  w_on; o_law; k_headL; (case hw => w_witness2)
  k_fill
  refine Lw.walk (l := PySem.Challenge.rw_hourlanes_k71_rooms_met_and_never_passed) rfl rfl (fun w h Y => Lw.tk_in Y) ?F
  case F => as_aux_lemma =>
    intro w mg fa h Y KX G hmg
    have HF2 : HFP := HF
    delta HFP at HF2
    refine' HF2 (tb_law := 390) KX G hmg ?ac_Jar ?ac_NoJar ?ac_Flow ?ac_Scene ?ac_NoTick ?a1 ?l1 ?c1 ?k1 ?a2 ?l2 ?c2 ?k2 ?a3 ?l3 ?c3 ?k3 ?a4 ?l4 ?c4 ?k4 ?a5 ?n5 ?l5 ?lT5 ?c5 ?k5 ?a6 ?n6 ?l6 ?c6 ?k6 ?a7 ?n7 ?l7 ?lT7 ?c7 ?k7 ?a8 ?l8 ?c8 ?k8 ?a9 ?n9 ?l9 ?c9 ?k9 ?a10 ?n10 ?l10 ?c10 ?k10 ?a11 ?l11 ?c11 ?k11 ?a12 ?l12 ?c12 ?k12 ?a13 ?l13 ?c13 ?k13 ?a14 ?n14 ?l14 ?c14 ?k14 ?a15 ?l15 ?c15 ?k15 ?a16 ?n16 ?l16 ?c16 ?k16 ?a17 ?l17 ?c17 ?k17 ?a18 ?n18 ?l18 ?c18 ?k18 ?a19 ?l19 ?c19 ?k19 ?a20 ?l20 ?c20 ?k20 ?a21 ?l21 ?c21 ?k21 ?a22 ?n22 ?l22 ?c22 ?k22 ?a23 ?l23 ?c23 ?k23 ?a24 ?n24 ?l24 ?c24 ?k24 ?a25 ?l25 ?c25 ?k25 ?a26 ?n26 ?l26 ?c26 ?k26 ?a27 ?n27 ?l27 ?c27 ?k27 ?a28 ?l28 ?c28 ?k28 ?a29 ?l29 ?c29 ?k29 ?a30 ?l30 ?c30 ?k30 ?a31 ?l31 ?c31 ?k31 ?a32 ?l32 ?c32 ?k32 ?th32 ?tn32 ?tt32 ?tnd ?z_len ?z_range ?z_sum ?z_max ?pg_Jar ?hd_Jar ?po_Jar ?sa_Jar ?yA_Jar_size ?xk_NoJar ?xs_NoJar ?xt_NoJar ?xq_NoJar ?pg_Flow ?hd_Flow ?po_Flow ?sa_Flow ?yA_Flow_jar ?yA_Flow_marks ?v_MOST ?yA_Jar_rate ?yA_Jar_mouth ?pg_Scene ?hd_Scene ?po_Scene ?sa_Scene ?yA_Scene_width ?yA_Scene_now ?yA_Scene_opens ?yA_Scene_sure ?yA_Scene_open_asks ?mk_Flow ?mkk_Flow ?mk_Jar ?mkk_Jar ?mk_Scene ?mkk_Scene ?z_list ?z_sorted ?z_set ?xk_NoTick ?xs_NoTick ?xt_NoTick ?xq_NoTick ?z_min ?z_isinstance ?z_int ?z_bool ?z_tuple ?z_all ?z_enumerate
    (case ac_Jar => k_is)
    (case ac_NoJar => k_is)
    (case ac_Flow => k_is)
    (case ac_Scene => k_is)
    (case ac_NoTick => k_is)
    (case a1 => k_is)
    (case l1 => k_is)
    (case c1 => k_is)
    (case k1 => k_is)
    (case a2 => k_is)
    (case l2 => k_is)
    (case c2 => k_is)
    (case k2 => k_is)
    (case a3 => k_is)
    (case l3 => k_is)
    (case c3 => k_is)
    (case k3 => k_is)
    (case a4 => k_is)
    (case l4 => k_is)
    (case c4 => k_is)
    (case k4 => k_is)
    (case a5 => k_is)
    (case n5 => k_is)
    (case l5 => k_is)
    (case lT5 => k_is)
    (case c5 => k_is)
    (case k5 => k_is)
    (case a6 => k_is)
    (case n6 => k_is)
    (case l6 => k_is)
    (case c6 => k_is)
    (case k6 => k_is)
    (case a7 => k_is)
    (case n7 => k_is)
    (case l7 => k_is)
    (case lT7 => k_is)
    (case c7 => k_is)
    (case k7 => k_is)
    (case a8 => k_is)
    (case l8 => k_is)
    (case c8 => k_is)
    (case k8 => k_is)
    (case a9 => k_is)
    (case n9 => k_is)
    (case l9 => k_is)
    (case c9 => k_is)
    (case k9 => k_is)
    (case a10 => k_is)
    (case n10 => k_is)
    (case l10 => k_is)
    (case c10 => k_is)
    (case k10 => k_is)
    (case a11 => k_is)
    (case l11 => k_is)
    (case c11 => k_is)
    (case k11 => k_is)
    (case a12 => k_is)
    (case l12 => k_is)
    (case c12 => k_is)
    (case k12 => k_is)
    (case a13 => k_is)
    (case l13 => k_is)
    (case c13 => k_is)
    (case k13 => k_is)
    (case a14 => k_is)
    (case n14 => k_is)
    (case l14 => k_is)
    (case c14 => k_is)
    (case k14 => k_is)
    (case a15 => k_is)
    (case l15 => k_is)
    (case c15 => k_is)
    (case k15 => k_is)
    (case a16 => k_is)
    (case n16 => k_is)
    (case l16 => k_is)
    (case c16 => k_is)
    (case k16 => k_is)
    (case a17 => k_is)
    (case l17 => k_is)
    (case c17 => k_is)
    (case k17 => k_is)
    (case a18 => k_is)
    (case n18 => k_is)
    (case l18 => k_is)
    (case c18 => k_is)
    (case k18 => k_is)
    (case a19 => k_is)
    (case l19 => k_is)
    (case c19 => k_is)
    (case k19 => k_is)
    (case a20 => k_is)
    (case l20 => k_is)
    (case c20 => k_is)
    (case k20 => k_is)
    (case a21 => k_is)
    (case l21 => k_is)
    (case c21 => k_is)
    (case k21 => k_is)
    (case a22 => k_is)
    (case n22 => k_is)
    (case l22 => k_is)
    (case c22 => k_is)
    (case k22 => k_is)
    (case a23 => k_is)
    (case l23 => k_is)
    (case c23 => k_is)
    (case k23 => k_is)
    (case a24 => k_is)
    (case n24 => k_is)
    (case l24 => k_is)
    (case c24 => k_is)
    (case k24 => k_is)
    (case a25 => k_is)
    (case l25 => k_is)
    (case c25 => k_is)
    (case k25 => k_is)
    (case a26 => k_is)
    (case n26 => k_is)
    (case l26 => k_is)
    (case c26 => k_is)
    (case k26 => k_is)
    (case a27 => k_is)
    (case n27 => k_is)
    (case l27 => k_is)
    (case c27 => k_is)
    (case k27 => k_is)
    (case a28 => k_is)
    (case l28 => k_is)
    (case c28 => k_is)
    (case k28 => k_is)
    (case a29 => k_is)
    (case l29 => k_is)
    (case c29 => k_is)
    (case k29 => k_is)
    (case a30 => k_is)
    (case l30 => k_is)
    (case c30 => k_is)
    (case k30 => k_is)
    (case a31 => k_is)
    (case l31 => k_is)
    (case c31 => k_is)
    (case k31 => k_is)
    (case a32 => k_is)
    (case l32 => k_is)
    (case c32 => k_is)
    (case k32 => k_is)
    (case th32 => first | k_is | kernel_rfl | rfl)
    (case tn32 => first | k_is | kernel_rfl | rfl)
    (case tt32 => exact fun q => Lw.tk_tab Y (by decide) q)
    (case tnd => decide)
    (case z_len => k_is)
    (case z_range => k_is)
    (case z_sum => k_is)
    (case z_max => k_is)
    (case pg_Jar => k_is)
    (case hd_Jar => k_is)
    (case po_Jar => k_is)
    (case sa_Jar => k_is)
    (case yA_Jar_size => k_is)
    (case xk_NoJar => k_is)
    (case xs_NoJar => k_is)
    (case xt_NoJar => k_is)
    (case xq_NoJar => k_exc)
    (case pg_Flow => k_is)
    (case hd_Flow => k_is)
    (case po_Flow => k_is)
    (case sa_Flow => k_is)
    (case yA_Flow_jar => k_is)
    (case yA_Flow_marks => k_is)
    (case v_MOST => k_is)
    (case yA_Jar_rate => k_is)
    (case yA_Jar_mouth => k_is)
    (case pg_Scene => k_is)
    (case hd_Scene => k_is)
    (case po_Scene => k_is)
    (case sa_Scene => k_is)
    (case yA_Scene_width => k_is)
    (case yA_Scene_now => k_is)
    (case yA_Scene_opens => k_is)
    (case yA_Scene_sure => k_is)
    (case yA_Scene_open_asks => k_is)
    (case mk_Flow => k_is)
    (case mkk_Flow => k_is)
    (case mk_Jar => k_is)
    (case mkk_Jar => k_is)
    (case mk_Scene => k_is)
    (case mkk_Scene => k_is)
    (case z_list => k_is)
    (case z_sorted => k_is)
    (case z_set => k_is)
    (case xk_NoTick => k_is)
    (case xs_NoTick => k_is)
    (case xt_NoTick => k_is)
    (case xq_NoTick => k_exc)
    (case z_min => k_is)
    (case z_isinstance => k_is)
    (case z_int => k_is)
    (case z_bool => k_is)
    (case z_tuple => k_is)
    (case z_all => k_is)
    (case z_enumerate => k_is)
end
end Lw
namespace Hl
open PySem L2
/-! ### functions made in a def -/
/-- the words of a function that a def makes -/
structure FW where
  name : Str
  qual : Str
  params : Arguments
  body : FuncBody
  scope : Scope
abbrev FW.fd (W : FW) (cl : List (Str × Addr)) (c : Addr) (doc pm ctv : Value) : FuncData :=
  { name := W.name, qualname := W.qual, params := W.params, body := W.body, scope := W.scope, globals := mainGlobals, closure := cl, defaults := .none, kwdefaults := .none, doc := doc, pyModule := pm, annotations := none, code := .ref c, closureTuple := ctv, builtins := builtinsNs }
/-- the object at f is such a function -/
def FnObj (f : Addr) (W : FW) (cl : List (Str × Addr)) (c : Addr) : HO := .ext fun h => ∃ (od : Option Addr) (sl : Array (Option Value)) (doc pm ctv : Value), h.get? f = some (⟨.type "function", od, .func (W.fd cl c doc pm ctv), sl⟩ : Obj)
/-- just this object stands at a -/
def Exact (a : Addr) (o : Obj) : HO := .frz o (.ext fun h => h.get? a = some o)
/-- a table of code objects, all of one name -/
def TblOk (F : List Addr) (H : Hp) (a : Addr) (nm : Str) : Prop := ∃ ps : Array Value, H a = some (.tbl ps) ∧ TriplesOk ps.toList ∧ ∀ (pos : Pos) (cv : Value), codeAmong pos ps.toList = some cv → ∃ c, cv = .ref c ∧ c ∉ F ∧ H c = some (LamX.CodeO c nm)
/-- no table -/
def Nt (o : HO) : Prop := ∀ ps, o ≠ .tbl ps
/-! ### data: what a value is worth, by its content -/
inductive D where
  | non | bl (b : Bool) | int (i : Int) | str (x : Str) | lst (ds : List D) | tup (ds : List D) | obj (C : Addr) (ns : List Str) (ds : List D) | raw (v : V) | scr (K : PySem.W.Frag) (ns : List Int) | exn (C : Addr) (ns : List Str) (ds : List D) | fd (ks : List Key) (ds : List D) | hp (a : Addr) (o : HO) | fn (W : FW) (fr : List Str) (ds : List D)
/-- an exception's object, held -/
def XO (cls : Value) (d : Option Addr) (a : Addr) : HO := .ext fun h => ∃ (oe : Obj) (vs : Array Value), h.get? a = some oe ∧ Zc cls d oe ∧ oe.data = .fields vs
mutual
inductive Rep (F : List Addr) (H : Hp) : V → D → Prop
  | non : Rep F H .non .non
  | bl (b : Bool) : Rep F H (.bl b) (.bl b)
  | int (i : Int) : Rep F H (.int i) (.int i)
  | str (x : Str) : Rep F H (.str x) (.str x)
  | lst {a : Addr} {vs : List V} {ds : List D} : a ∉ F → H a = some (.lst vs) → Reps F H vs ds → Rep F H (.ref a) (.lst ds)
  | tup {a : Addr} {vs : List V} {ds : List D} : a ∉ F → H a = some (.tup vs) → Reps F H vs ds → Rep F H (.ref a) (.tup ds)
  | obj {a C dx : Addr} {ns : List Str} {vs : List V} {ds : List D} : a ∉ F → H a = some (.ins C dx (ns.zip vs)) → ns.length = vs.length → Reps F H vs ds → Rep F H (.ref a) (.obj C ns ds)
  | raw (v : V) : Rep F H v (.raw v)
  | scrH {a : Addr} {K : PySem.W.Frag} {ns : List Int} : a ∉ F → Rd H a (.lst (ns.map V.int)) → Rep F H (.ref a) (.scr K ns)
  | scrK {a : Addr} {K : PySem.W.Frag} {ns : List Int} : (∀ H', SqL K H' a (ns.map V.int)) → Rep F H (.ref a) (.scr K ns)
  | exn0 {a C : Addr} : a ∉ F → H a = some (XO (.ref C) none a) → Rep F H (.ref a) (.exn C [] [])
  | exn {a C d : Addr} {ns : List Str} {vs : List V} {ds : List D} : a ∉ F → H a = some (XO (.ref C) (some d) a) → d ∉ F → H d = some (.xd (ns.zip vs)) → ns.length = vs.length → Reps F H vs ds → Rep F H (.ref a) (.exn C ns ds)
  | fd {a : Addr} {o : Obj} {ws : List (Key × V)} {ks : List Key} {vs : List V} {ds : List D} : a ∉ F → H a = some (.frz o (.dK ws)) → ws.map (·.1) = ks → ws.map (·.2) = vs → Reps F H vs ds → Rep F H (.ref a) (.fd ks ds)
  | hp {a : Addr} {o : HO} : a ∉ F → H a = some o → Nt o → Rep F H (.ref a) (.hp a o)
  | fn {f c : Addr} {W : FW} {fr : List Str} {as : List Addr} {vs : List V} {ds : List D} : f ∉ F → H f = some (FnObj f W (fr.zip as) c) → c ∉ F → H c = some (LamX.CodeO c W.qual) → as.length = fr.length → as.Nodup → vs.length = as.length →
      (∀ p ∈ as.zip vs, p.1 ∉ F ∧ ∃ (o : Obj) (u : Value), H p.1 = some (Exact p.1 o) ∧ o.data = .cell (some u) ∧ RelV p.2 u) → Reps F H vs ds → Rep F H (.ref f) (.fn W fr ds)
inductive Reps (F : List Addr) (H : Hp) : List V → List D → Prop
  | nil : Reps F H [] []
  | cons {v : V} {d : D} {vs : List V} {ds : List D} : Rep F H v d → Reps F H vs ds → Reps F H (v :: vs) (d :: ds)
end
/-- from F, H to F', H': what is read beside F stays -/
def Fwd (F : List Addr) (H : Hp) (F' : List Addr) (H' : Hp) : Prop := ∀ a o, a ∉ F → H a = some o → Nt o → a ∉ F' ∧ H' a = some o
theorem Fwd.refl {F : List Addr} {H : Hp} : Fwd F H F H := fun _ _ h e _ => ⟨h, e⟩
theorem Fwd.trans {F F1 F2 : List Addr} {H H1 H2 : Hp} (x : Fwd F H F1 H1) (y : Fwd F1 H1 F2 H2) : Fwd F H F2 H2 := fun a o h e n => let ⟨h1, e1⟩ := x a o h e n; y a o h1 e1 n
theorem Fwd.new {F : List Addr} {H : Hp} {p : Addr} {o : HO} (h : H p = none) : Fwd F H F (upd H p o) := fun a u ha e _ => ⟨ha, by rw [upd_ne (ne_of_none e h)]; exact e⟩
theorem Fwd.less {F F' : List Addr} {H : Hp} (h : ∀ a ∈ F', a ∈ F) : Fwd F H F' H := fun a o ha e _ => ⟨fun z => ha (h a z), e⟩
theorem Fwd.same {F : List Addr} {H H' : Hp} (h : ∀ a, a ∉ F → H' a = H a) : Fwd F H F H' := fun a o ha e _ => ⟨ha, by rw [h a ha]; exact e⟩
mutual
theorem Rep.fwd {F F' : List Addr} {H H' : Hp} (k : Fwd F H F' H') : ∀ {v : V} {d : D}, Rep F H v d → Rep F' H' v d
  | _, _, .non => .non
  | _, _, .bl b => .bl b
  | _, _, .int i => .int i
  | _, _, .str x => .str x
  | _, _, .lst h e r => .lst (k _ _ h e (fun _ z => nomatch z)).1 (k _ _ h e (fun _ z => nomatch z)).2 (Reps.fwd k r)
  | _, _, .tup h e r => .tup (k _ _ h e (fun _ z => nomatch z)).1 (k _ _ h e (fun _ z => nomatch z)).2 (Reps.fwd k r)
  | _, _, .obj h e l r => .obj (k _ _ h e (fun _ z => nomatch z)).1 (k _ _ h e (fun _ z => nomatch z)).2 l (Reps.fwd k r)
  | _, _, .raw v => .raw v
  | _, _, .scrH h (.inl e) => .scrH (k _ _ h e (fun _ z => nomatch z)).1 (.inl (k _ _ h e (fun _ z => nomatch z)).2)
  | _, _, .scrH h (.inr ⟨o, e⟩) => .scrH (k _ _ h e (fun _ z => nomatch z)).1 (.inr ⟨o, (k _ _ h e (fun _ z => nomatch z)).2⟩)
  | _, _, .scrK h => .scrK h
  | _, _, .exn0 h e => .exn0 (k _ _ h e (fun _ z => nomatch z)).1 (k _ _ h e (fun _ z => nomatch z)).2
  | _, _, .exn h e h2 e2 l r => .exn (k _ _ h e (fun _ z => nomatch z)).1 (k _ _ h e (fun _ z => nomatch z)).2 (k _ _ h2 e2 (fun _ z => nomatch z)).1 (k _ _ h2 e2 (fun _ z => nomatch z)).2 l (Reps.fwd k r)
  | _, _, .fd h e e1 e2 r => .fd (k _ _ h e (fun _ z => nomatch z)).1 (k _ _ h e (fun _ z => nomatch z)).2 e1 e2 (Reps.fwd k r)
  | _, _, .hp h e n => .hp (k _ _ h e n).1 (k _ _ h e n).2 n
  | _, _, .fn h e h2 e2 l nd l2 ce r => .fn (k _ _ h e (fun _ z => nomatch z)).1 (k _ _ h e (fun _ z => nomatch z)).2 (k _ _ h2 e2 (fun _ z => nomatch z)).1 (k _ _ h2 e2 (fun _ z => nomatch z)).2 l nd l2 (fun p hp => let ⟨h3, o, u, e3, q⟩ := ce p hp; ⟨(k _ _ h3 e3 (fun _ z => nomatch z)).1, o, u, (k _ _ h3 e3 (fun _ z => nomatch z)).2, q⟩) (Reps.fwd k r)
theorem Reps.fwd {F F' : List Addr} {H H' : Hp} (k : Fwd F H F' H') : ∀ {vs : List V} {ds : List D}, Reps F H vs ds → Reps F' H' vs ds
  | _, _, .nil => .nil
  | _, _, .cons a b => .cons (Rep.fwd k a) (Reps.fwd k b)
end
theorem Reps.length {F : List Addr} {H : Hp} : ∀ {vs : List V} {ds : List D}, Reps F H vs ds → vs.length = ds.length
  | _, _, .nil => rfl
  | _, _, .cons _ b => by simp [Reps.length b]
theorem Reps.get {F : List Addr} {H : Hp} : ∀ {vs : List V} {ds : List D} {i : Nat} {v : V}, Reps F H vs ds → vs[i]? = some v → ∃ d, ds[i]? = some d ∧ Rep F H v d
  | _, _, _, _, .nil, e => by simp at e
  | _, _, 0, _, .cons r _, e => by simp at e; subst e; exact ⟨_, rfl, r⟩
  | _, _, i + 1, v, .cons _ t, e => by
    obtain ⟨u, h1, h2⟩ := Reps.get (i := i) (v := v) t (by simpa using e)
    exact ⟨u, by simpa using h1, h2⟩
theorem Reps.get' {F : List Addr} {H : Hp} : ∀ {vs : List V} {ds : List D} {i : Nat} {d : D}, Reps F H vs ds → ds[i]? = some d → ∃ v, vs[i]? = some v ∧ Rep F H v d
  | _, _, _, _, .nil, e => by simp at e
  | _, _, 0, _, .cons r _, e => by simp at e; subst e; exact ⟨_, rfl, r⟩
  | _, _, i + 1, v, .cons _ t, e => by
    obtain ⟨u, h1, h2⟩ := Reps.get' (i := i) (d := v) t (by simpa using e)
    exact ⟨u, by simpa using h1, h2⟩
theorem Reps.append {F : List Addr} {H : Hp} : ∀ {vs ws : List V} {ds es : List D}, Reps F H vs ds → Reps F H ws es → Reps F H (vs ++ ws) (ds ++ es)
  | _, _, _, _, .nil, s => s
  | _, _, _, _, .cons r t, s => .cons r (Reps.append t s)
theorem Reps.set {F : List Addr} {H : Hp} {v : V} {d : D} (r : Rep F H v d) : ∀ {vs : List V} {ds : List D} (i : Nat), Reps F H vs ds → Reps F H (vs.set i v) (ds.set i d)
  | _, _, _, .nil => .nil
  | _, _, 0, .cons _ t => .cons r t
  | _, _, i + 1, .cons q t => .cons q (Reps.set r i t)
theorem Reps.take {F : List Addr} {H : Hp} : ∀ {vs : List V} {ds : List D} (n : Nat), Reps F H vs ds → Reps F H (vs.take n) (ds.take n)
  | _, _, 0, _ => .nil
  | _, _, _ + 1, .nil => .nil
  | _, _, n + 1, .cons r t => .cons r (Reps.take n t)
theorem Reps.drop {F : List Addr} {H : Hp} : ∀ {vs : List V} {ds : List D} (n : Nat), Reps F H vs ds → Reps F H (vs.drop n) (ds.drop n)
  | _, _, 0, r => r
  | _, _, _ + 1, .nil => .nil
  | _, _, n + 1, .cons _ t => Reps.drop n t
theorem Reps.erase {F : List Addr} {H : Hp} : ∀ {vs : List V} {ds : List D} (n : Nat), Reps F H vs ds → Reps F H (vs.eraseIdx n) (ds.eraseIdx n)
  | _, _, _, .nil => .nil
  | _, _, 0, .cons _ t => t
  | _, _, n + 1, .cons r t => .cons r (Reps.erase n t)
theorem Reps.ints {F : List Addr} {H : Hp} : ∀ {vs : List V} {ns : List Int}, Reps F H vs (ns.map D.int) → vs = ns.map V.int
  | _, [], .nil => rfl
  | _, n :: ns, .cons r t => by cases r; rw [Reps.ints t]; rfl
theorem Reps.ofInts {F : List Addr} {H : Hp} : ∀ (ns : List Int), Reps F H (ns.map V.int) (ns.map D.int)
  | [] => .nil
  | n :: ns => .cons (.int n) (Reps.ofInts ns)
theorem Reps.strs {F : List Addr} {H : Hp} : ∀ {vs : List V} {ns : List Str}, Reps F H vs (ns.map D.str) → vs = ns.map V.str
  | _, [], .nil => rfl
  | _, n :: ns, .cons r t => by cases r; rw [Reps.strs t]; rfl
/-! ### what may change: cells -/
inductive SC where
  | lst (ds : List D) | obj (C : Addr) (ns : List Str) (ds : List D) | dct (kvs : List (Key × D)) | fdc (o : Obj) (ws : List (Key × V)) (kvs : List (Key × D))
/-- a cell: a list, an object, a dict, the draws' state, or a thing with its parts -/
inductive Cell where
  | lst (ds : List D) | obj (C : Addr) (ns : List Str) (ds : List D) | dct (kvs : List (Key × D)) | fdc (o : Obj) (ws : List (Key × V)) (kvs : List (Key × D)) | st (g : Addr) (b : Nat) | grp (c : SC) (N : List (Addr × SC)) | tab (nm : Str) | fnc (W : FW) (fr : List Str) (as : List Addr) (ds : List D) | lam (W : FW) (fr : List Str) (as : List Addr)
def SC.up : SC → Cell
  | .lst ds => .lst ds
  | .obj C ns ds => .obj C ns ds
  | .dct kvs => .dct kvs
  | .fdc o ws kvs => .fdc o ws kvs
def own (a : Addr) : Cell → List Addr
  | .st g _ => [a, g]
  | .grp _ N => a :: N.map (·.1)
  | .fnc _ _ as _ => a :: as
  | _ => [a]
abbrev Mem := List (Addr × Cell)
def Mem.F (M : Mem) : List Addr := M.flatMap fun p => own p.1 p.2
/-- the draws' state -/
def StAt (F : List Addr) (H : Hp) (s g : Addr) (b : Nat) : Prop :=
  ∃ (c : Addr) (r t e : Int) (gs cs : List Int), c ∉ F ∧
    H s = some (.dK [(.inr "great", .ref g), (.inr "rest", .int r), (.inr "turn", .int t), (.inr "seed", .int e), (.inr "cells", .ref c)]) ∧
    H g = some (.lst (gs.map V.int)) ∧ H c = some (.lst (cs.map V.int)) ∧ (∀ x ∈ gs, 0 < x) ∧ 0 ≤ r ∧ 0 ≤ t ∧ t + (b : Int) ≤ 1000000000000 ∧ 0 ≤ e ∧ e < 2147483647 ∧ (∀ x ∈ cs, 0 ≤ x ∧ x < 2147483629) ∧ 0 < cs.length ∧ cs.length ≤ 100
def SOk (F : List Addr) (H : Hp) (a : Addr) : SC → Prop
  | .lst ds => ∃ vs, H a = some (.lst vs) ∧ Reps F H vs ds
  | .obj C ns ds => ∃ dx vs, H a = some (.ins C dx (ns.zip vs)) ∧ ns.length = vs.length ∧ Reps F H vs ds
  | .dct kvs => ∃ ws : List (Key × V), H a = some (.dK ws) ∧ ws.map (·.1) = kvs.map (·.1) ∧ Reps F H (ws.map (·.2)) (kvs.map (·.2))
  | .fdc o ws kvs => H a = some (.frz o (.dK ws)) ∧ ws.map (·.1) = kvs.map (·.1) ∧ Reps F H (ws.map (·.2)) (kvs.map (·.2))
theorem SOk.some {F : List Addr} {H : Hp} {a : Addr} {c : SC} (h : SOk F H a c) : ∃ o, H a = some o := by
  cases c with
  | lst ds => obtain ⟨vs, e, _⟩ := h; exact ⟨_, e⟩
  | obj C ns ds => obtain ⟨dx, vs, e, _⟩ := h; exact ⟨_, e⟩
  | dct kvs => obtain ⟨ws, e, _⟩ := h; exact ⟨_, e⟩
  | fdc o ws kvs => exact ⟨_, h.1⟩
theorem SOk.fwd {F F' : List Addr} {H H' : Hp} {a : Addr} {c : SC} (h : SOk F H a c) (k : Fwd F H F' H') (e : H' a = H a) : SOk F' H' a c := by
  cases c with
  | lst ds => obtain ⟨vs, e1, r⟩ := h; exact ⟨vs, by rw [e]; exact e1, r.fwd k⟩
  | obj C ns ds => obtain ⟨dx, vs, e1, l, r⟩ := h; exact ⟨dx, vs, by rw [e]; exact e1, l, r.fwd k⟩
  | dct kvs => obtain ⟨ws, e1, l, r⟩ := h; exact ⟨ws, by rw [e]; exact e1, l, r.fwd k⟩
  | fdc o ws kvs => obtain ⟨e1, l, r⟩ := h; exact ⟨by rw [e]; exact e1, l, r.fwd k⟩
def CellOk (F : List Addr) (H : Hp) (a : Addr) : Cell → Prop
  | .grp c N => SOk F H a c ∧ ∀ p ∈ N, SOk F H p.1 p.2
  | .lst ds => ∃ vs, H a = some (.lst vs) ∧ Reps F H vs ds
  | .obj C ns ds => ∃ dx vs, H a = some (.ins C dx (ns.zip vs)) ∧ ns.length = vs.length ∧ Reps F H vs ds
  | .dct kvs => ∃ ws : List (Key × V), H a = some (.dK ws) ∧ ws.map (·.1) = kvs.map (·.1) ∧ Reps F H (ws.map (·.2)) (kvs.map (·.2))
  | .fdc o ws kvs => H a = some (.frz o (.dK ws)) ∧ ws.map (·.1) = kvs.map (·.1) ∧ Reps F H (ws.map (·.2)) (kvs.map (·.2))
  | .st g b => StAt F H a g b
  | .tab nm => TblOk F H a nm
  | .fnc W fr as ds => ∃ (c : Addr) (od : Option Addr) (sl : Array (Option Value)) (doc pm ctv : Value) (vs : List V), H a = some (Exact a (⟨.type "function", od, .func (W.fd (fr.zip as) c doc pm ctv), sl⟩ : Obj)) ∧ c ∉ F ∧ H c = some (LamX.CodeO c W.qual) ∧ fr.length = as.length ∧ fr.Nodup ∧ vs.length = as.length ∧
      (∀ p ∈ as.zip vs, ∃ (o : Obj) (u : Value), H p.1 = some (Exact p.1 o) ∧ o.data = .cell (some u) ∧ RelV p.2 u) ∧ Reps F H vs ds
  | .lam W fr as => ∃ (c : Addr) (od : Option Addr) (sl : Array (Option Value)) (doc pm ctv : Value), H a = some (Exact a (⟨.type "function", od, .func (W.fd (fr.zip as) c doc pm ctv), sl⟩ : Obj)) ∧ c ∉ F ∧ H c = some (LamX.CodeO c W.qual)
theorem CellOk.some {F : List Addr} {H : Hp} {a : Addr} {c : Cell} (h : CellOk F H a c) : ∀ x ∈ own a c, ∃ o, H x = some o := by
  cases c with
  | tab nm => obtain ⟨ps, e, _⟩ := h; intro x hx; simp [own] at hx; subst hx; exact ⟨_, e⟩
  | fnc W fr as ds =>
    obtain ⟨c, od, sl, doc, pm, ctv, vs, e, _, _, _, _, hv, hc, _⟩ := h
    intro x hx
    rcases List.mem_cons.mp hx with rfl | hx
    · exact ⟨_, e⟩
    · obtain ⟨i, hi⟩ := List.mem_iff_getElem?.mp hx
      have hl : i < vs.length := by rw [hv]; exact (List.getElem?_eq_some_iff.mp hi).1
      obtain ⟨o, u, e2, _⟩ := hc (x, vs[i]) (List.mem_of_getElem? (i := i) (by rw [List.getElem?_zip_eq_some]; exact ⟨hi, by simp [hl]⟩))
      exact ⟨_, e2⟩
  | lst ds => obtain ⟨vs, e, _⟩ := h; intro x hx; simp [own] at hx; subst hx; exact ⟨_, e⟩
  | obj C ns ds => obtain ⟨dx, vs, e, _⟩ := h; intro x hx; simp [own] at hx; subst hx; exact ⟨_, e⟩
  | dct kvs => obtain ⟨ws, e, _⟩ := h; intro x hx; simp [own] at hx; subst hx; exact ⟨_, e⟩
  | lam W fr as => obtain ⟨c, od, sl, doc, pm, ctv, e, _⟩ := h; intro x hx; simp [own] at hx; subst hx; exact ⟨_, e⟩
  | fdc o ws kvs => intro x hx; simp [own] at hx; subst hx; exact ⟨_, h.1⟩
  | grp c N =>
    intro x hx
    rcases List.mem_cons.mp hx with rfl | hx
    · exact h.1.some
    · obtain ⟨p, hp, rfl⟩ := List.mem_map.mp hx; exact (h.2 p hp).some
  | st g b =>
    obtain ⟨c, r, t, e, gs, cs, _, h1, h2, _⟩ := h
    intro x hx; simp [own] at hx
    rcases hx with rfl | rfl
    · exact ⟨_, h1⟩
    · exact ⟨_, h2⟩
theorem CellOk.fwd {F F' : List Addr} {H H' : Hp} {a : Addr} {c : Cell} (h : CellOk F H a c) (k : Fwd F H F' H') (e : ∀ x ∈ own a c, H' x = H x) : CellOk F' H' a c := by
  cases c with
  | lst ds => obtain ⟨vs, e1, r⟩ := h; exact ⟨vs, by rw [e a (by simp [own])]; exact e1, r.fwd k⟩
  | obj C ns ds => obtain ⟨dx, vs, e1, l, r⟩ := h; exact ⟨dx, vs, by rw [e a (by simp [own])]; exact e1, l, r.fwd k⟩
  | dct kvs => obtain ⟨ws, e1, l, r⟩ := h; exact ⟨ws, by rw [e a (by simp [own])]; exact e1, l, r.fwd k⟩
  | fdc o ws kvs => obtain ⟨e1, l, r⟩ := h; exact ⟨by rw [e a (by simp [own])]; exact e1, l, r.fwd k⟩
  | tab nm => obtain ⟨ps, e1, t, ha⟩ := h; exact ⟨ps, by rw [e a (by simp [own])]; exact e1, t, fun pos cv hc => let ⟨c, e2, h2, e3⟩ := ha pos cv hc; ⟨c, e2, (k _ _ h2 e3 (fun _ z => by unfold LamX.CodeO at z; cases z)).1, (k _ _ h2 e3 (fun _ z => by unfold LamX.CodeO at z; cases z)).2⟩⟩
  | fnc W fr as ds =>
    obtain ⟨c, od, sl, doc, pm, ctv, vs, e1, hcF, e2, h1, h2, h3, h4, r⟩ := h
    exact ⟨c, od, sl, doc, pm, ctv, vs, by rw [e a List.mem_cons_self]; exact e1, (k _ _ hcF e2 (fun _ z => by unfold LamX.CodeO at z; cases z)).1, (k _ _ hcF e2 (fun _ z => by unfold LamX.CodeO at z; cases z)).2, h1, h2, h3,
      fun p hp => let ⟨o, u, e3, q⟩ := h4 p hp; ⟨o, u, by rw [e p.1 (List.mem_cons_of_mem _ (List.of_mem_zip (show (p.1, p.2) ∈ as.zip vs from hp)).1)]; exact e3, q⟩, r.fwd k⟩
  | lam W fr as =>
    obtain ⟨c, od, sl, doc, pm, ctv, e1, hcF, e2⟩ := h
    exact ⟨c, od, sl, doc, pm, ctv, by rw [e a List.mem_cons_self]; exact e1, (k _ _ hcF e2 (fun _ z => by unfold LamX.CodeO at z; cases z)).1, (k _ _ hcF e2 (fun _ z => by unfold LamX.CodeO at z; cases z)).2⟩
  | grp c N => exact ⟨h.1.fwd k (e a List.mem_cons_self), fun p hp => (h.2 p hp).fwd k (e p.1 (List.mem_cons_of_mem _ (List.mem_map.mpr ⟨p, hp, rfl⟩)))⟩
  | st g b =>
    obtain ⟨c, r, t, z, gs, cs, h0, h1, h2, h3, h4⟩ := h
    exact ⟨c, r, t, z, gs, cs, (k _ _ h0 h3 (fun _ z => nomatch z)).1, by rw [e a (by simp [own])]; exact h1, by rw [e g (by simp [own])]; exact h2, (k _ _ h0 h3 (fun _ z => nomatch z)).2, h4⟩
def SlotOk (F : List Addr) (H : Hp) (ov : Option V) (od : Option D) : Prop := ∀ d, od = some d → ∃ v, ov = some v ∧ Rep F H v d
structure Rs (κ : List (V × D)) (δ : List (Option D)) (M : Mem) (σ : St) (H : Hp) : Prop where
  kp : ∀ p ∈ κ, Rep M.F H p.1 p.2
  sl : Paired (SlotOk M.F H) σ δ
  cl : ∀ p ∈ M, CellOk M.F H p.1 p.2
  nd : M.F.Nodup
section
variable {κ κ' : List (V × D)} {δ : List (Option D)} {M M' : Mem} {σ : St} {H H' : Hp} {p : Addr} {o : HO} {v : V} {d : D}
theorem SlotOk.fwd {F F' : List Addr} {ov : Option V} {od : Option D} (k : Fwd F H F' H') (h : SlotOk F H ov od) : SlotOk F' H' ov od := fun d e => let ⟨v, e1, r⟩ := h d e; ⟨v, e1, r.fwd k⟩
theorem Rs.inF (R : Rs κ δ M σ H) {a : Addr} (h : a ∈ M.F) : ∃ o, H a = some o := by
  obtain ⟨q, hq, hx⟩ := List.mem_flatMap.mp h
  exact (R.cl q hq).some a hx
theorem Rs.fresh (R : Rs κ δ M σ H) (h : H p = none) : p ∉ M.F := fun z => by
  obtain ⟨o, e⟩ := R.inF z
  rw [h] at e; cases e
theorem Rs.go (R : Rs κ δ M σ H) (k : Fwd M.F H M.F H') (e : ∀ x ∈ M.F, H' x = H x) : Rs κ δ M σ H' :=
  ⟨fun q hq => (R.kp q hq).fwd k, Paired.mono (fun _ _ h => h.fwd k) R.sl, fun q hq => (R.cl q hq).fwd k fun x hx => e x (List.mem_flatMap.mpr ⟨q, hq, hx⟩), R.nd⟩
theorem Rs.new (R : Rs κ δ M σ H) (h : H p = none) : Rs κ δ M σ (upd H p o) := R.go (Fwd.new h) fun x hx => upd_ne fun z => R.fresh h (z ▸ hx)
theorem Rs.same (R : Rs κ δ M σ H) (h : Same H H') : Rs κ δ M σ H' := R.go (fun a o ha e _ => ⟨ha, h a o e⟩) fun x hx => by
  obtain ⟨o, e⟩ := R.inF hx
  rw [e]; exact h _ _ e
theorem Rs.push (R : Rs κ δ M σ H) (r : Rep M.F H v d) : Rs ((v, d) :: κ) δ M σ H := ⟨fun q hq => by
  rcases List.mem_cons.mp hq with rfl | hq
  · exact r
  · exact R.kp q hq, R.sl, R.cl, R.nd⟩
theorem Rs.sub (R : Rs κ δ M σ H) (h : ∀ q ∈ κ', q ∈ κ) : Rs κ' δ M σ H := ⟨fun q hq => R.kp q (h q hq), R.sl, R.cl, R.nd⟩
theorem Rs.pop {q : V × D} (R : Rs (q :: κ) δ M σ H) : Rs κ δ M σ H := R.sub fun _ h => List.mem_cons_of_mem _ h
theorem Rs.top {v : V} {d : D} (R : Rs ((v, d) :: κ) δ M σ H) : Rep M.F H v d := R.kp _ List.mem_cons_self
theorem paired_get {α β : Type} {G : α → β → Prop} : ∀ {l₁ : List α} {l₂ : List β} {i : Nat} {b : β}, Paired G l₁ l₂ → l₂[i]? = some b → ∃ a, l₁[i]? = some a ∧ G a b
  | _, _, _, _, .nil, e => by simp at e
  | _, _, 0, _, .cons r _, e => by simp at e; subst e; exact ⟨_, rfl, r⟩
  | _, _, i + 1, b, .cons _ t, e => by
    obtain ⟨u, h1, h2⟩ := paired_get (i := i) (b := b) t (by simpa using e)
    exact ⟨u, by simpa using h1, h2⟩
theorem paired_set {α β : Type} {G : α → β → Prop} {a : α} {b : β} (r : G a b) : ∀ {l₁ : List α} {l₂ : List β} (i : Nat), Paired G l₁ l₂ → Paired G (l₁.set i a) (l₂.set i b)
  | _, _, _, .nil => .nil
  | _, _, 0, .cons _ t => .cons r t
  | _, _, i + 1, .cons q t => .cons q (paired_set r i t)
theorem Rs.get {i : Nat} (R : Rs κ δ M σ H) (e : δ[i]? = some (some d)) : ∃ v, σ[i]? = some (some v) ∧ Rep M.F H v d := by
  obtain ⟨a, e1, h⟩ := paired_get R.sl e
  obtain ⟨v, rfl, r⟩ := h d rfl
  exact ⟨v, e1, r⟩
theorem Rs.put (R : Rs κ δ M σ H) (i : Nat) (r : Rep M.F H v d) : Rs κ (δ.set i (some d)) M (σ.set i (some v)) H :=
  ⟨R.kp, paired_set (fun d' e => by cases e; exact ⟨v, rfl, r⟩) i R.sl, R.cl, R.nd⟩
theorem Rs.wipe1 (R : Rs κ δ M σ H) (i : Nat) (ov : Option V) : Rs κ (δ.set i none) M (σ.set i ov) H :=
  ⟨R.kp, paired_set (fun d' e => by cases e) i R.sl, R.cl, R.nd⟩
theorem Rs.slots {δ' : List (Option D)} {σ' : St} (R : Rs κ δ M σ H) (h : Paired (SlotOk M.F H) σ' δ') : Rs κ δ' M σ' H := ⟨R.kp, h, R.cl, R.nd⟩
/-- fewer cells -/
theorem F_sub : ∀ {M M' : Mem}, M'.Sublist M → M'.F.Sublist M.F
  | _, _, .slnil => .slnil
  | _, _, .cons a h => by
    show List.Sublist _ (own a.1 a.2 ++ _)
    exact (F_sub h).trans (List.sublist_append_right _ _)
  | _, _, .cons_cons a h => by
    show List.Sublist (own a.1 a.2 ++ _) (own a.1 a.2 ++ _)
    exact (F_sub h).append_left _
theorem Rs.less (R : Rs κ δ M σ H) (h : M'.Sublist M) : Rs κ δ M' σ H := by
  have k : Fwd M.F H M'.F H := Fwd.less fun a ha => (F_sub h).subset ha
  exact ⟨fun q hq => (R.kp q hq).fwd k, Paired.mono (fun _ _ h => h.fwd k) R.sl, fun q hq => (R.cl q (h.subset hq)).fwd k fun _ _ => rfl, R.nd.sublist (F_sub h)⟩
/-- one cell more -/
theorem Fwd.newC {F : List Addr} {H : Hp} {p : Addr} {o : HO} (h : H p = none) : Fwd F H (p :: F) (upd H p o) := fun a u ha e _ => ⟨by
  simp only [List.mem_cons, not_or]
  exact ⟨ne_of_none e h, ha⟩, by rw [upd_ne (ne_of_none e h)]; exact e⟩
theorem Rs.add (R : Rs κ δ M σ H) {c : Cell} (h : H p = none) (hc : own p c = [p]) (ok : CellOk (p :: M.F) (upd H p o) p c) : Rs κ δ ((p, c) :: M) σ (upd H p o) := by
  have e : Mem.F ((p, c) :: M) = p :: M.F := by show own p c ++ M.F = _; rw [hc]; rfl
  have k : Fwd M.F H (Mem.F ((p, c) :: M)) (upd H p o) := by rw [e]; exact Fwd.newC h
  refine ⟨fun q hq => (R.kp q hq).fwd k, Paired.mono (fun _ _ h => h.fwd k) R.sl, fun q hq => ?_, ?_⟩
  · rcases List.mem_cons.mp hq with rfl | hq
    · rw [e]; exact ok
    · refine (R.cl q hq).fwd k fun x hx => upd_ne fun z => R.fresh h (z ▸ List.mem_flatMap.mpr ⟨q, hq, hx⟩)
  · rw [e]
    exact List.nodup_cons.mpr ⟨R.fresh h, R.nd⟩
theorem F_perm {M M' : Mem} (h : M.Perm M') : (Mem.F M).Perm (Mem.F M') := by
  induction h with
  | nil => exact .nil
  | cons x _ ih => exact ih.append_left _
  | swap x y l =>
    show (own y.1 y.2 ++ (own x.1 x.2 ++ Mem.F l)).Perm (own x.1 x.2 ++ (own y.1 y.2 ++ Mem.F l))
    rw [← List.append_assoc, ← List.append_assoc]
    exact List.perm_append_comm.append_right _
  | trans _ _ h1 h2 => exact h1.trans h2
theorem Rs.perm (R : Rs κ δ M σ H) (h : M.Perm M') : Rs κ δ M' σ H := by
  have k : Fwd M.F H M'.F H := Fwd.less fun a ha => (F_perm h).mem_iff.mpr ha
  exact ⟨fun q hq => (R.kp q hq).fwd k, Paired.mono (fun _ _ h => h.fwd k) R.sl, fun q hq => (R.cl q (h.mem_iff.mpr hq)).fwd k fun _ _ => rfl, (F_perm h).nodup_iff.mp R.nd⟩
/-- a cell at place k -/
def insM : Nat → Addr × Cell → Mem → Mem
  | 0, c, M => c :: M
  | k + 1, c, x :: M => x :: insM k c M
  | _ + 1, c, [] => [c]
theorem insM_perm {c : Addr × Cell} : ∀ {k : Nat} {M : Mem}, (c :: M).Perm (insM k c M)
  | 0, _ => .refl _
  | k + 1, x :: M => (List.Perm.swap x c M).trans (insM_perm.cons x)
  | _ + 1, [] => .refl _
theorem F_set : ∀ {M : Mem} {i : Nat} {a : Addr} {c c' : Cell}, M[i]? = some (a, c) → own a c' = own a c → Mem.F (M.set i (a, c')) = M.F
  | [], _, _, _, _, e, _ => by simp at e
  | q :: M, 0, a, c, c', e, h => by
    have : q = (a, c) := by simpa using e
    subst this
    show own a c' ++ _ = own a c ++ _
    rw [h]
  | q :: M, i + 1, a, c, c', e, h => by
    show own q.1 q.2 ++ Mem.F (M.set i (a, c')) = own q.1 q.2 ++ Mem.F M
    rw [F_set (by simpa using e) h]
theorem F_apart : ∀ {M : Mem} {i j : Nat} {a b : Addr} {c d : Cell}, M.F.Nodup → M[i]? = some (a, c) → M[j]? = some (b, d) → i ≠ j → ∀ x ∈ own a c, x ∉ own b d
  | [], _, _, _, _, _, _, _, e, _, _ => by simp at e
  | q :: M, 0, 0, _, _, _, _, _, _, _, h => absurd rfl h
  | q :: M, 0, j + 1, a, b, c, d, n, e, e', _ => fun x hx hy => by
    have : q = (a, c) := by simpa using e
    subst this
    have n : (own a c ++ Mem.F M).Nodup := n
    exact (List.nodup_append.mp n).2.2 x hx x (List.mem_flatMap.mpr ⟨(b, d), List.mem_of_getElem? (by simpa using e'), hy⟩) rfl
  | q :: M, i + 1, 0, a, b, c, d, n, e, e', _ => fun x hx hy => by
    have : q = (b, d) := by simpa using e'
    subst this
    have n : (own b d ++ Mem.F M).Nodup := n
    exact (List.nodup_append.mp n).2.2 x hy x (List.mem_flatMap.mpr ⟨(a, c), List.mem_of_getElem? (by simpa using e), hx⟩) rfl
  | q :: M, i + 1, j + 1, a, b, c, d, n, e, e', h => by
    have n : (own q.1 q.2 ++ Mem.F M).Nodup := n
    exact F_apart (List.nodup_append.mp n).2.1 (by simpa using e) (by simpa using e') (by omega)
/-- another content of a cell -/
theorem Rs.cell (R : Rs κ δ M σ H) {i : Nat} {a : Addr} {c c' : Cell} (e : M[i]? = some (a, c)) (hc : own a c' = own a c) (k : ∀ x, x ∉ own a c → H' x = H x) (ok : CellOk M.F H' a c') : Rs κ δ (M.set i (a, c')) σ H' := by
  have eF : Mem.F (M.set i (a, c')) = M.F := F_set e hc
  have inF : ∀ x ∈ own a c, x ∈ M.F := fun x hx => List.mem_flatMap.mpr ⟨_, List.mem_of_getElem? e, hx⟩
  have k' : Fwd M.F H M.F H' := Fwd.same fun x hx => k x fun z => hx (inF x z)
  refine ⟨fun q hq => by rw [eF]; exact (R.kp q hq).fwd k', by rw [eF]; exact Paired.mono (fun _ _ h => h.fwd k') R.sl, fun q hq => ?_, by rw [eF]; exact R.nd⟩
  rw [eF]
  obtain ⟨j, hj⟩ := List.getElem?_of_mem hq
  by_cases hij : i = j
  · subst hij
    rw [List.getElem?_set_self (List.getElem?_eq_some_iff.mp e).1] at hj
    cases hj
    exact ok
  · rw [List.getElem?_set_ne hij] at hj
    obtain ⟨b, d⟩ := q
    exact (R.cl _ (List.mem_of_getElem? hj)).fwd k' fun x hx => k x (F_apart R.nd hj e (fun z => hij z.symm) x hx)
theorem Rs.at (R : Rs κ δ M σ H) {i : Nat} {a : Addr} {c : Cell} (e : M[i]? = some (a, c)) : CellOk M.F H a c := R.cl _ (List.mem_of_getElem? e)
theorem Rs.mem (R : Rs κ δ M σ H) {i : Nat} {a : Addr} {c : Cell} (e : M[i]? = some (a, c)) : ∀ x ∈ own a c, x ∈ M.F := fun x hx => List.mem_flatMap.mpr ⟨_, List.mem_of_getElem? e, hx⟩
end
section
variable {M : Mem} {a : Addr} {c : SC} {N : List (Addr × SC)}
theorem own_up {a : Addr} {c : SC} : own a c.up = [a] := by cases c <;> rfl
theorem ok_up {F : List Addr} {H : Hp} {a : Addr} {c : SC} : CellOk F H a c.up ↔ SOk F H a c := by cases c <;> exact Iff.rfl
theorem F_app (M M' : Mem) : Mem.F (M ++ M') = M.F ++ M'.F := List.flatMap_append
end
/-! ### memory, things opened -/
/-- a cell of a memory, maybe part of a thing -/
def InM (M : Mem) (p : Addr) (c : SC) : Prop := (p, c.up) ∈ M ∨ (∃ N, (p, Cell.grp c N) ∈ M) ∨ ∃ b c0 N, (b, Cell.grp c0 N) ∈ M ∧ (p, c) ∈ N
section
variable {κ : List (V × D)} {δ : List (Option D)} {M M' : Mem} {σ : St} {H H' : Hp} {d : D} {p : Addr} {c c' : SC}
theorem InM.ok (h : InM M p c) (R : Rs κ δ M σ H) : SOk M.F H p c := by
  rcases h with h | ⟨N, h⟩ | ⟨b, c0, N, h, hp⟩
  · exact ok_up.mp (R.cl _ h)
  · exact (R.cl _ h).1
  · exact (R.cl _ h).2 _ hp
theorem InM.mono (h : InM M p c) (k : ∀ x ∈ M, x ∈ M') : InM M' p c := by
  rcases h with h | ⟨N, h⟩ | ⟨b, c0, N, h, hp⟩
  · exact .inl (k _ h)
  · exact .inr (.inl ⟨N, k _ h⟩)
  · exact .inr (.inr ⟨b, c0, N, k _ h, hp⟩)
theorem InM.mem (h : InM M p c) : p ∈ M.F := by
  rcases h with h | ⟨N, h⟩ | ⟨b, c0, N, h, hp⟩
  · exact List.mem_flatMap.mpr ⟨_, h, by show p ∈ own p c.up; rw [own_up]; exact List.mem_singleton.mpr rfl⟩
  · exact List.mem_flatMap.mpr ⟨_, h, List.mem_cons_self⟩
  · exact List.mem_flatMap.mpr ⟨_, h, List.mem_cons_of_mem _ (List.mem_map.mpr ⟨_, hp, rfl⟩)⟩
/-- a cell of a memory with another content -/
inductive Rpl (p : Addr) (c c' : SC) : Mem → Mem → Prop
  | cell {M : Mem} (j : Nat) : M[j]? = some (p, c.up) → Rpl p c c' M (M.set j (p, c'.up))
  | head {M : Mem} {N : List (Addr × SC)} (j : Nat) : M[j]? = some (p, .grp c N) → Rpl p c c' M (M.set j (p, .grp c' N))
  | part {M : Mem} {N : List (Addr × SC)} {b : Addr} {c0 : SC} (j i : Nat) : M[j]? = some (b, .grp c0 N) → N[i]? = some (p, c) → Rpl p c c' M (M.set j (b, .grp c0 (N.set i (p, c'))))
theorem Rpl.inM (h : Rpl p c c' M M') : InM M p c := by
  cases h with
  | cell j h => exact .inl (List.mem_of_getElem? h)
  | head j h => exact .inr (.inl ⟨_, List.mem_of_getElem? h⟩)
  | part j i h h2 => exact .inr (.inr ⟨_, _, _, List.mem_of_getElem? h, List.mem_of_getElem? h2⟩)
theorem map_set_fst {N : List (Addr × SC)} {i : Nat} (h : N[i]? = some (p, c)) : (N.set i (p, c')).map (·.1) = N.map (·.1) := by
  induction N generalizing i with
  | nil => simp at h
  | cons q N ih =>
    cases i with
    | zero =>
      have : q = (p, c) := by simpa using h
      subst this; rfl
    | succ i => show q.1 :: _ = q.1 :: _; rw [ih (by simpa using h)]
theorem nd_own {x : Addr × Cell} (R : Rs κ δ M σ H) (h : x ∈ M) : (own x.1 x.2).Nodup := by
  have : (own x.1 x.2).Sublist M.F := by
    obtain ⟨l1, l2, rfl⟩ := List.append_of_mem h
    rw [F_app]
    exact (List.sublist_append_left _ _).trans (List.sublist_append_right _ _)
  exact R.nd.sublist this
theorem Rs.rpl (R : Rs κ δ M σ H) (r : Rpl p c c' M M') (k : ∀ x, x ≠ p → H' x = H x) (ok : SOk M.F H' p c') : Rs κ δ M' σ H' := by
  have hpF := r.inM.mem
  have fw : Fwd M.F H M.F H' := Fwd.same fun x hx => k x fun z => hx (by rw [z]; exact hpF)
  cases r with
  | cell j h => exact R.cell h (by rw [own_up, own_up]) (fun x hx => k x (by rw [own_up] at hx; simpa using hx)) (ok_up.mpr ok)
  | head j h =>
    have nd := nd_own R (List.mem_of_getElem? h)
    refine R.cell h rfl (fun x hx => k x fun z => hx (by rw [z]; exact List.mem_cons_self)) ⟨ok, fun q hq => ?_⟩
    have hne : q.1 ≠ p := fun z => (List.nodup_cons.mp nd).1 (by rw [← z]; exact List.mem_map.mpr ⟨q, hq, rfl⟩)
    exact ((R.cl _ (List.mem_of_getElem? h)).2 q hq).fwd fw (k _ hne)
  | @part N b c0 j i h h2 =>
    have nd := nd_own R (List.mem_of_getElem? h)
    have hpN : p ∈ N.map (·.1) := List.mem_map.mpr ⟨_, List.mem_of_getElem? h2, rfl⟩
    have hbp : b ≠ p := fun z => (List.nodup_cons.mp nd).1 (by rw [z]; exact hpN)
    have hown : own b (.grp c0 (N.set i (p, c'))) = own b (.grp c0 N) := by
      show b :: _ = b :: _
      rw [map_set_fst h2]
    refine R.cell h hown (fun x hx => k x fun z => hx (by rw [z]; exact List.mem_cons_of_mem _ hpN)) ⟨(R.cl _ (List.mem_of_getElem? h)).1.fwd fw (k _ hbp), fun q hq => ?_⟩
    obtain ⟨j', hj'⟩ := List.getElem?_of_mem hq
    by_cases hij : i = j'
    · subst hij
      rw [List.getElem?_set_self (List.getElem?_eq_some_iff.mp h2).1] at hj'
      cases hj'
      exact ok
    · rw [List.getElem?_set_ne hij] at hj'
      have hq' : q ∈ N := List.mem_of_getElem? hj'
      have hne : q.1 ≠ p := fun z => by
        have n2 := (List.nodup_cons.mp nd).2
        have e1 : (N.map (·.1))[i]? = some p := by rw [List.getElem?_map, h2]; rfl
        have e2 : (N.map (·.1))[j']? = some p := by rw [List.getElem?_map, hj', ← z]; rfl
        exact hij ((List.getElem?_inj (List.getElem?_eq_some_iff.mp e1).1 n2).mp (e1.trans e2.symm))
      exact ((R.cl _ (List.mem_of_getElem? h)).2 q hq').fwd fw (k _ hne)
end
end Hl
namespace Hl
open PySem L2
/-! ### the readings as such -/
@[irreducible] def tE (X : Cx) (e : Expr) : TE := fun σ H Q => ∀ pins s, Inv X pins σ H s → wpAny (model X.prog X.w) X.A (eval e X.env) (EP X pins σ Q) X.xe s
@[irreducible] def tT (X : Cx) (e : Expr) : TT := fun σ H Q => ∀ pins s, Inv X pins σ H s → wpAny (model X.prog X.w) X.A (isTrue e X.env (eval e X.env)) (TP X pins σ Q) X.xe s
@[irreducible] def tA (X : Cx) (es : List Expr) : TA := fun σ H Q => ∀ (pos : Pos) pins s, Inv X pins σ H s → wpAny (model X.prog X.w) X.A (spliced (backTo pos (starEach es X.env))) (AP X pins σ Q) X.xe s
@[irreducible] def tS (X : Cx) (st : Stmt) : TS := fun D σ H => ∀ pins s, Inv X pins σ H s → wpAny (model X.prog X.w) X.A (exec st X.env) (SP X pins D) X.xe s
@[irreducible] def tSs (X : Cx) (st : List Stmt) : TS := fun D σ H => ∀ pins s, Inv X pins σ H s → wpAny (model X.prog X.w) X.A (execs st X.env) (SP X pins D) X.xe s
@[irreducible] def tG (X : Cx) (tg : Expr) : TG := fun v σ H Q => ∀ pins s u, Inv X pins σ H s → RelV v u → wpAny (model X.prog X.w) X.A (assign tg X.env u) (fun _ s' => ∃ σ' H', Inv X pins σ' H' s' ∧ Q σ' H') X.xe s
@[irreducible] def tGs (X : Cx) (ts : List Expr) : TGs := fun vs σ H Q => ∀ pins s us, Inv X pins σ H s → Vals vs us → wpAny (model X.prog X.w) X.A (assignInOrder ((assignEach ts X.env).map (·.2)) us) (fun _ s' => ∃ σ' H', Inv X pins σ' H' s' ∧ Q σ' H') X.xe s
section
variable {X : Cx} {e : Expr} {es : List Expr} {st : Stmt} {sts : List Stmt}
theorem cE : PE X e (tE X e) := ⟨fun pins s _ _ _ I h => by unfold tE at h; exact h pins s I⟩
theorem cT : PT X e (tT X e) := ⟨fun pins s _ _ _ I h => by unfold tT at h; exact h pins s I⟩
theorem cA : PA X es (tA X es) := ⟨fun pos pins s _ _ _ I h => by unfold tA at h; exact h pos pins s I⟩
theorem cS : PS X st (tS X st) := ⟨fun pins s _ _ _ I h => by unfold tS at h; exact h pins s I⟩
theorem cSs : PSs X sts (tSs X sts) := ⟨fun pins s _ _ _ I h => by unfold tSs at h; exact h pins s I⟩
theorem cG : PG X e (tG X e) := ⟨fun pins s _ _ _ u _ I r h => by unfold tG at h; exact h pins s u I r⟩
theorem cGs : PGs X es (tGs X es) := ⟨fun pins s _ _ _ us _ I r h => by unfold tGs at h; exact h pins s us I r⟩
end
/-! ### by data -/
/-- what a body keeps for its caller, and what it may raise -/
structure Bx where
  ps : List (V × D)
  ex : Addr → List Str → List D → List (Option D) → Mem → Prop
def B0 (ps : List (V × D)) : Bx := ⟨ps, fun _ _ _ _ _ => False⟩
abbrev Env' := List (Option D)
def WE (B : Bx) (te : TE) (δ : Env') (M : Mem) (Φ : D → Mem → Prop) : Prop := ∀ κ σ H Q, (∀ q ∈ B.ps, q ∈ κ) → Rs κ δ M σ H → (∀ v d M' H', Φ d M' → Rs κ δ M' σ H' → Rep M'.F H' v d → Q v H') → te σ H Q
/-- a new list, nobody else's -/
def WF (B : Bx) (te : TE) (δ : Env') (M : Mem) (Φ : List D → Mem → Prop) : Prop := ∀ κ σ H Q, (∀ q ∈ B.ps, q ∈ κ) → Rs κ δ M σ H → (∀ p ds M' H', Φ ds M' → Rs κ δ ((p, .lst ds) :: M') σ H' → Q (.ref p) H') → te σ H Q
def WT (B : Bx) (tt : TT) (δ : Env') (M : Mem) (Φ : Bool → Mem → Prop) : Prop := ∀ κ σ H Q, (∀ q ∈ B.ps, q ∈ κ) → Rs κ δ M σ H → (∀ b M' H', Φ b M' → Rs κ δ M' σ H' → Q b H') → tt σ H Q
def WA (B : Bx) (ta : TA) (δ : Env') (M : Mem) (Φ : List D → Mem → Prop) : Prop := ∀ κ σ H Q, (∀ q ∈ B.ps, q ∈ κ) → Rs κ δ M σ H → (∀ vs ds M' H', Φ ds M' → Rs κ δ M' σ H' → Reps M'.F H' vs ds → Q vs H') → ta σ H Q
structure DEnds where
  nx : Env' → Mem → Prop
  rt : D → Mem → Prop
  bk : Env' → Mem → Prop := fun _ _ => False
  ct : Env' → Mem → Prop := fun _ _ => False
structure EndsOk (κ : List (V × D)) (Φ : DEnds) (E : Ends) : Prop where
  nx : ∀ δ M σ H, Φ.nx δ M → Rs κ δ M σ H → E.nx σ H
  rt : ∀ v d M δ σ H, Φ.rt d M → Rs κ δ M σ H → Rep M.F H v d → E.rt v H
  bk : ∀ δ M σ H, Φ.bk δ M → Rs κ δ M σ H → E.bk σ H
  ct : ∀ δ M σ H, Φ.ct δ M → Rs κ δ M σ H → E.ct σ H
def WS (B : Bx) (ts : TS) (δ : Env') (M : Mem) (Φ : DEnds) : Prop := ∀ κ σ H E, (∀ q ∈ B.ps, q ∈ κ) → Rs κ δ M σ H → EndsOk κ Φ E → ts E σ H
def WG (B : Bx) (tg : TG) (d : D) (δ : Env') (M : Mem) (Φ : Env' → Mem → Prop) : Prop := ∀ κ σ H v Q, (∀ q ∈ B.ps, q ∈ κ) → Rs κ δ M σ H → Rep M.F H v d → (∀ δ' M' σ' H', Φ δ' M' → Rs κ δ' M' σ' H' → Q σ' H') → tg v σ H Q
def WGs (B : Bx) (tg : TGs) (ds : List D) (δ : Env') (M : Mem) (Φ : Env' → Mem → Prop) : Prop := ∀ κ σ H vs Q, (∀ q ∈ B.ps, q ∈ κ) → Rs κ δ M σ H → Reps M.F H vs ds → (∀ δ' M' σ' H', Φ δ' M' → Rs κ δ' M' σ' H' → Q σ' H') → tg vs σ H Q
abbrev DE (B : Bx) (X : Cx) (e : Expr) := WE B (tE X e)
abbrev DF (B : Bx) (X : Cx) (e : Expr) := WF B (tE X e)
abbrev DT (B : Bx) (X : Cx) (e : Expr) := WT B (tT X e)
abbrev DA (B : Bx) (X : Cx) (es : List Expr) := WA B (tA X es)
abbrev DS (B : Bx) (X : Cx) (st : Stmt) := WS B (tS X st)
abbrev DSs (B : Bx) (X : Cx) (st : List Stmt) := WS B (tSs X st)
abbrev DG (B : Bx) (X : Cx) (tg : Expr) := WG B (tG X tg)
abbrev DGs (B : Bx) (X : Cx) (tg : List Expr) := WGs B (tGs X tg)
section
variable {B : Bx} {X : Cx} {e a b c : Expr} {es rest : List Expr} {st : Stmt} {sts : List Stmt} {δ δ' : Env'} {M : Mem} {Φ : D → Mem → Prop} {Ψ : DEnds} {te ta tb : TE} {tt : TT} {pos : Pos} {d : D}
theorem DE.of (h : PE X e te) (w : WE B te δ M Φ) : DE B X e δ M Φ := fun κ σ H Q hb R k => by unfold tE; exact fun pins s I => h.run pins s σ H Q I (w κ σ H Q hb R k)
theorem DF.of {Φ : List D → Mem → Prop} (h : PE X e te) (w : WF B te δ M Φ) : DF B X e δ M Φ := fun κ σ H Q hb R k => by unfold tE; exact fun pins s I => h.run pins s σ H Q I (w κ σ H Q hb R k)
theorem DT.of {Φ : Bool → Mem → Prop} (h : PT X e tt) (w : WT B tt δ M Φ) : DT B X e δ M Φ := fun κ σ H Q hb R k => by unfold tT; exact fun pins s I => h.run pins s σ H Q I (w κ σ H Q hb R k)
theorem DA.of {Φ : List D → Mem → Prop} {t : TA} (h : PA X es t) (w : WA B t δ M Φ) : DA B X es δ M Φ := fun κ σ H Q hb R k => by unfold tA; exact fun pos pins s I => h.run pos pins s σ H Q I (w κ σ H Q hb R k)
theorem DS.of {t : TS} (h : PS X st t) (w : WS B t δ M Ψ) : DS B X st δ M Ψ := fun κ σ H E hb R k => by unfold tS; exact fun pins s I => h.run pins s σ H E I (w κ σ H E hb R k)
theorem DSs.of {t : TS} (h : PSs X sts t) (w : WS B t δ M Ψ) : DSs B X sts δ M Ψ := fun κ σ H E hb R k => by unfold tSs; exact fun pins s I => h.run pins s σ H E I (w κ σ H E hb R k)
theorem DG.of {t : TG} {Φ : Env' → Mem → Prop} (h : PG X e t) (w : WG B t d δ M Φ) : DG B X e d δ M Φ := fun κ σ H v Q hb R r k => by unfold tG; exact fun pins s u I ru => h.run pins s σ H v u Q I ru (w κ σ H v Q hb R r k)
theorem DGs.of {t : TGs} {ds : List D} {Φ : Env' → Mem → Prop} (h : PGs X es t) (w : WGs B t ds δ M Φ) : DGs B X es ds δ M Φ := fun κ σ H v Q hb R r k => by unfold tGs; exact fun pins s u I ru => h.run pins s σ H v u Q I ru (w κ σ H v Q hb R r k)
/-- a list nobody else's, as a plain one -/
theorem cons_sub {M : Mem} {q : Addr × Cell} : M.Sublist (q :: M) := .cons _ (.refl _)
theorem WE.ofF (w : WF B te δ M fun ds M' => Φ (.lst ds) M') : WE B te δ M Φ := fun κ σ H Q hb R k => w κ σ H Q hb R fun p ds M' H' q R' => by
  refine k (.ref p) (.lst ds) M' H' q (R'.less cons_sub) ?_
  obtain ⟨vs, e, r⟩ := R'.cl (p, .lst ds) (by simp)
  have nd : (p :: Mem.F M').Nodup := R'.nd
  refine .lst (List.nodup_cons.mp nd).1 e (r.fwd ?_)
  exact Fwd.less fun x hx => (F_sub cons_sub).subset hx
theorem WE.mono {Φ' : D → Mem → Prop} (w : WE B te δ M Φ) (h : ∀ d M', Φ d M' → Φ' d M') : WE B te δ M Φ' := fun κ σ H Q hb R k => w κ σ H Q hb R fun v d M' H' q R' r => k v d M' H' (h d M' q) R' r
theorem WT.mono {Φ Φ' : Bool → Mem → Prop} (w : WT B tt δ M Φ) (h : ∀ d M', Φ d M' → Φ' d M') : WT B tt δ M Φ' := fun κ σ H Q hb R k => w κ σ H Q hb R fun b M' H' q R' => k b M' H' (h b M' q) R'
theorem EndsOk.mono {κ : List (V × D)} {Φ Φ' : DEnds} {E : Ends} (k : EndsOk κ Φ' E) (h1 : ∀ δ M, Φ.nx δ M → Φ'.nx δ M) (h2 : ∀ d M, Φ.rt d M → Φ'.rt d M) (h3 : ∀ δ M, Φ.bk δ M → Φ'.bk δ M) (h4 : ∀ δ M, Φ.ct δ M → Φ'.ct δ M) : EndsOk κ Φ E :=
  ⟨fun δ M σ H q R => k.nx δ M σ H (h1 δ M q) R, fun v d M δ σ H q R r => k.rt v d M δ σ H (h2 d M q) R r, fun δ M σ H q R => k.bk δ M σ H (h3 δ M q) R, fun δ M σ H q R => k.ct δ M σ H (h4 δ M q) R⟩
theorem EndsOk.sub {κ κ' : List (V × D)} {Φ : DEnds} {E : Ends} (k : EndsOk κ Φ E) (h : ∀ q ∈ κ, q ∈ κ') : EndsOk κ' Φ E :=
  ⟨fun δ M σ H q R => k.nx δ M σ H q (R.sub h), fun v d M δ σ H q R r => k.rt v d M δ σ H q (R.sub h) r, fun δ M σ H q R => k.bk δ M σ H q (R.sub h), fun δ M σ H q R => k.ct δ M σ H q (R.sub h)⟩
theorem WS.mono {ts : TS} {Ψ' : DEnds} (w : WS B ts δ M Ψ) (h1 : ∀ δ M, Ψ.nx δ M → Ψ'.nx δ M) (h2 : ∀ d M, Ψ.rt d M → Ψ'.rt d M) (h3 : ∀ δ M, Ψ.bk δ M → Ψ'.bk δ M) (h4 : ∀ δ M, Ψ.ct δ M → Ψ'.ct δ M) : WS B ts δ M Ψ' := fun κ σ H E hb R k =>
  w κ σ H E hb R (k.mono h1 h2 h3 h4)
/-! ### names -/
structure NmP (N : List Str) (sc : Scope) (i : Nat) (x : Str) : Prop where
  at_ : N[i]? = some x
  vis : Vis sc x
  dbg : (x == ("__debug__" : Str)) = false
  cdc : (x == ("__classdict__" : Str)) = false
abbrev Nm (X : Cx) := NmP X.N X.env.scope
structure LoP (N : List Str) (sc : Scope) (fu : Str → Bool) (i : Nat) (x : Str) : Prop extends NmP N sc i x where
  loc : Loc sc x
  fn : fu x = true ∨ sc.names.lookup x = some .local
abbrev Lo (X : Cx) := LoP X.N X.env.scope X.fn
/-- a built-in's name -/
structure GnP (env : Env) (mg : Str → Option Value) (x : Str) : Prop where
  gl : env.kindOf x = some .globalImplicit
  no : mg x = none
abbrev Gn (X : Cx) := GnP X.env X.mg
structure CzP (N : List Str) (calm_ : Bool) (A : Around) (k : Nat) : Prop where
  nd : N.Nodup
  calm : calm_ = true
  room : Room k A
abbrev Cz (X : Cx) := CzP X.N X.calm X.A
theorem WE.val {v : V} (hv : ∀ F H, Rep F H v d) (k : Φ d M) : WE B (tC v) δ M Φ := fun κ σ H Q hb R h => h v d M H k R (hv _ _)
theorem de_name {i : Nat} {x : Str} (n : Nm X i x) (hd : δ[i]? = some (some d)) (k : Φ d M) : DE B X (.Name x pos) δ M Φ :=
  .of (pe_var n.at_ n.vis n.dbg n.cdc) fun κ σ H Q hb R h => let ⟨v, e, r⟩ := R.get hd; ⟨v, e, h v d M H k R r⟩
theorem de_int {i : Int} {j} (k : Φ (.int i) M) : DE B X (.Constant (.int i) j pos) δ M Φ := .of pe_int (.val (fun _ _ => .int i) k)
theorem de_str {x : Str} {j} (k : Φ (.str x) M) : DE B X (.Constant (.str x) j pos) δ M Φ := .of pe_str (.val (fun _ _ => .str x) k)
theorem de_bl {b : Bool} {j} (k : Φ (.bl b) M) : DE B X (.Constant (.bool b) j pos) δ M Φ := .of pe_bl (.val (fun _ _ => .bl b) k)
theorem de_non {j} (k : Φ .non M) : DE B X (.Constant .none j pos) δ M Φ := .of pe_non (.val (fun _ _ => .non) k)
/-- a constant of the module -/
structure GcP (env : Env) (mg : Str → Option Value) (x : Str) (v : V) : Prop where
  gl : env.kindOf x = some .globalImplicit
  is : ∃ u, mg x = some u ∧ RelV v u
  dbg : (x == ("__debug__" : Str)) = false
abbrev Gc (X : Cx) := GcP X.env X.mg
theorem de_glob {x : Str} {v : V} (g : Gc X x v) (hv : ∀ F H, Rep F H v d) (k : Φ d M) : DE B X (.Name x pos) δ M Φ := by
  obtain ⟨gl, ⟨u, e, r⟩, dbg⟩ := g
  exact .of (pe_glob gl e r dbg) (.val hv k)
/-! ### operators -/
/-- what an operator on values gives of data -/
def OpD (r : R2) (x y : D) (M : Mem) (Φ : D → Mem → Prop) : Prop := ∀ κ (δ : Env') σ H v w Q, Rs κ δ M σ H → Rep M.F H v x → Rep M.F H w y → (∀ z d M' H', Φ d M' → Rs κ δ M' σ H' → Rep M'.F H' z d → Q z H') → r v w H Q
theorem WE.op {r : R2} (ha : WE B ta δ M fun x M1 => WE B tb δ M1 fun y M2 => OpD r x y M2 Φ) : WE B (tOp r ta tb) δ M Φ := fun κ σ H Q hb R k =>
  ha κ σ H _ hb R fun v x M1 H1 q1 R1 r1 => q1 ((v, x) :: κ) σ H1 _ (fun q hq => List.mem_cons_of_mem _ (hb q hq)) (R1.push r1) fun w y M2 H2 q2 R2 r2 =>
    q2 κ δ σ H2 v w Q R2.pop R2.top r2 k
theorem de_bin {op : Operator} {r : R2} (ho : OpR X (binaryOp op) r) (h : DE B X a δ M fun x M1 => DE B X b δ M1 fun y M2 => OpD r x y M2 Φ) : DE B X (.BinOp a op b pos) δ M Φ := .of (pe_op ho cE cE) (.op h)
theorem od_I {C : Int → Int → Prop} {g : Int → Int → V} {gd : Int → Int → D} {i j : Int} (hc : C i j) (hg : ∀ F H, Rep F H (g i j) (gd i j)) (k : Φ (gd i j) M) : OpD (rI C g) (.int i) (.int j) M Φ := fun κ δ σ H v w Q R rv rw' h => by
  cases rv; cases rw'
  exact ⟨i, j, rfl, rfl, hc, h _ _ M H k R (hg _ _)⟩
theorem od_I0 {g : Int → Int → V} {gd : Int → Int → D} {i j : Int} (hg : ∀ F H, Rep F H (g i j) (gd i j)) (k : Φ (gd i j) M) : OpD (rI0 g) (.int i) (.int j) M Φ := fun κ δ σ H v w Q R rv rw' h => by
  cases rv; cases rw'
  exact ⟨i, j, rfl, rfl, h _ _ M H k R (hg _ _)⟩
theorem OpD.inl {r r' : R2} {x y : D} (h : OpD r x y M Φ) : OpD (fun a b H Q => r a b H Q ∨ r' a b H Q) x y M Φ := fun κ δ σ H v w Q R rv rw' k => .inl (h κ δ σ H v w Q R rv rw' k)
theorem OpD.inr {r r' : R2} {x y : D} (h : OpD r' x y M Φ) : OpD (fun a b H Q => r a b H Q ∨ r' a b H Q) x y M Φ := fun κ δ σ H v w Q R rv rw' k => .inr (h κ δ σ H v w Q R rv rw' k)
def rAddS : R2 := fun x y H Q => ∃ i j, x = .str i ∧ y = .str j ∧ i.length + j.length ≤ sizeLine ∧ Q (.str (i ++ j)) H
def rCatH : R2 := fun x y H Q => ∃ a b xs ys, x = .ref a ∧ y = .ref b ∧ H a = some (.tup xs) ∧ H b = some (.tup ys) ∧ xs.length + ys.length ≤ sizeLine ∧ (xs = [] → Q (.ref b) H) ∧ (xs ≠ [] → ys = [] → Q (.ref a) H) ∧ (xs ≠ [] → ys ≠ [] → ∀ p, H p = none → Q (.ref p) (upd H p (.tup (xs ++ ys))))
theorem op_catH : OpR X (binaryOp .Add) rCatH := fun pins s σ H x y v u Q I rx ry ⟨a, b, xs, ys, e1, e2, h1, h2, hz, q0, q1, q2⟩ => op_catA pins s σ H x y v u Q I rx ry ⟨a, b, xs, ys, e1, e2, SqT.of h1, SqT.of h2, hz, q0, q1, q2⟩
def rAddU : R2 := fun x y H Q => (rI0 fun i j => .int (i + j)) x y H Q ∨ (fun x y H Q => rAddS x y H Q ∨ (fun x y H Q => rCat x y H Q ∨ rCatH x y H Q) x y H Q) x y H Q
theorem op_addU : OpR X (binaryOp .Add) rAddU := op_add.or ((op_add_str (X := X)).or (op_cat.or op_catH))
theorem od_addI {i j : Int} (k : Φ (.int (i + j)) M) : OpD rAddU (.int i) (.int j) M Φ := (od_I0 (gd := fun i j => .int (i + j)) (fun _ _ => .int _) k).inl
/-- a new list at p -/
theorem Rs.lst {κ : List (V × D)} {σ : St} {H : Hp} {p : Addr} {vs : List V} {ds : List D} (R : Rs κ δ M σ H) (r : Reps M.F H vs ds) (hp : H p = none) : Rs κ δ ((p, .lst ds) :: M) σ (upd H p (.lst vs)) :=
  R.add hp rfl ⟨vs, upd_same, r.fwd (Fwd.newC hp)⟩
theorem Rs.lstV {κ : List (V × D)} {σ : St} {H : Hp} {p : Addr} {vs : List V} {ds : List D} (R : Rs κ δ M σ H) (r : Reps M.F H vs ds) (hp : H p = none) : Rs κ δ M σ (upd H p (.lst vs)) ∧ Rep M.F (upd H p (.lst vs)) (.ref p) (.lst ds) :=
  ⟨R.new hp, .lst (R.fresh hp) upd_same (r.fwd (Fwd.new hp))⟩
theorem Rs.tupV {κ : List (V × D)} {σ : St} {H : Hp} {p : Addr} {vs : List V} {ds : List D} (R : Rs κ δ M σ H) (r : Reps M.F H vs ds) (hp : H p = none) : Rs κ δ M σ (upd H p (.tup vs)) ∧ Rep M.F (upd H p (.tup vs)) (.ref p) (.tup ds) :=
  ⟨R.new hp, .tup (R.fresh hp) upd_same (r.fwd (Fwd.new hp))⟩
theorem od_addL {xs ys : List D} (hl : xs.length + ys.length ≤ sizeLine) (k : Φ (.lst (xs ++ ys)) M) : OpD rAddU (.lst xs) (.lst ys) M Φ := .inr (.inr (.inl fun κ δ σ H v w Q R rv rw' h => by
  cases rv with
  | lst h1 e1 r1 =>
    cases rw' with
    | lst h2 e2 r2 =>
      refine ⟨_, _, _, _, rfl, rfl, e1, e2, by rw [r1.length, r2.length]; exact hl, fun p hp => ?_⟩
      obtain ⟨R', r'⟩ := R.lstV (r1.append r2) hp
      exact h _ _ M _ k R' r'))
theorem od_addT {xs ys : List D} (hl : xs.length + ys.length ≤ sizeLine) (k : Φ (.tup (xs ++ ys)) M) : OpD rAddU (.tup xs) (.tup ys) M Φ := .inr (.inr (.inr fun κ δ σ H v w Q R rv rw' h => by
  cases rv with
  | tup h1 e1 r1 =>
    cases rw' with
    | tup h2 e2 r2 =>
      refine ⟨_, _, _, _, rfl, rfl, e1, e2, by rw [r1.length, r2.length]; exact hl, fun z => ?_, fun z1 z => ?_, fun _ _ p hp => ?_⟩
      · subst z
        cases r1
        exact h _ _ M _ k R (.tup h2 e2 r2)
      · subst z
        cases r2
        rw [List.append_nil] at k
        exact h _ _ M _ k R (.tup h1 e1 r1)
      · obtain ⟨R', r'⟩ := R.tupV (r1.append r2) hp
        exact h _ _ M _ k R' r'))
theorem de_add (h : DE B X a δ M fun x M1 => DE B X b δ M1 fun y M2 => OpD rAddU x y M2 Φ) : DE B X (.BinOp a .Add b pos) δ M Φ := de_bin op_addU h
def rSubU : R2 := rI0 fun i j => .int (i - j)
theorem de_sub (h : DE B X a δ M fun x M1 => DE B X b δ M1 fun y M2 => OpD rSubU x y M2 Φ) : DE B X (.BinOp a .Sub b pos) δ M Φ := de_bin op_sub h
theorem od_sub {i j : Int} (k : Φ (.int (i - j)) M) : OpD rSubU (.int i) (.int j) M Φ := od_I0 (gd := fun i j => .int (i - j)) (fun _ _ => .int _) k
def rMulStr : R2 := fun x y H Q => ∃ (z : Str) (n : Int), x = .str z ∧ y = .int n ∧ MulOk z n ∧ Q (.str (Txt.mul z n)) H
theorem op_mulStr : OpR X (binaryOp .Mult) rMulStr := by
  intro pins s σ H x y v u Q I rx ry h
  obtain ⟨z, n, rfl, rfl, hok, q⟩ := h
  obtain ⟨t, rfl⟩ := rx
  obtain ⟨t', rfl⟩ := ry
  exact SB.mul hok fun t' k => ⟨.str _, H, I.tok k, ⟨t', rfl⟩, q⟩
def rMulU : R2 := fun x y H Q => (rI CMul fun i j => .int (i * j)) x y H Q ∨ ((rI CMulW fun i j => .int (i * j)) x y H Q ∨ rMulStr x y H Q)
theorem de_mul (h : DE B X a δ M fun x M1 => DE B X b δ M1 fun y M2 => OpD rMulU x y M2 Φ) : DE B X (.BinOp a .Mult b pos) δ M Φ := de_bin (op_mul.or (op_mulW.or op_mulStr)) h
theorem od_mul {i j : Int} (hc : CMul i j) (k : Φ (.int (i * j)) M) : OpD rMulU (.int i) (.int j) M Φ := (od_I (gd := fun i j => .int (i * j)) hc (fun _ _ => .int _) k).inl
def rDivU : R2 := rI CDivW fun i j => .int (i / j)
theorem de_div (h : DE B X a δ M fun x M1 => DE B X b δ M1 fun y M2 => OpD rDivU x y M2 Φ) : DE B X (.BinOp a .FloorDiv b pos) δ M Φ := de_bin op_fdivW h
theorem od_div {i j : Int} (hc : CDivW i j) (k : Φ (.int (i / j)) M) : OpD rDivU (.int i) (.int j) M Φ := od_I (gd := fun i j => .int (i / j)) hc (fun _ _ => .int _) k
def rModU : R2 := rI (fun _ j => 0 < j) fun i j => .int (i % j)
theorem de_mod (h : DE B X a δ M fun x M1 => DE B X b δ M1 fun y M2 => OpD rModU x y M2 Φ) : DE B X (.BinOp a .Mod b pos) δ M Φ := de_bin op_mod h
theorem od_mod {i j : Int} (hc : 0 < j) (k : Φ (.int (i % j)) M) : OpD rModU (.int i) (.int j) M Φ := od_I (gd := fun i j => .int (i % j)) hc (fun _ _ => .int _) k
def rPowU : R2 := rI CPow fun i j => .int (i ^ j.toNat)
theorem de_pow (h : DE B X a δ M fun x M1 => DE B X b δ M1 fun y M2 => OpD rPowU x y M2 Φ) : DE B X (.BinOp a .Pow b pos) δ M Φ := de_bin op_pow h
theorem od_pow {i j : Int} (hc : CPow i j) (k : Φ (.int (i ^ j.toNat)) M) : OpD rPowU (.int i) (.int j) M Φ := od_I (gd := fun i j => .int (i ^ j.toNat)) hc (fun _ _ => .int _) k
theorem de_neg (h : DE B X a δ M fun x M1 => ∃ i, x = .int i ∧ Φ (.int (-i)) M1) : DE B X (.UnaryOp .USub a pos) δ M Φ := .of (pe_un un_neg cE) fun κ σ H Q hb R k => h κ σ H _ hb R fun v x M1 H1 ⟨i, e, q⟩ R1 r1 => by
  subst e; cases r1
  exact ⟨i, rfl, k _ _ _ _ q R1 (.int _)⟩
end
end Hl
namespace Hl
open PySem L2
@[irreducible] def tW (X : Cx) (e : Expr) : TT := fun σ H Q => ∀ whole pins s, Inv X pins σ H s → wpAny (model X.prog X.w) X.A (isTrue e X.env whole) (TP X pins σ Q) X.xe s
theorem cW {X : Cx} {e : Expr} : PW X e (tW X e) := ⟨fun whole pins s _ _ _ I h => by unfold tW at h; exact h whole pins s I⟩
abbrev DW (B : Bx) (X : Cx) (e : Expr) := WT B (tW X e)
section
variable {B : Bx} {X : Cx} {e a b c : Expr} {es rest : List Expr} {st : Stmt} {sts : List Stmt} {δ δ' : Env'} {M : Mem} {Φ : D → Mem → Prop} {Ψ : DEnds} {te ta tb : TE} {tt : TT} {pos : Pos} {d x y : D} {ΦB : Bool → Mem → Prop}
theorem DW.of (h : PW X e tt) (w : WT B tt δ M ΦB) : DW B X e δ M ΦB := fun κ σ H Q hb R k => by unfold tW; exact fun whole pins s I => h.run whole pins s σ H Q I (w κ σ H Q hb R k)
theorem DT.w (h : DW B X e δ M ΦB) : DT B X e δ M ΦB := .of cW.pt h
/-- both ways of a truth -/
def Br (b : Bool) (P Q : Prop) : Prop := (b = true → P) ∧ (b = false → Q)
theorem Br.mk {b : Bool} {P Q : Prop} (h1 : b = true → P) (h2 : b = false → Q) : Br b P Q := ⟨h1, h2⟩
theorem Br.yes {P Q : Prop} (h : P) : Br true P Q := ⟨fun _ => h, fun e => (nomatch e)⟩
theorem Br.no {P Q : Prop} (h : Q) : Br false P Q := ⟨fun e => (nomatch e), fun _ => h⟩
theorem Br.ite {b : Bool} {P Q : Prop} (h : Br b P Q) : if b = true then P else Q := by
  cases b with
  | true => exact iteT (h.1 rfl)
  | false => exact iteF (h.2 rfl)
theorem Br.dec {p : Prop} [Decidable p] {P Q : Prop} (h1 : p → P) (h2 : ¬ p → Q) : Br (decide p) P Q := ⟨fun e => h1 (of_decide_eq_true e), fun e => h2 (of_decide_eq_false e)⟩
theorem Br.ndec {p : Prop} [Decidable p] {P Q : Prop} (h1 : ¬ p → P) (h2 : p → Q) : Br (!decide p) P Q := ⟨fun e => h1 (of_decide_eq_false (by simpa using e)), fun e => h2 (of_decide_eq_true (by simpa using e))⟩
theorem Br.decT {p : Prop} [Decidable p] {P Q : Prop} (h : p) (h1 : P) : Br (decide p) P Q := ⟨fun _ => h1, fun e => absurd h (of_decide_eq_false e)⟩
theorem Br.decF {p : Prop} [Decidable p] {P Q : Prop} (h : ¬ p) (h1 : Q) : Br (decide p) P Q := ⟨fun e => absurd (of_decide_eq_true e) h, fun _ => h1⟩
theorem Br.ndecT {p : Prop} [Decidable p] {P Q : Prop} (h : ¬ p) (h1 : P) : Br (!decide p) P Q := ⟨fun _ => h1, fun e => absurd (of_decide_eq_true (by simpa using e)) h⟩
theorem Br.ndecF {p : Prop} [Decidable p] {P Q : Prop} (h : p) (h1 : Q) : Br (!decide p) P Q := ⟨fun e => absurd h (of_decide_eq_false (by simpa using e)), fun _ => h1⟩
theorem Br.neg {b : Bool} {P Q : Prop} (h : Br b Q P) : Br (!b) P Q := by
  cases b with
  | true => exact ⟨fun e => (nomatch e), fun _ => h.1 rfl⟩
  | false => exact ⟨fun _ => h.2 rfl, fun e => (nomatch e)⟩
def toB (Φ : Bool → Mem → Prop) : D → Mem → Prop := fun d M => ∃ b, d = .bl b ∧ Φ b M
theorem toB.mk {b : Bool} (k : ΦB b M) : toB ΦB (.bl b) M := ⟨b, rfl, k⟩
theorem WT.test {t : TE} (h : WE B t δ M (toB ΦB)) : WT B (tTest t) δ M ΦB := fun κ σ H Q hb R k => h κ σ H _ hb R fun v d M' H' ⟨b, e, q⟩ R' r => by
  subst e; cases r
  exact ⟨b, rfl, k b M' H' q R'⟩
theorem de_cmp {op : CmpOp} {r : R2} (ho : OpR X (compareOp op) r) (hm : behindInMarks op b = false) (h : DE B X a δ M fun x M1 => DE B X b δ M1 fun y M2 => OpD r x y M2 Φ) : DE B X (.Compare a [op] [b] pos) δ M Φ := .of (pe_cmpR ho cE cE hm) (.op h)
theorem dt_cmp {op : CmpOp} {r : R2} (ho : OpR X (compareOp op) r) (hm : behindInMarks op b = false) (h : DE B X a δ M fun x M1 => DE B X b δ M1 fun y M2 => OpD r x y M2 (toB ΦB)) : DT B X (.Compare a [op] [b] pos) δ M ΦB := .of (pt_cmpR ho cE cE hm) (.test (.op h))
/-! comparisons of ints -/
def rLtU : R2 := rI0 fun i j => .bl (decide (i < j))
def rLeU : R2 := rI0 fun i j => .bl (decide (i ≤ j))
def rGtU : R2 := rI0 fun i j => .bl (decide (j < i))
def rGeU : R2 := rI0 fun i j => .bl (decide (j ≤ i))
theorem od_lt {i j : Int} (k : Φ (.bl (decide (i < j))) M) : OpD rLtU (.int i) (.int j) M Φ := od_I0 (gd := fun i j => .bl (decide (i < j))) (fun _ _ => .bl _) k
theorem od_le {i j : Int} (k : Φ (.bl (decide (i ≤ j))) M) : OpD rLeU (.int i) (.int j) M Φ := od_I0 (gd := fun i j => .bl (decide (i ≤ j))) (fun _ _ => .bl _) k
theorem od_gt {i j : Int} (k : Φ (.bl (decide (j < i))) M) : OpD rGtU (.int i) (.int j) M Φ := od_I0 (gd := fun i j => .bl (decide (j < i))) (fun _ _ => .bl _) k
theorem od_ge {i j : Int} (k : Φ (.bl (decide (j ≤ i))) M) : OpD rGeU (.int i) (.int j) M Φ := od_I0 (gd := fun i j => .bl (decide (j ≤ i))) (fun _ _ => .bl _) k
theorem de_lt (h : DE B X a δ M fun x M1 => DE B X b δ M1 fun y M2 => OpD rLtU x y M2 Φ) : DE B X (.Compare a [.Lt] [b] pos) δ M Φ := de_cmp op_lt (nomark _) h
theorem de_le (h : DE B X a δ M fun x M1 => DE B X b δ M1 fun y M2 => OpD rLeU x y M2 Φ) : DE B X (.Compare a [.LtE] [b] pos) δ M Φ := de_cmp op_le (nomark _) h
theorem de_gt (h : DE B X a δ M fun x M1 => DE B X b δ M1 fun y M2 => OpD rGtU x y M2 Φ) : DE B X (.Compare a [.Gt] [b] pos) δ M Φ := de_cmp op_gt (nomark _) h
theorem de_ge (h : DE B X a δ M fun x M1 => DE B X b δ M1 fun y M2 => OpD rGeU x y M2 Φ) : DE B X (.Compare a [.GtE] [b] pos) δ M Φ := de_cmp op_ge (nomark _) h
theorem dt_lt (h : DE B X a δ M fun x M1 => DE B X b δ M1 fun y M2 => OpD rLtU x y M2 (toB ΦB)) : DT B X (.Compare a [.Lt] [b] pos) δ M ΦB := dt_cmp op_lt (nomark _) h
theorem dt_le (h : DE B X a δ M fun x M1 => DE B X b δ M1 fun y M2 => OpD rLeU x y M2 (toB ΦB)) : DT B X (.Compare a [.LtE] [b] pos) δ M ΦB := dt_cmp op_le (nomark _) h
theorem dt_gt (h : DE B X a δ M fun x M1 => DE B X b δ M1 fun y M2 => OpD rGtU x y M2 (toB ΦB)) : DT B X (.Compare a [.Gt] [b] pos) δ M ΦB := dt_cmp op_gt (nomark _) h
theorem dt_ge (h : DE B X a δ M fun x M1 => DE B X b δ M1 fun y M2 => OpD rGeU x y M2 (toB ΦB)) : DT B X (.Compare a [.GtE] [b] pos) δ M ΦB := dt_cmp op_ge (nomark _) h
/-! == and != -/
def rEqU (K : PySem.W.Frag) : R2 := fun x y H Q => rEq x y H Q ∨ rEqD K x y H Q
def rNeU (K : PySem.W.Frag) : R2 := fun x y H Q => rNe x y H Q ∨ rNeD K x y H Q
theorem un64 {k : Nat} (z : Cz X k) : X.A.units + 64 < cLine := by have := z.room.un; omega
theorem un1 {k : Nat} (z : Cz X k) : X.A.units + 1 < cLine := by have := z.room.un; omega
theorem de_eq {k : Nat} (z : Cz X k) (h : DE B X a δ M fun x M1 => DE B X b δ M1 fun y M2 => OpD (rEqU X.K) x y M2 Φ) : DE B X (.Compare a [.Eq] [b] pos) δ M Φ := de_cmp (op_eq.or (op_eqD (un64 z))) (nomark _) h
theorem de_ne {k : Nat} (z : Cz X k) (h : DE B X a δ M fun x M1 => DE B X b δ M1 fun y M2 => OpD (rNeU X.K) x y M2 Φ) : DE B X (.Compare a [.NotEq] [b] pos) δ M Φ := de_cmp (op_ne.or (op_neD (un64 z))) (nomark _) h
theorem dt_eq {k : Nat} (z : Cz X k) (h : DE B X a δ M fun x M1 => DE B X b δ M1 fun y M2 => OpD (rEqU X.K) x y M2 (toB ΦB)) : DT B X (.Compare a [.Eq] [b] pos) δ M ΦB := dt_cmp (op_eq.or (op_eqD (un64 z))) (nomark _) h
theorem dt_ne {k : Nat} (z : Cz X k) (h : DE B X a δ M fun x M1 => DE B X b δ M1 fun y M2 => OpD (rNeU X.K) x y M2 (toB ΦB)) : DT B X (.Compare a [.NotEq] [b] pos) δ M ΦB := dt_cmp (op_ne.or (op_neD (un64 z))) (nomark _) h
theorem od_eqI {K : PySem.W.Frag} {i j : Int} (k : Φ (.bl (decide (i = j))) M) : OpD (rEqU K) (.int i) (.int j) M Φ := .inl fun κ δ σ H v w Q R rv rw' h => by
  cases rv; cases rw'
  refine ⟨rfl, ?_⟩
  rw [show decide (V.int i = V.int j) = decide (i = j) by simp]
  exact h _ _ M H k R (.bl _)
theorem od_neI {K : PySem.W.Frag} {i j : Int} (k : Φ (.bl (!decide (i = j))) M) : OpD (rNeU K) (.int i) (.int j) M Φ := .inl fun κ δ σ H v w Q R rv rw' h => by
  cases rv; cases rw'
  refine ⟨rfl, ?_⟩
  rw [show decide (V.int i = V.int j) = decide (i = j) by simp]
  exact h _ _ M H k R (.bl _)
/-! is None -/
def isN : D → Bool
  | .non => true
  | .raw v => decide (v = .non)
  | _ => false
def rIsNU : R2 := fun x y H Q => y = .non ∧ Q (.bl (decide (x = .non))) H
def rNotNU : R2 := fun x y H Q => y = .non ∧ Q (.bl (!decide (x = .non))) H
theorem rep_isN {F : List Addr} {H : Hp} {v : V} {x : D} (r : Rep F H v x) : decide (v = .non) = isN x := by cases r <;> simp [isN]
theorem od_isN {x : D} (k : Φ (.bl (isN x)) M) : OpD rIsNU x .non M Φ := fun κ δ σ H v w Q R rv rw' h => by
  cases rw'
  refine ⟨rfl, ?_⟩
  rw [rep_isN rv]
  exact h _ _ M H k R (.bl _)
theorem od_notN {x : D} (k : Φ (.bl (!isN x)) M) : OpD rNotNU x .non M Φ := fun κ δ σ H v w Q R rv rw' h => by
  cases rw'
  refine ⟨rfl, ?_⟩
  rw [rep_isN rv]
  exact h _ _ M H k R (.bl _)
theorem de_is (h : DE B X a δ M fun x M1 => DE B X b δ M1 fun y M2 => OpD rIsNU x y M2 Φ) : DE B X (.Compare a [.Is] [b] pos) δ M Φ := de_cmp op_isN (nomark _) h
theorem de_isnot (h : DE B X a δ M fun x M1 => DE B X b δ M1 fun y M2 => OpD rNotNU x y M2 Φ) : DE B X (.Compare a [.IsNot] [b] pos) δ M Φ := de_cmp op_notN (nomark _) h
theorem dt_is (h : DE B X a δ M fun x M1 => DE B X b δ M1 fun y M2 => OpD rIsNU x y M2 (toB ΦB)) : DT B X (.Compare a [.Is] [b] pos) δ M ΦB := dt_cmp op_isN (nomark _) h
theorem dt_isnot (h : DE B X a δ M fun x M1 => DE B X b δ M1 fun y M2 => OpD rNotNU x y M2 (toB ΦB)) : DT B X (.Compare a [.IsNot] [b] pos) δ M ΦB := dt_cmp op_notN (nomark _) h
/-! tests -/
theorem dt_not (h : DT B X a δ M fun b M1 => ΦB (!b) M1) : DT B X (.UnaryOp .Not a pos) δ M ΦB := .of (pt_not cT) fun κ σ H Q hb R k => h κ σ H _ hb R fun b M1 H1 q R1 => k _ _ _ q R1
theorem dw_and1 (h : DT B X a δ M ΦB) : DW B X (.BoolOp .And [a] pos) δ M ΦB := .of (pw_and1 cT) h
theorem dw_or1 (h : DT B X a δ M ΦB) : DW B X (.BoolOp .Or [a] pos) δ M ΦB := .of (pw_or1 cT) h
theorem dw_and (h : DT B X a δ M fun t M1 => Br t (DW B X (.BoolOp .And (b :: rest) pos) δ M1 ΦB) (ΦB false M1)) : DW B X (.BoolOp .And (a :: b :: rest) pos) δ M ΦB := .of (pw_and cT cW) fun κ σ H Q hb R k => h κ σ H _ hb R fun t M1 H1 q R1 =>
  Br.ite ⟨fun e => q.1 e κ σ H1 Q hb R1 k, fun e => k _ _ _ (q.2 e) R1⟩
theorem dw_or (h : DT B X a δ M fun t M1 => Br t (ΦB true M1) (DW B X (.BoolOp .Or (b :: rest) pos) δ M1 ΦB)) : DW B X (.BoolOp .Or (a :: b :: rest) pos) δ M ΦB := .of (pw_or cT cW) fun κ σ H Q hb R k => h κ σ H _ hb R fun t M1 H1 q R1 =>
  Br.ite ⟨fun e => k _ _ _ (q.1 e) R1, fun e => q.2 e κ σ H1 Q hb R1 k⟩
theorem dt_and (h : DW B X (.BoolOp .And es pos) δ M ΦB) : DT B X (.BoolOp .And es pos) δ M ΦB := .w h
theorem dt_or (h : DW B X (.BoolOp .Or es pos) δ M ΦB) : DT B X (.BoolOp .Or es pos) δ M ΦB := .w h
/-- a truth that stands as a value -/
theorem dt_val (h : DE B X e δ M (toB ΦB)) (he : ∀ whole, isTrue e X.env whole = (do let v ← whole; standAt e.pos; holding [v] (truthy v)) := by intro _; rfl) : DT B X e δ M ΦB := .of (pt_val cE he) fun κ σ H Q hb R k => h κ σ H _ hb R fun v d M' H' ⟨b, e, q⟩ R' r => by
  subst e; cases r
  exact ⟨b, rfl, k b M' H' q R'⟩
/-! and, or, not as values -/
theorem de_one {op} (h : DE B X a δ M Φ) : DE B X (.BoolOp op [a] pos) δ M Φ := .of (pe_one cE) h
theorem de_and (h : DE B X a δ M (toB fun t M1 => Br t (DE B X (.BoolOp .And (b :: rest) pos) δ M1 Φ) (Φ (.bl false) M1))) : DE B X (.BoolOp .And (a :: b :: rest) pos) δ M Φ := .of (pe_and cE cE) fun κ σ H Q hb R k => h κ σ H _ hb R fun v d M1 H1 ⟨t, e, q⟩ R1 r => by
  subst e; cases r
  exact ⟨t, rfl, Br.ite ⟨fun e => q.1 e κ σ H1 Q hb R1 k, fun e => k _ _ _ _ (q.2 e) R1 (.bl _)⟩⟩
theorem de_or (h : DE B X a δ M (toB fun t M1 => Br t (Φ (.bl true) M1) (DE B X (.BoolOp .Or (b :: rest) pos) δ M1 Φ))) : DE B X (.BoolOp .Or (a :: b :: rest) pos) δ M Φ := .of (pe_or cE cE) fun κ σ H Q hb R k => h κ σ H _ hb R fun v d M1 H1 ⟨t, e, q⟩ R1 r => by
  subst e; cases r
  exact ⟨t, rfl, Br.ite ⟨fun e => k _ _ _ _ (q.1 e) R1 (.bl _), fun e => q.2 e κ σ H1 Q hb R1 k⟩⟩
theorem de_not (h : DE B X a δ M (toB fun t M1 => Φ (.bl (!t)) M1)) : DE B X (.UnaryOp .Not a pos) δ M Φ := .of (pe_not cE) fun κ σ H Q hb R k => h κ σ H _ hb R fun v d M1 H1 ⟨t, e, q⟩ R1 r => by
  subst e; cases r
  exact ⟨t, rfl, k _ _ _ _ q R1 (.bl _)⟩
theorem de_if (h : DT B X c δ M fun t M1 => Br t (DE B X a δ M1 Φ) (DE B X b δ M1 Φ)) : DE B X (.IfExp c a b pos) δ M Φ := .of (pe_ifExp cT cE cE) fun κ σ H Q hb R k => h κ σ H _ hb R fun t M1 H1 q R1 =>
  Br.ite ⟨fun e => q.1 e κ σ H1 Q hb R1 k, fun e => q.2 e κ σ H1 Q hb R1 k⟩
/-! arguments, displays -/
variable {ΦL : List D → Mem → Prop}
theorem da_nil (k : ΦL [] M) : DA B X [] δ M ΦL := .of pa_nil fun κ σ H Q hb R h => h _ _ M H k R .nil
theorem da_cons (h : DE B X a δ M fun x M1 => DA B X es δ M1 fun xs M2 => ΦL (x :: xs) M2) (hs : starEach (a :: es) X.env = (false, eval a X.env) :: starEach es X.env := by rfl) : DA B X (a :: es) δ M ΦL := .of (pa_cons cE cA hs) fun κ σ H Q hb R k =>
  h κ σ H _ hb R fun v x M1 H1 q1 R1 r1 => q1 ((v, x) :: κ) σ H1 _ (fun q hq => List.mem_cons_of_mem _ (hb q hq)) (R1.push r1) fun vs xs M2 H2 q2 R2 r2 => k _ _ _ _ q2 R2.pop (.cons R2.top r2)
theorem de_tup {x1} (h : DA B X es δ M fun xs M1 => xs.length ≤ sizeLine ∧ Φ (.tup xs) M1) : DE B X (.Tuple es x1 pos) δ M Φ := .of (pe_tup cA) fun κ σ H Q hb R k => h κ σ H _ hb R fun vs xs M1 H1 ⟨hl, q⟩ R1 r1 =>
  ⟨by rw [r1.length]; exact hl, fun p hp => let ⟨R2, r2⟩ := R1.tupV r1 hp; k _ _ _ _ q R2 r2⟩
theorem df_lst (h : DA B X es δ M fun xs M1 => xs.length ≤ sizeLine ∧ ΦL xs M1) : DF B X (.List es pos) δ M ΦL := .of (pe_lst cA) fun κ σ H Q hb R k => h κ σ H _ hb R fun vs xs M1 H1 ⟨hl, q⟩ R1 r1 =>
  ⟨by rw [r1.length]; exact hl, fun p hp => k p xs M1 _ q (R1.lst r1 hp)⟩
theorem DE.f (h : DF B X e δ M fun ds M' => Φ (.lst ds) M') : DE B X e δ M Φ := WE.ofF h
theorem de_lst (h : DA B X es δ M fun xs M1 => xs.length ≤ sizeLine ∧ Φ (.lst xs) M1) : DE B X (.List es pos) δ M Φ := .f (df_lst h)
/-! subscripts -/
def rDG : R2 := fun x y H Q => ∃ a v, x = .ref a ∧ DGet H a y (some v) ∧ Q v H
open PyProof.Rows in
theorem ix_dict (hu : X.A.units + 1 < cLine) : IxR X rDG := by
  intro value slice pins s σ H x y v u Q I rx ry h hs
  obtain ⟨a, w, rfl, g, q⟩ := h
  obtain rfl : v = Value.ref a := rx
  exact tail_any (dict_typeIs I g) PySem.F.slot_dict_getitem.lookup (d_getItem hu I g ry fun w' s' I' rw' => ⟨w, H, I', rw', q⟩) hs
def rIxU (K : PySem.W.Frag) : R2 := fun x y H Q => rIx K x y H Q ∨ rDG x y H Q
theorem de_ix {n : Nat} (z : Cz X n) (h : DE B X a δ M fun x M1 => DE B X b δ M1 fun y M2 => OpD (rIxU X.K) x y M2 Φ) (hs : PlainIx b := by intro _ _; rfl) : DE B X (.Subscript a b pos) δ M Φ := .of (pe_ix (ix_seq.or (ix_dict (un1 z))) cE cE hs) (.op h)
theorem at_rep {F : List Addr} {H : Hp} {vs : List V} {ds : List D} {i : Int} {d : D} (r : Reps F H vs ds) (h : atI ds i = some d) : ∃ v, atI vs i = some v ∧ Rep F H v d := by
  unfold atI at h ⊢
  rw [← r.length] at h
  cases e : ixN vs.length i with
  | none => rw [e] at h; cases h
  | some j =>
    rw [e] at h
    obtain ⟨v, e1, r1⟩ := r.get' (i := j) h
    exact ⟨v, e1, r1⟩
theorem od_ixL {K : PySem.W.Frag} {ds : List D} {i : Int} {d : D} (h : atI ds i = some d) (k : Φ d M) : OpD (rIxU K) (.lst ds) (.int i) M Φ := .inl fun κ δ σ H v w Q R rv rw' f => by
  cases rw'
  cases rv with
  | lst h1 e1 r1 =>
    obtain ⟨u, e2, r2⟩ := at_rep r1 h
    exact .inl ⟨_, _, i, u, rfl, rfl, SqL.of e1, e2, f _ _ M H k R r2⟩
theorem od_ixT {K : PySem.W.Frag} {ds : List D} {i : Int} {d : D} (h : atI ds i = some d) (k : Φ d M) : OpD (rIxU K) (.tup ds) (.int i) M Φ := .inl fun κ δ σ H v w Q R rv rw' f => by
  cases rw'
  cases rv with
  | tup h1 e1 r1 =>
    obtain ⟨u, e2, r2⟩ := at_rep r1 h
    exact .inr (.inl ⟨_, _, i, u, rfl, rfl, SqT.of e1, e2, f _ _ M H k R r2⟩)
theorem od_ixS {K : PySem.W.Frag} {z : Str} {i : Int} {c : Nat} (hl : z.length ≤ sizeLine) (h : atI z.cps.toList i = some c) (k : Φ (.str ⟨#[c]⟩) M) : OpD (rIxU K) (.str z) (.int i) M Φ := .inl fun κ δ σ H v w Q R rv rw' f => by
  cases rw'
  cases rv
  exact .inr (.inr ⟨z, i, c, rfl, rfl, hl, h, f _ _ M H k R (.str _)⟩)
/-- a list that is a cell -/
theorem od_ixC {K : PySem.W.Frag} {ds : List D} {i : Int} {d : D} {p : Addr} {j : Nat} (hm : M[j]? = some (p, .lst ds)) (h : atI ds i = some d) (k : Φ d M) : OpD (rIxU K) (.raw (.ref p)) (.int i) M Φ := .inl fun κ δ σ H v w Q R rv rw' f => by
  cases rw'
  cases rv
  obtain ⟨vs, e1, r1⟩ := R.at hm
  obtain ⟨u, e2, r2⟩ := at_rep r1 h
  exact .inl ⟨_, _, i, u, rfl, rfl, SqL.of e1, e2, f _ _ M H k R r2⟩
/-! dicts that are cells -/
def kD : Key → D
  | .inl i => .int i
  | .inr x => .str x
theorem rep_k {F : List Addr} {H : Hp} {v : V} {k : Key} (r : Rep F H v (kD k)) : v = kV k := by
  cases k with
  | inl i => cases (show Rep F H v (.int i) from r); rfl
  | inr x => cases (show Rep F H v (.str x) from r); rfl
def lookD (kvs : List (Key × D)) (k : Key) : Option D := (kvs.find? fun kv => decide (kv.1 = k)).map (·.2)
theorem look_rep {F : List Addr} {H : Hp} {k : Key} : ∀ {ws : List (Key × V)} {kvs : List (Key × D)}, ws.map (·.1) = kvs.map (·.1) → Reps F H (ws.map (·.2)) (kvs.map (·.2)) → ∀ {d : D}, lookD kvs k = some d → ∃ v, valV ws k = some v ∧ Rep F H v d
  | [], [], _, _, d, e => by cases e
  | [], _ :: _, h, _, _, _ => by cases h
  | _ :: _, [], h, _, _, _ => by cases h
  | (k1, v) :: ws, (k2, d') :: kvs, h, r, d, e => by
    have h1 : k1 = k2 := (List.cons.inj h).1
    have h2 : ws.map (·.1) = kvs.map (·.1) := (List.cons.inj h).2
    subst h1
    cases r with
    | cons r1 r2 =>
      unfold lookD at e
      unfold valV
      by_cases hk : k1 = k
      · rw [List.find?_cons_of_pos (by simpa using hk)] at e ⊢
        cases e
        exact ⟨v, rfl, r1⟩
      · rw [List.find?_cons_of_neg (by simpa using hk)] at e ⊢
        exact look_rep h2 r2 e
theorem od_ixD {K : PySem.W.Frag} {kvs : List (Key × D)} {k : Key} {y d : D} {p : Addr} (j : Nat) (hm : M[j]? = some (p, .dct kvs)) (hk : y = kD k) (h : lookD kvs k = some d) (q : Φ d M) : OpD (rIxU K) (.raw (.ref p)) y M Φ := .inr fun κ δ σ H v w Q R rv rw' f => by
  subst hk
  have := rep_k rw'
  subst this
  cases rv
  obtain ⟨ws, e1, e2, r⟩ := R.at hm
  obtain ⟨u, e3, r3⟩ := look_rep e2 r h
  exact ⟨p, u, rfl, .inl ⟨ws, k, .inl e1, rfl, e3.symm⟩, f _ _ M H q R r3⟩
end
end Hl
namespace Hl
open PySem L2
/-! ### statements -/
section
variable {B : Bx} {X : Cx} {e a b c : Expr} {es rest : List Expr} {st : Stmt} {sts : List Stmt} {δ δ' : Env'} {M : Mem} {Φ : D → Mem → Prop} {Ψ : DEnds} {te ta tb : TE} {tt : TT} {pos pos' : Pos} {d x y : D} {ΦB : Bool → Mem → Prop} {ΦL : List D → Mem → Prop}
theorem ds_nil (k : Ψ.nx δ M) : DSs B X [] δ M Ψ := .of pss_nil fun κ σ H E hb R h => h.nx δ M σ H k R
theorem ds_cons (h : DS B X st δ M { Ψ with nx := fun δ' M' => DSs B X sts δ' M' Ψ }) : DSs B X (st :: sts) δ M Ψ := .of (pss_cons cS cSs) fun κ σ H E hb R k =>
  h κ σ H _ hb R ⟨fun δ' M' σ' H' q R' => q κ σ' H' E hb R' k, k.rt, k.bk, k.ct⟩
theorem ds_one (h : DS B X st δ M Ψ) : DSs B X [st] δ M Ψ := .of (pss_one cS) h
theorem ds_pass (k : Ψ.nx δ M) : DS B X (.Pass pos) δ M Ψ := .of ps_pass fun κ σ H E hb R h => h.nx δ M σ H k R
theorem ds_break (k : Ψ.bk δ M) : DS B X (.Break pos) δ M Ψ := .of ps_break fun κ σ H E hb R h => h.bk δ M σ H k R
theorem ds_continue (k : Ψ.ct δ M) : DS B X (.Continue pos) δ M Ψ := .of ps_continue fun κ σ H E hb R h => h.ct δ M σ H k R
theorem ds_ret (h : DE B X e δ M Ψ.rt) : DS B X (.Return (some e) pos) δ M Ψ := .of (ps_ret cE) fun κ σ H E hb R k => h κ σ H _ hb R fun v d M' H' q R' r => k.rt v d M' δ σ H' q R' r
theorem ds_retN (k : Ψ.rt .non M) : DS B X (.Return none pos) δ M Ψ := .of ps_retN fun κ σ H E hb R h => h.rt .non .non M δ σ H k R .non
theorem ds_if {s1 s2 : List Stmt} (h : DT B X c δ M fun t M1 => Br t (DSs B X s1 δ M1 Ψ) (DSs B X s2 δ M1 Ψ)) : DS B X (.If c s1 s2 pos) δ M Ψ := .of (ps_if cT cSs cSs) fun κ σ H E hb R k => h κ σ H _ hb R fun t M1 H1 q R1 =>
  Br.ite ⟨fun e => q.1 e κ σ H1 E hb R1 k, fun e => q.2 e κ σ H1 E hb R1 k⟩
theorem ds_expr (h : DE B X e δ M fun _ M' => Ψ.nx δ M') (hs : swapsWith e none pos.line X.env = pure false := by rfl) : DS B X (.Expr e pos) δ M Ψ := .of (ps_expr cE hs) fun κ σ H E hb R k => h κ σ H _ hb R fun v d M' H' q R' r => k.nx _ _ _ _ q R'
/-- slot i holds d from now on -/
@[irreducible] def Sets (δ : Env') (i : Nat) (d : D) (P : Env' → Prop) : Prop := P (δ.set i (some d))
theorem Sets.get {i : Nat} {P : Env' → Prop} (h : Sets δ i d P) : P (δ.set i (some d)) := by unfold Sets at h; exact h
theorem Sets.of {i : Nat} {P : Env' → Prop} (h : P (δ.set i (some d))) : Sets δ i d P := by unfold Sets; exact h
/-- x = e -/
theorem ds_set {i : Nat} {x : Str} {n : Nat} (z : Cz X n) (l : Lo X i x) (h : DE B X e δ M fun d M' => Sets δ i d fun δ' => Ψ.nx δ' M') (hs : swapsWith e (some (.Name x pos')) pos.line X.env = pure false := by rfl) : DS B X (.Assign [.Name x pos'] e pos) δ M Ψ :=
  .of (ps_set z.nd l.at_ l.loc cE hs l.fn) fun κ σ H E hb R k => h κ σ H _ hb R fun v d M' H' q R' r => k.nx _ _ _ _ q.get (R'.put i r)
/-- x = a new list, that will change: a cell at place k -/
theorem ds_own {i : Nat} {x : Str} {n : Nat} (k : Nat) (z : Cz X n) (l : Lo X i x) (h : DF B X e δ M fun ds M' => ∀ p : Addr, Sets δ i (.raw (.ref p)) fun δ' => Ψ.nx δ' (insM k (p, .lst ds) M')) (hs : swapsWith e (some (.Name x pos')) pos.line X.env = pure false := by rfl) : DS B X (.Assign [.Name x pos'] e pos) δ M Ψ :=
  .of (ps_set z.nd l.at_ l.loc cE hs l.fn) fun κ σ H E hb R k => h κ σ H _ hb R fun p ds M' H' q R' => k.nx _ _ _ _ (q p).get ((R'.perm insM_perm).put i (.raw _))
/-- targets -/
theorem dg_name {i : Nat} {x : Str} {n : Nat} (z : Cz X n) (l : Lo X i x) {Φ : Env' → Mem → Prop} (k : Sets δ i d fun δ' => Φ δ' M) : DG B X (.Name x pos) d δ M Φ :=
  .of (pg_name z.nd l.at_ l.loc l.fn) fun κ σ H v Q hb R r h => h _ _ _ _ k.get (R.put i r)
theorem dgs_nil {Φ : Env' → Mem → Prop} (k : Φ δ M) : DGs B X [] [] δ M Φ := .of pgs_nil fun κ σ H vs Q hb R r h => by
  cases r
  exact ⟨rfl, h _ _ _ _ k R⟩
theorem dgs_cons {ds : List D} {Φ : Env' → Mem → Prop} (h : DG B X a d δ M fun δ' M' => DGs B X es ds δ' M' Φ) (hs : (assignEach (a :: es) X.env).map (·.2) = assign a X.env :: (assignEach es X.env).map (·.2) := by rfl) : DGs B X (a :: es) (d :: ds) δ M Φ :=
  .of (pgs_cons cG cGs hs) fun κ σ H vs Q hb R r k => by
    cases r with
    | cons r1 r2 =>
      rename_i v vs
      refine ⟨v, vs, rfl, ?_⟩
      -- the further values are held meanwhile
      have held : ∀ {κ : List (V × D)} {vs : List V} {ds : List D} {δ : Env'} {M : Mem} {σ : St} {H : Hp}, Reps M.F H vs ds → Rs κ δ M σ H → ∃ κ', (∀ q ∈ κ, q ∈ κ') ∧ Rs κ' δ M σ H ∧ ∀ {δ' : Env'} {M' : Mem} {σ' : St} {H' : Hp}, Rs κ' δ' M' σ' H' → Reps M'.F H' vs ds := by
        intro κ vs
        induction vs with
        | nil => intro ds δ M σ H r R; cases r; exact ⟨κ, fun _ h => h, R, fun _ => .nil⟩
        | cons v vs ih =>
          intro ds δ M σ H r R
          cases r with
          | cons r1 r2 =>
            obtain ⟨κ', h1, R', h2⟩ := ih r2 R
            rename_i d ds
            exact ⟨(v, d) :: κ', fun q hq => List.mem_cons_of_mem _ (h1 q hq), R'.push r1, fun R => .cons R.top (h2 R.pop)⟩
      obtain ⟨κ', hk, R', hr⟩ := held r2 R
      exact h κ' σ H v _ (fun q hq => hk q (hb q hq)) R' r1 fun δ' M' σ' H' q R2 => q κ σ' H' vs Q hb (R2.sub hk) (hr R2) k
theorem dg_tup {ds : List D} {kk : Nat} {m : Nat} {n : Nat} {Φ : Env' → Mem → Prop} (z : Cz X n) (hl : ds.length = m) (h : DGs B X es ds δ M Φ) (hn : (assignEach es X.env).length = m := by rfl) (hst : (assignEach es X.env).findIdx? (·.1) = none := by rfl) : DG B X (.Tuple es kk pos) (.tup ds) δ M Φ :=
  .of (pg_tup z.calm cGs hn hst) fun κ σ H v Q hb R r k => by
    cases r with
    | tup h1 e1 r1 => exact ⟨_, _, rfl, SqT.of e1, by rw [r1.length]; exact hl, h κ σ H _ Q hb R r1 k⟩
theorem ds_asg {tg : Expr} (h : DE B X e δ M fun d M' => DG B X tg d δ M' Ψ.nx) (hs : swapsWithSole [tg] e pos.line X.env = pure false := by rfl) (hw : swappedStores [tg] e X.env = pure none := by rfl) (h1 : (assignEach [tg] X.env).map (·.2) = [assign tg X.env] := by rfl) : DS B X (.Assign [tg] e pos) δ M Ψ :=
  .of (ps_asg cE cG hs hw h1) fun κ σ H E hb R k => h κ σ H _ hb R fun v d M' H' q R' r => q κ σ H' v _ hb R' r fun δ' M2 σ' H2 q2 R2 => k.nx _ _ _ _ q2 R2
/-- x op= e -/
theorem ds_aug {i : Nat} {x : Str} {n : Nat} {op : Operator} {r : TIp} (z : Cz X n) (l : Lo X i x) (ho : PIp X op r) (hd : δ[i]? = some (some d)) (h : DE B X e δ M fun y M' => OpD r d y M' fun v M2 => Sets δ i v fun δ' => Ψ.nx δ' M2) : DS B X (.AugAssign (.Name x pos') op e pos) δ M Ψ :=
  .of (ps_aug z.nd l.at_ l.loc cE ho l.fn) fun κ σ H E hb R k => by
    obtain ⟨v, e1, r1⟩ := R.get hd
    refine ⟨v, e1, h ((v, d) :: κ) σ H _ (fun q hq => List.mem_cons_of_mem _ (hb q hq)) (R.push r1) fun w y M' H' q R' r' => ?_⟩
    exact q κ δ σ H' v w _ R'.pop R'.top r' fun u du M2 H2 q2 R2 r2 => k.nx _ _ _ _ q2.get (R2.put i r2)
def rAddI : TIp := fun x y H Q => (rI0 fun i j => .int (i + j)) x y H Q ∨ rAddS x y H Q
theorem ip_add : PIp X .Add rAddI := (iop_add (X := X)).or (iop_add_str (X := X))
theorem oi_addI {i j : Int} (k : Φ (.int (i + j)) M) : OpD rAddI (.int i) (.int j) M Φ := (od_I0 (gd := fun i j => .int (i + j)) (fun _ _ => .int _) k).inl
theorem ip_sub : PIp X .Sub rSubU := iop_sub
theorem ds_augAdd {i : Nat} {x : Str} {n : Nat} (z : Cz X n) (l : Lo X i x) (hd : δ[i]? = some (some d)) (h : DE B X e δ M fun y M' => OpD rAddI d y M' fun v M2 => Sets δ i v fun δ' => Ψ.nx δ' M2) : DS B X (.AugAssign (.Name x pos') .Add e pos) δ M Ψ := ds_aug z l ip_add hd h
theorem ds_augSub {i : Nat} {x : Str} {n : Nat} (z : Cz X n) (l : Lo X i x) (hd : δ[i]? = some (some d)) (h : DE B X e δ M fun y M' => OpD rSubU d y M' fun v M2 => Sets δ i v fun δ' => Ψ.nx δ' M2) : DS B X (.AugAssign (.Name x pos') .Sub e pos) δ M Ψ := ds_aug z l ip_sub hd h
/-! ### what is walked -/
structure WalkD (κ : List (V × D)) (xs : List D) (J : It) : Prop where
  goes : ∀ i δ M σ H, i < xs.length → Rs κ δ M σ H → J.go i H
  stops : ∀ δ M σ H, Rs κ δ M σ H → J.stop xs.length H
  yields : ∀ i δ M σ H x H', i < xs.length → Rs κ δ M σ H → J.yld i H x H' → ∃ d, xs[i]? = some d ∧ Rs κ δ M σ H' ∧ Rep M.F H' x d
def WI (B : Bx) (wi : TI) (δ : Env') (M : Mem) (Φ : List D → Mem → Prop) : Prop := ∀ κ σ H R, (∀ q ∈ B.ps, q ∈ κ) → Rs κ δ M σ H → (∀ xs M' H' J κ', Φ xs M' → (∀ q ∈ κ, q ∈ κ') → Rs κ' δ M' σ H' → WalkD κ' xs J → R J H') → wi σ H R
def DI (B : Bx) (X : Cx) (tg iter : Expr) (δ : Env') (M : Mem) (Φ : List D → Mem → Prop) : Prop := ∃ wi, PI X tg iter wi ∧ WI B wi δ M Φ
theorem lt_some {α : Type} {l : List α} {i : Nat} (h : i < l.length) : ∃ x, l[i]? = some x := ⟨l[i], by simp [h]⟩
theorem wd_list {κ : List (V × D)} {a : Addr} {ds : List D} {K : PySem.W.Frag} : WalkD ((.ref a, .lst ds) :: κ) ds (Itl K a) where
  goes := fun i δ M σ H hi R => by
    cases R.top with
    | lst hn e r =>
      obtain ⟨d, hd⟩ := lt_some hi
      obtain ⟨v, hv, _⟩ := r.get' hd
      exact ⟨_, v, SqL.of e, hv⟩
  stops := fun δ M σ H R => by
    cases R.top with
    | lst hn e r => exact ⟨_, SqL.of e, by rw [r.length]; exact Nat.le_refl _⟩
  yields := fun i δ M σ H x H' hi R y => by
    obtain ⟨rfl, y⟩ := y
    cases R.top with
    | lst hn e r =>
      obtain ⟨d, hd, rd⟩ := r.get (y _ (SqL.of e))
      exact ⟨d, hd, R, rd⟩
theorem wd_tup {κ : List (V × D)} {a : Addr} {ds : List D} {K : PySem.W.Frag} : WalkD ((.ref a, .tup ds) :: κ) ds (Itt K a) where
  goes := fun i δ M σ H hi R => by
    cases R.top with
    | tup hn e r =>
      obtain ⟨d, hd⟩ := lt_some hi
      obtain ⟨v, hv, _⟩ := r.get' hd
      exact ⟨_, v, SqT.of e, hv⟩
  stops := fun δ M σ H R => by
    cases R.top with
    | tup hn e r => exact ⟨_, SqT.of e, by rw [r.length]; exact Nat.le_refl _⟩
  yields := fun i δ M σ H x H' hi R y => by
    obtain ⟨rfl, y⟩ := y
    cases R.top with
    | tup hn e r =>
      obtain ⟨d, hd, rd⟩ := r.get (y _ (SqT.of e))
      exact ⟨d, hd, R, rd⟩
theorem wd_range {κ : List (V × D)} {lo : Int} {n : Nat} : WalkD κ ((List.range n).map fun i => .int (lo + (i : Nat))) (Itr lo n) where
  goes := fun i δ M σ H hi R => by show i < n; simpa using hi
  stops := fun δ M σ H R => by show n ≤ _; simp
  yields := fun i δ M σ H x H' hi R y => by
    obtain ⟨rfl, rfl⟩ := y
    have hi : i < n := by simpa using hi
    exact ⟨.int (lo + (i : Nat)), by simp [hi], R, .int _⟩
def enumD (ds : List D) : List D := (List.range ds.length).map fun i => .tup [.int (i : Nat), ds.getD i .non]
theorem wd_enum {κ : List (V × D)} {a : Addr} {ds : List D} {K : PySem.W.Frag} : WalkD ((.ref a, .lst ds) :: κ) (enumD ds) (Ite K a) where
  goes := fun i δ M σ H hi R => by
    cases R.top with
    | lst hn e r =>
      have hi : i < ds.length := by simpa [enumD] using hi
      exact (walk_enum (K := K) (a := a)).goes i H (by rw [r.length]; exact hi) (SqL.of e)
  stops := fun δ M σ H R => by
    cases R.top with
    | lst hn e r =>
      have := (walk_enum (K := K) (a := a)).stops H (SqL.of e)
      rw [r.length] at this
      simpa [enumD] using this
  yields := fun i δ M σ H x H' hi R y => by
    cases R.top with
    | lst hn e r =>
      have hi : i < ds.length := by simpa [enumD] using hi
      obtain ⟨T, v1, v2, rfl, hT, rfl, e1, e2⟩ := (walk_enum (K := K) (a := a)).yields i H x H' (by rw [r.length]; exact hi) (SqL.of e) y
      cases e1
      obtain ⟨d, hd, rd⟩ := r.get e2
      refine ⟨.tup [.int (i : Nat), d], by simp [enumD, hi, (List.getElem?_eq_some_iff.mp hd).2], ?_⟩
      obtain ⟨R1, r1⟩ := R.tupV (p := T) (vs := [.int (i : Nat), v2]) (ds := [.int (i : Nat), d]) (.cons (.int _) (.cons rd .nil)) hT
      exact ⟨R1, r1⟩
variable {tg iter : Expr}
theorem di_list (h : DE B X iter δ M fun d M' => ∃ ds, d = .lst ds ∧ ΦL ds M') : DI B X tg iter δ M ΦL := ⟨_, pi_list cE, fun κ σ H R hb Rr k => h κ σ H _ hb Rr fun v d M1 H1 ⟨ds, ed, q⟩ R1 r1 => by
  subst ed
  cases r1 with
  | lst hn e1 r1 => exact ⟨_, rfl, ⟨_, SqL.of e1⟩, k ds M1 H1 _ _ q (fun q hq => List.mem_cons_of_mem _ hq) (R1.push (.lst hn e1 r1)) wd_list⟩⟩
theorem di_tup (h : DE B X iter δ M fun d M' => ∃ ds, d = .tup ds ∧ ΦL ds M') : DI B X tg iter δ M ΦL := ⟨_, pi_tup cE, fun κ σ H R hb Rr k => h κ σ H _ hb Rr fun v d M1 H1 ⟨ds, ed, q⟩ R1 r1 => by
  subst ed
  cases r1 with
  | tup hn e1 r1 => exact ⟨_, rfl, ⟨_, SqT.of e1⟩, k ds M1 H1 _ _ q (fun q hq => List.mem_cons_of_mem _ hq) (R1.push (.tup hn e1 r1)) wd_tup⟩⟩
def rangeD (lo : Int) (n : Nat) : List D := (List.range n).map fun i => .int (lo + (i : Nat))
theorem di_range1 {p : Pos} (g : Gn X "range") (h : DE B X a δ M fun d M' => ∃ j, d = .int j ∧ -(2 ^ 62) ≤ j ∧ j < 2 ^ 62 ∧ ΦL (rangeD 0 j.toNat) M') (hs : starEach [a] X.env = [(false, eval a X.env)] := by rfl) : DI B X tg (.Call (.Name "range" p) [a] [] pos) δ M ΦL :=
  ⟨_, pi_range1 g.gl g.no (pa_cons cE pa_nil hs) hs, fun κ σ H R hb Rr k => h κ σ H _ hb Rr fun v d M1 H1 ⟨j, ed, h1, h2, q⟩ R1 r1 => by
    subst ed
    cases r1
    exact ⟨j, rfl, h1, h2, k _ M1 H1 _ κ q (fun _ h => h) R1 wd_range⟩⟩
theorem di_enum {p tpos : Pos} {elts : List Expr} {kk : Nat} (g : Gn X "enumerate") (h : DE B X a δ M fun d M' => ∃ ds, d = .lst ds ∧ ΦL (enumD ds) M') (hs : starEach [a] X.env = [(false, eval a X.env)] := by rfl) : DI B X (.Tuple elts kk tpos) (.Call (.Name "enumerate" p) [a] [] pos) δ M ΦL :=
  ⟨_, pi_enum g.gl g.no (pa_cons cE pa_nil hs) hs, fun κ σ H R hb Rr k => h κ σ H _ hb Rr fun v d M1 H1 ⟨ds, ed, q⟩ R1 r1 => by
    subst ed
    cases r1 with
    | lst hn e1 r1 => exact ⟨_, _, rfl, SqL.of e1, k _ M1 H1 _ _ q (fun q hq => List.mem_cons_of_mem _ hq) (R1.push (.lst hn e1 r1)) wd_enum⟩⟩
/-! ### loops -/
theorem ds_for {body : List Stmt} {n : Nat} (z : Cz X n) (hp : PassesOwn (model X.prog X.w) X.A X.env X.xe)
    (h : DI B X tg iter δ M fun xs M' => ∃ Iv : Nat → Env' → Mem → Prop, Iv 0 δ M' ∧ (∀ i x δ M, xs[i]? = some x → Iv i δ M → DG B X tg x δ M fun δ' M' => DSs B X body δ' M' { Ψ with nx := Iv (i + 1), ct := Iv (i + 1), bk := Ψ.nx }) ∧ ∀ δ M, Iv xs.length δ M → Ψ.nx δ M)
    (hs : ∀ x, foldedSetIterable iter X.env x = pure x := by intro _; rfl) : DS B X (.For tg iter body [] pos) δ M Ψ := by
  obtain ⟨wi, pi, w⟩ := h
  refine .of (ps_for hp z.calm pi cG cSs hs) fun κ σ H E hb R k => ?_
  refine w κ σ H _ hb R fun xs M1 H1 J κ' ⟨Iv, h0, hst, hd⟩ hk R1 W => ?_
  refine ⟨fun i m σ H => m = xs.length - i ∧ i ≤ xs.length ∧ ∃ δ M, Iv i δ M ∧ Rs κ' δ M σ H, ⟨xs.length, by simp, Nat.zero_le _, δ, M1, h0, R1⟩, ?_⟩
  rintro i m σ H ⟨rfl, hi, δ, M, q, R⟩
  by_cases hlt : i < xs.length
  · refine .inr ⟨W.goes i δ M σ H hlt R, fun σ' H' => ∃ δ' M', Iv (i + 1) δ' M' ∧ Rs κ' δ' M' σ' H', fun σ' H' p' => ⟨xs.length - (i + 1), by omega, rfl, hlt, p'⟩, fun x H' y => ?_⟩
    obtain ⟨d, hd1, R2, r2⟩ := W.yields i δ M σ H x H' hlt R y
    refine hst i d δ M hd1 q κ' σ H' x _ (fun q hq => hk q (hb q hq)) R2 r2 fun δ2 M2 σ2 H2 q2 R3 => ?_
    exact q2 κ' σ2 H2 _ (fun q hq => hk q (hb q hq)) R3 ⟨fun δ3 M3 σ3 H3 q3 R4 => ⟨δ3, M3, q3, R4⟩, fun v d M δ σ H q R r => k.rt v d M δ σ H q (R.sub hk) r, fun δ M σ H q R => k.nx δ M σ H q (R.sub hk), fun δ3 M3 σ3 H3 q3 R4 => ⟨δ3, M3, q3, R4⟩⟩
  · have e : i = xs.length := by omega
    subst e
    exact .inl ⟨W.stops δ M σ H R, k.nx δ M σ H (hd δ M q) (R.sub hk)⟩
end
end Hl
namespace Hl
open PySem L2
/-! ### defs -/
abbrev DSp := List D → Mem → (D → Mem → Prop) → Prop
def lift (p : DSp) : Sp := fun vs H Q _ => ∃ κ ds M Φ, Rs κ [] M [] H ∧ Reps M.F H vs ds ∧ p ds M Φ ∧ ∀ v d M' H', Φ d M' → Rs κ [] M' [] H' → Rep M'.F H' v d → Q v H'
def sk : St → Env' → List (V × D)
  | some v :: σ, some d :: δ => (v, d) :: sk σ δ
  | _ :: σ, _ :: δ => sk σ δ
  | _, _ => []
section
variable {κ : List (V × D)} {δ : Env'} {M M' : Mem} {σ : St} {H H' : Hp}
theorem sk_rep {F : List Addr} {H : Hp} : ∀ {σ : St} {δ : Env'}, Paired (SlotOk F H) σ δ → ∀ q ∈ sk σ δ, Rep F H q.1 q.2
  | _, _, .nil => by intro q hq; simp [sk] at hq
  | some v :: σ, some d :: δ, .cons h t => by
    intro q hq
    rcases List.mem_cons.mp (show q ∈ (v, d) :: sk σ δ from hq) with rfl | hq
    · obtain ⟨v', e, r⟩ := h d rfl
      cases e; exact r
    · exact sk_rep t q hq
  | none :: σ, o :: δ, .cons h t => by
    intro q hq
    have : q ∈ sk σ δ := by cases o <;> exact hq
    exact sk_rep t q this
  | some v :: σ, none :: δ, .cons h t => by
    intro q hq
    exact sk_rep t q hq
theorem sk_back {F : List Addr} {H F' H'} : ∀ {σ : St} {δ : Env'}, Paired (SlotOk F H) σ δ → (∀ q ∈ sk σ δ, Rep F' H' q.1 q.2) → Paired (SlotOk F' H') σ δ
  | _, _, .nil, _ => .nil
  | some v :: σ, some d :: δ, .cons h t, k => .cons (fun d' e => by cases e; exact ⟨v, rfl, k (v, d) List.mem_cons_self⟩) (sk_back t fun q hq => k q (List.mem_cons_of_mem _ hq))
  | none :: σ, some d :: δ, .cons h t, k => by
    obtain ⟨v, e, _⟩ := h d rfl
    cases e
  | o :: σ, none :: δ, .cons h t, k => .cons (fun d' e => by cases e) (sk_back t fun q hq => k q (by cases o <;> exact hq))
theorem Rs.pack (R : Rs κ δ M σ H) : Rs (κ ++ sk σ δ) [] M [] H := ⟨fun q hq => by
  rcases List.mem_append.mp hq with h | h
  · exact R.kp q h
  · exact sk_rep R.sl q h, .nil, R.cl, R.nd⟩
theorem Rs.unpack (R : Rs κ δ M σ H) (R' : Rs (κ ++ sk σ δ) [] M' [] H') : Rs κ δ M' σ H' := ⟨fun q hq => R'.kp q (List.mem_append.mpr (.inl hq)), sk_back R.sl fun q hq => R'.kp q (List.mem_append.mpr (.inr hq)), R'.cl, R'.nd⟩
end
/-- a def of the module, with its promise -/
structure Def (P : Program) (w : World) (K : PySem.W.Frag) (mg : Str → Option Value) (base : Heap) (k : Nat) (x : Str) (ps : List Str) (p : DSp) : Prop where
  ex : ∃ f fd, mg x = some (.ref f) ∧ PySem.W.keepIn K (.ref f) = true ∧ Binds K fd ps [] ∧ FnOk P w K mg base CX0 k f fd ps (lift p)
abbrev DefX (X : Cx) := Def X.prog X.w X.K X.mg X.base
section
variable {B : Bx} {X : Cx} {e a b c : Expr} {es rest : List Expr} {st : Stmt} {sts : List Stmt} {δ δ' : Env'} {M : Mem} {Φ : D → Mem → Prop} {Ψ : DEnds} {te ta tb : TE} {tt : TT} {pos pos' : Pos} {d x y : D} {ΦB : Bool → Mem → Prop} {ΦL : List D → Mem → Prop}
theorem de_call {k n : Nat} {x : Str} {ps : List Str} {p : DSp} {pp : Pos} (z : Cz X n) (f : DefX X k x ps p) (hk : k ≤ n) (hg : Gl X x) (h : DA B X (e :: es) δ M fun ds M' => p ds M' Φ)
    (hdb : (x == ("__debug__" : Str)) = false := by decide) (he : starEach (e :: es) X.env = (false, eval e X.env) :: starEach es X.env := by rfl) (hpl : (backTo pos (starEach es X.env)).any (·.1) = false := by rfl) : DE B X (.Call (.Name x pp) (e :: es) [] pos) δ M Φ := by
  obtain ⟨fa, fd, h1, h2, h3, h4⟩ := f.ex
  refine .of (pe_call h4 (z.room.mono hk) hg h1 h2 h3 .nil pass0 cA hdb he hpl) fun κ σ H Q hb R k => h κ σ H _ hb R fun vs ds M1 H1 q R1 r1 => ?_
  rw [List.append_nil]
  exact ⟨κ ++ sk σ δ, ds, M1, Φ, R1.pack, r1, q, fun v d M2 H2 q2 R2 r2 => k v d M2 H2 q2 (R1.unpack R2) r2⟩
/-- what a def's body is to show -/
structure InDef (P : Program) (w : World) (K : PySem.W.Frag) (mg : Str → Option Value) (base : Heap) (N : List Str) (sc : Scope) (k : Nat) (X : Cx) : Prop where
  prog : X.prog = P
  wd : X.w = w
  K : X.K = K
  mg : X.mg = mg
  base : X.base = base
  N : X.N = N
  sc : X.env.scope = sc
  fn : X.fn = fun _ => true
  z : Cz X k
  xe : ∀ v s, ¬ X.xe v s
theorem passes_of {X : Cx} (h : ∀ v s, ¬ X.xe v s) : PassesOwn (model X.prog X.w) X.A X.env X.xe := by
  have : X.xe = fun _ _ => False := by
    funext v s
    exact propext ⟨fun z => (h v s z).elim, fun z => z.elim⟩
  rw [this]
  exact PassesOwn.never
/-- the slots at the entry -/
def startD (n : Nat) (ds : List D) : Env' := ds.map some ++ List.replicate (n - ds.length) none
theorem start_rs {κ : List (V × D)} {M : Mem} {H : Hp} {N : List Str} {vs : List V} {ds : List D} (R : Rs κ [] M [] H) (r : Reps M.F H vs ds) : Rs κ (startD N.length ds) M (L2.start N vs) H := by
  refine ⟨R.kp, ?_, R.cl, R.nd⟩
  unfold L2.start startD
  rw [r.length]
  have h1 : ∀ {vs : List V} {ds : List D}, Reps M.F H vs ds → ∀ n, Paired (SlotOk M.F H) (vs.map some ++ List.replicate n none) (ds.map some ++ List.replicate n none) := by
    intro vs
    induction vs with
    | nil =>
      intro ds r n
      cases r
      show Paired _ (List.replicate n none) (List.replicate n none)
      induction n with
      | zero => exact .nil
      | succ n ih => exact .cons (fun d e => by cases e) ih
    | cons v vs ih =>
      intro ds r n
      cases r with
      | cons r1 r2 => exact .cons (fun d e => by cases e; exact ⟨v, rfl, r1⟩) (ih r2 n)
  exact h1 r _
theorem erase_sub {M : Mem} {j : Nat} : (M.eraseIdx j).Sublist M := List.eraseIdx_sublist M j
theorem F_erase : ∀ {M : Mem} {j : Nat} {p : Addr} {c : Cell}, M.F.Nodup → M[j]? = some (p, c) → p ∉ Mem.F (M.eraseIdx j)
  | [], _, _, _, _, e => by simp at e
  | q :: M, 0, p, c, n, e => by
    have : q = (p, c) := by simpa using e
    subst this
    have n : (own p c ++ Mem.F M).Nodup := n
    intro z
    exact (List.nodup_append.mp n).2.2 p (by cases c <;> simp [own]) p z rfl
  | q :: M, j + 1, p, c, n, e => by
    have n : (own q.1 q.2 ++ Mem.F M).Nodup := n
    show p ∉ own q.1 q.2 ++ Mem.F (M.eraseIdx j)
    intro z
    rcases List.mem_append.mp z with z | z
    · exact (List.nodup_append.mp n).2.2 p z p (List.mem_flatMap.mpr ⟨(p, c), List.mem_of_getElem? (by simpa using e), by cases c <;> simp [own]⟩) rfl
    · exact F_erase (List.nodup_append.mp n).2.1 (by simpa using e) z
theorem Rs.frz {κ : List (V × D)} {σ : St} {H : Hp} {j : Nat} {p : Addr} {ds : List D} (R : Rs κ δ M σ H) (e : M[j]? = some (p, .lst ds)) : Rs κ δ (M.eraseIdx j) σ H ∧ Rep (Mem.F (M.eraseIdx j)) H (.ref p) (.lst ds) := by
  obtain ⟨vs, h1, h2⟩ := R.at e
  exact ⟨R.less erase_sub, .lst (F_erase R.nd e) h1 (h2.fwd (Fwd.less fun x hx => (F_sub erase_sub).subset hx))⟩
theorem Rs.frzO {κ : List (V × D)} {σ : St} {H : Hp} {j : Nat} {p C : Addr} {ns : List Str} {ds : List D} (R : Rs κ δ M σ H) (e : M[j]? = some (p, .obj C ns ds)) : Rs κ δ (M.eraseIdx j) σ H ∧ Rep (Mem.F (M.eraseIdx j)) H (.ref p) (.obj C ns ds) := by
  obtain ⟨dx, vs, h1, hl, h2⟩ := R.at e
  exact ⟨R.less erase_sub, .obj (F_erase R.nd e) h1 hl (h2.fwd (Fwd.less fun x hx => (F_sub erase_sub).subset hx))⟩
/-- behind a return the state may be looked at otherwise -/
def Vw (d : D) (M : Mem) (d2 : D) (M2 : Mem) : Prop := ∀ κ δ σ H v, Rs κ δ M σ H → Rep M.F H v d → Rs κ δ M2 σ H ∧ Rep M2.F H v d2
theorem Vw.refl {d : D} {M : Mem} : Vw d M d M := fun _ _ _ _ _ R r => ⟨R, r⟩
theorem Vw.trans {d d1 d2 : D} {M M1 M2 : Mem} (h1 : Vw d M d1 M1) (h2 : Vw d1 M1 d2 M2) : Vw d M d2 M2 := fun κ δ σ H v R r => let ⟨R1, r1⟩ := h1 κ δ σ H v R r; h2 κ δ σ H v R1 r1
theorem Vw.sub {d : D} {M M2 : Mem} (h : M2.Sublist M) : Vw d M d M2 := fun _ _ _ _ _ R r => ⟨R.less h, r.fwd (Fwd.less fun x hx => (F_sub h).subset hx)⟩
theorem Vw.perm {d : D} {M M2 : Mem} (h : M.Perm M2) : Vw d M d M2 := fun _ _ _ _ _ R r => ⟨R.perm h, r.fwd (Fwd.less fun x hx => (F_perm h).mem_iff.mpr hx)⟩
theorem Vw.frz {p : Addr} {M : Mem} {ds : List D} (j : Nat) (e : M[j]? = some (p, .lst ds)) : Vw (.raw (.ref p)) M (.lst ds) (M.eraseIdx j) := fun _ _ _ _ _ R r => by
  cases r
  exact R.frz e
theorem Vw.frzO {p C : Addr} {ns : List Str} {M : Mem} {ds : List D} (j : Nat) (e : M[j]? = some (p, .obj C ns ds)) : Vw (.raw (.ref p)) M (.obj C ns ds) (M.eraseIdx j) := fun _ _ _ _ _ R r => by
  cases r
  exact R.frzO e
theorem fnok_of {P : Program} {w : World} {K : PySem.W.Frag} {mg : Str → Option Value} {base : Heap} {x qual : Str} {st : Stmt} {f : Addr} {fd : FuncData} {N ps : List Str} {k : Nat} {p : DSp} (F : Fun K x qual st f fd) (S : FnScope N ps (defScope st))
    (len : ∀ ds M Φ, p ds M Φ → ds.length = ps.length)
    (h : ∀ X B, InDef P w K mg base N (defScope st) k X → ∀ ds M Φ, p ds M Φ → DSs B X (defBody st) (startD N.length ds) M { nx := fun _ M' => ∃ d2 M2, Vw .non M' d2 M2 ∧ Φ d2 M2, rt := fun d M' => ∃ d2 M2, Vw d M' d2 M2 ∧ Φ d2 M2 }) : FnOk P w K mg base CX0 (k + 1) f fd ps (lift p) := by
  refine F.ok S (fun vs H Q E hl => ?_) fun cdv A outer s H vs Q E hr hl => ?_
  · obtain ⟨κ, ds, M, Φ, R, r, q, _⟩ := hl
    rw [r.length]; exact len ds M Φ q
  · obtain ⟨κ, ds, M, Φ, R, r, q, kk⟩ := hl
    refine ⟨_, cSs, ?_⟩
    refine h _ (B0 κ) ⟨rfl, rfl, rfl, rfl, rfl, rfl, rfl, rfl, ⟨S.nd, rfl, hr⟩, fun _ _ z => z⟩ ds M Φ q κ _ H _ (fun _ h => h) (start_rs R r) ⟨fun δ M' σ H' ⟨d2, M2, h1, h2⟩ R' => ?_, fun v d M' δ σ H' ⟨d2, M2, h1, h2⟩ R' r' => ?_, fun _ _ _ _ z => z.elim, fun _ _ _ _ z => z.elim⟩
    · obtain ⟨R2, r2⟩ := h1 _ _ _ _ _ R' .non
      exact kk .non d2 M2 H' h2 ⟨R2.kp, .nil, R2.cl, R2.nd⟩ r2
    · obtain ⟨R2, r2⟩ := h1 _ _ _ _ _ R' r'
      exact kk v d2 M2 H' h2 ⟨R2.kp, .nil, R2.cl, R2.nd⟩ r2
/-! names of a def's body -/
def visB (sc : Scope) (x : Str) : Bool := match sc.names.lookup x with
  | some .local => true
  | some .cell => true
  | some .free => true
  | _ => false
def locB (sc : Scope) (x : Str) : Bool := match sc.names.lookup x with
  | some .local => true
  | some .cell => true
  | _ => false
def nmB (N : List Str) (sc : Scope) (i : Nat) (x : Str) : Bool := decide (N[i]? = some x) && visB sc x && !(x == ("__debug__" : Str)) && !(x == ("__classdict__" : Str))
theorem vis_of {sc : Scope} {x : Str} (h : visB sc x = true) : Vis sc x := by
  unfold visB at h
  unfold Vis
  split at h
  · next e => exact .inl e
  · next e => exact .inr (.inl e)
  · next e => exact .inr (.inr e)
  · cases h
theorem loc_of {sc : Scope} {x : Str} (h : locB sc x = true) : L2.Loc sc x := by
  unfold locB at h
  unfold L2.Loc
  split at h
  · next e => exact .inl e
  · next e => exact .inr e
  · cases h
theorem nm_of {N : List Str} {sc : Scope} {i : Nat} {x : Str} (hN : X.N = N) (hs : X.env.scope = sc) (h : nmB N sc i x = true) : Nm X i x := by
  unfold nmB at h
  simp only [Bool.and_eq_true, decide_eq_true_eq, Bool.not_eq_true'] at h
  exact ⟨by rw [hN]; exact h.1.1.1, by rw [hs]; exact vis_of h.1.1.2, h.1.2, h.2⟩
theorem lo_of {N : List Str} {sc : Scope} {i : Nat} {x : Str} (hN : X.N = N) (hs : X.env.scope = sc) (hf : X.fn = fun _ => true) (h : (nmB N sc i x && locB sc x) = true) : Lo X i x := by
  rw [Bool.and_eq_true] at h
  exact ⟨nm_of hN hs h.1, by rw [hs]; exact loc_of h.2, .inl (by rw [hf])⟩
theorem gl_of {sc : Scope} {x : Str} (hs : X.env.scope = sc) (h : sc.names.lookup x = some .globalImplicit) : Gl X x := by
  unfold Gl Env.kindOf
  rw [hs]; exact h
theorem gn_of {sc : Scope} {x : Str} (hs : X.env.scope = sc) (h : sc.names.lookup x = some .globalImplicit) (hm : X.mg x = none) : Gn X x := ⟨gl_of hs h, hm⟩
/-! another view of the same state -/
theorem WS.view {ts : TS} {M' : Mem} (h : WS B ts δ' M' Ψ) (v : ∀ κ σ H, Rs κ δ M σ H → Rs κ δ' M' σ H) : WS B ts δ M Ψ := fun κ σ H E hb R k => h κ σ H E hb (v κ σ H R) k
/-! ### built-ins -/
end
end Hl
namespace Hl
open PySem L2
section
variable {B : Bx} {X : Cx} {e a b c o : Expr} {es rest : List Expr} {st : Stmt} {sts : List Stmt} {δ δ' : Env'} {M : Mem} {Φ : D → Mem → Prop} {Ψ : DEnds} {te ta tb : TE} {tt : TT} {pos pos' apos : Pos} {d x y : D} {ΦB : Bool → Mem → Prop} {ΦL : List D → Mem → Prop}
/-! ### stores into cells -/
def putD (kvs : List (Key × D)) (k : Key) (d : D) : List (Key × D) :=
  if (kvs.any fun kv => decide (kv.1 = k)) = true then kvs.map (fun kv => if kv.1 = k then (kv.1, d) else kv) else kvs ++ [(k, d)]
theorem put_keys {k : Key} {v : V} {d : D} {ws : List (Key × V)} {kvs : List (Key × D)} (h : ws.map (·.1) = kvs.map (·.1)) : (putK ws k v).map (·.1) = (putD kvs k d).map (·.1) := by
  have h1 : (ws.any fun kv => decide (kv.1 = k)) = (kvs.any fun kv => decide (kv.1 = k)) := by
    have e1 : (ws.any fun kv => decide (kv.1 = k)) = (ws.map (·.1)).any fun q => decide (q = k) := by rw [List.any_map]; rfl
    have e2 : (kvs.any fun kv => decide (kv.1 = k)) = (kvs.map (·.1)).any fun q => decide (q = k) := by rw [List.any_map]; rfl
    rw [e1, e2, h]
  unfold putK putD
  rw [h1]
  split
  · have a1 : ∀ (ws : List (Key × V)), (ws.map (fun kv => if kv.1 = k then (kv.1, v) else kv)).map (·.1) = ws.map (·.1) := fun ws => by
      rw [List.map_map]; apply List.map_congr_left; intro q _; show (if q.1 = k then (q.1, v) else q).1 = q.1; split <;> rfl
    have a2 : ∀ (ws : List (Key × D)), (ws.map (fun kv => if kv.1 = k then (kv.1, d) else kv)).map (·.1) = ws.map (·.1) := fun ws => by
      rw [List.map_map]; apply List.map_congr_left; intro q _; show (if q.1 = k then (q.1, d) else q).1 = q.1; split <;> rfl
    rw [a1, a2, h]
  · rw [List.map_append, List.map_append, h]; rfl
theorem put_vals {F : List Addr} {H : Hp} {k : Key} {v : V} {d : D} (r : Rep F H v d) {ws : List (Key × V)} {kvs : List (Key × D)} (h : ws.map (·.1) = kvs.map (·.1)) (rs : Reps F H (ws.map (·.2)) (kvs.map (·.2))) : Reps F H ((putK ws k v).map (·.2)) ((putD kvs k d).map (·.2)) := by
  have h1 : (ws.any fun kv => decide (kv.1 = k)) = (kvs.any fun kv => decide (kv.1 = k)) := by
    have e1 : (ws.any fun kv => decide (kv.1 = k)) = (ws.map (·.1)).any fun q => decide (q = k) := by rw [List.any_map]; rfl
    have e2 : (kvs.any fun kv => decide (kv.1 = k)) = (kvs.map (·.1)).any fun q => decide (q = k) := by rw [List.any_map]; rfl
    rw [e1, e2, h]
  unfold putK putD
  rw [h1]
  split
  · clear h1
    have : ∀ {ws : List (Key × V)} {kvs : List (Key × D)}, ws.map (·.1) = kvs.map (·.1) → Reps F H (ws.map (·.2)) (kvs.map (·.2)) → Reps F H ((ws.map (fun kv => if kv.1 = k then (kv.1, v) else kv)).map (·.2)) ((kvs.map (fun kv => if kv.1 = k then (kv.1, d) else kv)).map (·.2)) := by
      intro ws
      induction ws with
      | nil => intro kvs h r; cases kvs with
        | nil => exact .nil
        | cons _ _ => cases h
      | cons q ws ih =>
        intro kvs h r1
        cases kvs with
        | nil => cases h
        | cons q' kvs =>
          have e1 : q.1 = q'.1 := (List.cons.inj h).1
          have e2 : ws.map (·.1) = kvs.map (·.1) := (List.cons.inj h).2
          cases r1 with
          | cons r1 r2 =>
            refine .cons ?_ (ih e2 r2)
            show Rep F H (if q.1 = k then (q.1, v) else q).2 (if q'.1 = k then (q'.1, d) else q').2
            rw [e1]
            split
            · exact r
            · exact r1
    exact this h rs
  · rw [List.map_append, List.map_append]
    exact rs.append (.cons r .nil)
def tsetU : TSet := fun o i v H Q => rSetL o i v H Q ∨ rSetD o i v H Q
theorem set_U {n : Nat} (z : Cz X n) : PSet X tsetU := by
  intro pins s σ H o i v ov iv u Q I ro ri rv h
  rcases h with h | h
  · exact set_list pins s σ H o i v ov iv u Q I ro ri rv h
  · exact set_dict (un1 z) pins s σ H o i v ov iv u Q I ro ri rv h
/-- o[i] = v, by data -/
def SetD (o i v : D) (M : Mem) (Φ : Mem → Prop) : Prop := ∀ κ (δ : Env') σ H vo vi vv Q, Rs κ δ M σ H → Rep M.F H vo o → Rep M.F H vi i → Rep M.F H vv v → (∀ M' H', Φ M' → Rs κ δ M' σ H' → Q H') → tsetU vo vi vv H Q
theorem dg_sub {n : Nat} (z : Cz X n) {Φ : Env' → Mem → Prop} (h : DE B X o δ M fun x M1 => DE B X b δ M1 fun y M2 => SetD x y d M2 fun M3 => Φ δ M3)
    (ha : ∀ v, assign (.Subscript o b pos) X.env v = (do
      let ov ← holding [v] (eval o X.env)
      let iv ← holding [v, ov] (eval b X.env)
      standAt pos
      holding [v, ov, iv] (setItem ov iv v)
      release [v, ov, iv] []) := by intro _; rfl) : DG B X (.Subscript o b pos) d δ M Φ := .of (pg_sub cE cE (set_U z) ha) fun κ σ H v Q hb R r k =>
  h ((v, d) :: κ) σ H _ (fun q hq => List.mem_cons_of_mem _ (hb q hq)) (R.push r) fun vo x M1 H1 q1 R1 r1 => q1 ((vo, x) :: (v, d) :: κ) σ H1 _ (fun q hq => List.mem_cons_of_mem _ (List.mem_cons_of_mem _ (hb q hq))) (R1.push r1) fun vi y M2 H2 q2 R2 r2 =>
    q2 κ δ σ H2 vo vi v _ R2.pop.pop R2.top r2 R2.pop.top fun M3 H3 q3 R3 => k _ _ _ _ q3 R3
theorem sd_list {j : Nat} {p : Addr} {ds : List D} {i : Int} {m : Nat} {Φ : Mem → Prop} (hm : M[j]? = some (p, .lst ds)) (hi : ixN ds.length i = some m) (k : Φ (M.set j (p, .lst (ds.set m d)))) : SetD (.raw (.ref p)) (.int i) d M Φ := fun κ δ σ H vo vi vv Q R r1 r2 r3 h => by
  cases r1; cases r2
  obtain ⟨vs, e1, rs⟩ := R.at hm
  refine .inl ⟨p, vs, i, m, rfl, rfl, e1, by rw [rs.length]; exact hi, h _ _ k ?_⟩
  have hp : ∀ x, x ∉ M.F → upd H p (.lst (vs.set m vv)) x = H x := fun x hx => upd_ne fun z => hx (z ▸ R.mem hm p (by simp [own]))
  exact R.cell hm rfl (fun x hx => upd_ne (by simpa [own] using hx)) ⟨_, upd_same, (rs.set r3 m).fwd (Fwd.same hp)⟩
theorem sd_dict {p : Addr} {kvs : List (Key × D)} {k : Key} {Φ : Mem → Prop} (j : Nat) (hm : M[j]? = some (p, .dct kvs)) (hk : y = kD k) (hl : kvs.length < sizeLine) (q : Φ (M.set j (p, .dct (putD kvs k d)))) : SetD (.raw (.ref p)) y d M Φ := fun κ δ σ H vo vi vv Q R r1 r2 r3 h => by
  subst hk
  have := rep_k r2
  subst this
  cases r1
  obtain ⟨ws, e1, e2, rs⟩ := R.at hm
  have el : ws.length = kvs.length := by simpa using congrArg List.length e2
  refine .inr ⟨p, _, rfl, .inl ⟨ws, k, e1, rfl, by rw [el]; exact hl, rfl⟩, h _ _ q ?_⟩
  have hp : ∀ x, x ∉ M.F → upd H p (.dK (putK ws k vv)) x = H x := fun x hx => upd_ne fun z => hx (z ▸ R.mem hm p (by simp [own]))
  exact R.cell hm rfl (fun x hx => upd_ne (by simpa [own] using hx)) ⟨_, upd_same, put_keys e2, (put_vals r3 e2 rs).fwd (Fwd.same hp)⟩
/-! ### methods of lists that are cells -/
def MtD (K : PySem.W.Frag) (T : String) (r : V → List V → Hp → VK → Prop) (x : D) (ds : List D) (M : Mem) (Φ : D → Mem → Prop) : Prop := ∀ κ (δ : Env') σ H v vs Q, Rs κ δ M σ H → Rep M.F H v x → Reps M.F H vs ds → (∀ u d M' H', Φ d M' → Rs κ δ M' σ H' → Rep M'.F H' u d → Q u H') → r v vs H Q
/-- a list, by data -/
inductive IsL (M : Mem) : D → List D → Prop
  | val (ds : List D) : IsL M (.lst ds) ds
  | cell {p : Addr} {ds : List D} (j : Nat) (h : M[j]? = some (p, .lst ds)) : IsL M (.raw (.ref p)) ds
  | inm {p : Addr} {ds : List D} (h : InM M p (.lst ds)) : IsL M (.raw (.ref p)) ds
theorem IsL.sq {κ : List (V × D)} {σ : St} {H : Hp} {v : V} {x : D} {ds : List D} (h : IsL M x ds) (R : Rs κ δ M σ H) (r : Rep M.F H v x) : ∃ p vs, v = .ref p ∧ H p = some (.lst vs) ∧ Reps M.F H vs ds := by
  cases h with
  | val ds => cases r with | lst h1 e1 r1 => exact ⟨_, _, rfl, e1, r1⟩
  | cell j h =>
    cases r
    obtain ⟨vs, e1, r1⟩ := R.at h
    exact ⟨_, vs, rfl, e1, r1⟩
  | inm h =>
    cases r
    obtain ⟨vs, e1, r1⟩ := h.ok R
    exact ⟨_, vs, rfl, e1, r1⟩
theorem de_bml {name : Str} {id : String} {r : V → List V → Hp → VK → Prop} {cpos : Pos} (slot : Slot "list" name id) (hty : typeOf (.builtin id) = pure (.type "method_descriptor")) (hm : MtR X id r)
    (h : DE B X o δ M fun x M1 => (∃ ds, IsL M1 x ds) ∧ DA B X (e :: es) δ M1 fun ys M2 => MtD X.K "list" r x ys M2 Φ)
    (hbase : attributeBase o name X.env (eval o X.env) = eval o X.env := by rfl)
    (hfew : ((backTo cpos (starEach (e :: es) X.env)).all (fun x => !x.1) && (backToKw cpos (keywordEach [] X.env)).all (fun x => x.1.isSome)
      && decide ((e :: es).length + ([] : List Keyword).length + (if ([] : List Keyword).isEmpty then 0 else 1) < 30)) = true := by rfl)
    (hline : (apos.endLine == cpos.line) = true := by rfl) (hs : starEach (e :: es) X.env = (false, eval e X.env) :: starEach es X.env := by rfl) (hplain : (backTo cpos (starEach es X.env)).any (·.1) = false := by rfl) :
    DE B X (.Call (.Attribute o name apos) (e :: es) [] cpos) δ M Φ := .of (pe_bm PySem.F.plainAttrs_list slot hty hm cE cA hbase hfew hline hs hplain) fun κ σ H Q hb R k =>
  h κ σ H _ hb R fun v x M1 H1 ⟨⟨ds, il⟩, q⟩ R1 r1 => by
    obtain ⟨p, vs, ev, e1, rr⟩ := il.sq R1 r1
    refine ⟨by subst ev; exact .inl ⟨rfl, vs, SqL.of e1⟩, ?_⟩
    exact q ((v, x) :: κ) σ H1 _ (fun q hq => List.mem_cons_of_mem _ (hb q hq)) (R1.push r1) fun vs ys M2 H2 q2 R2 r2 => q2 κ δ σ H2 v vs Q R2.pop R2.top r2 k
theorem de_append {cpos : Pos} (h : DE B X o δ M fun x M1 => (∃ ds, IsL M1 x ds) ∧ DA B X [a] δ M1 fun ys M2 => MtD X.K "list" rAppend x ys M2 Φ)
    (hbase : attributeBase o "append" X.env (eval o X.env) = eval o X.env := by rfl)
    (hfew : ((backTo cpos (starEach [a] X.env)).all (fun x => !x.1) && (backToKw cpos (keywordEach [] X.env)).all (fun x => x.1.isSome)
      && decide (([a] : List Expr).length + ([] : List Keyword).length + (if ([] : List Keyword).isEmpty then 0 else 1) < 30)) = true := by rfl)
    (hline : (apos.endLine == cpos.line) = true := by rfl) (hs : starEach [a] X.env = (false, eval a X.env) :: starEach [] X.env := by rfl) (hplain : (backTo cpos (starEach [] X.env)).any (·.1) = false := by rfl) :
    DE B X (.Call (.Attribute o "append" apos) [a] [] cpos) δ M Φ := de_bml PySem.F.slot_list_append PySem.F.type_list_append mt_append h hbase hfew hline hs hplain
theorem mt_app {K : PySem.W.Frag} {j : Nat} {p : Addr} {ds : List D} (hm : M[j]? = some (p, .lst ds)) (hl : ds.length < sizeLine) (k : Φ .non (M.set j (p, .lst (ds ++ [d])))) : MtD K "list" rAppend (.raw (.ref p)) [d] M Φ := fun κ δ σ H v vs Q R rv rs h => by
  cases rv
  cases rs with
  | cons r1 r2 =>
    cases r2
    obtain ⟨vs, e1, rr⟩ := R.at hm
    rename_i u
    refine ⟨p, vs, u, rfl, rfl, e1, by rw [rr.length]; exact hl, h _ _ _ _ k ?_ .non⟩
    have hp : ∀ x, x ∉ M.F → upd H p (.lst (vs ++ [u])) x = H x := fun x hx => upd_ne fun z => hx (z ▸ R.mem hm p (by simp [own]))
    exact R.cell hm rfl (fun x hx => upd_ne (by simpa [own] using hx)) ⟨_, upd_same, (rr.append (.cons r1 .nil)).fwd (Fwd.same hp)⟩
theorem de_pop {cpos : Pos} (h : DE B X o δ M fun x M1 => (∃ ds, IsL M1 x ds) ∧ DA B X [a] δ M1 fun ys M2 => MtD X.K "list" rPopAt x ys M2 Φ)
    (hbase : attributeBase o "pop" X.env (eval o X.env) = eval o X.env := by rfl)
    (hfew : ((backTo cpos (starEach [a] X.env)).all (fun x => !x.1) && (backToKw cpos (keywordEach [] X.env)).all (fun x => x.1.isSome)
      && decide (([a] : List Expr).length + ([] : List Keyword).length + (if ([] : List Keyword).isEmpty then 0 else 1) < 30)) = true := by rfl)
    (hline : (apos.endLine == cpos.line) = true := by rfl) (hs : starEach [a] X.env = (false, eval a X.env) :: starEach [] X.env := by rfl) (hplain : (backTo cpos (starEach [] X.env)).any (·.1) = false := by rfl) :
    DE B X (.Call (.Attribute o "pop" apos) [a] [] cpos) δ M Φ := de_bml PySem.F.slot_list_pop PySem.F.type_list_pop mt_popAt h hbase hfew hline hs hplain
theorem mt_popD {K : PySem.W.Frag} {j m : Nat} {p : Addr} {ds : List D} {i : Int} (hm : M[j]? = some (p, .lst ds)) (h1 : -(2 ^ 63) ≤ i) (h2 : i < 2 ^ 63) (hi : seqIndex? i ds.length = some m) (hd : ds[m]? = some d) (k : Φ d (M.set j (p, .lst (ds.eraseIdx m)))) : MtD K "list" rPopAt (.raw (.ref p)) [.int i] M Φ := fun κ δ σ H v vs Q R rv rs h => by
  cases rv
  cases rs with
  | cons r1 r2 =>
    cases r2
    cases r1
    obtain ⟨vs, e1, rr⟩ := R.at hm
    obtain ⟨u, e2, ru⟩ := rr.get' hd
    have hp : ∀ x, x ∉ M.F → upd H p (.lst (vs.eraseIdx m)) x = H x := fun x hx => upd_ne fun z => hx (z ▸ R.mem hm p (by simp [own]))
    refine ⟨p, vs, i, m, u, rfl, rfl, e1, h1, h2, by rw [rr.length]; exact hi, e2, h _ _ _ _ k ?_ ?_⟩
    · exact R.cell hm rfl (fun x hx => upd_ne (by simpa [own] using hx)) ⟨_, upd_same, (rr.erase m).fwd (Fwd.same hp)⟩
    · rw [F_set (c' := .lst (ds.eraseIdx m)) hm rfl]
      exact ru.fwd (Fwd.same hp)
/-! ### built-in functions -/
def CallD (r : List V → Hp → VK → Prop) (ds : List D) (M : Mem) (Φ : D → Mem → Prop) : Prop := ∀ κ (δ : Env') σ H vs Q, Rs κ δ M σ H → Reps M.F H vs ds → (∀ v d M' H', Φ d M' → Rs κ δ M' σ H' → Rep M'.F H' v d → Q v H') → r vs H Q
theorem CallD.inl {r r' : List V → Hp → VK → Prop} {ds : List D} (h : CallD r ds M Φ) : CallD (fun vs H Q => r vs H Q ∨ r' vs H Q) ds M Φ := fun κ δ σ H vs Q R rs k => .inl (h κ δ σ H vs Q R rs k)
theorem CallD.inr {r r' : List V → Hp → VK → Prop} {ds : List D} (h : CallD r' ds M Φ) : CallD (fun vs H Q => r vs H Q ∨ r' vs H Q) ds M Φ := fun κ δ σ H vs Q R rs k => .inr (h κ δ σ H vs Q R rs k)
theorem de_blt {id : String} {r : List V → Hp → VK → Prop} {x : Str} {p : Pos} (hc : CallR X (.builtin id) r) (g : Gn X x) (hv : bootBuiltins x = some (.builtin id)) (h : DA B X (e :: es) δ M fun ds M1 => CallD r ds M1 Φ)
    (hn : x ≠ "__name__" := by decide) (hdb : (x == ("__debug__" : Str)) = false := by decide) (he : starEach (e :: es) X.env = (false, eval e X.env) :: starEach es X.env := by rfl) (hpl : (backTo pos (starEach es X.env)).any (·.1) = false := by rfl) : DE B X (.Call (.Name x p) (e :: es) [] pos) δ M Φ :=
  .of (pe_callB hc g.gl g.no hv cA hn hdb he hpl) fun κ σ H Q hb R k => h κ σ H _ hb R fun vs ds M1 H1 q R1 r1 => q κ δ σ H1 vs Q R1 r1 k
theorem de_ty {T : String} {r : List V → Hp → VK → Prop} {x : Str} {p : Pos} (hc : CallR X (.type T) r) (g : Gn X x) (hv : bootBuiltins x = some (.type T)) (h : DA B X (e :: es) δ M fun ds M1 => CallD r ds M1 Φ)
    (hn : x ≠ "__name__" := by decide) (hdb : (x == ("__debug__" : Str)) = false := by decide) (he : starEach (e :: es) X.env = (false, eval e X.env) :: starEach es X.env := by rfl) (hpl : (backTo pos (starEach es X.env)).any (·.1) = false := by rfl) : DE B X (.Call (.Name x p) (e :: es) [] pos) δ M Φ :=
  .of (pe_callTy hc g.gl g.no hv cA hn hdb he hpl) fun κ σ H Q hb R k => h κ σ H _ hb R fun vs ds M1 H1 q R1 r1 => q κ δ σ H1 vs Q R1 r1 k
def rLenU (K : PySem.W.Frag) : List V → Hp → VK → Prop := fun xs H Q => ∃ x n, xs = [x] ∧ LenV K x H n ∧ Q (.int n) H
theorem de_len {p : Pos} (g : Gn X "len") (h : DA B X [a] δ M fun ds M1 => CallD (rLenU X.K) ds M1 Φ) (he : starEach [a] X.env = (false, eval a X.env) :: starEach [] X.env := by rfl) (hpl : (backTo pos (starEach [] X.env)).any (·.1) = false := by rfl) : DE B X (.Call (.Name "len" p) [a] [] pos) δ M Φ := de_blt call_len g PySem.boot_len h (by decide) (by decide) he hpl
theorem cd_lenL {K : PySem.W.Frag} {ds : List D} (h : IsL M x ds) (k : Φ (.int (ds.length : Nat)) M) : CallD (rLenU K) [x] M Φ := fun κ δ σ H vs Q R rs f => by
  cases rs with
  | cons r1 r2 =>
    cases r2
    obtain ⟨p, vs, rfl, e1, rr⟩ := h.sq R r1
    exact ⟨_, vs.length, rfl, .inl ⟨vs, SqL.of e1, rfl⟩, by rw [rr.length]; exact f _ _ _ _ k R (.int _)⟩
theorem cd_lenT {K : PySem.W.Frag} {ds : List D} (k : Φ (.int (ds.length : Nat)) M) : CallD (rLenU K) [.tup ds] M Φ := fun κ δ σ H vs Q R rs f => by
  cases rs with
  | cons r1 r2 =>
    cases r2
    cases r1 with
    | tup h1 e1 rr => exact ⟨_, _, rfl, .inr ⟨_, SqT.of e1, rfl⟩, by rw [rr.length]; exact f _ _ _ _ k R (.int _)⟩
theorem cd_lenS {K : PySem.W.Frag} {z : Str} (hl : z.length ≤ sizeLine) (k : Φ (.int (z.length : Nat)) M) : CallD (rLenU K) [.str z] M Φ := fun κ δ σ H vs Q R rs f => by
  cases rs with
  | cons r1 r2 =>
    cases r2
    cases r1
    exact ⟨_, z.length, rfl, ⟨hl, rfl⟩, f _ _ _ _ k R (.int _)⟩
theorem cd_lenX {K : PySem.W.Frag} {ns : List Int} (k : Φ (.int (ns.length : Nat)) M) : CallD (rLenU K) [.scr K ns] M Φ := fun κ δ σ H vs Q R rs f => by
  cases rs with
  | cons r1 r2 =>
    cases r2
    cases r1 with
    | scrH h1 e1 => exact ⟨_, _, rfl, .inl ⟨_, .inl e1, rfl⟩, by rw [List.length_map]; exact f _ _ _ _ k R (.int _)⟩
    | scrK h1 => exact ⟨_, _, rfl, .inl ⟨_, h1 H, rfl⟩, by rw [List.length_map]; exact f _ _ _ _ k R (.int _)⟩
def rMin2 : List V → Hp → VK → Prop := fun xs H Q => ∃ i j, xs = [.int i, .int j] ∧ Q (.int (if j < i then j else i)) H
def rMax2 : List V → Hp → VK → Prop := fun xs H Q => ∃ i j, xs = [.int i, .int j] ∧ Q (.int (if j > i then j else i)) H
open PyProof.Rows in
theorem de_min2 {n : Nat} (z : Cz X n) {p : Pos} (g : Gn X "min") (h : DA B X [a, b] δ M fun ds M1 => CallD rMin2 ds M1 Φ) (he : starEach [a, b] X.env = (false, eval a X.env) :: starEach [b] X.env := by rfl) (hpl : (backTo pos (starEach [b] X.env)).any (·.1) = false := by rfl) : DE B X (.Call (.Name "min" p) [a, b] [] pos) δ M Φ := de_blt (call_min2 z.calm) g boot_min h (by decide) (by decide) he hpl
open PyProof.Rows in
theorem de_max2 {n : Nat} (z : Cz X n) {p : Pos} (g : Gn X "max") (h : DA B X [a, b] δ M fun ds M1 => CallD rMax2 ds M1 Φ) (he : starEach [a, b] X.env = (false, eval a X.env) :: starEach [b] X.env := by rfl) (hpl : (backTo pos (starEach [b] X.env)).any (·.1) = false := by rfl) : DE B X (.Call (.Name "max" p) [a, b] [] pos) δ M Φ := de_blt (call_max2 z.calm) g boot_max h (by decide) (by decide) he hpl
theorem cd_min2 {i j : Int} (k : Φ (.int (min i j)) M) : CallD rMin2 [.int i, .int j] M Φ := fun κ δ σ H vs Q R rs f => by
  cases rs with
  | cons r1 r2 =>
    cases r1
    cases r2 with
    | cons r2 r3 =>
      cases r2; cases r3
      exact ⟨i, j, rfl, by rw [show (if j < i then j else i) = min i j by omega]; exact f _ _ _ _ k R (.int _)⟩
theorem cd_max2 {i j : Int} (k : Φ (.int (max i j)) M) : CallD rMax2 [.int i, .int j] M Φ := fun κ δ σ H vs Q R rs f => by
  cases rs with
  | cons r1 r2 =>
    cases r1
    cases r2 with
    | cons r2 r3 =>
      cases r2; cases r3
      exact ⟨i, j, rfl, by rw [show (if j > i then j else i) = max i j by omega]; exact f _ _ _ _ k R (.int _)⟩
/-! isinstance -/
/-- a built-in type as a value -/
theorem de_tyN {x : Str} {T : String} (g : Gn X x) (hv : bootBuiltins x = some (.type T)) (k : Φ (.raw (.ty T)) M) (hn : x ≠ "__name__" := by decide) (hd : (x == ("__debug__" : Str)) = false := by decide) : DE B X (.Name x pos) δ M Φ := .of (pe_bltn (v := .ty T) g.gl g.no hv rfl hn hd) (.val (fun _ _ => .raw _) k)
/-- the name of the type -/
def tyD : D → Option String
  | .non => some "NoneType"
  | .bl _ => some "bool"
  | .int _ => some "int"
  | .str _ => some "str"
  | .lst _ => some "list"
  | .tup _ => some "tuple"
  | _ => none
theorem cd_isi {K : PySem.W.Frag} {T S : String} {r : Bool} (hx : tyD x = some S) (hk : kitB S T = some r) (k : Φ (.bl r) M) : CallD (rIsi K) [x, .raw (.ty T)] M Φ := fun κ δ σ H vs Q R rs f => by
  cases rs with
  | cons r1 r2 =>
    cases r2 with
    | cons r2 r3 =>
      cases r2; cases r3
      refine ⟨_, _, .type S, .type T, r, rfl, .ty T, ?_, kit_ty hk, f _ _ _ _ k R (.bl _)⟩
      cases r1 with
      | non => cases hx; exact .base .non
      | bl b => cases hx; exact .base (.bl b)
      | int i => cases hx; exact .base (.int i)
      | str i => cases hx; exact .base (.str i)
      | lst h1 e1 _ => cases hx; exact .base (.lst e1)
      | tup h1 e1 _ => cases hx; exact .base (.tup e1)
      | obj _ _ _ _ => cases hx
      | raw _ => cases hx
      | scrH _ _ => cases hx
      | scrK _ => cases hx
      | exn0 _ _ => cases hx
      | exn _ _ _ _ _ _ => cases hx
      | fd _ _ _ _ _ => cases hx
      | hp _ _ _ => cases hx
      | fn _ _ _ _ _ _ _ _ _ => cases hx
end
end Hl
namespace Hl
open PySem L2
section
variable {B : Bx} {X : Cx} {e a b c o : Expr} {es rest : List Expr} {st : Stmt} {sts : List Stmt} {δ δ' : Env'} {M : Mem} {Φ : D → Mem → Prop} {Ψ : DEnds} {te ta tb : TE} {tt : TT} {pos pos' apos : Pos} {d x y : D} {ΦB : Bool → Mem → Prop} {ΦL : List D → Mem → Prop}
/-! ### comprehensions -/
/-- the context of a comprehension's block -/
structure Bk (X X' : Cx) (scope : Scope) : Prop where
  prog : X'.prog = X.prog
  wd : X'.w = X.w
  K : X'.K = X.K
  mg : X'.mg = X.mg
  base : X'.base = X.base
  N : X'.N = X.N
  A : X'.A = X.A
  calm : X'.calm = X.calm
  sc : X'.env.scope = relS scope X.env.scope
  xe : ∀ v s, ¬ X'.xe v s
  fn : ∀ x, scope.names.lookup x = some .cell → X'.fn x = true
theorem Bk.z {X X' : Cx} {scope : Scope} {n : Nat} (h : Bk X X' scope) (z : Cz X n) : Cz X' n := ⟨by rw [h.N]; exact z.nd, by rw [h.calm]; exact z.calm, by rw [h.A]; exact z.room⟩
theorem Bk.df {X X' : Cx} {scope : Scope} {k : Nat} {x : Str} {ps : List Str} {p : DSp} (h : Bk X X' scope) (d : DefX X k x ps p) : DefX X' k x ps p := by
  unfold DefX
  rw [h.prog, h.wd, h.K, h.mg, h.base]
  exact d
theorem Bk.nm {X X' : Cx} {scope sc : Scope} {N : List Str} {i : Nat} {x : Str} (h : Bk X X' scope) (hN : X.N = N) (hs : X.env.scope = sc) (hh : nmB N (relS scope sc) i x = true) : Nm X' i x := nm_of (by rw [h.N, hN]) (by rw [h.sc, hs]) hh
theorem Bk.lo {X X' : Cx} {scope sc : Scope} {N : List Str} {i : Nat} {x : Str} (h : Bk X X' scope) (hN : X.N = N) (hs : X.env.scope = sc) (hh : (nmB N (relS scope sc) i x && (decide ((relS scope sc).names.lookup x = some .local) || (locB (relS scope sc) x && decide (scope.names.lookup x = some .cell)))) = true) : Lo X' i x := by
  rw [Bool.and_eq_true] at hh
  rcases Bool.or_eq_true _ _ ▸ hh.2 with hl | hl
  · have e := of_decide_eq_true hl
    exact ⟨h.nm hN hs hh.1, by rw [h.sc, hs]; exact .inl e, .inr (by rw [h.sc, hs]; exact e)⟩
  · rw [Bool.and_eq_true] at hl
    exact ⟨h.nm hN hs hh.1, by rw [h.sc, hs]; exact loc_of hl.1, .inl (h.fn x (of_decide_eq_true hl.2))⟩
theorem Bk.gl {X X' : Cx} {scope sc : Scope} {x : Str} (h : Bk X X' scope) (hs : X.env.scope = sc) (hh : (relS scope sc).names.lookup x = some .globalImplicit) : Gl X' x := gl_of (by rw [h.sc, hs]) hh
theorem Bk.gn {X X' : Cx} {scope sc : Scope} {x : Str} (h : Bk X X' scope) (hs : X.env.scope = sc) (hh : (relS scope sc).names.lookup x = some .globalImplicit) (g : X.mg x = none) : Gn X' x := ⟨h.gl hs hh, by rw [h.mg]; exact g⟩
def wipeD (δ : Env') : List Nat → Env'
  | [] => δ
  | v :: vs => (wipeD δ vs).set v none
theorem Rs.wipe {κ : List (V × D)} {σ : St} {H : Hp} (R : Rs κ δ M σ H) : ∀ vs : List Nat, Rs κ (wipeD δ vs) M (L2.wipe σ vs) H
  | [] => R
  | v :: vs => (R.wipe vs).wipe1 v none
/-! targets of a comprehension -/
inductive Tk where
  | one (i : Nat) | tup (is : List Nat)
def gNames : List Nat → TGs
  | [] => gNil
  | i :: is => gCons (gName i) (gNames is)
def gK (K : PySem.W.Frag) : Tk → TG
  | .one i => gName i
  | .tup is => gTup K is.length (gNames is)
def setsD : Env' → List Nat → List D → Env'
  | δ, i :: is, d :: ds => setsD (δ.set i (some d)) is ds
  | δ, _, _ => δ
def sets : St → List Nat → List V → St
  | σ, i :: is, v :: vs => sets (σ.set i (some v)) is vs
  | σ, _, _ => σ
def slotsK : Tk → List Nat
  | .one i => [i]
  | .tup is => is
theorem Rs.puts {κ : List (V × D)} {M : Mem} {H : Hp} : ∀ {is : List Nat} {vs : List V} {ds : List D} {δ : Env'} {σ : St}, Rs κ δ M σ H → Reps M.F H vs ds → Rs κ (setsD δ is ds) M (sets σ is vs) H
  | [], _, _, _, _, R, _ => by unfold setsD sets; exact R
  | i :: is, _, _, _, _, R, .nil => by unfold setsD sets; exact R
  | i :: is, v :: vs, d :: ds, δ, σ, R, .cons r rs => by unfold setsD sets; exact (R.put i r).puts rs
theorem gNames_run {H : Hp} : ∀ {is : List Nat} {vs : List V} {σ : St} {Q : St → Hp → Prop}, vs.length = is.length → Q (sets σ is vs) H → gNames is vs σ H Q
  | [], [], _, _, _, q => ⟨rfl, q⟩
  | [], _ :: _, _, _, h, _ => by cases h
  | i :: is, [], _, _, h, _ => by cases h
  | i :: is, v :: vs, σ, Q, h, q => ⟨v, vs, rfl, gNames_run (by simpa using h) q⟩
theorem wipe_set {σ : St} {i : Nat} {ov : Option V} : ∀ {vs : List Nat}, i ∈ vs → L2.wipe (σ.set i ov) vs = L2.wipe σ vs
  | v :: vs, h => by
    unfold L2.wipe
    by_cases e : i = v
    · subst e
      by_cases hm : i ∈ vs
      · rw [wipe_set hm]
      · have : ∀ (vs : List Nat) (σ : St), i ∉ vs → L2.wipe (σ.set i ov) vs = (L2.wipe σ vs).set i ov := by
          intro vs
          induction vs with
          | nil => intro σ _; rfl
          | cons w vs ih =>
            intro σ hn
            unfold L2.wipe
            rw [ih σ (fun z => hn (List.mem_cons_of_mem _ z)), List.set_comm _ _ (fun z => hn (by rw [z]; exact List.mem_cons_self))]
        rw [this vs σ hm, List.set_set]
    · have hm : i ∈ vs := by
        rcases List.mem_cons.mp h with h | h
        · exact absurd h e
        · exact h
      rw [wipe_set hm]
theorem wipe_none {σ : St} : ∀ {vs : List Nat}, L2.wipe (L2.wipe σ vs) vs = L2.wipe σ vs := by
  intro vs
  have key : ∀ (ws vs : List Nat) (σ : St), (∀ w ∈ ws, w ∈ vs) → L2.wipe (L2.wipe σ ws) vs = L2.wipe σ vs := by
    intro ws
    induction ws with
    | nil => intro vs σ _; rfl
    | cons w ws ih =>
      intro vs σ h
      show L2.wipe ((L2.wipe σ ws).set w none) vs = _
      rw [wipe_set (h w List.mem_cons_self), ih vs σ fun x hx => h x (List.mem_cons_of_mem _ hx)]
  exact key vs vs σ fun _ h => h
theorem wipe_sets {vs : List Nat} : ∀ {is : List Nat} {ws : List V} {σ : St}, (∀ i ∈ is, i ∈ vs) → L2.wipe (sets σ is ws) vs = L2.wipe σ vs
  | [], _, _, _ => by unfold sets; rfl
  | i :: is, [], _, _ => by unfold sets; rfl
  | i :: is, w :: ws, σ, h => by
    unfold sets
    rw [wipe_sets fun j hj => h j (List.mem_cons_of_mem _ hj), wipe_set (h i List.mem_cons_self)]
def bindK (tk : Tk) (x : D) (δ : Env') : Option Env' := match tk, x with
  | .one i, x => some (δ.set i (some x))
  | .tup is, .tup ds => if ds.length = is.length then some (setsD δ is ds) else none
  | _, _ => none
theorem gK_run {K : PySem.W.Frag} {tk : Tk} {δ2 : Env'} {κ : List (V × D)} {σ : St} {H : Hp} {v : V} {Q : St → Hp → Prop} {vs : List Nat} (R : Rs κ δ M σ H) (r : Rep M.F H v x) (e : bindK tk x δ = some δ2) (hv : ∀ i ∈ slotsK tk, i ∈ vs) (h : ∀ σ2, L2.wipe σ2 vs = L2.wipe σ vs → Rs κ δ2 M σ2 H → Q σ2 H) : gK K tk v σ H Q := by
  cases tk with
  | one i =>
    have e : δ.set i (some x) = δ2 := by unfold bindK at e; cases x <;> exact Option.some.inj e
    subst e
    exact h _ (wipe_set (hv i (by simp [slotsK]))) (R.put i r)
  | tup is =>
    cases x with
    | tup ds =>
      unfold bindK at e
      dsimp only at e
      split at e
      · next hl =>
        cases e
        cases r with
        | tup h1 e1 r1 =>
          refine ⟨_, _, rfl, SqT.of e1, by rw [r1.length]; exact hl, gNames_run (by rw [r1.length]; exact hl) ?_⟩
          exact h _ (wipe_sets hv) (R.puts r1)
      · cases e
    | _ => exact nomatch e
def teA (X : Cx) (scope : Scope) (e : Expr) : TE := fun σ H Q => ∀ X', Bk X X' scope → tE X' e σ H Q
def ttA (X : Cx) (scope : Scope) (ifs : List Expr) : TT := fun σ H Q => match ifs with
  | [] => Q true H
  | [c] => ∀ X', Bk X X' scope → tT X' c σ H Q
  | _ => False
theorem bk_blk {s : Shared} {H : Hp} {scope : Scope} {C : Addr} {cl : List (Str × Addr)} {fp : List Addr} : Bk X (X.blk s H scope (compEnvC scope cl C X.env) fp) scope := ⟨rfl, rfl, rfl, rfl, rfl, rfl, rfl, rfl, rfl, fun _ _ z => z, fun x h => by show (_ == _) = true; rw [h]; rfl⟩
/-- what one turn of a comprehension gives: an item or none -/
def Turn1 (B : Bx) (X : Cx) (scope : Scope) (elt : Expr) (ifs : List Expr) (δ : Env') (M : Mem) (P : Option D → Mem → Prop) : Prop := match ifs with
  | [] => ∀ X', Bk X X' scope → DE B X' elt δ M fun d M3 => P (some d) M3
  | [c] => ∀ X', Bk X X' scope → DT B X' c δ M fun t M3 => Br t (∀ X', Bk X X' scope → DE B X' elt δ M3 fun d M4 => P (some d) M4) (P none M3)
  | _ => False
theorem pts_A {s : Shared} {H : Hp} {scope : Scope} {C : Addr} {cl : List (Str × Addr)} {fp : List Addr} {ifs : List Expr} : PTs (X.blk s H scope (compEnvC scope cl C X.env) fp) ifs (ttA X scope ifs) := by
  match ifs with
  | [] => exact pts_nil
  | [c] => exact ⟨fun pins s' σ' H' Q I q => (pts_one cT).run pins s' σ' H' Q I (q _ bk_blk)⟩
  | _ :: _ :: _ => exact ⟨fun pins s' σ' H' Q I q => q.elim⟩
theorem pe_A {s : Shared} {H : Hp} {scope : Scope} {C : Addr} {cl : List (Str × Addr)} {fp : List Addr} {elt : Expr} : PE (X.blk s H scope (compEnvC scope cl C X.env) fp) elt (teA X scope elt) := ⟨fun pins s' σ' H' Q I q => cE.run pins s' σ' H' Q I (q _ bk_blk)⟩
/-- the turns of a comprehension, by data -/
def LcH (k : Nat) (B : Bx) (X : Cx) (scope : Scope) (elt : Expr) (ifs : List Expr) (own : List (Str × Nat)) (tk : Tk) (δ : Env') (xs : List D) (M' : Mem) (ΦL : List D → Mem → Prop) : Prop :=
  ∃ Iv : Nat → List D → Mem → Prop, Iv 0 [] M' ∧ (∀ (p : Addr) i x acc M1, xs[i]? = some x → Iv i acc M1 → acc.length < sizeLine ∧ ∃ δ2, bindK tk x (wipeD δ (own.map (·.2))) = some δ2 ∧
        Turn1 B X scope elt ifs δ2 (insM k (p, .lst acc) M1) fun od M2 => ∃ M3, M2 = insM k (p, .lst acc) M3 ∧ Iv (i + 1) (acc ++ od.toList) M3) ∧ ∀ acc M1, Iv xs.length acc M1 → ΦL acc M1
theorem wf_lc {elt : Expr} {ifs : List Expr} {scope : Scope} {wi : TI} {k : Nat} (own : List (Str × Nat)) (tk : Tk) (hv : ∀ i ∈ slotsK tk, i ∈ own.map (·.2))
    (w : WI B wi δ M fun xs M' => LcH k B X scope elt ifs own tk δ xs M' ΦL) : WF B (tLc wi (gK X.K tk) (ttA X scope ifs) (teA X scope elt) (own.map (·.2))) δ M ΦL := by
  intro κ σ H Q hb R kk
  refine w κ σ H _ hb R fun xs M1 H1 J κ' ⟨Iv, h0, hst, hd⟩ hk R1 W => ?_
  intro p hp
  have R1p : Rs κ' δ (insM k (p, .lst []) M1) σ (upd H1 p (.lst [])) := (R1.lst .nil hp).perm insM_perm
  refine ⟨fun i m H => m = xs.length - i ∧ i ≤ xs.length ∧ ∃ acc M, Iv i acc M ∧ Rs κ' δ (insM k (p, .lst acc) M) σ H, ⟨xs.length, by simp, Nat.zero_le _, [], M1, h0, R1p⟩, ?_⟩
  rintro i m H ⟨rfl, hi, acc, M, q, R⟩
  by_cases hlt : i < xs.length
  · refine .inr ⟨W.goes i δ _ σ H hlt R, fun H' => ∃ acc' M', Iv (i + 1) acc' M' ∧ Rs κ' δ (insM k (p, .lst acc') M') σ H', fun H' ⟨acc', M', q', R'⟩ => ⟨xs.length - (i + 1), by omega, rfl, hlt, acc', M', q', R'⟩, fun x H' y => ?_⟩
    obtain ⟨d, hd1, R2, r2⟩ := W.yields i δ _ σ H x H' hlt R y
    obtain ⟨hlen, δ2, eb, tu⟩ := hst p i d acc M hd1 q
    have Rw := (R2.push r2)
    let κ2 := κ' ++ sk σ δ
    have back : ∀ {M' : Mem} {H' : Hp}, (∀ q ∈ κ2, Rep M'.F H' q.1 q.2) → (∀ q ∈ M', CellOk M'.F H' q.1 q.2) → M'.F.Nodup → Rs κ' δ M' σ H' := fun h1 h2 h3 => ⟨fun q hq => h1 q (List.mem_append.mpr (.inl hq)), sk_back R2.sl fun q hq => h1 q (List.mem_append.mpr (.inr hq)), h2, h3⟩
    have R3 : Rs κ2 (wipeD δ (own.map (·.2))) (insM k (p, .lst acc) M) (L2.wipe σ (own.map (·.2))) H' := by
      have := R2.wipe (own.map (·.2))
      exact ⟨fun q hq => by
        rcases List.mem_append.mp hq with h | h
        · exact R2.kp q h
        · exact sk_rep R2.sl q h, this.sl, R2.cl, R2.nd⟩
    refine gK_run R3 r2 eb hv fun σ2 hw R4 => ⟨by rw [hw, wipe_none], ?_⟩
    have hb2 : ∀ q ∈ B.ps, q ∈ κ2 := fun q hq => List.mem_append.mpr (.inl (hk q (hb q hq)))
    have fin : ∀ {u : V} {d : D} {M2 : Mem} {H2 : Hp}, (∃ M3, M2 = insM k (p, .lst acc) M3 ∧ Iv (i + 1) (acc ++ [d]) M3) → Rs κ2 δ2 M2 σ2 H2 → Rep M2.F H2 u d → ∃ ac, H2 p = some (.lst ac) ∧ ac.length < sizeLine ∧ ∃ acc' M', Iv (i + 1) acc' M' ∧ Rs κ' δ (insM k (p, .lst acc') M') σ (upd H2 p (.lst (ac ++ [u]))) := by
      rintro u d M2 H2 ⟨M3, rfl, q3⟩ R5 r5
      have R6 := (back R5.kp R5.cl R5.nd).perm insM_perm.symm
      have r5 : Rep (Mem.F ((p, Cell.lst acc) :: M3)) H2 u d := r5.fwd (Fwd.less fun x hx => (F_perm insM_perm).mem_iff.mp hx)
      have hm : ((p, Cell.lst acc) :: M3)[0]? = some (p, .lst acc) := rfl
      obtain ⟨vs, e1, rr⟩ := R6.at hm
      refine ⟨vs, e1, by rw [rr.length]; exact hlen, acc ++ [d], M3, q3, ?_⟩
      have hpF : ∀ x, x ∉ (Mem.F ((p, Cell.lst acc) :: M3)) → upd H2 p (.lst (vs ++ [u])) x = H2 x := fun x hx => upd_ne fun z => hx (z ▸ R6.mem hm p (by simp [Hl.own]))
      have := R6.cell (c' := .lst (acc ++ [d])) hm rfl (H' := upd H2 p (.lst (vs ++ [u]))) (fun x hx => upd_ne (by simpa [Hl.own] using hx)) ⟨_, upd_same, (rr.append (.cons r5 .nil)).fwd (Fwd.same hpF)⟩
      exact Rs.perm this insM_perm
    match ifs, tu with
    | [], tu =>
      show (if true = true then teA X scope elt σ2 H' (fun y H4 => ∃ ac, H4 p = some (.lst ac) ∧ ac.length < sizeLine ∧ (∃ acc' M', Iv (i + 1) acc' M' ∧ Rs κ' δ (insM k (p, .lst acc') M') σ (upd H4 p (.lst (ac ++ [y]))))) else (∃ acc' M', Iv (i + 1) acc' M' ∧ Rs κ' δ (insM k (p, .lst acc') M') σ H'))
      rw [if_pos rfl]
      intro X' bk
      exact tu X' bk κ2 σ2 H' _ hb2 R4 fun u d M2 H2 q2 R5 r5 => fin q2 R5 r5
    | [c], tu =>
      intro X' bk
      refine tu X' bk κ2 σ2 H' _ hb2 R4 fun t M2 H2 q2 R5 => Br.ite ⟨fun e X2 bk2 => ?_, fun e => ?_⟩
      · exact q2.1 e X2 bk2 κ2 σ2 H2 _ hb2 R5 fun u d M3 H3 q3 R6 r6 => fin q3 R6 r6
      · obtain ⟨M3, rfl, q3⟩ := q2.2 e
        exact ⟨acc, M3, by simpa using q3, back R5.kp R5.cl R5.nd⟩
    | _ :: _ :: _, tu => exact tu.elim
  · have e : i = xs.length := by omega
    subst e
    refine .inl ⟨W.stops δ _ σ H R, ?_⟩
    exact kk p acc M H (hd acc M q) ((R.sub hk).perm insM_perm.symm)
theorem df_lc {tg iter elt : Expr} {ifs : List Expr} {scope sc : Scope} {N : List Str} {n : Nat} (k : Nat) (z : Cz X n) (hN : X.N = N) (hs : X.env.scope = sc) (own : List (Str × Nat)) (tk : Tk) (ok : blkC N sc scope own = true) (hv : ∀ i ∈ slotsK tk, i ∈ own.map (·.2)) (hg : ∀ X', Bk X X' scope → PG X' tg (gK X.K tk))
    (h : DI B X tg iter δ M fun xs M' => LcH k B X scope elt ifs own tk δ xs M' ΦL) (hf : ∀ x, foldedSetIterable iter X.env x = pure x := by intro _; rfl) : DF B X (.ListComp elt [⟨tg, iter, ifs, 0⟩] scope pos) δ M ΦL := by
  obtain ⟨wi, pi, w⟩ := h
  exact .of (pe_lc z.calm z.nd pi (blkOk_by (by rw [hN, hs]; exact ok)) (fun s H C cl fp => hg _ bk_blk) (fun s H C cl fp => pts_A) (fun s H C cl fp => pe_A) hf) (wf_lc own tk hv w)
/-- y = [..], the model's own statement -/
theorem ds_lc {tg iter elt : Expr} {ifs : List Expr} {scope sc : Scope} {N : List Str} {n i : Nat} {y : Str} {py spos : Pos} (k : Nat) (z : Cz X n) (l : Lo X i y) (hN : X.N = N) (hs : X.env.scope = sc) (own : List (Str × Nat)) (tk : Tk) (ok : blkC N sc scope own = true) (hv : ∀ i ∈ slotsK tk, i ∈ own.map (·.2)) (hg : ∀ X', Bk X X' scope → PG X' tg (gK X.K tk))
    (hyl : sc.names.lookup y = some .local) (hk : sc.kind = .function) (hpl : (py.line == pos.line) = true) (hno : (scope.names.any fun (n, k) => n == y && (k == .local || k == .cell)) = false)
    (h : DI B X tg iter δ M fun xs M' => LcH k B X scope elt ifs own tk δ xs M' fun ds M2 => Sets δ i (.lst ds) fun δ' => Ψ.nx δ' M2) (hf : ∀ x, foldedSetIterable iter X.env x = pure x := by intro _; rfl) : DS B X (.Assign [.Name y py] (.ListComp elt [⟨tg, iter, ifs, 0⟩] scope pos) spos) δ M Ψ := by
  obtain ⟨wi, pi, w⟩ := h
  refine .of (ps_setLc z.calm z.nd l.at_ (by rw [hs]; exact hyl) (sw_true (by rw [hs]; exact hk) (by rw [hs]; exact hyl) hpl hno) pi (blkOk_by (by rw [hN, hs]; exact ok)) (fun s H C cl fp => hg _ bk_blk) (fun s H C cl fp => pts_A) (fun s H C cl fp => pe_A) hf) fun κ σ H E hb R kk => ?_
  exact (WE.ofF (wf_lc own tk hv w) : WE B _ δ M fun d M2 => Sets δ i d fun δ' => Ψ.nx δ' M2) κ σ H _ hb R fun v d M' H' q R' r => kk.nx _ _ _ _ q.get (R'.put i r)
theorem ds_lcOwn {tg iter elt : Expr} {ifs : List Expr} {scope sc : Scope} {N : List Str} {n i : Nat} {y : Str} {py spos : Pos} (k : Nat) (z : Cz X n) (l : Lo X i y) (hN : X.N = N) (hs : X.env.scope = sc) (own : List (Str × Nat)) (tk : Tk) (ok : blkC N sc scope own = true) (hv : ∀ i ∈ slotsK tk, i ∈ own.map (·.2)) (hg : ∀ X', Bk X X' scope → PG X' tg (gK X.K tk))
    (hyl : sc.names.lookup y = some .local) (hk : sc.kind = .function) (hpl : (py.line == pos.line) = true) (hno : (scope.names.any fun (n, k) => n == y && (k == .local || k == .cell)) = false)
    (h : DI B X tg iter δ M fun xs M' => LcH k B X scope elt ifs own tk δ xs M' fun ds M2 => ∀ p : Addr, Sets δ i (.raw (.ref p)) fun δ' => Ψ.nx δ' (insM k (p, .lst ds) M2)) (hf : ∀ x, foldedSetIterable iter X.env x = pure x := by intro _; rfl) : DS B X (.Assign [.Name y py] (.ListComp elt [⟨tg, iter, ifs, 0⟩] scope pos) spos) δ M Ψ := by
  obtain ⟨wi, pi, w⟩ := h
  refine .of (ps_setLc z.calm z.nd l.at_ (by rw [hs]; exact hyl) (sw_true (by rw [hs]; exact hk) (by rw [hs]; exact hyl) hpl hno) pi (blkOk_by (by rw [hN, hs]; exact ok)) (fun s H C cl fp => hg _ bk_blk) (fun s H C cl fp => pts_A) (fun s H C cl fp => pe_A) hf) fun κ σ H E hb R kk => ?_
  exact wf_lc own tk hv w κ σ H _ hb R fun p ds M' H' q R' => kk.nx _ _ _ _ (q p).get ((R'.perm insM_perm).put i (.raw _))
end
end Hl
namespace Hl
open PySem L2
/-! ### == of lists and tuples -/
mutual
def toPy : D → PyData
  | .bl b => .bool b
  | .int i => .int i
  | .str x => .str x
  | .lst ds => .list (toPys ds)
  | .tup ds => .tuple (toPys ds)
  | _ => .none
def toPys : List D → List PyData
  | [] => []
  | d :: ds => toPy d :: toPys ds
end
mutual
def okD : D → Bool
  | .non => true
  | .bl _ => true
  | .int _ => true
  | .str x => PyData.canLay0 (.str x)
  | .lst ds => okDs ds
  | .tup ds => okDs ds
  | _ => false
def okDs : List D → Bool
  | [] => true
  | d :: ds => okD d && okDs ds
end
mutual
theorem rep_dp {K : PySem.W.Frag} {F : List Addr} {H : Hp} : ∀ {v : V} {d : D}, Rep F H v d → okD d = true → Dp K H v (toPy d)
  | _, _, .non, _ => .non
  | _, _, .bl b, _ => .bl b
  | _, _, .int i, _ => .int i
  | _, _, .str x, _ => .str x
  | _, _, .lst h e r, k => .lst (SqL.of e) (reps_dp r k)
  | _, _, .tup h e r, k => .tup (SqT.of e) (reps_dp r k)
  | _, _, .obj h e l r, k => by cases k
  | _, _, .raw v, k => by cases k
  | _, _, .scrH h e, k => by cases k
  | _, _, .scrK h, k => by cases k
  | _, _, .exn0 h e, k => by cases k
  | _, _, .exn h e h2 e2 l r, k => by cases k
  | _, _, .fd h e e1 e2 r, k => by cases k
  | _, _, .hp h e _, k => by cases k
  | _, _, .fn _ _ _ _ _ _ _ _ _, k => by cases k
theorem reps_dp {K : PySem.W.Frag} {F : List Addr} {H : Hp} : ∀ {vs : List V} {ds : List D}, Reps F H vs ds → okDs ds = true → DpAll K H vs (toPys ds)
  | _, _, .nil, _ => .nil
  | _, _, .cons r rs, k => by
    have k := Bool.and_eq_true_iff.mp (show (_ && _) = true from k)
    exact .cons (rep_dp r k.1) (reps_dp rs k.2)
end
mutual
theorem ok_lay : ∀ {d : D}, okD d = true → (toPy d).canLay0 = true
  | .non, _ => rfl
  | .bl _, _ => rfl
  | .int _, _ => rfl
  | .str x, h => h
  | .lst ds, h => oks_lay (ds := ds) h
  | .tup ds, h => oks_lay (ds := ds) h
  | .obj _ _ _, h => by cases h
  | .raw _, h => by cases h
  | .scr _ _, h => by cases h
  | .exn _ _ _, h => by cases h
  | .fd _ _, h => by cases h
  | .hp _ _, h => by cases h
  | .fn _ _ _, h => by cases h
theorem oks_lay : ∀ {ds : List D}, okDs ds = true → PyData.canLayAll0 (toPys ds) = true
  | [], _ => rfl
  | d :: ds, h => by
    have k := Bool.and_eq_true_iff.mp (show (_ && _) = true from h)
    show (_ && _) = true
    rw [ok_lay k.1, oks_lay k.2]; rfl
end
mutual
theorem eqv_refl : ∀ (d : PyData), d.canLay0 = true → PyData.eqv d d = true
  | .none, _ => rfl
  | .bool b, _ => by cases b <;> rfl
  | .int i, _ => by simp [PyData.eqv]
  | .str x, _ => by simp [PyData.eqv]
  | .list ds, h => eqvs_refl ds h
  | .tuple ds, h => eqvs_refl ds h
  | .dict _, h => by cases h
theorem eqvs_refl : ∀ (ds : List PyData), PyData.canLayAll0 ds = true → PyData.eqvAll ds ds = true
  | [], _ => rfl
  | d :: ds, h => by
    have k := Bool.and_eq_true_iff.mp (show (_ && _) = true from h)
    show (_ && _) = true
    rw [eqv_refl d k.1, eqvs_refl ds k.2]; rfl
end
/-- data as such, or a list that is a cell -/
inductive Is (M : Mem) : D → D → Prop
  | val (d : D) : Is M d d
  | cell {p : Addr} {ds : List D} (j : Nat) (h : M[j]? = some (p, .lst ds)) : Is M (.raw (.ref p)) (.lst ds)
  | inm {p : Addr} {ds : List D} (h : InM M p (.lst ds)) : Is M (.raw (.ref p)) (.lst ds)
section
variable {B : Bx} {X : Cx} {e a b c o : Expr} {es rest : List Expr} {st : Stmt} {sts : List Stmt} {δ δ' : Env'} {M : Mem} {Φ : D → Mem → Prop} {Ψ : DEnds} {te ta tb : TE} {tt : TT} {pos pos' apos : Pos} {d x y : D} {ΦB : Bool → Mem → Prop} {ΦL : List D → Mem → Prop}
theorem Is.dp {κ : List (V × D)} {σ : St} {H : Hp} {v : V} {x d : D} {K : PySem.W.Frag} (h : Is M x d) (R : Rs κ δ M σ H) (r : Rep M.F H v x) (k : okD d = true) : Dp K H v (toPy d) := by
  cases h with
  | val d => exact rep_dp r k
  | cell j h =>
    cases r
    obtain ⟨vs, e1, r1⟩ := R.at h
    exact .lst (SqL.of e1) (reps_dp r1 k)
  | inm h =>
    cases r
    obtain ⟨vs, e1, r1⟩ := h.ok R
    exact .lst (SqL.of e1) (reps_dp r1 k)
def okE (d : D) : Bool := okD d && decide ((toPy d).depth ≤ 64)
theorem okE_sh {d : D} (h : okE d = true) : SeqAt.shaped (toPy d) = true := by
  have k := Bool.and_eq_true_iff.mp (show (_ && _) = true from h)
  show (_ && _) = true
  rw [ok_lay k.1, k.2]; rfl
theorem okE_ok {d : D} (h : okE d = true) : okD d = true := (Bool.and_eq_true_iff.mp (show (_ && _) = true from h)).1
theorem od_eqD {K : PySem.W.Frag} {x' y' : D} (hx : Is M x x') (hy : Is M y y') (kx : okE x' = true) (ky : okE y' = true) (k : Φ (.bl (PyData.eqv (toPy x') (toPy y'))) M) : OpD (rEqU K) x y M Φ := .inr fun κ δ σ H v w Q R rv rw' h =>
  ⟨_, _, hx.dp R rv (okE_ok kx), hy.dp R rw' (okE_ok ky), okE_sh kx, okE_sh ky, h _ _ M H k R (.bl _)⟩
theorem od_neD {K : PySem.W.Frag} {x' y' : D} (hx : Is M x x') (hy : Is M y y') (kx : okE x' = true) (ky : okE y' = true) (k : Φ (.bl (!PyData.eqv (toPy x') (toPy y'))) M) : OpD (rNeU K) x y M Φ := .inr fun κ δ σ H v w Q R rv rw' h =>
  ⟨_, _, hx.dp R rv (okE_ok kx), hy.dp R rw' (okE_ok ky), okE_sh kx, okE_sh ky, h _ _ M H k R (.bl _)⟩
theorem okDs_ints : ∀ (ns : List Int), okDs (ns.map D.int) = true
  | [] => rfl
  | n :: ns => okDs_ints ns
theorem depths_ints : ∀ (ns : List Int), PyData.depthAll (toPys (ns.map D.int)) = 0
  | [] => rfl
  | n :: ns => by
    show max 0 _ = 0
    rw [depths_ints ns]; rfl
theorem okE_ints (ns : List Int) : okE (.lst (ns.map D.int)) = true := by
  show (_ && _) = true
  rw [show okD (.lst (ns.map D.int)) = true from okDs_ints ns]
  have : (toPy (.lst (ns.map D.int))).depth = 1 := by
    show PyData.depthAll (toPys (ns.map D.int)) + 1 = 1
    rw [depths_ints]
  rw [this]; rfl
/-- against the empty list -/
theorem od_neNil {K : PySem.W.Frag} {ds : List D} (hx : Is M x (.lst ds)) (hk : okE (.lst ds) = true) (k : Φ (.bl (!ds.isEmpty)) M) : OpD (rNeU K) x (.lst []) M Φ := od_neD hx (.val _) hk rfl (by
  rw [show PyData.eqv (toPy (.lst ds)) (toPy (.lst [])) = ds.isEmpty from by cases ds <;> rfl]; exact k)
/-- the same data -/
theorem od_neSame {K : PySem.W.Frag} {x' : D} (hx : Is M x x') (hy : Is M y x') (hk : okE x' = true) (k : Φ (.bl false) M) : OpD (rNeU K) x y M Φ := od_neD hx hy hk hk (by
  rw [eqv_refl _ (ok_lay (okE_ok hk))]; exact k)
theorem od_eqSame {K : PySem.W.Frag} {x' : D} (hx : Is M x x') (hy : Is M y x') (hk : okE x' = true) (k : Φ (.bl true) M) : OpD (rEqU K) x y M Φ := od_eqD hx hy hk hk (by
  rw [eqv_refl _ (ok_lay (okE_ok hk))]; exact k)
/-! ### the draws' state as a dict and a list -/
def stD (g : Addr) (r t e : Int) (cs : List Int) : List (Key × D) := [(.inr "great", .raw (.ref g)), (.inr "rest", .int r), (.inr "turn", .int t), (.inr "seed", .int e), (.inr "cells", .lst (cs.map .int))]
structure StOk (b : Nat) (gs : List Int) (r t e : Int) (cs : List Int) : Prop where
  hgs : ∀ x ∈ gs, 0 < x
  hr : 0 ≤ r
  ht : 0 ≤ t
  htb : t + (b : Int) ≤ 1000000000000
  he : 0 ≤ e
  he2 : e < 2147483647
  hcs : ∀ x ∈ cs, 0 ≤ x ∧ x < 2147483629
  hc1 : 0 < cs.length
  hc2 : cs.length ≤ 100
theorem st_open {κ : List (V × D)} {σ : St} {H : Hp} {s g : Addr} {b : Nat} (R : Rs κ δ ((s, .st g b) :: M) σ H) : ∃ gs r t e cs, StOk b gs r t e cs ∧ Rs κ δ ((s, .dct (stD g r t e cs)) :: (g, .lst (gs.map .int)) :: M) σ H := by
  obtain ⟨c, r, t, e, gs, cs, hc, h1, h2, h3, p1, p2, p3, p4, p5, p6, p7, p8, p9⟩ := R.cl (s, .st g b) List.mem_cons_self
  refine ⟨gs, r, t, e, cs, ⟨p1, p2, p3, p4, p5, p6, p7, p8, p9⟩, ?_⟩
  have eF : Mem.F ((s, Cell.dct (stD g r t e cs)) :: (g, .lst (gs.map .int)) :: M) = Mem.F ((s, .st g b) :: M) := rfl
  refine ⟨fun q hq => by rw [eF]; exact R.kp q hq, by rw [eF]; exact R.sl, fun q hq => ?_, by rw [eF]; exact R.nd⟩
  rw [eF]
  rcases List.mem_cons.mp hq with rfl | hq
  · exact ⟨_, h1, rfl, .cons (.raw _) (.cons (.int _) (.cons (.int _) (.cons (.int _) (.cons (.lst hc h3 (.ofInts cs)) .nil))))⟩
  · rcases List.mem_cons.mp hq with rfl | hq
    · exact ⟨_, h2, .ofInts gs⟩
    · exact R.cl q (List.mem_cons_of_mem _ hq)
theorem st_close {κ : List (V × D)} {σ : St} {H : Hp} {s g : Addr} {b : Nat} {gs : List Int} {r t e : Int} {cs : List Int} (k : StOk b gs r t e cs) (R : Rs κ δ ((s, .dct (stD g r t e cs)) :: (g, .lst (gs.map .int)) :: M) σ H) : Rs κ δ ((s, .st g b) :: M) σ H := by
  have eF : Mem.F ((s, Cell.dct (stD g r t e cs)) :: (g, .lst (gs.map .int)) :: M) = Mem.F ((s, .st g b) :: M) := rfl
  refine ⟨fun q hq => by rw [← eF]; exact R.kp q hq, by rw [← eF]; exact R.sl, fun q hq => ?_, by rw [← eF]; exact R.nd⟩
  rw [← eF]
  rcases List.mem_cons.mp hq with rfl | hq
  · obtain ⟨ws, h1, h2, rs⟩ := R.cl (s, .dct (stD g r t e cs)) List.mem_cons_self
    obtain ⟨vs, h3, r3⟩ := R.cl (g, .lst (gs.map .int)) (by simp)
    match ws, h2, rs with
    | [(k1, v1), (k2, v2), (k3, v3), (k4, v4), (k5, v5)], h2, rs =>
      injection h2 with e1 h2
      injection h2 with e2 h2
      injection h2 with e3 h2
      injection h2 with e4 h2
      injection h2 with e5 _
      have e1 : k1 = .inr "great" := e1
      have e2 : k2 = .inr "rest" := e2
      have e3 : k3 = .inr "turn" := e3
      have e4 : k4 = .inr "seed" := e4
      have e5 : k5 = .inr "cells" := e5
      subst e1 e2 e3 e4 e5
      cases rs with
      | cons r1 rs =>
        cases rs with
        | cons r2 rs =>
          cases rs with
          | cons r3' rs =>
            cases rs with
            | cons r4 rs =>
              cases rs with
              | cons r5 rs =>
                cases r1; cases r2; cases r3'; cases r4
                cases r5 with
                | lst hn he hr =>
                  have ev := hr.ints
                  subst ev
                  have ev := r3.ints
                  subst ev
                  exact ⟨_, r, t, e, gs, cs, hn, h1, h3, he, k.hgs, k.hr, k.ht, k.htb, k.he, k.he2, k.hcs, k.hc1, k.hc2⟩
  · exact R.cl q (List.mem_cons_of_mem _ (List.mem_cons_of_mem _ hq))
/-- a new state -/
theorem Rs.dct {κ : List (V × D)} {σ : St} {H : Hp} {p : Addr} {kvs : List (Key × D)} {ws : List (Key × V)} (R : Rs κ δ M σ H) (hp : H p = none) (e : ws.map (·.1) = kvs.map (·.1)) (r : Reps M.F H (ws.map (·.2)) (kvs.map (·.2))) : Rs κ δ ((p, .dct kvs) :: M) σ (upd H p (.dK ws)) :=
  R.add hp rfl ⟨ws, upd_same, e, r.fwd (Fwd.newC hp)⟩
theorem ws_stOpen {ts : TS} {s g : Addr} {b : Nat} (h : ∀ gs r t e cs, StOk b gs r t e cs → WS B ts δ ((s, .dct (stD g r t e cs)) :: (g, .lst (gs.map .int)) :: M) Ψ) : WS B ts δ ((s, .st g b) :: M) Ψ := fun κ σ H E hb R k => by
  obtain ⟨gs, r, t, e, cs, ok, R'⟩ := st_open R
  exact h gs r t e cs ok κ σ H E hb R' k
/-- the same at a return: the promise may be closed behind the value -/
theorem WE.view {M' : Mem} (h : WE B te δ M' Φ) (v : ∀ κ σ H, Rs κ δ M σ H → Rs κ δ M' σ H) : WE B te δ M Φ := fun κ σ H Q hb R k => h κ σ H Q hb (v κ σ H R) k
theorem Vw.stc {s g : Addr} {b : Nat} {gs : List Int} {r t e : Int} {cs : List Int} (ok : StOk b gs r t e cs) : Vw d ((s, .dct (stD g r t e cs)) :: (g, .lst (gs.map .int)) :: M) d ((s, .st g b) :: M) := fun _ _ _ _ _ R r' => ⟨st_close ok R, r'⟩
end
end Hl
namespace Hl
open PySem L2
section
variable {d : D} {P : Env' → Prop}
theorem se0 {x0 : Option D} {r : Env'} (h : P (some d :: r)) : Sets (x0 :: r) 0 d P := .of h
theorem se1 {x0 x1 : Option D} {r : Env'} (h : P (x0 :: some d :: r)) : Sets (x0 :: x1 :: r) 1 d P := .of h
theorem se2 {x0 x1 x2 : Option D} {r : Env'} (h : P (x0 :: x1 :: some d :: r)) : Sets (x0 :: x1 :: x2 :: r) 2 d P := .of h
theorem se3 {x0 x1 x2 x3 : Option D} {r : Env'} (h : P (x0 :: x1 :: x2 :: some d :: r)) : Sets (x0 :: x1 :: x2 :: x3 :: r) 3 d P := .of h
theorem se4 {x0 x1 x2 x3 x4 : Option D} {r : Env'} (h : P (x0 :: x1 :: x2 :: x3 :: some d :: r)) : Sets (x0 :: x1 :: x2 :: x3 :: x4 :: r) 4 d P := .of h
theorem se5 {x0 x1 x2 x3 x4 x5 : Option D} {r : Env'} (h : P (x0 :: x1 :: x2 :: x3 :: x4 :: some d :: r)) : Sets (x0 :: x1 :: x2 :: x3 :: x4 :: x5 :: r) 5 d P := .of h
theorem se6 {x0 x1 x2 x3 x4 x5 x6 : Option D} {r : Env'} (h : P (x0 :: x1 :: x2 :: x3 :: x4 :: x5 :: some d :: r)) : Sets (x0 :: x1 :: x2 :: x3 :: x4 :: x5 :: x6 :: r) 6 d P := .of h
theorem se7 {x0 x1 x2 x3 x4 x5 x6 x7 : Option D} {r : Env'} (h : P (x0 :: x1 :: x2 :: x3 :: x4 :: x5 :: x6 :: some d :: r)) : Sets (x0 :: x1 :: x2 :: x3 :: x4 :: x5 :: x6 :: x7 :: r) 7 d P := .of h
theorem se8 {x0 x1 x2 x3 x4 x5 x6 x7 x8 : Option D} {r : Env'} (h : P (x0 :: x1 :: x2 :: x3 :: x4 :: x5 :: x6 :: x7 :: some d :: r)) : Sets (x0 :: x1 :: x2 :: x3 :: x4 :: x5 :: x6 :: x7 :: x8 :: r) 8 d P := .of h
theorem se9 {x0 x1 x2 x3 x4 x5 x6 x7 x8 x9 : Option D} {r : Env'} (h : P (x0 :: x1 :: x2 :: x3 :: x4 :: x5 :: x6 :: x7 :: x8 :: some d :: r)) : Sets (x0 :: x1 :: x2 :: x3 :: x4 :: x5 :: x6 :: x7 :: x8 :: x9 :: r) 9 d P := .of h
theorem se10 {x0 x1 x2 x3 x4 x5 x6 x7 x8 x9 x10 : Option D} {r : Env'} (h : P (x0 :: x1 :: x2 :: x3 :: x4 :: x5 :: x6 :: x7 :: x8 :: x9 :: some d :: r)) : Sets (x0 :: x1 :: x2 :: x3 :: x4 :: x5 :: x6 :: x7 :: x8 :: x9 :: x10 :: r) 10 d P := .of h
theorem se11 {x0 x1 x2 x3 x4 x5 x6 x7 x8 x9 x10 x11 : Option D} {r : Env'} (h : P (x0 :: x1 :: x2 :: x3 :: x4 :: x5 :: x6 :: x7 :: x8 :: x9 :: x10 :: some d :: r)) : Sets (x0 :: x1 :: x2 :: x3 :: x4 :: x5 :: x6 :: x7 :: x8 :: x9 :: x10 :: x11 :: r) 11 d P := .of h
theorem se12 {x0 x1 x2 x3 x4 x5 x6 x7 x8 x9 x10 x11 x12 : Option D} {r : Env'} (h : P (x0 :: x1 :: x2 :: x3 :: x4 :: x5 :: x6 :: x7 :: x8 :: x9 :: x10 :: x11 :: some d :: r)) : Sets (x0 :: x1 :: x2 :: x3 :: x4 :: x5 :: x6 :: x7 :: x8 :: x9 :: x10 :: x11 :: x12 :: r) 12 d P := .of h
theorem se13 {x0 x1 x2 x3 x4 x5 x6 x7 x8 x9 x10 x11 x12 x13 : Option D} {r : Env'} (h : P (x0 :: x1 :: x2 :: x3 :: x4 :: x5 :: x6 :: x7 :: x8 :: x9 :: x10 :: x11 :: x12 :: some d :: r)) : Sets (x0 :: x1 :: x2 :: x3 :: x4 :: x5 :: x6 :: x7 :: x8 :: x9 :: x10 :: x11 :: x12 :: x13 :: r) 13 d P := .of h
theorem se14 {x0 x1 x2 x3 x4 x5 x6 x7 x8 x9 x10 x11 x12 x13 x14 : Option D} {r : Env'} (h : P (x0 :: x1 :: x2 :: x3 :: x4 :: x5 :: x6 :: x7 :: x8 :: x9 :: x10 :: x11 :: x12 :: x13 :: some d :: r)) : Sets (x0 :: x1 :: x2 :: x3 :: x4 :: x5 :: x6 :: x7 :: x8 :: x9 :: x10 :: x11 :: x12 :: x13 :: x14 :: r) 14 d P := .of h
theorem se15 {x0 x1 x2 x3 x4 x5 x6 x7 x8 x9 x10 x11 x12 x13 x14 x15 : Option D} {r : Env'} (h : P (x0 :: x1 :: x2 :: x3 :: x4 :: x5 :: x6 :: x7 :: x8 :: x9 :: x10 :: x11 :: x12 :: x13 :: x14 :: some d :: r)) : Sets (x0 :: x1 :: x2 :: x3 :: x4 :: x5 :: x6 :: x7 :: x8 :: x9 :: x10 :: x11 :: x12 :: x13 :: x14 :: x15 :: r) 15 d P := .of h
theorem se16 {x0 x1 x2 x3 x4 x5 x6 x7 x8 x9 x10 x11 x12 x13 x14 x15 x16 : Option D} {r : Env'} (h : P (x0 :: x1 :: x2 :: x3 :: x4 :: x5 :: x6 :: x7 :: x8 :: x9 :: x10 :: x11 :: x12 :: x13 :: x14 :: x15 :: some d :: r)) : Sets (x0 :: x1 :: x2 :: x3 :: x4 :: x5 :: x6 :: x7 :: x8 :: x9 :: x10 :: x11 :: x12 :: x13 :: x14 :: x15 :: x16 :: r) 16 d P := .of h
theorem se17 {x0 x1 x2 x3 x4 x5 x6 x7 x8 x9 x10 x11 x12 x13 x14 x15 x16 x17 : Option D} {r : Env'} (h : P (x0 :: x1 :: x2 :: x3 :: x4 :: x5 :: x6 :: x7 :: x8 :: x9 :: x10 :: x11 :: x12 :: x13 :: x14 :: x15 :: x16 :: some d :: r)) : Sets (x0 :: x1 :: x2 :: x3 :: x4 :: x5 :: x6 :: x7 :: x8 :: x9 :: x10 :: x11 :: x12 :: x13 :: x14 :: x15 :: x16 :: x17 :: r) 17 d P := .of h
theorem se18 {x0 x1 x2 x3 x4 x5 x6 x7 x8 x9 x10 x11 x12 x13 x14 x15 x16 x17 x18 : Option D} {r : Env'} (h : P (x0 :: x1 :: x2 :: x3 :: x4 :: x5 :: x6 :: x7 :: x8 :: x9 :: x10 :: x11 :: x12 :: x13 :: x14 :: x15 :: x16 :: x17 :: some d :: r)) : Sets (x0 :: x1 :: x2 :: x3 :: x4 :: x5 :: x6 :: x7 :: x8 :: x9 :: x10 :: x11 :: x12 :: x13 :: x14 :: x15 :: x16 :: x17 :: x18 :: r) 18 d P := .of h
theorem se19 {x0 x1 x2 x3 x4 x5 x6 x7 x8 x9 x10 x11 x12 x13 x14 x15 x16 x17 x18 x19 : Option D} {r : Env'} (h : P (x0 :: x1 :: x2 :: x3 :: x4 :: x5 :: x6 :: x7 :: x8 :: x9 :: x10 :: x11 :: x12 :: x13 :: x14 :: x15 :: x16 :: x17 :: x18 :: some d :: r)) : Sets (x0 :: x1 :: x2 :: x3 :: x4 :: x5 :: x6 :: x7 :: x8 :: x9 :: x10 :: x11 :: x12 :: x13 :: x14 :: x15 :: x16 :: x17 :: x18 :: x19 :: r) 19 d P := .of h
theorem se20 {x0 x1 x2 x3 x4 x5 x6 x7 x8 x9 x10 x11 x12 x13 x14 x15 x16 x17 x18 x19 x20 : Option D} {r : Env'} (h : P (x0 :: x1 :: x2 :: x3 :: x4 :: x5 :: x6 :: x7 :: x8 :: x9 :: x10 :: x11 :: x12 :: x13 :: x14 :: x15 :: x16 :: x17 :: x18 :: x19 :: some d :: r)) : Sets (x0 :: x1 :: x2 :: x3 :: x4 :: x5 :: x6 :: x7 :: x8 :: x9 :: x10 :: x11 :: x12 :: x13 :: x14 :: x15 :: x16 :: x17 :: x18 :: x19 :: x20 :: r) 20 d P := .of h
theorem se21 {x0 x1 x2 x3 x4 x5 x6 x7 x8 x9 x10 x11 x12 x13 x14 x15 x16 x17 x18 x19 x20 x21 : Option D} {r : Env'} (h : P (x0 :: x1 :: x2 :: x3 :: x4 :: x5 :: x6 :: x7 :: x8 :: x9 :: x10 :: x11 :: x12 :: x13 :: x14 :: x15 :: x16 :: x17 :: x18 :: x19 :: x20 :: some d :: r)) : Sets (x0 :: x1 :: x2 :: x3 :: x4 :: x5 :: x6 :: x7 :: x8 :: x9 :: x10 :: x11 :: x12 :: x13 :: x14 :: x15 :: x16 :: x17 :: x18 :: x19 :: x20 :: x21 :: r) 21 d P := .of h
theorem se22 {x0 x1 x2 x3 x4 x5 x6 x7 x8 x9 x10 x11 x12 x13 x14 x15 x16 x17 x18 x19 x20 x21 x22 : Option D} {r : Env'} (h : P (x0 :: x1 :: x2 :: x3 :: x4 :: x5 :: x6 :: x7 :: x8 :: x9 :: x10 :: x11 :: x12 :: x13 :: x14 :: x15 :: x16 :: x17 :: x18 :: x19 :: x20 :: x21 :: some d :: r)) : Sets (x0 :: x1 :: x2 :: x3 :: x4 :: x5 :: x6 :: x7 :: x8 :: x9 :: x10 :: x11 :: x12 :: x13 :: x14 :: x15 :: x16 :: x17 :: x18 :: x19 :: x20 :: x21 :: x22 :: r) 22 d P := .of h
theorem se23 {x0 x1 x2 x3 x4 x5 x6 x7 x8 x9 x10 x11 x12 x13 x14 x15 x16 x17 x18 x19 x20 x21 x22 x23 : Option D} {r : Env'} (h : P (x0 :: x1 :: x2 :: x3 :: x4 :: x5 :: x6 :: x7 :: x8 :: x9 :: x10 :: x11 :: x12 :: x13 :: x14 :: x15 :: x16 :: x17 :: x18 :: x19 :: x20 :: x21 :: x22 :: some d :: r)) : Sets (x0 :: x1 :: x2 :: x3 :: x4 :: x5 :: x6 :: x7 :: x8 :: x9 :: x10 :: x11 :: x12 :: x13 :: x14 :: x15 :: x16 :: x17 :: x18 :: x19 :: x20 :: x21 :: x22 :: x23 :: r) 23 d P := .of h
theorem se24 {x0 x1 x2 x3 x4 x5 x6 x7 x8 x9 x10 x11 x12 x13 x14 x15 x16 x17 x18 x19 x20 x21 x22 x23 x24 : Option D} {r : Env'} (h : P (x0 :: x1 :: x2 :: x3 :: x4 :: x5 :: x6 :: x7 :: x8 :: x9 :: x10 :: x11 :: x12 :: x13 :: x14 :: x15 :: x16 :: x17 :: x18 :: x19 :: x20 :: x21 :: x22 :: x23 :: some d :: r)) : Sets (x0 :: x1 :: x2 :: x3 :: x4 :: x5 :: x6 :: x7 :: x8 :: x9 :: x10 :: x11 :: x12 :: x13 :: x14 :: x15 :: x16 :: x17 :: x18 :: x19 :: x20 :: x21 :: x22 :: x23 :: x24 :: r) 24 d P := .of h
theorem se25 {x0 x1 x2 x3 x4 x5 x6 x7 x8 x9 x10 x11 x12 x13 x14 x15 x16 x17 x18 x19 x20 x21 x22 x23 x24 x25 : Option D} {r : Env'} (h : P (x0 :: x1 :: x2 :: x3 :: x4 :: x5 :: x6 :: x7 :: x8 :: x9 :: x10 :: x11 :: x12 :: x13 :: x14 :: x15 :: x16 :: x17 :: x18 :: x19 :: x20 :: x21 :: x22 :: x23 :: x24 :: some d :: r)) : Sets (x0 :: x1 :: x2 :: x3 :: x4 :: x5 :: x6 :: x7 :: x8 :: x9 :: x10 :: x11 :: x12 :: x13 :: x14 :: x15 :: x16 :: x17 :: x18 :: x19 :: x20 :: x21 :: x22 :: x23 :: x24 :: x25 :: r) 25 d P := .of h
theorem se26 {x0 x1 x2 x3 x4 x5 x6 x7 x8 x9 x10 x11 x12 x13 x14 x15 x16 x17 x18 x19 x20 x21 x22 x23 x24 x25 x26 : Option D} {r : Env'} (h : P (x0 :: x1 :: x2 :: x3 :: x4 :: x5 :: x6 :: x7 :: x8 :: x9 :: x10 :: x11 :: x12 :: x13 :: x14 :: x15 :: x16 :: x17 :: x18 :: x19 :: x20 :: x21 :: x22 :: x23 :: x24 :: x25 :: some d :: r)) : Sets (x0 :: x1 :: x2 :: x3 :: x4 :: x5 :: x6 :: x7 :: x8 :: x9 :: x10 :: x11 :: x12 :: x13 :: x14 :: x15 :: x16 :: x17 :: x18 :: x19 :: x20 :: x21 :: x22 :: x23 :: x24 :: x25 :: x26 :: r) 26 d P := .of h
theorem se27 {x0 x1 x2 x3 x4 x5 x6 x7 x8 x9 x10 x11 x12 x13 x14 x15 x16 x17 x18 x19 x20 x21 x22 x23 x24 x25 x26 x27 : Option D} {r : Env'} (h : P (x0 :: x1 :: x2 :: x3 :: x4 :: x5 :: x6 :: x7 :: x8 :: x9 :: x10 :: x11 :: x12 :: x13 :: x14 :: x15 :: x16 :: x17 :: x18 :: x19 :: x20 :: x21 :: x22 :: x23 :: x24 :: x25 :: x26 :: some d :: r)) : Sets (x0 :: x1 :: x2 :: x3 :: x4 :: x5 :: x6 :: x7 :: x8 :: x9 :: x10 :: x11 :: x12 :: x13 :: x14 :: x15 :: x16 :: x17 :: x18 :: x19 :: x20 :: x21 :: x22 :: x23 :: x24 :: x25 :: x26 :: x27 :: r) 27 d P := .of h
theorem se28 {x0 x1 x2 x3 x4 x5 x6 x7 x8 x9 x10 x11 x12 x13 x14 x15 x16 x17 x18 x19 x20 x21 x22 x23 x24 x25 x26 x27 x28 : Option D} {r : Env'} (h : P (x0 :: x1 :: x2 :: x3 :: x4 :: x5 :: x6 :: x7 :: x8 :: x9 :: x10 :: x11 :: x12 :: x13 :: x14 :: x15 :: x16 :: x17 :: x18 :: x19 :: x20 :: x21 :: x22 :: x23 :: x24 :: x25 :: x26 :: x27 :: some d :: r)) : Sets (x0 :: x1 :: x2 :: x3 :: x4 :: x5 :: x6 :: x7 :: x8 :: x9 :: x10 :: x11 :: x12 :: x13 :: x14 :: x15 :: x16 :: x17 :: x18 :: x19 :: x20 :: x21 :: x22 :: x23 :: x24 :: x25 :: x26 :: x27 :: x28 :: r) 28 d P := .of h
theorem se29 {x0 x1 x2 x3 x4 x5 x6 x7 x8 x9 x10 x11 x12 x13 x14 x15 x16 x17 x18 x19 x20 x21 x22 x23 x24 x25 x26 x27 x28 x29 : Option D} {r : Env'} (h : P (x0 :: x1 :: x2 :: x3 :: x4 :: x5 :: x6 :: x7 :: x8 :: x9 :: x10 :: x11 :: x12 :: x13 :: x14 :: x15 :: x16 :: x17 :: x18 :: x19 :: x20 :: x21 :: x22 :: x23 :: x24 :: x25 :: x26 :: x27 :: x28 :: some d :: r)) : Sets (x0 :: x1 :: x2 :: x3 :: x4 :: x5 :: x6 :: x7 :: x8 :: x9 :: x10 :: x11 :: x12 :: x13 :: x14 :: x15 :: x16 :: x17 :: x18 :: x19 :: x20 :: x21 :: x22 :: x23 :: x24 :: x25 :: x26 :: x27 :: x28 :: x29 :: r) 29 d P := .of h
theorem se30 {x0 x1 x2 x3 x4 x5 x6 x7 x8 x9 x10 x11 x12 x13 x14 x15 x16 x17 x18 x19 x20 x21 x22 x23 x24 x25 x26 x27 x28 x29 x30 : Option D} {r : Env'} (h : P (x0 :: x1 :: x2 :: x3 :: x4 :: x5 :: x6 :: x7 :: x8 :: x9 :: x10 :: x11 :: x12 :: x13 :: x14 :: x15 :: x16 :: x17 :: x18 :: x19 :: x20 :: x21 :: x22 :: x23 :: x24 :: x25 :: x26 :: x27 :: x28 :: x29 :: some d :: r)) : Sets (x0 :: x1 :: x2 :: x3 :: x4 :: x5 :: x6 :: x7 :: x8 :: x9 :: x10 :: x11 :: x12 :: x13 :: x14 :: x15 :: x16 :: x17 :: x18 :: x19 :: x20 :: x21 :: x22 :: x23 :: x24 :: x25 :: x26 :: x27 :: x28 :: x29 :: x30 :: r) 30 d P := .of h
theorem se31 {x0 x1 x2 x3 x4 x5 x6 x7 x8 x9 x10 x11 x12 x13 x14 x15 x16 x17 x18 x19 x20 x21 x22 x23 x24 x25 x26 x27 x28 x29 x30 x31 : Option D} {r : Env'} (h : P (x0 :: x1 :: x2 :: x3 :: x4 :: x5 :: x6 :: x7 :: x8 :: x9 :: x10 :: x11 :: x12 :: x13 :: x14 :: x15 :: x16 :: x17 :: x18 :: x19 :: x20 :: x21 :: x22 :: x23 :: x24 :: x25 :: x26 :: x27 :: x28 :: x29 :: x30 :: some d :: r)) : Sets (x0 :: x1 :: x2 :: x3 :: x4 :: x5 :: x6 :: x7 :: x8 :: x9 :: x10 :: x11 :: x12 :: x13 :: x14 :: x15 :: x16 :: x17 :: x18 :: x19 :: x20 :: x21 :: x22 :: x23 :: x24 :: x25 :: x26 :: x27 :: x28 :: x29 :: x30 :: x31 :: r) 31 d P := .of h
theorem se32 {x0 x1 x2 x3 x4 x5 x6 x7 x8 x9 x10 x11 x12 x13 x14 x15 x16 x17 x18 x19 x20 x21 x22 x23 x24 x25 x26 x27 x28 x29 x30 x31 x32 : Option D} {r : Env'} (h : P (x0 :: x1 :: x2 :: x3 :: x4 :: x5 :: x6 :: x7 :: x8 :: x9 :: x10 :: x11 :: x12 :: x13 :: x14 :: x15 :: x16 :: x17 :: x18 :: x19 :: x20 :: x21 :: x22 :: x23 :: x24 :: x25 :: x26 :: x27 :: x28 :: x29 :: x30 :: x31 :: some d :: r)) : Sets (x0 :: x1 :: x2 :: x3 :: x4 :: x5 :: x6 :: x7 :: x8 :: x9 :: x10 :: x11 :: x12 :: x13 :: x14 :: x15 :: x16 :: x17 :: x18 :: x19 :: x20 :: x21 :: x22 :: x23 :: x24 :: x25 :: x26 :: x27 :: x28 :: x29 :: x30 :: x31 :: x32 :: r) 32 d P := .of h
theorem se33 {x0 x1 x2 x3 x4 x5 x6 x7 x8 x9 x10 x11 x12 x13 x14 x15 x16 x17 x18 x19 x20 x21 x22 x23 x24 x25 x26 x27 x28 x29 x30 x31 x32 x33 : Option D} {r : Env'} (h : P (x0 :: x1 :: x2 :: x3 :: x4 :: x5 :: x6 :: x7 :: x8 :: x9 :: x10 :: x11 :: x12 :: x13 :: x14 :: x15 :: x16 :: x17 :: x18 :: x19 :: x20 :: x21 :: x22 :: x23 :: x24 :: x25 :: x26 :: x27 :: x28 :: x29 :: x30 :: x31 :: x32 :: some d :: r)) : Sets (x0 :: x1 :: x2 :: x3 :: x4 :: x5 :: x6 :: x7 :: x8 :: x9 :: x10 :: x11 :: x12 :: x13 :: x14 :: x15 :: x16 :: x17 :: x18 :: x19 :: x20 :: x21 :: x22 :: x23 :: x24 :: x25 :: x26 :: x27 :: x28 :: x29 :: x30 :: x31 :: x32 :: x33 :: r) 33 d P := .of h
theorem se34 {x0 x1 x2 x3 x4 x5 x6 x7 x8 x9 x10 x11 x12 x13 x14 x15 x16 x17 x18 x19 x20 x21 x22 x23 x24 x25 x26 x27 x28 x29 x30 x31 x32 x33 x34 : Option D} {r : Env'} (h : P (x0 :: x1 :: x2 :: x3 :: x4 :: x5 :: x6 :: x7 :: x8 :: x9 :: x10 :: x11 :: x12 :: x13 :: x14 :: x15 :: x16 :: x17 :: x18 :: x19 :: x20 :: x21 :: x22 :: x23 :: x24 :: x25 :: x26 :: x27 :: x28 :: x29 :: x30 :: x31 :: x32 :: x33 :: some d :: r)) : Sets (x0 :: x1 :: x2 :: x3 :: x4 :: x5 :: x6 :: x7 :: x8 :: x9 :: x10 :: x11 :: x12 :: x13 :: x14 :: x15 :: x16 :: x17 :: x18 :: x19 :: x20 :: x21 :: x22 :: x23 :: x24 :: x25 :: x26 :: x27 :: x28 :: x29 :: x30 :: x31 :: x32 :: x33 :: x34 :: r) 34 d P := .of h
theorem se35 {x0 x1 x2 x3 x4 x5 x6 x7 x8 x9 x10 x11 x12 x13 x14 x15 x16 x17 x18 x19 x20 x21 x22 x23 x24 x25 x26 x27 x28 x29 x30 x31 x32 x33 x34 x35 : Option D} {r : Env'} (h : P (x0 :: x1 :: x2 :: x3 :: x4 :: x5 :: x6 :: x7 :: x8 :: x9 :: x10 :: x11 :: x12 :: x13 :: x14 :: x15 :: x16 :: x17 :: x18 :: x19 :: x20 :: x21 :: x22 :: x23 :: x24 :: x25 :: x26 :: x27 :: x28 :: x29 :: x30 :: x31 :: x32 :: x33 :: x34 :: some d :: r)) : Sets (x0 :: x1 :: x2 :: x3 :: x4 :: x5 :: x6 :: x7 :: x8 :: x9 :: x10 :: x11 :: x12 :: x13 :: x14 :: x15 :: x16 :: x17 :: x18 :: x19 :: x20 :: x21 :: x22 :: x23 :: x24 :: x25 :: x26 :: x27 :: x28 :: x29 :: x30 :: x31 :: x32 :: x33 :: x34 :: x35 :: r) 35 d P := .of h
end
section
variable {B : Bx} {X : Cx} {K : PySem.W.Frag} {M : Mem} {Φ : D → Mem → Prop} {Φ' : Mem → Prop} {s g : Addr} {r t e r' t' e' : Int} {cs : List Int}
theorem st_great (k : Φ (.raw (.ref g)) ((s, .dct (stD g r t e cs)) :: M)) : OpD (rIxU K) (.raw (.ref s)) (.str "great") ((s, .dct (stD g r t e cs)) :: M) Φ := od_ixD (k := .inr "great") 0 rfl rfl rfl k
theorem st_rest (k : Φ (.int r) ((s, .dct (stD g r t e cs)) :: M)) : OpD (rIxU K) (.raw (.ref s)) (.str "rest") ((s, .dct (stD g r t e cs)) :: M) Φ := od_ixD (k := .inr "rest") 0 rfl rfl rfl k
theorem st_turn (k : Φ (.int t) ((s, .dct (stD g r t e cs)) :: M)) : OpD (rIxU K) (.raw (.ref s)) (.str "turn") ((s, .dct (stD g r t e cs)) :: M) Φ := od_ixD (k := .inr "turn") 0 rfl rfl rfl k
theorem st_seed (k : Φ (.int e) ((s, .dct (stD g r t e cs)) :: M)) : OpD (rIxU K) (.raw (.ref s)) (.str "seed") ((s, .dct (stD g r t e cs)) :: M) Φ := od_ixD (k := .inr "seed") 0 rfl rfl rfl k
theorem st_cells (k : Φ (.lst (cs.map .int)) ((s, .dct (stD g r t e cs)) :: M)) : OpD (rIxU K) (.raw (.ref s)) (.str "cells") ((s, .dct (stD g r t e cs)) :: M) Φ := od_ixD (k := .inr "cells") 0 rfl rfl rfl k
theorem set_rest (k : Φ' ((s, .dct (stD g r' t e cs)) :: M)) : SetD (.raw (.ref s)) (.str "rest") (.int r') ((s, .dct (stD g r t e cs)) :: M) Φ' := sd_dict (k := .inr "rest") 0 rfl rfl (by show 5 < sizeLine; decide) k
theorem set_turn (k : Φ' ((s, .dct (stD g r t' e cs)) :: M)) : SetD (.raw (.ref s)) (.str "turn") (.int t') ((s, .dct (stD g r t e cs)) :: M) Φ' := sd_dict (k := .inr "turn") 0 rfl rfl (by show 5 < sizeLine; decide) k
theorem set_seed (k : Φ' ((s, .dct (stD g r t e' cs)) :: M)) : SetD (.raw (.ref s)) (.str "seed") (.int e') ((s, .dct (stD g r t e cs)) :: M) Φ' := sd_dict (k := .inr "seed") 0 rfl rfl (by show 5 < sizeLine; decide) k
theorem at_int {cs : List Int} {i : Int} (h0 : 0 ≤ i) (h1 : i < cs.length) : ∃ c, c ∈ cs ∧ atI (cs.map D.int) i = some (.int c) := by
  have hl : i.toNat < cs.length := by omega
  refine ⟨cs[i.toNat], List.getElem_mem hl, ?_⟩
  unfold atI ixN
  rw [if_pos h0, if_pos (by rw [List.length_map]; exact h1)]
  show (cs.map D.int)[i.toNat]? = _
  rw [List.getElem?_map, List.getElem?_eq_getElem hl]; rfl
end
/-! what kind of goal it is -/
section
variable {B : Bx} {X : Cx} {e a b c o v : Expr} {es : List Expr} {st : Stmt} {sts : List Stmt} {δ : Env'} {M : Mem} {Φ : D → Mem → Prop} {Ψ : DEnds} {ΦB : Bool → Mem → Prop} {ΦL : List D → Mem → Prop} {ΦM : Mem → Prop} {ΦE : Env' → Mem → Prop} {d x y : D} {pos : Pos}
theorem idE (h : DE B X e δ M Φ) : DE B X e δ M Φ := h
theorem idName {n : Str} (h : DE B X (.Name n pos) δ M Φ) : DE B X (.Name n pos) δ M Φ := h
theorem idCst {n : Const} {j} (h : DE B X (.Constant n j pos) δ M Φ) : DE B X (.Constant n j pos) δ M Φ := h
theorem idBin {op} (h : DE B X (.BinOp a op b pos) δ M Φ) : DE B X (.BinOp a op b pos) δ M Φ := h
theorem idCmp {ops bs} (h : DE B X (.Compare a ops bs pos) δ M Φ) : DE B X (.Compare a ops bs pos) δ M Φ := h
theorem idCallN {n : Str} {p ks} (h : DE B X (.Call (.Name n p) es ks pos) δ M Φ) : DE B X (.Call (.Name n p) es ks pos) δ M Φ := h
theorem idCallA {n : Str} {p ks} (h : DE B X (.Call (.Attribute o n p) es ks pos) δ M Φ) : DE B X (.Call (.Attribute o n p) es ks pos) δ M Φ := h
theorem idA (h : DA B X es δ M ΦL) : DA B X es δ M ΦL := h
theorem idT (h : DT B X e δ M ΦB) : DT B X e δ M ΦB := h
theorem idTC {ops bs} (h : DT B X (.Compare a ops bs pos) δ M ΦB) : DT B X (.Compare a ops bs pos) δ M ΦB := h
theorem idW (h : DW B X e δ M ΦB) : DW B X e δ M ΦB := h
theorem idS (h : DS B X st δ M Ψ) : DS B X st δ M Ψ := h
theorem idAsg {t} (h : DS B X (.Assign t e pos) δ M Ψ) : DS B X (.Assign t e pos) δ M Ψ := h
theorem idSs (h : DSs B X sts δ M Ψ) : DSs B X sts δ M Ψ := h
theorem idG (h : DG B X e d δ M ΦE) : DG B X e d δ M ΦE := h
theorem idGs {ds : List D} (h : DGs B X es ds δ M ΦE) : DGs B X es ds δ M ΦE := h
theorem idO {r : R2} (h : OpD r x y M Φ) : OpD r x y M Φ := h
theorem idOx {K : PySem.W.Frag} (h : OpD (rIxU K) x y M Φ) : OpD (rIxU K) x y M Φ := h
theorem idC {r : List V → Hp → VK → Prop} {ds : List D} (h : CallD r ds M Φ) : CallD r ds M Φ := h
theorem idSet (h : SetD x y d M ΦM) : SetD x y d M ΦM := h
theorem idSl {i : Nat} {P : Env' → Prop} (h : Sets δ i d P) : Sets δ i d P := h
theorem idBr {b : Bool} {P Q : Prop} (h : Br b P Q) : Br b P Q := h
end
section
variable {M : Mem} {Φ : D → Mem → Prop} {i j : Int}
theorem od_mulS (h : (-(2 ^ 64) < i ∧ i < 2 ^ 64) ∨ (-(2 ^ 64) < j ∧ j < 2 ^ 64)) (k : Φ (.int (i * j)) M) : OpD rMulU (.int i) (.int j) M Φ := od_mul h k
theorem log2_small {j : Int} (h : 0 < j) (h2 : j < 2 ^ 1000) : j.natAbs.log2 < 9000 := by
  have : j.natAbs < 2 ^ 1000 := by omega
  exact Nat.lt_trans (PySem.Flt.log2_lt_of (by decide) this) (by decide)
theorem od_divS (h : 0 < j) (h2 : j < 2 ^ 1000) (k : Φ (.int (i / j)) M) : OpD rDivU (.int i) (.int j) M Φ := od_div ⟨h, log2_small h h2⟩ k
theorem p10_1 (k : Φ (.int 10) M) : OpD rPowU (.int 10) (.int 1) M Φ := od_pow ⟨by decide, by decide, by decide⟩ k
theorem p10_2 (k : Φ (.int 100) M) : OpD rPowU (.int 10) (.int 2) M Φ := od_pow ⟨by decide, by decide, by decide⟩ k
theorem p10_3 (k : Φ (.int 1000) M) : OpD rPowU (.int 10) (.int 3) M Φ := od_pow ⟨by decide, by decide, by decide⟩ k
theorem p10_4 (k : Φ (.int 10000) M) : OpD rPowU (.int 10) (.int 4) M Φ := od_pow ⟨by decide, by decide, by decide⟩ k
theorem p10_5 (k : Φ (.int 100000) M) : OpD rPowU (.int 10) (.int 5) M Φ := od_pow ⟨by decide, by decide, by decide⟩ k
theorem p10_6 (k : Φ (.int 1000000) M) : OpD rPowU (.int 10) (.int 6) M Φ := od_pow ⟨by decide, by decide, by decide⟩ k
theorem p10_7 (k : Φ (.int 10000000) M) : OpD rPowU (.int 10) (.int 7) M Φ := od_pow ⟨by decide, by decide, by decide⟩ k
theorem p10_8 (k : Φ (.int 100000000) M) : OpD rPowU (.int 10) (.int 8) M Φ := od_pow ⟨by decide, by decide, by decide⟩ k
theorem p10_9 (k : Φ (.int 1000000000) M) : OpD rPowU (.int 10) (.int 9) M Φ := od_pow ⟨by decide, by decide, by decide⟩ k
theorem p10_10 (k : Φ (.int 10000000000) M) : OpD rPowU (.int 10) (.int 10) M Φ := od_pow ⟨by decide, by decide, by decide⟩ k
theorem p10_11 (k : Φ (.int 100000000000) M) : OpD rPowU (.int 10) (.int 11) M Φ := od_pow ⟨by decide, by decide, by decide⟩ k
theorem p10_12 (k : Φ (.int 1000000000000) M) : OpD rPowU (.int 10) (.int 12) M Φ := od_pow ⟨by decide, by decide, by decide⟩ k
theorem p10_13 (k : Φ (.int 10000000000000) M) : OpD rPowU (.int 10) (.int 13) M Φ := od_pow ⟨by decide, by decide, by decide⟩ k
theorem p10_14 (k : Φ (.int 100000000000000) M) : OpD rPowU (.int 10) (.int 14) M Φ := od_pow ⟨by decide, by decide, by decide⟩ k
theorem p10_15 (k : Φ (.int 1000000000000000) M) : OpD rPowU (.int 10) (.int 15) M Φ := od_pow ⟨by decide, by decide, by decide⟩ k
theorem p10_16 (k : Φ (.int 10000000000000000) M) : OpD rPowU (.int 10) (.int 16) M Φ := od_pow ⟨by decide, by decide, by decide⟩ k
theorem p10_17 (k : Φ (.int 100000000000000000) M) : OpD rPowU (.int 10) (.int 17) M Φ := od_pow ⟨by decide, by decide, by decide⟩ k
theorem p10_18 (k : Φ (.int 1000000000000000000) M) : OpD rPowU (.int 10) (.int 18) M Φ := od_pow ⟨by decide, by decide, by decide⟩ k
theorem p10_19 (k : Φ (.int 10000000000000000000) M) : OpD rPowU (.int 10) (.int 19) M Φ := od_pow ⟨by decide, by decide, by decide⟩ k
theorem p10_20 (k : Φ (.int 100000000000000000000) M) : OpD rPowU (.int 10) (.int 20) M Φ := od_pow ⟨by decide, by decide, by decide⟩ k
theorem p10_21 (k : Φ (.int 1000000000000000000000) M) : OpD rPowU (.int 10) (.int 21) M Φ := od_pow ⟨by decide, by decide, by decide⟩ k
theorem p10_22 (k : Φ (.int 10000000000000000000000) M) : OpD rPowU (.int 10) (.int 22) M Φ := od_pow ⟨by decide, by decide, by decide⟩ k
theorem p10_23 (k : Φ (.int 100000000000000000000000) M) : OpD rPowU (.int 10) (.int 23) M Φ := od_pow ⟨by decide, by decide, by decide⟩ k
theorem p10_24 (k : Φ (.int 1000000000000000000000000) M) : OpD rPowU (.int 10) (.int 24) M Φ := od_pow ⟨by decide, by decide, by decide⟩ k
theorem p10_25 (k : Φ (.int 10000000000000000000000000) M) : OpD rPowU (.int 10) (.int 25) M Φ := od_pow ⟨by decide, by decide, by decide⟩ k
theorem p10_26 (k : Φ (.int 100000000000000000000000000) M) : OpD rPowU (.int 10) (.int 26) M Φ := od_pow ⟨by decide, by decide, by decide⟩ k
theorem p10_27 (k : Φ (.int 1000000000000000000000000000) M) : OpD rPowU (.int 10) (.int 27) M Φ := od_pow ⟨by decide, by decide, by decide⟩ k
theorem p10_28 (k : Φ (.int 10000000000000000000000000000) M) : OpD rPowU (.int 10) (.int 28) M Φ := od_pow ⟨by decide, by decide, by decide⟩ k
theorem p10_29 (k : Φ (.int 100000000000000000000000000000) M) : OpD rPowU (.int 10) (.int 29) M Φ := od_pow ⟨by decide, by decide, by decide⟩ k
theorem p10_30 (k : Φ (.int 1000000000000000000000000000000) M) : OpD rPowU (.int 10) (.int 30) M Φ := od_pow ⟨by decide, by decide, by decide⟩ k
theorem p10_31 (k : Φ (.int 10000000000000000000000000000000) M) : OpD rPowU (.int 10) (.int 31) M Φ := od_pow ⟨by decide, by decide, by decide⟩ k
theorem p10_32 (k : Φ (.int 100000000000000000000000000000000) M) : OpD rPowU (.int 10) (.int 32) M Φ := od_pow ⟨by decide, by decide, by decide⟩ k
theorem p10_33 (k : Φ (.int 1000000000000000000000000000000000) M) : OpD rPowU (.int 10) (.int 33) M Φ := od_pow ⟨by decide, by decide, by decide⟩ k
theorem p10_34 (k : Φ (.int 10000000000000000000000000000000000) M) : OpD rPowU (.int 10) (.int 34) M Φ := od_pow ⟨by decide, by decide, by decide⟩ k
theorem p10_35 (k : Φ (.int 100000000000000000000000000000000000) M) : OpD rPowU (.int 10) (.int 35) M Φ := od_pow ⟨by decide, by decide, by decide⟩ k
theorem p10_36 (k : Φ (.int 1000000000000000000000000000000000000) M) : OpD rPowU (.int 10) (.int 36) M Φ := od_pow ⟨by decide, by decide, by decide⟩ k
theorem p10_37 (k : Φ (.int 10000000000000000000000000000000000000) M) : OpD rPowU (.int 10) (.int 37) M Φ := od_pow ⟨by decide, by decide, by decide⟩ k
theorem p10_38 (k : Φ (.int 100000000000000000000000000000000000000) M) : OpD rPowU (.int 10) (.int 38) M Φ := od_pow ⟨by decide, by decide, by decide⟩ k
theorem p10_39 (k : Φ (.int 1000000000000000000000000000000000000000) M) : OpD rPowU (.int 10) (.int 39) M Φ := od_pow ⟨by decide, by decide, by decide⟩ k
theorem p10_40 (k : Φ (.int 10000000000000000000000000000000000000000) M) : OpD rPowU (.int 10) (.int 40) M Φ := od_pow ⟨by decide, by decide, by decide⟩ k
theorem p10_41 (k : Φ (.int 100000000000000000000000000000000000000000) M) : OpD rPowU (.int 10) (.int 41) M Φ := od_pow ⟨by decide, by decide, by decide⟩ k
theorem p10_42 (k : Φ (.int 1000000000000000000000000000000000000000000) M) : OpD rPowU (.int 10) (.int 42) M Φ := od_pow ⟨by decide, by decide, by decide⟩ k
theorem p10_43 (k : Φ (.int 10000000000000000000000000000000000000000000) M) : OpD rPowU (.int 10) (.int 43) M Φ := od_pow ⟨by decide, by decide, by decide⟩ k
theorem p10_44 (k : Φ (.int 100000000000000000000000000000000000000000000) M) : OpD rPowU (.int 10) (.int 44) M Φ := od_pow ⟨by decide, by decide, by decide⟩ k
theorem p10_45 (k : Φ (.int 1000000000000000000000000000000000000000000000) M) : OpD rPowU (.int 10) (.int 45) M Φ := od_pow ⟨by decide, by decide, by decide⟩ k
end
end Hl
namespace Hl
open PySem L2
section
variable {B : Bx} {X : Cx} {e a b c o : Expr} {es rest : List Expr} {st : Stmt} {sts : List Stmt} {δ δ' : Env'} {M : Mem} {Φ : D → Mem → Prop} {Ψ : DEnds} {te ta tb : TE} {tt : TT} {pos pos' apos : Pos} {d x y : D} {ΦB : Bool → Mem → Prop} {ΦL : List D → Mem → Prop}
/-- a new list as a cell at place k -/
theorem DE.own (k : Nat) (h : DF B X e δ M fun ds M' => ∀ p : Addr, Φ (.raw (.ref p)) (insM k (p, .lst ds) M')) : DE B X e δ M Φ := fun κ σ H Q hb R kk => h κ σ H Q hb R fun p ds M' H' q R' => kk _ _ _ _ (q p) (R'.perm insM_perm) (.raw _)
/-! dict displays -/
def DPs (B : Bx) (X : Cx) : List (Option Expr) → List Expr → Env' → Mem → (List (D × D) → Mem → Prop) → Prop
  | [], [], _, M, Φ => Φ [] M
  | some k :: ks, v :: vs, δ, M, Φ => DE B X k δ M fun x M1 => DE B X v δ M1 fun y M2 => DPs B X ks vs δ M2 fun ps M3 => Φ ((x, y) :: ps) M3
  | _, _, _, _, _ => False
def trsOf (X : Cx) : List (Option Expr) → List Expr → List (TE × TE)
  | some k :: ks, v :: vs => (tE X k, tE X v) :: trsOf X ks vs
  | _, _ => []
def isSomes : List (Option Expr) → List Expr → Bool
  | [], [] => true
  | some _ :: ks, _ :: vs => isSomes ks vs
  | _, _ => false
theorem pps_of : ∀ {ks : List (Option Expr)} {vs : List Expr}, isSomes ks vs = true → PPs X pos ks vs (trsOf X ks vs)
  | [], [], _ => pps_nil
  | some k :: ks, v :: vs, h => pps_cons cE cE (pps_of (ks := ks) (vs := vs) h)
  | [], _ :: _, h => by cases h
  | none :: _, _, h => by cases h
  | some _ :: _, [], h => by cases h
def PairRep (F : List Addr) (H : Hp) : List (V × V) → List (D × D) → Prop := Paired fun p q => Rep F H p.1 q.1 ∧ Rep F H p.2 q.2
theorem pairs_run : ∀ {ks : List (Option Expr)} {vs : List Expr} {M : Mem} {Φ : List (D × D) → Mem → Prop} {κ : List (V × D)} {σ : St} {H : Hp} {Q : List (V × V) → Hp → Prop}, DPs B X ks vs δ M Φ → (∀ q ∈ B.ps, q ∈ κ) → Rs κ δ M σ H →
    (∀ ps ds M' H', Φ ds M' → Rs κ δ M' σ H' → PairRep M'.F H' ps ds → Q ps H') → tPairs (trsOf X ks vs) σ H Q
  | [], [], _, _, _, _, _, _, h, hb, R, k => k [] [] _ _ h R .nil
  | some ke :: ks, v :: vs, M, Φ, κ, σ, H, Q, h, hb, R, k => by
    refine (show DE B X ke δ M _ from h) κ σ H _ hb R fun u x M1 H1 q1 R1 r1 => ?_
    refine q1 ((u, x) :: κ) σ H1 _ (fun q hq => List.mem_cons_of_mem _ (hb q hq)) (R1.push r1) fun w y M2 H2 q2 R2 r2 => ?_
    refine pairs_run q2 (fun q hq => List.mem_cons_of_mem _ (List.mem_cons_of_mem _ (hb q hq))) (R2.push r2) fun ps ds M3 H3 q3 R3 r3 => ?_
    exact k _ _ _ _ q3 R3.pop.pop (.cons ⟨R3.pop.top, R3.top⟩ r3)
  | [], _ :: _, _, _, _, _, _, _, h, _, _, _ => h.elim
  | none :: _, _, _, _, _, _, _, _, h, _, _, _ => by cases h
  | some _ :: _, [], _, _, _, _, _, _, h, _, _, _ => h.elim
def mergeD (kvs more : List (Key × D)) : List (Key × D) := more.foldl (fun acc kv => putD acc kv.1 kv.2) kvs
theorem pair_keys {F : List Addr} {H : Hp} : ∀ {ps : List (V × V)} {kvs : List (Key × D)}, PairRep F H ps (kvs.map fun kv => (kD kv.1, kv.2)) → ∃ ws : List (Key × V), ps = ws.map (fun kv => (kV kv.1, kv.2)) ∧ ws.map (·.1) = kvs.map (·.1) ∧ Reps F H (ws.map (·.2)) (kvs.map (·.2))
  | _, [], .nil => ⟨[], rfl, rfl, .nil⟩
  | (v1, v2) :: ps, (k, d) :: kvs, .cons ⟨r1, r2⟩ t => by
    obtain ⟨ws, e1, e2, r⟩ := pair_keys (kvs := kvs) t
    have := rep_k r1
    exact ⟨(k, v2) :: ws, by rw [e1]; show (v1, v2) :: _ = (kV k, v2) :: _; rw [show v1 = kV k from this], by simp [e2], .cons r2 r⟩
theorem merge_rep {F : List Addr} {H : Hp} : ∀ {ws : List (Key × V)} {kvs : List (Key × D)} {ws0 : List (Key × V)} {kvs0 : List (Key × D)}, ws.map (·.1) = kvs.map (·.1) → Reps F H (ws.map (·.2)) (kvs.map (·.2)) → ws0.map (·.1) = kvs0.map (·.1) → Reps F H (ws0.map (·.2)) (kvs0.map (·.2)) →
    (mergeK ws0 ws).map (·.1) = (mergeD kvs0 kvs).map (·.1) ∧ Reps F H ((mergeK ws0 ws).map (·.2)) ((mergeD kvs0 kvs).map (·.2))
  | [], [], _, _, _, _, h1, h2 => ⟨h1, h2⟩
  | [], _ :: _, _, _, h, _, _, _ => by cases h
  | _ :: _, [], _, _, h, _, _, _ => by cases h
  | (k1, v) :: ws, (k2, d) :: kvs, ws0, kvs0, h, r, h1, h2 => by
    have e1 : k1 = k2 := (List.cons.inj h).1
    have e2 : ws.map (·.1) = kvs.map (·.1) := (List.cons.inj h).2
    subst e1
    cases r with
    | cons r1 r2 => exact merge_rep (ws0 := putK ws0 k1 v) (kvs0 := putD kvs0 k1 d) e2 r2 (put_keys h1) (put_vals r1 h1 h2)
theorem de_disp {keys : List (Option Expr)} {values : List Expr} (k : Nat) (hi : isSomes keys values = true) (hall : keys.all (·.isSome) = true) (hl : keys.length = values.length) (h0 : keys ≠ []) (h15 : keys.length ≤ 15)
    (h : ∀ p, DPs B X keys values δ (insM k (p, .dct []) M) fun ps M2 => ∃ j kvs, M2[j]? = some (p, .dct []) ∧ ps = kvs.map (fun kv => (kD kv.1, kv.2)) ∧ kvs.length ≤ 15 ∧ Φ (.raw (.ref p)) (M2.set j (p, .dct (mergeD [] kvs)))) : DE B X (.Dict keys values pos) δ M Φ := by
  refine .of (pe_disp (pps_of hi) hall hl h0 h15) fun κ σ H Q hb R kk => ?_
  intro p hp
  have R1 : Rs κ δ (insM k (p, .dct []) M) σ (upd H p (.dK [])) := (R.dct (kvs := []) (ws := []) hp rfl .nil).perm insM_perm
  refine pairs_run (h p) hb R1 fun ps ds M2 H2 ⟨j, kvs, ej, ep, hk, q⟩ R2 r2 => ?_
  subst ep
  obtain ⟨ws0, e0, e1, r0⟩ := R2.at ej
  have hw : ws0 = [] := by cases ws0 with | nil => rfl | cons _ _ => cases e1
  subst hw
  obtain ⟨ws, ep, e2, rr⟩ := pair_keys r2
  refine ⟨e0, ws, ep, ?_, ?_⟩
  · have := congrArg List.length e2
    rw [List.length_map, List.length_map] at this
    omega
  · refine kk _ _ _ _ q ?_ (.raw _)
    obtain ⟨m1, m2⟩ := merge_rep (ws0 := []) (kvs0 := []) e2 rr rfl .nil
    have hpF : ∀ x, x ∉ M2.F → upd H2 p (.dK (mergeK [] ws)) x = H2 x := fun x hx => upd_ne fun z => hx (z ▸ R2.mem ej p (by simp [own]))
    exact R2.cell ej rfl (fun x hx => upd_ne (by simpa [own] using hx)) ⟨_, upd_same, m1, m2.fwd (Fwd.same hpF)⟩
/-! the script is walked -/
theorem wd_scr {κ : List (V × D)} {a : Addr} {K : PySem.W.Frag} {ns : List Int} : WalkD ((.ref a, .scr K ns) :: κ) (ns.map .int) (Itl K a) := by
  have sq : ∀ {δ : Env'} {M : Mem} {σ : St} {H : Hp}, Rs ((.ref a, .scr K ns) :: κ) δ M σ H → SqL K H a (ns.map V.int) := fun R => by
    cases R.top with
    | scrH h e => exact .inl e
    | scrK h => exact h _
  exact {
    goes := fun i δ M σ H hi R => by
      rw [List.length_map] at hi
      exact ⟨_, .int ns[i], sq R, by simp [hi]⟩
    stops := fun δ M σ H R => ⟨_, sq R, by simp⟩
    yields := fun i δ M σ H x H' hi R y => by
      obtain ⟨rfl, y⟩ := y
      have := y _ (sq R)
      rw [List.getElem?_map] at this
      cases e : ns[i]? with
      | none => rw [e] at this; cases this
      | some n =>
        rw [e] at this
        have ex : V.int n = x := Option.some.inj this
        subst ex
        exact ⟨.int n, by rw [List.getElem?_map, e]; rfl, R, .int n⟩ }
theorem di_scr {tg iter : Expr} (h : DE B X iter δ M fun d M' => ∃ ns, d = .scr X.K ns ∧ ΦL (ns.map .int) M') : DI B X tg iter δ M ΦL := ⟨_, pi_list cE, fun κ σ H R hb Rr k => h κ σ H _ hb Rr fun v d M1 H1 ⟨ns, ed, q⟩ R1 r1 => by
  subst ed
  cases r1 with
  | scrH h e => exact ⟨_, rfl, ⟨_, .inl e⟩, k _ M1 H1 _ _ q (fun q hq => List.mem_cons_of_mem _ hq) (R1.push (.scrH h e)) wd_scr⟩
  | scrK h => exact ⟨_, rfl, ⟨_, h _⟩, k _ M1 H1 _ _ q (fun q hq => List.mem_cons_of_mem _ hq) (R1.push (.scrK h)) wd_scr⟩⟩
/-- a comprehension without effects: each item gives F of it -/
theorem LcH.pure {scope : Scope} {elt : Expr} {ifs : List Expr} {own : List (Str × Nat)} {tk : Tk} {xs : List D} {k : Nat} (F : D → Option D) (hl : xs.length ≤ sizeLine)
    (h : ∀ (p : Addr) acc x, x ∈ xs → ∃ δ2, bindK tk x (wipeD δ (own.map (·.2))) = some δ2 ∧ Turn1 B X scope elt ifs δ2 (insM k (p, .lst acc) M) fun od M2 => od = F x ∧ M2 = insM k (p, .lst acc) M)
    (q : ΦL (xs.filterMap F) M) : LcH k B X scope elt ifs own tk δ xs M ΦL := by
  refine ⟨fun i acc M1 => M1 = M ∧ acc = (xs.take i).filterMap F ∧ acc.length ≤ i, ⟨rfl, rfl, Nat.le_refl _⟩, ?_, ?_⟩
  · rintro p i x acc M1 hx ⟨rfl, ha, hal⟩
    have hi : i < xs.length := (List.getElem?_eq_some_iff.mp hx).1
    obtain ⟨δ2, e1, tu⟩ := h p acc x (List.mem_of_getElem? hx)
    have fin : ∀ (od : Option D) M2, od = F x ∧ M2 = insM k (p, .lst acc) M1 → ∃ M3, M2 = insM k (p, .lst acc) M3 ∧ M3 = M1 ∧ acc ++ od.toList = (xs.take (i + 1)).filterMap F ∧ (acc ++ od.toList).length ≤ i + 1 := by
      rintro od M2 ⟨rfl, rfl⟩
      refine ⟨M1, rfl, rfl, ?_, ?_⟩
      · rw [List.take_add_one, hx, List.filterMap_append, ← ha]
        cases e : F x <;> simp [e]
      · rw [List.length_append]
        cases F x <;> simp <;> omega
    refine ⟨by omega, δ2, e1, ?_⟩
    unfold Turn1 at tu ⊢
    match ifs, tu with
    | [], tu => exact fun X' bk => (tu X' bk).mono fun d M2 q => fin _ _ q
    | [c], tu => exact fun X' bk => (tu X' bk).mono fun t M2 q => ⟨fun e X2 bk2 => (q.1 e X2 bk2).mono fun d M3 q => fin _ _ q, fun e => fin _ _ (q.2 e)⟩
    | _ :: _ :: _, tu => exact tu.elim
  · rintro acc M1 ⟨rfl, rfl, _⟩
    rw [List.take_length]
    exact q
end
end Hl
namespace Hl
open PySem L2
section
variable {B : Bx} {X X' : Cx} {scope : Scope} {n i : Nat} {x : Str} {pos tpos : Pos}
theorem pg_one (bk : Bk X X' scope) (z : Cz X n) (l : Lo X' i x) : PG X' (.Name x pos) (gK X.K (.one i)) := pg_name (bk.z z).nd l.at_ l.loc l.fn
theorem pgs_0 : PGs X' [] (gNames []) := pgs_nil
theorem pgs_1 {es : List Expr} {is : List Nat} (nd : X'.N.Nodup) (l : Lo X' i x) (h : PGs X' es (gNames is)) (hs : (assignEach (.Name x pos :: es) X'.env).map (·.2) = assign (.Name x pos) X'.env :: (assignEach es X'.env).map (·.2) := by rfl) : PGs X' (.Name x pos :: es) (gNames (i :: is)) := pgs_cons (pg_name nd l.at_ l.loc l.fn) h hs
theorem pg_many {es : List Expr} {is : List Nat} {kk : Nat} (bk : Bk X X' scope) (z : Cz X n) (h : PGs X' es (gNames is)) (hn : (assignEach es X'.env).length = is.length := by rfl) (hst : (assignEach es X'.env).findIdx? (·.1) = none := by rfl) : PG X' (.Tuple es kk tpos) (gK X.K (.tup is)) := by
  have := pg_tup (X := X') (pos := tpos) (k := kk) (bk.z z).calm h hn hst
  rw [bk.K] at this
  exact this
end
/-! ### the draws -/
/-- a number below many -/
def pTake : DSp := fun ds M Φ => ∃ s g b n M', ds = [.raw (.ref s), .int n] ∧ M = (s, .st g (b + 1)) :: M' ∧ 0 < n ∧ n < 2 ^ 1000 ∧ ∀ r, 0 ≤ r → r < n → Φ (.int r) ((s, .st g b) :: M')
theorem c_take {s g : Addr} {b : Nat} {n : Int} {M : Mem} {Φ : D → Mem → Prop} (hb : 0 < b) (h0 : 0 < n) (h1 : n < 2 ^ 1000) (k : ∀ r, 0 ≤ r → r < n → Φ (.int r) ((s, .st g (b - 1)) :: M)) : pTake [.raw (.ref s), .int n] ((s, .st g b) :: M) Φ := by
  refine ⟨s, g, b - 1, n, M, rfl, ?_, h0, h1, k⟩
  rw [Nat.sub_add_cancel hb]
/-- the state of a script -/
def pBegun (K : PySem.W.Frag) : DSp := fun ds M Φ => ∃ ns, ds = [.scr K ns] ∧ ns.length ≤ 63 ∧ ∀ s g, Φ (.raw (.ref s)) ((s, .st g 1000000000000) :: M)
def bigOnes (ns : List Int) : List Int := ns.filter fun n => decide (1000000000000000000 ≤ n)
def bigF : D → Option D
  | .int n => if 1000000000000000000 ≤ n then some (.int n) else none
  | _ => none
def modF : D → Option D
  | .int n => some (.int (n % 2147483629))
  | _ => none
theorem big_map (ns : List Int) : (ns.map D.int).filterMap bigF = (bigOnes ns).map D.int := by
  induction ns with
  | nil => rfl
  | cons n ns ih =>
    rw [List.map_cons, List.filterMap_cons]
    unfold bigOnes at ih ⊢
    rw [List.filter_cons]
    by_cases h : 1000000000000000000 ≤ n
    · simp only [bigF, h, if_true, decide_true, List.map_cons, ih]
    · simp only [bigF, h, if_false, decide_false, ih]; rfl
theorem rest_map (ns : List Int) : (ns.map D.int).filterMap modF = (ns.map fun n => n % 2147483629).map D.int := by
  induction ns with
  | nil => rfl
  | cons n ns ih => rw [List.map_cons, List.filterMap_cons]; simp only [modF, ih, List.map_cons]
theorem begun_ok (ns : List Int) (h : ns.length ≤ 63) : StOk 1000000000000 (bigOnes ns) 0 0 7 ((ns.map fun n => n % 2147483629) ++ [77]) := by
  refine ⟨fun x hx => ?_, by decide, by decide, by decide, by decide, by decide, fun x hx => ?_, by simp, by simp; omega⟩
  · have := of_decide_eq_true (List.mem_filter.mp hx).2
    omega
  · rcases List.mem_append.mp hx with hx | hx
    · obtain ⟨n, _, rfl⟩ := List.mem_map.mp hx
      exact ⟨Int.emod_nonneg _ (by decide), Int.emod_lt_of_pos _ (by decide)⟩
    · have : x = 77 := by simpa using hx
      subst this; decide
theorem c_begun {K : PySem.W.Frag} {ns : List Int} {M : Mem} {Φ : D → Mem → Prop} (h : ns.length ≤ 63) (k : ∀ s g, Φ (.raw (.ref s)) ((s, .st g 1000000000000) :: M)) : pBegun K [.scr K ns] M Φ := ⟨ns, rfl, h, k⟩
theorem at_sign {z : Str} {i : Int} (h0 : 0 ≤ i) (h1 : i < z.length) : ∃ c, atI z.cps.toList i = some c := by
  have hl : i.toNat < z.cps.toList.length := by
    have : z.length = z.cps.toList.length := by simp [Str.length]
    omega
  obtain ⟨j, rfl⟩ : ∃ j : Nat, i = (j : Int) := ⟨i.toNat, by omega⟩
  exact ⟨z.cps.toList[j], atI_nat (by simp [hl])⟩
end Hl
namespace Hl
open PySem L2
/-! ### calls with keywords -/
@[irreducible] def tKw (X : Cx) (kws : List Keyword) : TA := fun σ H Q => ∀ (pos : Pos) pins s, Inv X pins σ H s → wpAny (model X.prog X.w) X.A (evalAll ((backToKw pos (keywordEach kws X.env)).map (·.2))) (AP X pins σ Q) X.xe s
theorem cK {X : Cx} {kws : List Keyword} : PK X kws (tKw X kws) := ⟨fun pos pins s _ _ _ I h => by unfold tKw at h; exact h pos pins s I⟩
abbrev DK (B : Bx) (X : Cx) (kws : List Keyword) := WA B (tKw X kws)
structure DefK (P : Program) (w : World) (K : PySem.W.Frag) (mg : Str → Option Value) (base : Heap) (k : Nat) (x : Str) (ks ps : List Str) (pm : List Nat) (p : DSp) : Prop where
  ex : ∃ f fd, mg x = some (.ref f) ∧ PySem.W.keepIn K (.ref f) = true ∧ (∀ (s : Shared) (ws : List Value), ws.length = ks.length → BindsTo s fd ⟨[], ks.zip ws⟩ (ps.zip (pm.map fun j => ws.getD j .none))) ∧ (∀ j ∈ pm, j < ks.length) ∧ FnOk P w K mg base CX0 k f fd ps (lift p)
abbrev DefKX (X : Cx) := DefK X.prog X.w X.K X.mg X.base
section
variable {B : Bx} {X : Cx} {e a b c o : Expr} {es rest : List Expr} {st : Stmt} {sts : List Stmt} {δ δ' : Env'} {M : Mem} {Φ : D → Mem → Prop} {Ψ : DEnds} {te ta tb : TE} {tt : TT} {pos pos' apos kpos : Pos} {d x y : D} {ΦB : Bool → Mem → Prop} {ΦL : List D → Mem → Prop} {kws : List Keyword} {nm : Option Str}
theorem DK.of {t : TA} (h : PK X kws t) (w : WA B t δ M ΦL) : DK B X kws δ M ΦL := fun κ σ H Q hb R k => by unfold tKw; exact fun pos pins s I => h.run pos pins s σ H Q I (w κ σ H Q hb R k)
theorem dk_nil (k : ΦL [] M) : DK B X [] δ M ΦL := .of pk_nil fun κ σ H Q hb R h => h _ _ M H k R .nil
theorem dk_cons (h : DE B X a δ M fun x M1 => DK B X kws δ M1 fun xs M2 => ΦL (x :: xs) M2) : DK B X (⟨nm, a, kpos⟩ :: kws) δ M ΦL := .of (pk_cons cE cK) fun κ σ H Q hb R k =>
  h κ σ H _ hb R fun v x M1 H1 q1 R1 r1 => q1 ((v, x) :: κ) σ H1 _ (fun q hq => List.mem_cons_of_mem _ (hb q hq)) (R1.push r1) fun vs xs M2 H2 q2 R2 r2 => k _ _ _ _ q2 R2.pop (.cons R2.top r2)
theorem Reps.pick {F : List Addr} {H : Hp} {vs : List V} {ds : List D} (r : Reps F H vs ds) : ∀ (pm : List Nat), (∀ j ∈ pm, j < vs.length) → Reps F H (pm.map fun j => vs.getD j .non) (pm.map fun j => ds.getD j .non)
  | [], _ => .nil
  | j :: pm, h => by
    have hj := h j List.mem_cons_self
    obtain ⟨d, e1, r1⟩ := r.get (i := j) (v := vs[j]) (by simp [hj])
    refine .cons ?_ (r.pick pm fun i hi => h i (List.mem_cons_of_mem _ hi))
    have a1 : vs.getD j .non = vs[j] := by simp [List.getD, hj]
    have a2 : ds.getD j .non = d := by simp [List.getD, e1]
    dsimp only
    rw [a1, a2]; exact r1
theorem Vals.pick {vs : List V} {us : List Value} (r : Vals vs us) : ∀ (pm : List Nat), (∀ j ∈ pm, j < vs.length) → Vals (pm.map fun j => vs.getD j .non) (pm.map fun j => us.getD j .none)
  | [], _ => .nil
  | j :: pm, h => by
    have hj := h j List.mem_cons_self
    obtain ⟨u, e1, r1⟩ := Vals.get r (i := j) (x := vs[j]) (by simp [hj])
    refine .cons ?_ (Vals.pick r pm fun i hi => h i (List.mem_cons_of_mem _ hi))
    have a1 : vs.getD j .non = vs[j] := by simp [List.getD, hj]
    have a2 : us.getD j .none = u := by simp [List.getD, e1]
    dsimp only
    rw [a1, a2]; exact r1
theorem de_callK {k n : Nat} {x : Str} {ks ps : List Str} {pm : List Nat} {p : DSp} {pp : Pos} (z : Cz X n) (f : DefKX X k x ks ps pm p) (hk : k ≤ n) (hg : Gl X x) (h : DK B X kws δ M fun ds M' => ds.length = ks.length ∧ p (pm.map fun j => ds.getD j .non) M' Φ)
    (hall : (backToKw pos (keywordEach kws X.env)).all (·.1.isSome) = true := by rfl) (hks : (backToKw pos (keywordEach kws X.env)).filterMap (·.1) = ks := by rfl) (hdb : (x == ("__debug__" : Str)) = false := by decide)
    (hpl : ((backTo pos (starEach [] X.env)).any (·.1) || (backToKw pos (keywordEach kws X.env)).any (·.1.isNone)) = false := by rfl) : DE B X (.Call (.Name x pp) [] kws pos) δ M Φ := by
  obtain ⟨fa, fd, h1, h2, h3, h4, h5⟩ := f.ex
  refine .of (te := fun σ H Q => tKw X kws σ H fun zs H2 => zs.length = ks.length ∧ lift p (pm.map fun j => zs.getD j .non) H2 Q E0) ⟨fun pins s σ H Q I hq => ?_⟩ fun κ σ H Q hb R kk => h κ σ H _ hb R fun vs ds M1 H1 ⟨ql, q⟩ R1 r1 => ⟨by rw [r1.length]; exact ql, ?_⟩
  · refine wpAny_Call_Name_kw (ld_glob I hg h1 ?_ hdb)
    refine PySem.W.callWith_KW0 (h₀ := X.base) (first := []) I.ok.mod.kin h2 hall (thn (cK.run pos pins s σ H _ I hq) fun ws s2 ⟨zs, H2, I2, rz, l2, q2⟩ => ⟨I2.kIn, ?_⟩) hpl
    rw [hks]
    have r2 := Vals.pick rz pm (fun j hj => by rw [l2]; exact h4 j hj)
    refine wpAny_call (codeAny_mono (h5.run X.A X.stack s2 H2 ⟨[], ks.zip ws⟩ _ _ Q E0 (z.room.mono hk) I2.env0 (h3 s2 ws (rz.length.symm.trans l2)) r2 q2) fun r s' hq => ?_)
    cases r with
    | error e => exact hq.elim
    | ok fl =>
      cases fl with
      | ret u => exact I2.after hq
      | next => exact False.elim hq
      | brk => exact False.elim hq
      | cont => exact False.elim hq
  · refine ⟨κ ++ sk σ δ, _, M1, Φ, R1.pack, r1.pick pm (fun j hj => by rw [r1.length, ql]; exact h4 j hj), q, fun v d M2 H2 q2 R2 r2 => kk v d M2 H2 q2 (R1.unpack R2) r2⟩
/-! ### in, not in -/
def rInDc : R2 := fun x y H Q => ∃ (a : Addr) (o : Option V), y = .ref a ∧ DGet H a x o ∧ Q (.bl o.isSome) H
def rNotInDc : R2 := fun x y H Q => ∃ (a : Addr) (o : Option V), y = .ref a ∧ DGet H a x o ∧ Q (.bl (!o.isSome)) H
theorem op_in_dict (hu : X.A.units + 1 < cLine) : OpR X (compareOp .In) rInDc := by
  intro pins s σ H x y v u Q I rx ry h
  obtain ⟨a, o, rfl, g, q⟩ := h
  obtain rfl : u = Value.ref a := ry
  exact d_in hu I g rx fun s' I' => ⟨.bl _, H, I', rfl, q⟩
theorem op_notIn_dict (hu : X.A.units + 1 < cLine) : OpR X (compareOp .NotIn) rNotInDc := by
  intro pins s σ H x y v u Q I rx ry h
  obtain ⟨a, o, rfl, g, q⟩ := h
  obtain rfl : u = Value.ref a := ry
  exact d_notIn hu I g rx fun s' I' => ⟨.bl _, H, I', rfl, q⟩
def rInU (K : PySem.W.Frag) : R2 := fun x y H Q => (∃ (c : Nat) (z : Str), x = .str ⟨#[c]⟩ ∧ y = .str z ∧ Q (.bl (decide (c ∈ z.cps.toList))) H) ∨ (rIn K false x y H Q ∨ rInDc x y H Q)
def rNotInU (K : PySem.W.Frag) : R2 := fun x y H Q => (∃ (c : Nat) (z : Str), x = .str ⟨#[c]⟩ ∧ y = .str z ∧ Q (.bl (!decide (c ∈ z.cps.toList))) H) ∨ (rIn K true x y H Q ∨ rNotInDc x y H Q)
theorem de_in {n : Nat} (z : Cz X n) (h : DE B X a δ M fun x M1 => DE B X b δ M1 fun y M2 => OpD (rInU X.K) x y M2 Φ) (hm : behindInMarks .In b = false := by rfl) : DE B X (.Compare a [.In] [b] pos) δ M Φ := de_cmp (op_in_sign.or (op_in_seq.or (op_in_dict (un1 z)))) hm h
theorem de_notin {n : Nat} (z : Cz X n) (h : DE B X a δ M fun x M1 => DE B X b δ M1 fun y M2 => OpD (rNotInU X.K) x y M2 Φ) (hm : behindInMarks .NotIn b = false := by rfl) : DE B X (.Compare a [.NotIn] [b] pos) δ M Φ := de_cmp (op_notIn_sign.or (op_notIn_seq.or (op_notIn_dict (un1 z)))) hm h
theorem dt_in {n : Nat} (z : Cz X n) (h : DE B X a δ M fun x M1 => DE B X b δ M1 fun y M2 => OpD (rInU X.K) x y M2 (toB ΦB)) (hm : behindInMarks .In b = false := by rfl) : DT B X (.Compare a [.In] [b] pos) δ M ΦB := dt_cmp (op_in_sign.or (op_in_seq.or (op_in_dict (un1 z)))) hm h
theorem dt_notin {n : Nat} (z : Cz X n) (h : DE B X a δ M fun x M1 => DE B X b δ M1 fun y M2 => OpD (rNotInU X.K) x y M2 (toB ΦB)) (hm : behindInMarks .NotIn b = false := by rfl) : DT B X (.Compare a [.NotIn] [b] pos) δ M ΦB := dt_cmp (op_notIn_sign.or (op_notIn_seq.or (op_notIn_dict (un1 z)))) hm h
theorem od_inS {K : PySem.W.Frag} {c : Nat} {z : Str} (k : Φ (.bl (decide (c ∈ z.cps.toList))) M) : OpD (rInU K) (.str ⟨#[c]⟩) (.str z) M Φ := .inl fun κ δ σ H v w Q R rv rw' h => by
  cases rv; cases rw'
  exact ⟨c, z, rfl, rfl, h _ _ M H k R (.bl _)⟩
theorem od_notinS {K : PySem.W.Frag} {c : Nat} {z : Str} (k : Φ (.bl (!decide (c ∈ z.cps.toList))) M) : OpD (rNotInU K) (.str ⟨#[c]⟩) (.str z) M Φ := .inl fun κ δ σ H v w Q R rv rw' h => by
  cases rv; cases rw'
  exact ⟨c, z, rfl, rfl, h _ _ M H k R (.bl _)⟩
theorem gc_int {x : Str} {z : Int} {sc : Scope} (hs : X.env.scope = sc) (h : sc.names.lookup x = some .globalImplicit) (hm : ∃ t, X.mg x = some (.int z t)) (dbg : (x == ("__debug__" : Str)) = false := by decide) : Gc X x (.int z) := by
  obtain ⟨t, e⟩ := hm
  exact ⟨gl_of hs h, ⟨_, e, t, rfl⟩, dbg⟩
theorem de_gstr {x : Str} {z : Str} (g : Gc X x (.str z)) (k : Φ (.str z) M) : DE B X (.Name x pos) δ M Φ := de_glob g (fun _ _ => .str z) k
theorem de_gint {x : Str} {z : Int} (g : Gc X x (.int z)) (k : Φ (.int z) M) : DE B X (.Name x pos) δ M Φ := de_glob g (fun _ _ => .int z) k
/-! a op1 b op2 c -/
theorem de_chain {op op' : CmpOp} {r r' : R2} (ho : OpR X (compareOp op) r) (ho' : OpR X (compareOp op') r') (h : DE B X a δ M fun x M1 => DE B X b δ M1 fun y M2 => OpD r x y M2 (toB fun t M3 => Br t (DE B X c δ M3 fun w M4 => OpD r' y w M4 Φ) (Φ (.bl false) M3)))
    (hm : lastMarks [op, op'] [b, c] = false := by with_unfolding_all rfl) : DE B X (.Compare a [op, op'] [b, c] pos) δ M Φ := .of (pe_chain ho ho' cE cE cE hm) fun κ σ H Q hb R k =>
  h κ σ H _ hb R fun v x M1 H1 q1 R1 r1 => q1 ((v, x) :: κ) σ H1 _ (fun q hq => List.mem_cons_of_mem _ (hb q hq)) (R1.push r1) fun w y M2 H2 q2 R2 r2 =>
    q2 ((w, y) :: κ) δ σ H2 v w _ (R2.pop.push r2) R2.top r2 fun u du M3 H3 ⟨t, e, q3⟩ R3 r3 => by
      subst e; cases r3
      refine ⟨t, rfl, Br.ite ⟨fun e => ?_, fun e => k _ _ _ _ (q3.2 e) R3.pop (.bl _)⟩⟩
      exact q3.1 e ((w, y) :: κ) σ H3 _ (fun q hq => List.mem_cons_of_mem _ (hb q hq)) R3 fun w2 y2 M4 H4 q4 R4 r4 => q4 κ δ σ H4 w w2 Q R4.pop R4.top r4 k
theorem de_le2 (h : DE B X a δ M fun x M1 => DE B X b δ M1 fun y M2 => OpD rLeU x y M2 (toB fun t M3 => Br t (DE B X c δ M3 fun w M4 => OpD rLeU y w M4 Φ) (Φ (.bl false) M3))) (hm : lastMarks [.LtE, .LtE] [b, c] = false := by with_unfolding_all rfl) : DE B X (.Compare a [.LtE, .LtE] [b, c] pos) δ M Φ := de_chain op_le op_le h hm
/-- a statement whose ways meet -/
theorem ds_cut (Mid : Env' → Mem → Prop) (h1 : DS B X st δ M { Ψ with nx := Mid }) (h2 : ∀ δ M, Mid δ M → DSs B X sts δ M Ψ) : DSs B X (st :: sts) δ M Ψ := ds_cons (h1.mono (fun δ M q => h2 δ M q) (fun _ _ q => q) (fun _ _ q => q) fun _ _ q => q)
/-- 1 <= x <= 9 of ints, the last one written -/
theorem de_le2C {l : Int} {j : Nat} {p1 : Pos} (h : DE B X a δ M fun x M1 => DE B X b δ M1 fun y M2 => ∃ i j, x = .int i ∧ y = .int j ∧ Φ (.bl (decide (i ≤ j) && decide (j ≤ l))) M2) (hm : lastMarks [.LtE, .LtE] [b, .Constant (.int l) j p1] = false := by with_unfolding_all rfl) :
    DE B X (.Compare a [.LtE, .LtE] [b, .Constant (.int l) j p1] pos) δ M Φ := de_le2 (h.mono fun x M1 h1 => h1.mono fun y M2 ⟨i, j, ex, ey, q⟩ => by
  subst ex ey
  refine od_le (toB.mk ⟨fun e => de_int (od_le ?_), fun e => ?_⟩)
  · rw [e] at q; exact q
  · rw [e] at q; exact q) hm
theorem ex_ii {i j : Int} {P : Int → Int → Prop} (h : P i j) : ∃ a b, D.int i = .int a ∧ D.int j = .int b ∧ P a b := ⟨i, j, rfl, rfl, h⟩
theorem ex_i {i : Int} {P : Int → Prop} (h : P i) : ∃ a, D.int i = .int a ∧ P a := ⟨i, rfl, h⟩
theorem ex_l {ds : List D} {P : List D → Prop} (h : P ds) : ∃ a, D.lst ds = .lst a ∧ P a := ⟨ds, rfl, h⟩
theorem ex_t {ds : List D} {P : List D → Prop} (h : P ds) : ∃ a, D.tup ds = .tup a ∧ P a := ⟨ds, rfl, h⟩
theorem ex_s {z : Str} {P : Str → Prop} (h : P z) : ∃ a, D.str z = .str a ∧ P a := ⟨z, rfl, h⟩
theorem ex_x {K : PySem.W.Frag} {ns : List Int} {P : List Int → Prop} (h : P ns) : ∃ a, D.scr K ns = .scr K a ∧ P a := ⟨ns, rfl, h⟩
theorem idK (h : DK B X kws δ M ΦL) : DK B X kws δ M ΦL := h
end
end Hl
namespace Hl
open PySem L2
section
variable {B : Bx} {X : Cx} {e a b c o : Expr} {es rest : List Expr} {st : Stmt} {sts : List Stmt} {δ δ' : Env'} {M : Mem} {Φ : D → Mem → Prop} {Ψ : DEnds} {te ta tb : TE} {tt : TT} {pos pos' apos kpos : Pos} {d x y : D} {ΦB : Bool → Mem → Prop} {ΦL : List D → Mem → Prop}
/-! ### typed lists -/
theorem range_get {lo : Int} {n i : Nat} {x : D} (h : (rangeD lo n)[i]? = some x) : i < n ∧ x = .int (lo + (i : Nat)) := by
  unfold rangeD at h
  have hi : i < n := by have := (List.getElem?_eq_some_iff.mp h).1; simpa using this
  rw [List.getElem?_map, List.getElem?_range hi] at h
  exact ⟨hi, (Option.some.inj h).symm⟩
theorem range_len {lo : Int} {n : Nat} : (rangeD lo n).length = n := by simp [rangeD]
theorem map_get {α : Type} {f : α → D} {l : List α} {i : Nat} {x : D} (h : (l.map f)[i]? = some x) : ∃ y, l[i]? = some y ∧ x = f y := by
  rw [List.getElem?_map] at h
  cases e : l[i]? with
  | none => rw [e] at h; cases h
  | some y => rw [e] at h; exact ⟨y, rfl, (Option.some.inj h).symm⟩
theorem enum_get {ds : List D} {i : Nat} {x : D} (h : (enumD ds)[i]? = some x) : ∃ y, ds[i]? = some y ∧ x = .tup [.int (i : Nat), y] := by
  unfold enumD at h
  have hi : i < ds.length := by have := (List.getElem?_eq_some_iff.mp h).1; simpa using this
  rw [List.getElem?_map, List.getElem?_range hi] at h
  refine ⟨ds[i], by simp [hi], ?_⟩
  rw [← Option.some.inj h]
  simp [hi]
theorem enum_len {ds : List D} : (enumD ds).length = ds.length := by simp [enumD]
theorem at_map {α : Type} {f : α → D} {l : List α} {i : Int} (h0 : 0 ≤ i) (h1 : i < l.length) : ∃ y, l[i.toNat]? = some y ∧ atI (l.map f) i = some (f y) := by
  have hl : i.toNat < l.length := by omega
  refine ⟨l[i.toNat], by simp [hl], ?_⟩
  obtain ⟨j, rfl⟩ : ∃ j : Nat, i = (j : Int) := ⟨i.toNat, by omega⟩
  exact atI_nat (by rw [List.getElem?_map]; simp at hl ⊢; simp [hl])
theorem at_mapN {α : Type} {f : α → D} {l : List α} {j : Nat} {y : α} (h : l[j]? = some y) : atI (l.map f) (j : Int) = some (f y) := atI_nat (by rw [List.getElem?_map, h]; rfl)
theorem ixN_nat' {n j : Nat} (h : j < n) : ixN n (j : Int) = some j := by
  unfold ixN
  rw [if_pos (by omega), if_pos (by omega)]
  simp
abbrev pD (p : Int × Int) : D := .tup [.int p.1, .int p.2]
abbrev tD (p : Int × Int × Int) : D := .tup [.int p.1, .int p.2.1, .int p.2.2]
/-! ### sorted -/
theorem de_sorted {p : Pos} {r : List V → Hp → VK → Prop} (hr : CallR X (.builtin "sorted") r) (g : Gn X "sorted") (h : DA B X [a] δ M fun ds M1 => CallD r ds M1 Φ) (he : starEach [a] X.env = (false, eval a X.env) :: starEach [] X.env := by rfl) (hpl : (backTo pos (starEach [] X.env)).any (·.1) = false := by rfl) : DE B X (.Call (.Name "sorted" p) [a] [] pos) δ M Φ := de_blt hr g PyProof.Rows.boot_sorted h (by decide) (by decide) he hpl
/-! ### sum, list -/
theorem de_sum {n : Nat} (z : Cz X n) {p : Pos} (g : Gn X "sum") (h : DA B X [a] δ M fun ds M1 => CallD (rSum X.K) ds M1 Φ) (he : starEach [a] X.env = (false, eval a X.env) :: starEach [] X.env := by rfl) (hpl : (backTo pos (starEach [] X.env)).any (·.1) = false := by rfl) : DE B X (.Call (.Name "sum" p) [a] [] pos) δ M Φ := de_blt (cr_sum z.calm) g PyProof.Rows.boot_sum h (by decide) (by decide) he hpl
theorem cd_sum {K : PySem.W.Frag} {ns : List Int} (h : IsL M x (ns.map .int)) (k : Φ (.int ns.sum) M) : CallD (rSum K) [x] M Φ := fun κ δ σ H vs Q R rs f => by
  cases rs with
  | cons r1 r2 =>
    cases r2
    obtain ⟨a, us, rfl, e1, rr⟩ := h.sq R r1
    have := rr.ints
    subst this
    exact ⟨a, ns, rfl, SqL.of e1, f _ _ _ _ k R (.int _)⟩
theorem df_list {p : Pos} {ds : List D} (g : Gn X "list") (h : DE B X a δ M fun x M1 => ∃ ds, IsL M1 x ds ∧ ΦL ds M1) (he : starEach [a] X.env = (false, eval a X.env) :: starEach [] X.env := by rfl) (hpl : (backTo pos (starEach [] X.env)).any (·.1) = false := by rfl) : DF B X (.Call (.Name "list" p) [a] [] pos) δ M ΦL :=
  .of (pe_callTy call_list_of g.gl g.no PyProof.Rows.boot_list (pa_cons cE pa_nil he) (by decide) (by decide) he hpl) fun κ σ H Q hb R k => h κ σ H _ hb R fun v x M1 H1 ⟨ds, il, q⟩ R1 r1 => by
    obtain ⟨a, us, rfl, e1, rr⟩ := il.sq R1 r1
    exact ⟨a, us, rfl, .inl (SqL.of e1), fun l hl => k l ds M1 _ q (R1.lst rr hl)⟩
theorem de_list {p : Pos} (g : Gn X "list") (h : DE B X a δ M fun x M1 => ∃ ds, IsL M1 x ds ∧ Φ (.lst ds) M1) (he : starEach [a] X.env = (false, eval a X.env) :: starEach [] X.env := by rfl) (hpl : (backTo pos (starEach [] X.env)).any (·.1) = false := by rfl) : DE B X (.Call (.Name "list" p) [a] [] pos) δ M Φ := .f (df_list (ds := []) g h he hpl)
/-! isinstance of what is known -/
theorem isi_ii {K : PySem.W.Frag} {i : Int} (k : Φ (.bl true) M) : CallD (rIsi K) [.int i, .raw (.ty "int")] M Φ := cd_isi (S := "int") rfl (by decide +kernel) k
theorem isi_ib {K : PySem.W.Frag} {i : Int} (k : Φ (.bl false) M) : CallD (rIsi K) [.int i, .raw (.ty "bool")] M Φ := cd_isi (S := "int") rfl (by decide +kernel) k
theorem isi_bb {K : PySem.W.Frag} {i : Bool} (k : Φ (.bl true) M) : CallD (rIsi K) [.bl i, .raw (.ty "bool")] M Φ := cd_isi (S := "bool") rfl (by decide +kernel) k
theorem isi_bi {K : PySem.W.Frag} {i : Bool} (k : Φ (.bl true) M) : CallD (rIsi K) [.bl i, .raw (.ty "int")] M Φ := cd_isi (S := "bool") rfl (by decide +kernel) k
theorem isi_ll {K : PySem.W.Frag} {ds : List D} (k : Φ (.bl true) M) : CallD (rIsi K) [.lst ds, .raw (.ty "list")] M Φ := cd_isi (S := "list") rfl (by decide +kernel) k
theorem isi_tt {K : PySem.W.Frag} {ds : List D} (k : Φ (.bl true) M) : CallD (rIsi K) [.tup ds, .raw (.ty "tuple")] M Φ := cd_isi (S := "tuple") rfl (by decide +kernel) k
theorem isi_nb {K : PySem.W.Frag} (k : Φ (.bl false) M) : CallD (rIsi K) [.non, .raw (.ty "bool")] M Φ := cd_isi (S := "NoneType") rfl (by decide +kernel) k
theorem isi_ni {K : PySem.W.Frag} (k : Φ (.bl false) M) : CallD (rIsi K) [.non, .raw (.ty "int")] M Φ := cd_isi (S := "NoneType") rfl (by decide +kernel) k
theorem isi_nt {K : PySem.W.Frag} (k : Φ (.bl false) M) : CallD (rIsi K) [.non, .raw (.ty "tuple")] M Φ := cd_isi (S := "NoneType") rfl (by decide +kernel) k
/-! the same lists of pairs, triples -/
theorem okDs_map {α : Type} {f : α → D} (h : ∀ x, okD (f x) = true) : ∀ (l : List α), okDs (l.map f) = true
  | [] => rfl
  | x :: l => by show (okD (f x) && okDs (l.map f)) = true; rw [h x, okDs_map h l]; rfl
theorem depth_map {α : Type} {f : α → D} {n : Nat} (h : ∀ x, (toPy (f x)).depth ≤ n) : ∀ (l : List α), PyData.depthAll (toPys (l.map f)) ≤ n
  | [] => Nat.zero_le _
  | x :: l => by
    show max (toPy (f x)).depth (PyData.depthAll (toPys (l.map f))) ≤ n
    exact Nat.max_le.mpr ⟨h x, depth_map h l⟩
theorem okE_map {α : Type} {f : α → D} (h1 : ∀ x, okD (f x) = true) (h2 : ∀ x, (toPy (f x)).depth ≤ 63) (l : List α) : okE (.lst (l.map f)) = true := by
  show (okDs (l.map f) && decide (PyData.depthAll (toPys (l.map f)) + 1 ≤ 64)) = true
  rw [okDs_map h1 l, decide_eq_true (by have := depth_map h2 l; omega)]; rfl
theorem okE_triples (ps : List (Int × Int × Int)) : okE (.lst (ps.map tD)) = true := okE_map (fun _ => rfl) (fun _ => by show 1 ≤ 63; decide) ps
theorem len_and {xs : List D} {P : Prop} (h : xs.length ≤ sizeLine) (k : P) : xs.length ≤ sizeLine ∧ P := ⟨h, k⟩
/-- a comprehension over typed data without effects -/
theorem LcH.pureT {α β : Type} {scope : Scope} {elt : Expr} {ifs : List Expr} {own : List (Str × Nat)} {tk : Tk} {k : Nat} (l : List α) (f : α → D) (G : α → Option β) (g : β → D) (hl : l.length ≤ sizeLine)
    (h : ∀ (p : Addr) acc a, a ∈ l → ∃ δ2, bindK tk (f a) (wipeD δ (own.map (·.2))) = some δ2 ∧ Turn1 B X scope elt ifs δ2 (insM k (p, .lst acc) M) fun od M2 => od = (G a).map g ∧ M2 = insM k (p, .lst acc) M)
    (q : ΦL ((l.filterMap G).map g) M) : LcH k B X scope elt ifs own tk δ (l.map f) M ΦL := by
  refine ⟨fun i acc M1 => M1 = M ∧ acc = ((l.take i).filterMap G).map g ∧ acc.length ≤ i, ⟨rfl, rfl, Nat.le_refl _⟩, ?_, ?_⟩
  · rintro p i x acc M1 hx ⟨rfl, ha, hal⟩
    obtain ⟨a, ea, rfl⟩ := map_get hx
    have hi : i < l.length := (List.getElem?_eq_some_iff.mp ea).1
    obtain ⟨δ2, e1, tu⟩ := h p acc a (List.mem_of_getElem? ea)
    have fin : ∀ (od : Option D) M2, od = (G a).map g ∧ M2 = insM k (p, .lst acc) M1 → ∃ M3, M2 = insM k (p, .lst acc) M3 ∧ M3 = M1 ∧ acc ++ od.toList = ((l.take (i + 1)).filterMap G).map g ∧ (acc ++ od.toList).length ≤ i + 1 := by
      rintro od M2 ⟨rfl, rfl⟩
      refine ⟨M1, rfl, rfl, ?_, ?_⟩
      · rw [List.take_add_one, ea, List.filterMap_append, List.map_append, ← ha]
        cases e : G a <;> simp [e]
      · rw [List.length_append]
        cases G a <;> simp <;> omega
    refine ⟨by omega, δ2, e1, ?_⟩
    unfold Turn1 at tu ⊢
    match ifs, tu with
    | [], tu => exact fun X' bk => (tu X' bk).mono fun d M2 q => fin _ _ q
    | [c], tu => exact fun X' bk => (tu X' bk).mono fun t M2 q => ⟨fun e X2 bk2 => (q.1 e X2 bk2).mono fun d M3 q => fin _ _ q, fun e => fin _ _ (q.2 e)⟩
    | _ :: _ :: _, tu => exact tu.elim
  · rintro acc M1 ⟨rfl, rfl, _⟩
    rw [List.length_map, List.take_length]
    exact q
theorem LcH.mapT {α β : Type} {scope : Scope} {elt : Expr} {own : List (Str × Nat)} {tk : Tk} {k : Nat} (l : List α) (f : α → D) (G : α → β) (g : β → D) (hl : l.length ≤ sizeLine)
    (h : ∀ (p : Addr) acc a, a ∈ l → ∃ δ2, bindK tk (f a) (wipeD δ (own.map (·.2))) = some δ2 ∧ ∀ X', Bk X X' scope → DE B X' elt δ2 (insM k (p, .lst acc) M) fun d M2 => d = g (G a) ∧ M2 = insM k (p, .lst acc) M)
    (q : ΦL ((l.map G).map g) M) : LcH k B X scope elt [] own tk δ (l.map f) M ΦL := by
  refine LcH.pureT l f (fun a => some (G a)) g hl (fun p acc a ha => ?_) (by rw [List.filterMap_eq_map']; exact q)
  obtain ⟨δ2, e, tu⟩ := h p acc a ha
  exact ⟨δ2, e, fun X' bk => (tu X' bk).mono fun d M2 ⟨e1, e2⟩ => ⟨by rw [e1]; rfl, e2⟩⟩
end
end Hl
namespace Hl
open PySem L2
open PyProof.Rows hiding St
/-! ### enumerate(tuple) -/
section
variable {B : Bx} {X : Cx} {e a b c o : Expr} {es rest : List Expr} {st : Stmt} {sts : List Stmt} {δ δ' : Env'} {M : Mem} {Φ : D → Mem → Prop} {Ψ : DEnds} {te ta tb : TE} {tt : TT} {pos pos' apos : Pos} {d x y : D} {ΦB : Bool → Mem → Prop} {ΦL : List D → Mem → Prop}
/-! ### in, not in, of lists of texts or numbers -/
/-! ### slices -/
def DPt (B : Bx) (X : Cx) : Option Expr → Env' → Mem → (Option Int → Mem → Prop) → Prop
  | none, _, M, Φ => Φ none M
  | some e, δ, M, Φ => DE B X e δ M fun d M' => ∃ i, d = .int i ∧ Φ (some i) M'
def cutD {α : Type} (xs : List α) (lo hi : Option Int) : List α := (xs.drop (HT.sIx xs.length 0 lo)).take (HT.sIx xs.length xs.length hi - HT.sIx xs.length 0 lo)
def SlD (x : D) (lo hi : Option Int) (M : Mem) (Φ : D → Mem → Prop) : Prop := (∃ z : Str, x = .str z ∧ z.length ≤ sizeLine ∧ Φ (.str (cutS z lo hi)) M) ∨ (∃ ds, IsL M x ds ∧ Φ (.lst (cutD ds lo hi)) M)
def rSlU (K : PySem.W.Frag) : V → Option Int → Option Int → Hp → VK → Prop := fun x lo hi H Q => rSlS x lo hi H Q ∨ rSlL K x lo hi H Q
theorem sl_U : SlR X (rSlU X.K) := sl_str.or sl_list
def tPt (X : Cx) : Option Expr → TO
  | none => tNoPart
  | some e => tPart (tE X e)
theorem po_pt : ∀ {e : Option Expr}, PO X e (tPt X e)
  | none => po_none
  | some e => po_some cE
theorem DPt.run {e : Option Expr} {Φ : Option Int → Mem → Prop} (h : DPt B X e δ M Φ) {κ : List (V × D)} {σ : St} {H : Hp} {Q : Option Int → Hp → Prop} (hb : ∀ q ∈ B.ps, q ∈ κ) (R : Rs κ δ M σ H) (k : ∀ o M' H', Φ o M' → Rs κ δ M' σ H' → Q o H') : tPt X e σ H Q := by
  cases e with
  | none => exact k none M H h R
  | some e =>
    refine h κ σ H _ hb R fun v d M' H' ⟨i, ed, q⟩ R' r' => ?_
    subst ed
    cases r'
    exact ⟨i, rfl, k _ _ _ q R'⟩
theorem Reps.cut {F : List Addr} {H : Hp} {vs : List V} {ds : List D} (r : Reps F H vs ds) (i : Nat) : Reps F H (vs.take i) (ds.take i) ∧ Reps F H (vs.drop i) (ds.drop i) := by
  induction i generalizing vs ds with
  | zero => exact ⟨by rw [List.take_zero, List.take_zero]; exact .nil, r⟩
  | succ i ih =>
    cases r with
    | nil => exact ⟨.nil, .nil⟩
    | cons r1 r2 => exact ⟨.cons r1 (ih r2).1, (ih r2).2⟩
theorem de_slice {lo hi : Option Expr} {p2 : Pos} (h : DE B X a δ M fun x M1 => DPt B X lo δ M1 fun l M2 => DPt B X hi δ M2 fun u M3 => SlD x l u M3 Φ) : DE B X (.Subscript a (.Slice lo hi none p2) pos) δ M Φ :=
  .of (pe_slice sl_U cE po_pt po_pt) fun κ σ H Q hb R k => h κ σ H _ hb R fun v x M1 H1 q1 R1 r1 =>
    q1.run (κ := (v, x) :: κ) (fun q hq => List.mem_cons_of_mem _ (hb q hq)) (R1.push r1) fun l M2 H2 q2 R2 =>
    q2.run (κ := (v, x) :: κ) (fun q hq => List.mem_cons_of_mem _ (hb q hq)) R2 fun u M3 H3 q3 R3 => by
      have rx := R3.top
      rcases q3 with ⟨z, rfl, hz, q⟩ | ⟨ds, il, q⟩
      · cases rx
        exact .inl ⟨z, rfl, hz, k _ _ _ _ q R3.pop (.str _)⟩
      · obtain ⟨p, us, rfl, e1, rr⟩ := il.sq R3.pop rx
        refine .inr ⟨p, us, rfl, SqL.of e1, fun p hp => ?_⟩
        have hc : Reps M3.F H3 (cutV us l u) (cutD ds l u) := by
          unfold cutV cutD
          rw [rr.length]
          exact (((Reps.cut rr _).2).cut _).1
        obtain ⟨R', r'⟩ := R3.pop.lstV hc hp
        exact k _ _ _ _ q R' r'
theorem SlD.str {z : Str} {l u : Option Int} (hz : z.length ≤ sizeLine) (k : Φ (.str (cutS z l u)) M) : SlD (.str z) l u M Φ := .inl ⟨z, rfl, hz, k⟩
theorem SlD.lst {ds : List D} {l u : Option Int} (h : IsL M x ds) (k : Φ (.lst (cutD ds l u)) M) : SlD x l u M Φ := .inr ⟨ds, h, k⟩
theorem DPt.no {Φ : Option Int → Mem → Prop} (k : Φ none M) : DPt B X none δ M Φ := k
theorem DPt.so {Φ : Option Int → Mem → Prop} (k : DE B X e δ M fun d M' => ∃ i, d = .int i ∧ Φ (some i) M') : DPt B X (some e) δ M Φ := k
/-! ### tuple(list) -/
theorem de_tuple {p : Pos} (g : Gn X "tuple") (h : DE B X a δ M fun x M1 => ∃ ds, IsL M1 x ds ∧ Φ (.tup ds) M1) (he : starEach [a] X.env = (false, eval a X.env) :: starEach [] X.env := by rfl) : DE B X (.Call (.Name "tuple" p) [a] [] pos) δ M Φ :=
  .of (pe_tupleOf g.gl g.no cE he) fun κ σ H Q hb R k => h κ σ H _ hb R fun v x M1 H1 ⟨ds, il, q⟩ R1 r1 => by
    obtain ⟨a, us, rfl, e1, rr⟩ := il.sq R1 r1
    refine .inl ⟨a, us, rfl, SqL.of e1, fun q' hq => ?_⟩
    obtain ⟨R', r'⟩ := R1.tupV rr hq
    exact k _ _ _ _ q R' r'
end
end Hl
namespace Hl
open PySem L2
open PyProof.Rows hiding St
/-! ### max(xs, default=d), min(xs), all(xs), sorted triples -/
def rMaxDef (K : PySem.W.Frag) : List V → List V → Hp → VK → Prop := fun vs zs H Q => ∃ (a : Addr) (ns : List Int) (d : Int), vs = [V.ref a] ∧ zs = [.int d] ∧ SqL K H a (ns.map V.int) ∧ (ns = [] → Q (.int d) H) ∧ ∀ m, m ∈ ns → (∀ y, y ∈ ns → y ≤ m) → Q (.int m) H
theorem foldmax (n : Int) (ns : List Int) : ns.foldl max n ∈ n :: ns ∧ ∀ y, y ∈ n :: ns → y ≤ ns.foldl max n := by
  induction ns generalizing n with
  | nil => exact ⟨List.mem_cons_self, fun y hy => by have : y = n := by simpa using hy
                                                     subst this; exact Int.le_refl _⟩
  | cons k ns ih =>
    obtain ⟨h1, h2⟩ := ih (max n k)
    rw [List.foldl_cons]
    refine ⟨?_, fun y hy => ?_⟩
    · rcases List.mem_cons.mp h1 with e | e
      · rw [e]
        rcases Int.le_total n k with q | q
        · rw [Int.max_eq_right q]; simp
        · rw [Int.max_eq_left q]; simp
      · exact List.mem_cons_of_mem _ (List.mem_cons_of_mem _ e)
    · have hm := h2 (max n k) List.mem_cons_self
      rcases List.mem_cons.mp hy with e | e
      · subst e; omega
      · rcases List.mem_cons.mp e with e | e
        · subst e; omega
        · exact h2 y (List.mem_cons_of_mem _ e)
theorem cr_maxDef {X : Cx} (hc : X.calm = true) (hu : X.A.units + 64 < cLine) : CallRK X (.builtin "max") [Str.ofString "default"] (rMaxDef X.K) := by
  intro pins s σ H vs zs us ws Q I r rz h
  obtain ⟨a, ns, d, rfl, rfl, hs, q0, q⟩ := h
  obtain ⟨its, rv, hl, _⟩ := I.list hs
  rw [Vals.ref1 r]
  cases rz with
  | cons r1 r2 =>
    cases r2
    obtain ⟨t, rfl⟩ := r1
    have hi := rv.ints
    have hr : ReadsAll s.heap its.toArray.toList (ns.map PyData.int) [] := by simpa using PySem.W.readsAll_of_ints hi
    have hd : PyData.depthAll (ns.map PyData.int) = 0 := by
      have : ∀ ns : List Int, PyData.depthAll (ns.map PyData.int) = 0 := fun ns => by
       induction ns with
       | nil => rfl
       | cons n ns ih => show max 0 _ = 0; rw [ih]; rfl
      exact this ns
    refine PySem.W.max_list_default (xs := ns.map PyData.int) (I.ok.hd hc) hl.isList hr ⟨fun x hx y hy => ?_, fun x hx => ?_⟩ (by rw [hd]; omega) (fun e h' tk hk => ?_) fun y ys i v h' tk bs e hv hrd hk => ?_
    · obtain ⟨n, _, rfl⟩ := List.mem_map.mp hx
      obtain ⟨m, _, rfl⟩ := List.mem_map.mp hy
      rfl
    · obtain ⟨n, _, rfl⟩ := List.mem_map.mp hx
      exact fun e => nomatch e
    · exact ⟨.int d, H, I.kept hk, ⟨_, rfl⟩, q0 (List.map_eq_nil_iff.mp e)⟩
    · cases ns with
      | nil => cases e
      | cons n ns =>
        rw [List.map_cons] at e
        cases e
        rw [PySem.W.maxD_ints] at hrd
        obtain ⟨h1, h2⟩ := foldmax n ns
        cases hrd
        exact ⟨.int _, H, I.kept hk, ⟨_, rfl⟩, q _ h1 h2⟩
section
variable {B : Bx} {X : Cx} {e a b c o : Expr} {es rest : List Expr} {st : Stmt} {sts : List Stmt} {δ δ' : Env'} {M : Mem} {Φ : D → Mem → Prop} {Ψ : DEnds} {te ta tb : TE} {tt : TT} {pos pos' apos kpos : Pos} {d x y : D} {ΦB : Bool → Mem → Prop} {ΦL : List D → Mem → Prop}
theorem de_maxDef {p : Pos} {n : Nat} {kws : List Keyword} (z : Cz X n) (g : Gn X "max") (h : DE B X a δ M fun x M1 => DK B X kws δ M1 fun ds M2 => ∃ ns d, IsL M2 x (ns.map .int) ∧ ds = [.int d] ∧ (ns = [] → Φ (.int d) M2) ∧ ∀ m, m ∈ ns → (∀ y, y ∈ ns → y ≤ m) → Φ (.int m) M2)
    (hu : X.A.units + 64 < cLine) (he : starEach [a] X.env = (false, eval a X.env) :: starEach [] X.env := by rfl) (he2 : backTo pos (starEach [a] X.env) = (false, eval a X.env) :: backTo pos (starEach [] X.env) := by rfl) (hpl : (backTo pos (starEach [a] X.env)).any (·.1) = false := by rfl)
    (hall : (backToKw pos (keywordEach kws X.env)).all (·.1.isSome) = true := by rfl) (hnone : (backToKw pos (keywordEach kws X.env)).any (·.1.isNone) = false := by rfl) (hks : (backToKw pos (keywordEach kws X.env)).filterMap (·.1) = [Str.ofString "default"] := by rfl) : DE B X (.Call (.Name "max" p) [a] kws pos) δ M Φ :=
  .of (pe_callBK (cr_maxDef z.calm hu) g.gl g.no boot_max (pa_cons cE pa_nil he) cK (by decide) (by decide) he2 hpl hall hnone hks) fun κ σ H Q hb R k => h κ σ H _ hb R fun v x M1 H1 q1 R1 r1 =>
    q1 ((v, x) :: κ) σ H1 _ (fun q hq => List.mem_cons_of_mem _ (hb q hq)) (R1.push r1) fun ws ds M2 H2 ⟨ns, d, il, ed, k0, k1⟩ R2 r2 => by
      subst ed
      obtain ⟨a, us, rfl, e1, rr⟩ := il.sq R2.pop R2.top
      have := rr.ints
      subst this
      cases r2 with
      | cons r2 r3 =>
        cases r3
        cases r2
        exact ⟨a, ns, d, rfl, rfl, SqL.of e1, fun e => k _ _ _ _ (k0 e) R2.pop (.int _), fun m h1 h2 => k _ _ _ _ (k1 m h1 h2) R2.pop (.int _)⟩
theorem de_minL {n : Nat} (z : Cz X n) {p : Pos} (g : Gn X "min") (h : DA B X [a] δ M fun ds M1 => CallD (rMin X.K) ds M1 Φ) (he : starEach [a] X.env = (false, eval a X.env) :: starEach [] X.env := by rfl) (hpl : (backTo pos (starEach [] X.env)).any (·.1) = false := by rfl) : DE B X (.Call (.Name "min" p) [a] [] pos) δ M Φ := de_blt (cr_min z.calm) g boot_min h (by decide) (by decide) he hpl
theorem de_maxL {n : Nat} (z : Cz X n) {p : Pos} (g : Gn X "max") (h : DA B X [a] δ M fun ds M1 => CallD (rMax X.K) ds M1 Φ) (he : starEach [a] X.env = (false, eval a X.env) :: starEach [] X.env := by rfl) (hpl : (backTo pos (starEach [] X.env)).any (·.1) = false := by rfl) : DE B X (.Call (.Name "max" p) [a] [] pos) δ M Φ := de_blt (cr_max z.calm) g boot_max h (by decide) (by decide) he hpl
theorem cd_maxL {K : PySem.W.Frag} {ns : List Int} (h : IsL M x (ns.map .int)) (hne : ns ≠ []) (k : ∀ m, m ∈ ns → (∀ y, y ∈ ns → y ≤ m) → Φ (.int m) M) : CallD (rMax K) [x] M Φ := fun κ δ σ H vs Q R rs f => by
  cases rs with
  | cons r1 r2 =>
    cases r2
    obtain ⟨a, us, rfl, e1, rr⟩ := h.sq R r1
    have := rr.ints
    subst this
    exact ⟨a, ns, rfl, SqL.of e1, List.length_pos_iff.mpr hne, fun m h1 h2 => f _ _ _ _ (k m h1 h2) R (.int _)⟩
theorem reps_bls {F : List Addr} {H : Hp} : ∀ {vs : List V} {zs : List Bool}, Reps F H vs (zs.map .bl) → vs = zs.map .bl
  | _, [], r => by cases r; rfl
  | _, z :: zs, r => by
    cases r with
    | cons r1 r2 => cases r1; rw [reps_bls r2]; rfl
theorem de_all {n : Nat} (z : Cz X n) {p : Pos} (g : Gn X "all") (h : DA B X [a] δ M fun ds M1 => CallD (rAll X.K) ds M1 Φ) (he : starEach [a] X.env = (false, eval a X.env) :: starEach [] X.env := by rfl) (hpl : (backTo pos (starEach [] X.env)).any (·.1) = false := by rfl) : DE B X (.Call (.Name "all" p) [a] [] pos) δ M Φ := de_blt (cr_all z.calm) g boot_all h (by decide) (by decide) he hpl
theorem cd_all {K : PySem.W.Frag} {bs : List Bool} (h : IsL M x (bs.map .bl)) (k : Φ (.bl (bs.all id)) M) : CallD (rAll K) [x] M Φ := fun κ δ σ H vs Q R rs f => by
  cases rs with
  | cons r1 r2 =>
    cases r2
    obtain ⟨a, us, rfl, e1, rr⟩ := h.sq R r1
    have := reps_bls rr
    subst this
    exact ⟨a, bs, rfl, SqL.of e1, f _ _ _ _ k R (.bl _)⟩
end
end Hl
namespace Hl
open PySem PySem.Spec L2
open PyProof.Rows hiding St
/-! ### sorted(set(xs)), xs a list of ints -/
abbrev emptySet (w : World) : Obj := { cls := .type "set", dict := none, data := .set #[] 0 (.fresh 0 0 (!w.params.followText "set-order")) }
section
variable {P : Program} {w : World} {A : Around} {E : Value → Shared → Prop} {s : Shared}
theorem call_set_listI {l : Addr} {items : Array Value} (ns : List Int) {Q : Value → Shared → Prop} (hh : A.handled = none) (hl : s.heap.IsList l items) (hit : IntsAre items.toList ns) (hb : ns.length + 1 < scanBound)
    (h : ∀ (h' : Heap) (tk c : Nat), SetR w h' s.heap.objs.size (fun j => decide (j ∈ ns)) c → c ≤ ns.length → (∀ b o, s.heap.get? b = some o → h'.get? b = some o) → Q (.ref s.heap.objs.size) { s with heap := h', toks := tk }) :
    wpAny (model P w) A (call (.type "set") [.ref l]) Q E s := by
  have hn : items.size = ns.length := by have := IntsAre.length hit; rwa [Array.length_toList] at this
  obtain ⟨c, tl, hmro⟩ := F.called_set.mro
  have hmade := F.called_set.made
  have hsub := F.called_set.sub
  refine wpAny_call (codeAny_of_tree ?_)
  show wpAny _ _ (callAny (.type "set") _) _ _ _
  refine wpAny_pure ⟨Code.quiet_builtin _ (by decide +kernel), codeAny_builtin F.entry_type_call ?_⟩
  rw [Around.under_plain (weight_type_call_type "set" [.ref l] []) rfl]
  have h1 := F.called_set.notType
  have h2 := F.called_set.canCreate
  have hct := F.typeCall_set_1 (.ref l)
  repeat (any_goals (first | assumption | wp_step))
  refine codeAny_mono (code_set_led1 (.ref l) (E := E) (Q₁ := fun obj s₁ => obj = .ref s.heap.objs.size ∧ s₁ = { s with heap := s.heap.push (emptySet w) }) ⟨rfl, rfl⟩) fun r s₁ hr => ?_
  cases r with
  | error e => exact hr
  | ok fl =>
    cases fl with
    | ret obj =>
      obtain ⟨rfl, rfl⟩ := hr
      have hS : (s.heap.push (emptySet w)).get? s.heap.objs.size = some (emptySet w) := Heap.get?_push_size _ rfl
      have hT : Shared.TypeIs { s with heap := s.heap.push (emptySet w) } (.ref s.heap.objs.size) "set" := ⟨_, hS, rfl⟩
      have hli := F.called_set.init.lookup
      have hbi := F.called_set.init.bind (.ref s.heap.objs.size)
      repeat (any_goals (first | assumption | wp_step))
      refine codeAny_mono (codeAny_call_builtin (R := wants (fun r s₂ => r = .none ∧ ∃ h' tk c, s₂ = { s with heap := h', toks := tk } ∧ SetR w h' s.heap.objs.size (fun j => decide (j ∈ ns)) c ∧ c ≤ ns.length ∧
          (∀ b o, s.heap.get? b = some o → h'.get? b = some o)) E) F.called_set.init.plain F.entry_set_init (check_set_init_1 hT ?_)) fun r₂ s₂ hr₂ => ?_
      · obtain ⟨⟨ocls, odict, odata, oslots⟩, hol, hcl, nl, hdl⟩ := hl
        simp only at hcl hdl
        subst hcl; subst hdl
        have hol' : (s.heap.push (emptySet w)).get? l = some { cls := .type "list", dict := odict, data := .seq items nl, slots := oslots } := Heap.get?_push_of_some _ hol
        have hsls := F.sub_list_set
        have hslf := F.sub_list_frozenset
        have hne : (Value.type "list" == Value.type "dict") = false := by decide
        have hl1 : (s.heap.push (emptySet w)).IsList l items := ⟨_, hol', rfl, nl, rfl⟩
        unfold Builtin.«set.__init__» noKeywords Builtin.Frozenset.updateFrom
        generalize hPI : pyIter = PI
        wp_walk
        subst hPI
        refine wpAny_pyIter_list hl1 (wpAny_bind (wpAny_runValue ?_))
        have hlS : l < s.heap.objs.size := Heap.lt_size hol
        have hh3 : A.in1.in1.in1.handled = none := by simp [hh]
        have hneI : l ≠ (s.heap.push (emptySet w)).objs.size := by rw [Heap.size_push]; exact Nat.ne_of_lt (Nat.lt_succ_of_lt hlS)
        have hSf : s.heap.objs.size ∉ [(s.heap.push (emptySet w)).objs.size, l] := by
          rw [Heap.size_push]
          simp only [List.mem_cons, List.not_mem_nil, or_false, not_or]
          exact ⟨Nat.ne_of_lt (Nat.lt_succ_self _), Nat.ne_of_gt hlS⟩
        have hval : ∀ (i : Nat) (v : Value), items[i]? = some v → ∃ k t, ns[i]? = some k ∧ v = .int k t := fun i v hv => by
          have hi : i < ns.length := by rw [← hn]; exact (Array.getElem?_eq_some_iff.mp hv).1
          obtain ⟨t, e⟩ := IntsAre.int_at hit i v (by rw [Array.getElem?_toList]; exact hv)
          refine ⟨ns[i], t, List.getElem?_eq_getElem hi, ?_⟩
          rw [e, List.getD_eq_getElem?_getD, List.getElem?_eq_getElem hi]; rfl
        refine set_update_ints ((Walks.list hh3 _ l hneI items).toS) s.heap.objs.size hSf ns hn hb hval (items.size - 0) 0 _ (by omega) (Nat.zero_le _)
          ⟨⟨_, Heap.get?_push_size _ rfl, rfl, rfl⟩, hl1.push _⟩ ⟨0, Nat.le_refl 0, setR_new_at (Heap.get?_push_of_some _ hS)⟩ fun s' c' hm hc' hS' => ?_
        obtain ⟨h', g2, d', tk', os'⟩ := s'
        have eg : g2 = s.gens := hm.gens
        have ed : d' = s.drawn := hm.drawn
        have eo : os' = s.os := hm.os
        subst eg; subst ed; subst eo
        show wpAny _ _ _ _ _ _
        refine wpAny_pure ?_
        show wpAny _ _ (ret Value.none) _ _ _
        rw [hn] at hc'
        refine wpAny_pure ⟨rfl, h', tk', c', rfl, hS', hc', fun b o e => ?_⟩
        have hb0 : b < s.heap.objs.size := Heap.lt_size e
        refine hm.heap b o ?_ (Heap.get?_push_of_some _ (Heap.get?_push_of_some _ e))
        rw [Heap.size_push]
        simp only [List.mem_cons, List.not_mem_nil, or_false, not_or]
        exact ⟨Nat.ne_of_lt hb0, Nat.ne_of_lt (Nat.lt_succ_of_lt hb0)⟩
      · cases r₂ with
        | error e => exact hr₂
        | ok fl₂ =>
          cases fl₂ with
          | ret r =>
            obtain ⟨rfl, h', tk, c', rfl, hS', hc', hk'⟩ := hr₂
            repeat (any_goals (first | assumption | wp_step))
            exact h _ _ _ hS' hc' hk'
          | _ => exact hr₂.elim
    | _ => exact hr.elim
end
def rSetL (K : PySem.W.Frag) (w : World) : List V → Hp → VK → Prop := fun xs H Q => ∃ (l : Addr) (ns : List Int), xs = [V.ref l] ∧ SqL K H l (ns.map V.int) ∧ ns.length ≤ 1000 ∧ ∀ p c, H p = none → c ≤ ns.length → Q (.ref p) (upd H p (SetO w p (fun j => decide (j ∈ ns)) c))
end Hl
namespace Hl
open PySem L2
open PyProof.Rows hiding St
/-! ### exceptions in the air, by data -/
def XRep (F : List Addr) (H : Hp) (dx : Option Addr) (ns : List Str) (ds : List D) : Prop :=
  (dx = none ∧ ns = [] ∧ ds = []) ∨ ∃ d vs, dx = some d ∧ d ∉ F ∧ H d = some (.xd (ns.zip vs)) ∧ ns.length = vs.length ∧ Reps F H vs ds
theorem XRep.fwd {F F' : List Addr} {H H' : Hp} {dx : Option Addr} {ns : List Str} {ds : List D} (h : XRep F H dx ns ds) (k : Fwd F H F' H') : XRep F' H' dx ns ds := by
  rcases h with h | ⟨d, vs, e, hn, hd, hl, r⟩
  · exact .inl h
  · exact .inr ⟨d, vs, e, (k _ _ hn hd (fun _ z => nomatch z)).1, (k _ _ hn hd (fun _ z => nomatch z)).2, hl, r.fwd k⟩
theorem XRep.held {F : List Addr} {H : Hp} {dx : Option Addr} {ns : List Str} {ds : List D} {a C : Addr} (h : XRep F H dx ns ds) (hn : a ∉ F) (hf : H a = none) : Rep F (upd H a (XO (.ref C) dx a)) (.ref a) (.exn C ns ds) := by
  rcases h with ⟨rfl, rfl, rfl⟩ | ⟨d, vs, rfl, hd, e, hl, r⟩
  · exact .exn0 hn upd_same
  · exact .exn hn upd_same hd (by rw [upd_ne (ne_of_none e hf)]; exact e) hl (r.fwd (Fwd.new hf))
/-- what is wished of an exception, by data -/
def wishX (B : Bx) : WX := fun cls dx σ H => ∃ C ns ds δ M κ, cls = .ref C ∧ B.ex C ns ds δ M ∧ (∀ q ∈ B.ps, q ∈ κ) ∧ Rs κ δ M σ H ∧ XRep M.F H dx ns ds
def Tks (X : Cx) (B : Bx) : Prop := Takes X (wishX B)
abbrev XPost := Addr → List Str → List D → Mem → Prop
abbrev DSpE := List D → Mem → (D → Mem → Prop) → XPost → Prop
def noX : XPost := fun _ _ _ _ => False
def liftE (p : DSpE) : Sp := fun vs H Q E => ∃ κ ds M Φ Ξ, Rs κ [] M [] H ∧ Reps M.F H vs ds ∧ p ds M Φ Ξ ∧ (∀ v d M' H', Φ d M' → Rs κ [] M' [] H' → Rep M'.F H' v d → Q v H') ∧
  ∀ C ns es M' H' dx, Ξ C ns es M' → Rs κ [] M' [] H' → XRep M'.F H' dx ns es → E (.ref C) dx H'
/-! ### arguments: by place, by keyword, defaults -/
def DVal : D → Value → Prop
  | .non, u => u = .none
  | .bl b, u => u = .bool b
  | .int i, u => ∃ t, u = .int i t
  | .str z, u => ∃ t, u = .str z t
  | _, _ => False
def dV : D → V
  | .bl b => .bl b
  | .int i => .int i
  | .str z => .str z
  | _ => .non
theorem dval_rel {d : D} {u : Value} (h : DVal d u) : RelV (dV d) u := by
  cases d <;> first | exact h | exact h.elim
theorem dval_rep {d : D} {u : Value} (h : DVal d u) (F : List Addr) (H : Hp) : Rep F H (dV d) d := by
  cases d <;> first | exact .non | exact .bl _ | exact .int _ | exact .str _ | exact h.elim
abbrev Sel := List (Nat ⊕ D)
def selD (sel : Sel) (ds : List D) : List D := sel.map fun | .inl j => ds.getD j .non | .inr d => d
def selV (sel : Sel) (vs : List V) : List V := sel.map fun | .inl j => vs.getD j .non | .inr d => dV d
inductive SelOk (us : List Value) : Sel → List Value → Prop
  | nil : SelOk us [] []
  | at {j : Nat} {u : Value} {sel : Sel} {all : List Value} : us[j]? = some u → SelOk us sel all → SelOk us (.inl j :: sel) (u :: all)
  | dflt {d : D} {u : Value} {sel : Sel} {all : List Value} : DVal d u → SelOk us sel all → SelOk us (.inr d :: sel) (u :: all)
theorem SelOk.vals {vs : List V} {us : List Value} (r : Vals vs us) : ∀ {sel : Sel} {all : List Value}, SelOk us sel all → Vals (selV sel vs) all
  | _, _, .nil => .nil
  | _, _, .at (j := j) e t => by
    refine .cons ?_ (SelOk.vals r t)
    have hj : j < us.length := (List.getElem?_eq_some_iff.mp e).1
    have hv : j < vs.length := by rw [r.length]; exact hj
    obtain ⟨u', e1, r1⟩ := Vals.get r (i := j) (x := vs[j]) (by simp [hv])
    rw [e] at e1
    cases e1
    have a1 : vs.getD j .non = vs[j] := by simp [List.getD, hv]
    show RelV (vs.getD j .non) _
    rw [a1]; exact r1
  | _, _, .dflt h t => .cons (dval_rel h) (SelOk.vals r t)
theorem SelOk.reps {us : List Value} {vs : List V} {ds : List D} {F : List Addr} {H : Hp} (hl : vs.length = us.length) (r : Reps F H vs ds) : ∀ {sel : Sel} {all : List Value}, SelOk us sel all → Reps F H (selV sel vs) (selD sel ds)
  | _, _, .nil => .nil
  | _, _, .at (j := j) e t => by
    refine .cons ?_ (SelOk.reps hl r t)
    have hj : j < us.length := (List.getElem?_eq_some_iff.mp e).1
    have hv : j < vs.length := by omega
    obtain ⟨d, e1, r1⟩ := r.get (i := j) (v := vs[j]) (by simp [hv])
    have a1 : vs.getD j .non = vs[j] := by simp [List.getD, hv]
    have a2 : ds.getD j .non = d := by simp [List.getD, e1]
    show Rep F H (vs.getD j .non) (ds.getD j .non)
    rw [a1, a2]; exact r1
  | _, _, .dflt h t => .cons (dval_rep h F H) (SelOk.reps hl r t)
/-- how a call with n arguments by place and the keywords ks binds the parameters ps -/
structure CallB (K : PySem.W.Frag) (fd : FuncData) (ps : List Str) (n : Nat) (ks : List Str) (sel : Sel) : Prop where
  to : ∀ (s : Shared) (us ws : List Value), K.In s.heap → us.length = n → ws.length = ks.length → ∃ all, SelOk (us ++ ws) sel all ∧ BindsTo s fd ⟨us, ks.zip ws⟩ (ps.zip all)
/-- a def, its promise, a way to call it -/
structure FnD (P : Program) (w : World) (K : PySem.W.Frag) (mg : Str → Option Value) (base : Heap) (k : Nat) (f : Addr) (n : Nat) (ks : List Str) (sel : Sel) (p : DSpE) : Prop where
  ex : ∃ fd ps, CallB K fd ps n ks sel ∧ FnOk P w K mg base (L2.CX P w) k f fd ps (liftE p)
structure DefE (P : Program) (w : World) (K : PySem.W.Frag) (mg : Str → Option Value) (base : Heap) (k : Nat) (x : Str) (n : Nat) (ks : List Str) (sel : Sel) (p : DSpE) : Prop where
  ex : ∃ f, mg x = some (.ref f) ∧ PySem.W.keepIn K (.ref f) = true ∧ FnD P w K mg base k f n ks sel p
structure MethE (P : Program) (w : World) (K : PySem.W.Frag) (mg : Str → Option Value) (base : Heap) (k : Nat) (C : Addr) (m : Str) (n : Nat) (ks : List Str) (sel : Sel) (p : DSpE) : Prop where
  ex : ∃ f, Cls K C ∧ Meth K C m f ∧ FnD P w K mg base k f (n + 1) ks sel p
structure MakeE (P : Program) (w : World) (K : PySem.W.Frag) (mg : Str → Option Value) (base : Heap) (k : Nat) (x : Str) (C : Addr) (n : Nat) (ks : List Str) (sel : Sel) (p : DSpE) : Prop where
  ex : ∃ f, mg x = some (.ref C) ∧ Mk K C f ∧ FnD P w K mg base k f (n + 1) ks sel p
abbrev DefEX (X : Cx) := DefE X.prog X.w X.K X.mg X.base
abbrev MethEX (X : Cx) := MethE X.prog X.w X.K X.mg X.base
abbrev MakeEX (X : Cx) := MakeE X.prog X.w X.K X.mg X.base
section
variable {X : Cx} {k n : Nat} {f : Addr} {ks : List Str} {sel : Sel} {p : DSpE} {pins : List (Addr × Obj)} {σ : St} {H : Hp} {s : Shared} {Q : VK} {E : XK} {us ws : List Value} {vs zs : List V}
theorem run_E (F : FnD X.prog X.w X.K X.mg X.base k f n ks sel p) (hr : Room k X.A) (hx : PassesAt (L2.CX X.prog X.w) X σ E) (I : Inv X pins σ H s) (r : Vals vs us) (rz : Vals zs ws) (h1 : vs.length = n) (h2 : zs.length = ks.length)
    (h : ∀ us all, Vals (vs ++ zs) us → SelOk us sel all → liftE p (selV sel (vs ++ zs)) H Q E) : wpAny (model X.prog X.w) X.A (call (.ref f) us (ks.zip ws)) (EP X pins σ Q) X.xe s := by
  obtain ⟨fd, ps, cb, F⟩ := F.ex
  obtain ⟨all, so, b⟩ := cb.to s us ws I.kIn (by rw [← r.length]; exact h1) (by rw [← rz.length]; exact h2)
  have r2 := so.vals (r.append rz)
  have hq := h _ all (r.append rz) so
  refine wpAny_call (codeAny_mono (F.run X.A X.stack s H ⟨us, ks.zip ws⟩ all _ Q E hr I.env0 b r2 hq) fun r s' hq => ?_)
  cases r with
  | error e => exact hx pins H s e s' I hq
  | ok fl =>
    cases fl with
    | ret u => exact I.after hq
    | next => exact False.elim hq
    | brk => exact False.elim hq
    | cont => exact False.elim hq
theorem run_makeE {C : Addr} (Mk_ : Mk X.K C f) (F : FnD X.prog X.w X.K X.mg X.base k f (n + 1) ks sel p) (hr : Room (k + 1) X.A) (hx : PassesAt (L2.CX X.prog X.w) X σ E) (I : Inv X pins σ H s) (r : Vals vs us) (rz : Vals zs ws) (h1 : vs.length = n) (h2 : zs.length = ks.length)
    (h : ∀ x dx, H x = none → H dx = none → dx ≠ x → ∀ us all, Vals (.ref x :: vs ++ zs) us → SelOk us sel all → liftE p (selV sel (.ref x :: vs ++ zs)) (upd (upd H dx (.own x)) x (.ins C dx [])) (fun v H2 => v = .non ∧ Q (.ref x) H2) E) :
    wpAny (model X.prog X.w) X.A (call (.ref C) us (ks.zip ws)) (EP X pins σ Q) X.xe s := by
  obtain ⟨fd, ps, cb, F⟩ := F.ex
  have I2 := Inv.made (C := C) I
  obtain ⟨all, so, b⟩ := cb.to _ (.ref (s.heap.objs.size + 1) :: us) ws I2.kIn (by rw [List.length_cons, ← r.length, h1]) (by rw [← rz.length]; exact h2)
  have r1 : Vals (V.ref (s.heap.objs.size + 1) :: vs ++ zs) (Value.ref (s.heap.objs.size + 1) :: us ++ ws) := .cons rfl (r.append rz)
  have r2 := so.vals r1
  have hq := h (s.heap.objs.size + 1) s.heap.objs.size (I.hok.fresh (Nat.le_succ _)) (I.hok.fresh (Nat.le_refl _)) (Nat.ne_of_lt (Nat.lt_succ_self _)) _ all r1 so
  refine wpAny_call (make_map (f := f) I.kIn Mk_.makes Mk_.init (beq_iff_eq.mp Mk_.fn) (codeAny_mono (F.run _ X.stack _ _ ⟨Value.ref (s.heap.objs.size + 1) :: us, ks.zip ws⟩ all _ _ E (hr.make C us (ks.zip ws))
    (I2.env0.make C us (ks.zip ws)) b r2 hq) fun r s' hq' => ?_))
  cases r with
  | error e => exact hx pins _ _ e s' I2 hq'
  | ok fl =>
    cases fl with
    | ret u =>
      obtain ⟨v, H', I3, rv, ev, q3⟩ := I2.after hq'
      subst ev
      exact ⟨rv, ⟨V.ref (s.heap.objs.size + 1), H', I3, rfl, q3⟩⟩
    | next => exact False.elim hq'
    | brk => exact False.elim hq'
    | cont => exact False.elim hq'
end
end Hl
namespace Hl
open PySem L2
open PyProof.Rows hiding St
/-! ### the arguments of a call -/
def DAK (B : Bx) (X : Cx) : List Expr → List Keyword → Env' → Mem → (List D → List D → Mem → Prop) → Prop
  | [], [], _, M, Φ => Φ [] [] M
  | e :: es, [], δ, M, Φ => DA B X (e :: es) δ M fun ds M1 => Φ ds [] M1
  | [], k :: kws, δ, M, Φ => DK B X (k :: kws) δ M fun zs M1 => Φ [] zs M1
  | e :: es, k :: kws, δ, M, Φ => DA B X (e :: es) δ M fun ds M1 => DK B X (k :: kws) δ M1 fun zs M2 => Φ ds zs M2
def PlA (X : Cx) (pos : Pos) : List Expr → List Keyword → List Str → Prop
  | [], [], ks => ks = []
  | e :: es, [], ks => ks = [] ∧ starEach (e :: es) X.env = (false, eval e X.env) :: starEach es X.env ∧ (backTo pos (starEach es X.env)).any (·.1) = false
  | [], k :: kws, ks => (backToKw pos (keywordEach (k :: kws) X.env)).filterMap (·.1) = ks ∧ (backToKw pos (keywordEach (k :: kws) X.env)).all (·.1.isSome) = true ∧ ((backTo pos (starEach [] X.env)).any (·.1) || (backToKw pos (keywordEach (k :: kws) X.env)).any (·.1.isNone)) = false
  | e :: es, k :: kws, ks => (backToKw pos (keywordEach (k :: kws) X.env)).filterMap (·.1) = ks ∧ (backToKw pos (keywordEach (k :: kws) X.env)).all (·.1.isSome) = true ∧ ((backTo pos (starEach (e :: es) X.env)).any (·.1) || (backToKw pos (keywordEach (k :: kws) X.env)).any (·.1.isNone)) = false ∧
      starEach (e :: es) X.env = (false, eval e X.env) :: starEach es X.env
section
variable {B : Bx} {X : Cx} {e a b c o : Expr} {es rest : List Expr} {kw : Keyword} {kws : List Keyword} {st : Stmt} {sts : List Stmt} {δ δ' : Env'} {M : Mem} {Φ : D → Mem → Prop} {Ψ : DEnds} {pos pos' apos pp : Pos} {d x y : D} {ΦA : List D → List D → Mem → Prop}
theorem dak_nn (h : ΦA [] [] M) : DAK B X [] [] δ M ΦA := h
theorem dak_en (h : DA B X (e :: es) δ M fun ds M1 => ΦA ds [] M1) : DAK B X (e :: es) [] δ M ΦA := h
theorem dak_nk (h : DK B X (kw :: kws) δ M fun zs M1 => ΦA [] zs M1) : DAK B X [] (kw :: kws) δ M ΦA := h
theorem dak_ek (h : DA B X (e :: es) δ M fun ds M1 => DK B X (kw :: kws) δ M1 fun zs M2 => ΦA ds zs M2) : DAK B X (e :: es) (kw :: kws) δ M ΦA := h
/-- the held values -/
theorem held {κ : List (V × D)} {vs : List V} {ds : List D} {δ : Env'} {M : Mem} {σ : St} {H : Hp} : Reps M.F H vs ds → Rs κ δ M σ H → ∃ κ', (∀ q ∈ κ, q ∈ κ') ∧ Rs κ' δ M σ H ∧ ∀ {δ' : Env'} {M' : Mem} {σ' : St} {H' : Hp}, Rs κ' δ' M' σ' H' → Reps M'.F H' vs ds := by
  induction vs generalizing ds with
  | nil => intro r R; cases r; exact ⟨κ, fun _ h => h, R, fun _ => .nil⟩
  | cons v vs ih =>
    intro r R
    cases r with
    | cons r1 r2 =>
      obtain ⟨κ', h1, R', h2⟩ := ih r2 R
      rename_i d ds
      exact ⟨(v, d) :: κ', fun q hq => List.mem_cons_of_mem _ (h1 q hq), R'.push r1, fun R => .cons R.top (h2 R.pop)⟩
theorem dak_run {ks : List Str} {f : Value} {first : List Value} {pins : List (Addr × Obj)} {s : Shared} {κ : List (V × D)} {σ : St} {H : Hp} {Rq : Value → Shared → Prop} (hk : PySem.W.keepIn X.K f = true) (pl : PlA X pos es kws ks) (h : DAK B X es kws δ M ΦA) (I : Inv X pins σ H s)
    (hb : ∀ q ∈ B.ps, q ∈ κ) (R : Rs κ δ M σ H)
    (q : ∀ us ws s2 vs zs ds es M2 H2, Inv X pins σ H2 s2 → Vals vs us → Vals zs ws → ΦA ds es M2 → Rs κ δ M2 σ H2 → Reps M2.F H2 vs ds → Reps M2.F H2 zs es → wpAny (model X.prog X.w) X.A (call f (first ++ us) (ks.zip ws)) Rq X.xe s2) :
    wpAny (model X.prog X.w) X.A (callWith pos f first (backTo pos (starEach es X.env)) (backToKw pos (keywordEach kws X.env))) Rq X.xe s := by
  match es, kws, pl, h with
  | [], [], pl, h =>
    have pl : ks = [] := pl
    subst pl
    exact PySem.W.callWith_K0 I.kIn hk (q [] [] s [] [] [] [] M H I .nil .nil h R .nil .nil)
  | e :: es, [], ⟨e1, e2, e3⟩, h =>
    subst e1
    refine PySem.W.callWith_K (h₀ := X.base) I.ok.mod.kin hk (thn ((cA (X := X) (es := e :: es)).run pos pins s σ H (fun vs H1 => ∃ ds M1, ΦA ds [] M1 ∧ Rs κ δ M1 σ H1 ∧ Reps M1.F H1 vs ds) I (h κ σ H _ hb R fun vs ds M1 H1 q1 R1 r1 => ⟨ds, M1, q1, R1, r1⟩)) fun us s1 ⟨vs, H1, I1, r, ds, M1, q1, R1, r1⟩ => ⟨I1.kIn, ?_⟩) e2 e3
    exact q us [] s1 vs [] ds [] M1 H1 I1 r .nil q1 R1 r1 .nil
  | [], k :: kws, ⟨e1, e2, e3⟩, h =>
    refine PySem.W.callWith_KW0 (h₀ := X.base) I.ok.mod.kin hk e2 (thn ((cK (X := X) (kws := k :: kws)).run pos pins s σ H (fun vs H1 => ∃ ds M1, ΦA [] ds M1 ∧ Rs κ δ M1 σ H1 ∧ Reps M1.F H1 vs ds) I (h κ σ H _ hb R fun vs ds M1 H1 q1 R1 r1 => ⟨ds, M1, q1, R1, r1⟩)) fun ws s1 ⟨zs, H1, I1, r, ds, M1, q1, R1, r1⟩ => ⟨I1.kIn, ?_⟩) e3
    rw [e1]
    exact q [] ws s1 [] zs [] ds M1 H1 I1 .nil r q1 R1 .nil r1
  | e :: es, k :: kws, ⟨e1, e2, e3, e4⟩, h =>
    refine PySem.W.callWith_KW (h₀ := X.base) I.ok.mod.kin hk e2 (thn ((cA (X := X) (es := e :: es)).run pos pins s σ H (fun vs H1 => ∃ ds M1, (DK B X (k :: kws) δ M1 fun zs M2 => ΦA ds zs M2) ∧ Rs κ δ M1 σ H1 ∧ Reps M1.F H1 vs ds) I (h κ σ H _ hb R fun vs ds M1 H1 q1 R1 r1 => ⟨ds, M1, q1, R1, r1⟩)) fun us s1 ⟨vs, H1, I1, r, ds, M1, q1, R1, r1⟩ => ?_) e3 e4
    obtain ⟨κ', k1, R2, k2⟩ := held r1 R1
    refine thn ((cK (X := X) (kws := k :: kws)).run pos pins s1 σ H1 (fun zs H2 => ∃ es M2, ΦA ds es M2 ∧ Rs κ' δ M2 σ H2 ∧ Reps M2.F H2 zs es) I1 (q1 κ' σ H1 _ (fun q hq => k1 q (hb q hq)) R2 fun zs es M2 H2 q2 R3 r3 => ⟨es, M2, q2, R3, r3⟩)) fun ws s2 ⟨zs, H2, I2, rz, es, M2, q2, R3, r3⟩ => ⟨I2.kIn, ?_⟩
    rw [e1]
    exact q us ws s2 vs zs ds es M2 H2 I2 r rz q2 (R3.sub k1) (k2 R3) r3
/-! ### calls of defs that may raise -/
theorem liftE_of {p : DSpE} {sel : Sel} {κ : List (V × D)} {σ : St} {H : Hp} {Q : VK} {vs : List V} {ds us} {all} {Ξ : XPost} {E : XK} (so : SelOk us sel all) (hl : vs.length = us.length) (R : Rs κ δ M σ H) (r : Reps M.F H vs ds) (q : p (selD sel ds) M Φ Ξ)
    (k : ∀ v d M' H', Φ d M' → Rs κ δ M' σ H' → Rep M'.F H' v d → Q v H') (kx : ∀ C ns es M' H' dx, Ξ C ns es M' → Rs κ δ M' σ H' → XRep M'.F H' dx ns es → E (.ref C) dx H') : liftE p (selV sel vs) H Q E :=
  ⟨κ ++ sk σ δ, _, M, Φ, Ξ, R.pack, so.reps hl r, q, fun v d M' H' q' R' r' => k v d M' H' q' (R.unpack R') r', fun C ns es M' H' dx q' R' x => kx C ns es M' H' dx q' (R.unpack R') x⟩
/-- what the def may raise here is wished for -/
def atX (B : Bx) (δ : Env') : XPost := fun C ns ds M => B.ex C ns ds δ M
structure Lets (X : Cx) (B : Bx) (δ : Env') (Ξ : XPost) : Prop where
  ex : ∃ W, Takes X W ∧ ∀ κ σ C ns es M' H' dx, (∀ q ∈ B.ps, q ∈ κ) → Ξ C ns es M' → Rs κ δ M' σ H' → XRep M'.F H' dx ns es → W (.ref C) dx σ H'
theorem lets_at (tk : Tks X B) : Lets X B δ (atX B δ) := ⟨wishX B, tk, fun κ σ C ns es M' H' dx hb e R x => ⟨C, ns, es, δ, M', κ, rfl, e, hb, R, x⟩⟩
theorem lets_no : Lets X B δ noX := ⟨fun _ _ _ _ => False, takes0, fun _ _ _ _ _ _ _ _ _ e _ _ => e⟩
variable {k n m : Nat} {x : Str} {ks : List Str} {sel : Sel} {p : DSpE} {Ξ : XPost} {C : Addr}
theorem de_fE (z : Cz X m) (f : DefEX X k x n ks sel p) (hk : k ≤ m) (hg : Gl X x) (lt : Lets X B δ Ξ)
    (h : DAK B X es kws δ M fun ds zs M' => ds.length = n ∧ zs.length = ks.length ∧ p (selD sel (ds ++ zs)) M' Φ Ξ) (pl : PlA X pos es kws ks) (hdb : (x == ("__debug__" : Str)) = false := by decide) : DE B X (.Call (.Name x pp) es kws pos) δ M Φ := by
  obtain ⟨fa, h1, h2, h3⟩ := f.ex
  obtain ⟨W, tk, hx⟩ := lt
  intro κ σ H Q hb R kk
  unfold tE
  intro pins s I
  refine wpAny_Call_Name_kw (ld_glob I hg h1 ?_ hdb)
  refine dak_run (first := []) h2 pl h I hb R fun us ws s2 vs zs ds es M2 H2 I2 rv rz ⟨l1, l2, q⟩ R2 r1 r2 => ?_
  refine run_E h3 (z.room.mono hk) (passAt tk σ) I2 rv rz (by rw [r1.length]; exact l1) (by rw [r2.length]; exact l2) fun us' all rr so => ?_
  exact liftE_of so rr.length R2 (r1.append r2) q kk fun C ns es M' H' dx e R' x => hx κ σ C ns es M' H' dx hb e R' x
/-- an instance, by data or as a cell -/
inductive IsO (M : Mem) : D → Addr → List Str → List D → Prop
  | val (C : Addr) (ns : List Str) (ds : List D) : IsO M (.obj C ns ds) C ns ds
  | cell {p C : Addr} {ns : List Str} {ds : List D} (j : Nat) (h : M[j]? = some (p, .obj C ns ds)) : IsO M (.raw (.ref p)) C ns ds
  | inm {p C : Addr} {ns : List Str} {ds : List D} (h : InM M p (.obj C ns ds)) : IsO M (.raw (.ref p)) C ns ds
theorem IsO.sq {κ : List (V × D)} {σ : St} {H : Hp} {v : V} {x : D} {C : Addr} {ns : List Str} {ds : List D} (h : IsO M x C ns ds) (R : Rs κ δ M σ H) (r : Rep M.F H v x) : ∃ p dx vs, v = .ref p ∧ H p = some (.ins C dx (ns.zip vs)) ∧ ns.length = vs.length ∧ Reps M.F H vs ds := by
  cases h with
  | val C ns ds => cases r with | obj h1 e1 l1 r1 => exact ⟨_, _, _, rfl, e1, l1, r1⟩
  | cell j h =>
    cases r
    obtain ⟨dx, vs, e1, l1, r1⟩ := R.at h
    exact ⟨_, dx, vs, rfl, e1, l1, r1⟩
  | inm h =>
    cases r
    obtain ⟨dx, vs, e1, l1, r1⟩ := h.ok R
    exact ⟨_, dx, vs, rfl, e1, l1, r1⟩
theorem lookup_zip {β : Type} {f : Str} : ∀ {ns : List Str} {vs : List β}, ns.contains f = false → (ns.zip vs).lookup f = none
  | [], _, _ => by simp
  | _ :: _, [], _ => by simp
  | n :: ns, v :: vs, h => by
    rw [List.contains_cons, Bool.or_eq_false_iff] at h
    rw [List.zip_cons_cons, List.lookup_cons, h.1]
    exact lookup_zip h.2
/-- C(..): a new object as a cell at place j, then __init__ -/
theorem de_kE {x : Str} (j : Nat) (z : Cz X m) (f : MakeEX X k x C n ks sel p) (hk : k + 1 ≤ m) (hg : Gl X x) (lt : Lets X B δ Ξ)
    (h : DAK B X es kws δ M fun ds zs M' => ds.length = n ∧ zs.length = ks.length ∧ ∀ a, p (selD sel (.raw (.ref a) :: ds ++ zs)) (insM j (a, .obj C [] []) M') (fun d M2 => d = .non ∧ Φ (.raw (.ref a)) M2) Ξ) (pl : PlA X pos es kws ks) (hdb : (x == ("__debug__" : Str)) = false := by decide) : DE B X (.Call (.Name x pp) es kws pos) δ M Φ := by
  obtain ⟨fa, h1, mk, h3⟩ := f.ex
  obtain ⟨W, tk, hx⟩ := lt
  intro κ σ H Q hb R kk
  unfold tE
  intro pins s I
  refine wpAny_Call_Name_kw (ld_glob I hg h1 ?_ hdb)
  refine dak_run (first := []) mk.kp pl h I hb R fun us ws s2 vs zs ds es M2 H2 I2 rv rz ⟨l1, l2, q⟩ R2 r1 r2 => ?_
  refine run_makeE mk h3 (z.room.mono hk) (passAt tk σ) I2 rv rz (by rw [r1.length]; exact l1) (by rw [r2.length]; exact l2) fun a dx ha hdx hne us' all rr so => ?_
  have R3 : Rs κ δ M2 σ (upd H2 dx (.own a)) := R2.new hdx
  have R4 : Rs κ δ (insM j (a, .obj C [] []) M2) σ (upd (upd H2 dx (.own a)) a (.ins C dx [])) := (R3.add (p := a) (o := .ins C dx []) (c := .obj C [] []) (by rw [upd_ne (Ne.symm hne)]; exact ha) rfl ⟨dx, [], upd_same, rfl, .nil⟩).perm insM_perm
  have fw : Fwd M2.F H2 (Mem.F (insM j (a, .obj C [] []) M2)) (upd (upd H2 dx (.own a)) a (.ins C dx [])) := by
    intro b o hb e _
    have n1 : b ≠ dx := fun z => by rw [z, hdx] at e; cases e
    have n2 : b ≠ a := fun z => by rw [z, ha] at e; cases e
    refine ⟨fun z => ?_, by rw [upd_ne n2, upd_ne n1]; exact e⟩
    have z2 : b ∈ Mem.F ((a, Cell.obj C [] []) :: M2) := (F_perm insM_perm).mem_iff.mpr z
    rcases List.mem_append.mp (show b ∈ own a (Cell.obj C [] []) ++ Mem.F M2 from z2) with y | y
    · exact n2 (by simpa [own] using y)
    · exact hb y
  have r5 : Reps (Mem.F (insM j (a, .obj C [] []) M2)) (upd (upd H2 dx (.own a)) a (.ins C dx [])) (.ref a :: vs ++ zs) (.raw (.ref a) :: ds ++ es) := (Reps.cons (.raw _) (r1.fwd fw)).append (r2.fwd fw)
  refine liftE_of so rr.length R4 r5 (q a) (fun v d M' H' ⟨e, q'⟩ R' r' => ?_) fun C ns es M' H' dx e R' x => hx κ σ C ns es M' H' dx hb e R' x
  subst e
  cases r'
  exact ⟨rfl, kk _ _ _ _ q' R' (.raw _)⟩
end
/-! ### a def that may raise, from its body -/
structure InDefE (P : Program) (w : World) (K : PySem.W.Frag) (mg : Str → Option Value) (base : Heap) (N : List Str) (sc : Scope) (k : Nat) (X : Cx) (B : Bx) : Prop where
  prog : X.prog = P
  wd : X.w = w
  K : X.K = K
  mg : X.mg = mg
  base : X.base = base
  N : X.N = N
  sc : X.env.scope = sc
  fn : X.fn = fun _ => true
  z : Cz X k
  hp : PassesOwn (model X.prog X.w) X.A X.env X.xe
  tk : Tks X B
  st : X.stack = X.env :: X.outer
  fr : X.env.frame = some X.env.locals
/-- an exception's state may be looked at otherwise -/
def VwX (ns : List Str) (ds : List D) (M : Mem) (ds2 : List D) (M2 : Mem) : Prop := ∀ κ δ σ H dx, Rs κ δ M σ H → XRep M.F H dx ns ds → Rs κ δ M2 σ H ∧ XRep M2.F H dx ns ds2
theorem VwX.refl {ns : List Str} {ds : List D} {M : Mem} : VwX ns ds M ds M := fun _ _ _ _ _ R x => ⟨R, x⟩
theorem VwX.sub {ns : List Str} {ds : List D} {M M2 : Mem} (h : M2.Sublist M) : VwX ns ds M ds M2 := fun _ _ _ _ _ R x => ⟨R.less h, x.fwd (Fwd.less fun x hx => (F_sub h).subset hx)⟩
end Hl
namespace Hl
open PySem L2
open PyProof.Rows hiding St
/-! ### try, the caught exception held -/
section
variable {X : Cx} {pins : List (Addr × Obj)} {σ : St} {H : Hp} {sI s' : Shared} {B : Heap} {a : Addr} {o : HO}
theorem xo_ok {P : Program} {w : World} {H : Hp} {h : Heap} {a : Addr} {cls : Value} {d : Option Addr} {oe : Obj} {vs : Array Value} (e : h.get? a = some oe) (z : Zc cls d oe) (hd : oe.data = .fields vs) : ObjOk P w H h a (XO cls d a) :=
  ⟨⟨oe, vs, e, z, hd⟩, ⟨oe, e⟩, fun _ _ ⟨o, v, q, r⟩ k => ⟨o, v, k o q, r⟩⟩
theorem Inv.landedX (I : Inv X pins σ H sI) (nb : ∀ b o, sI.heap.get? b = some o → b ∉ frs X.stack → B.get? b = some o) (st : B.StaysIn s'.heap) (up : sI.heap.UpToSlots s'.heap) (os : s'.os = sI.os) (ag : AllBare s'.gens)
    (na : H a = none) (n0 : sI.heap.get? a = none) (ok : ObjOk X.prog X.w (upd H a o) s'.heap a o) : Inv X pins σ (upd H a o) s' := by
  have nf : ∀ b ∈ frs X.stack, ∀ o, sI.heap.get? b = some o → ∃ sl, s'.heap.get? b = some { o with slots := sl } := fun b hb o e => by
    obtain ⟨_, o', e', hd⟩ := I.stack.mem hb
    rw [e] at e'; cases e'
    exact up b o e hd
  have J := I.call (ch := []) (h' := s'.heap) (g' := s'.gens) (t' := s'.toks) (d' := s'.drawn) (H' := upd H a o)
    ⟨fun b o e _ hb _ => st b o (nb b o e hb), fun b o e _ hb _ => nf b hb o e, fun b o e n _ => by rw [upd_ne (fun z => by rw [z, n0] at e; cases e)]; exact n, fun b o e _ => by
      by_cases hb : b ∈ frs X.stack
      · obtain ⟨sl, q⟩ := nf b hb o e
        exact ⟨_, q⟩
      · exact ⟨o, st b o (nb b o e hb)⟩, fun b xs e => by rw [upd_ne (ne_of_none e na)]; exact e, fun b o u e => by rw [upd_ne (ne_of_none e na)]; exact e, fun b ps e => ⟨#[], by rw [upd_ne (ne_of_none e na), e]; simp⟩⟩
    (HOk.laidN ((I.inGround nb).kept st) (fun _ _ q => q) na ok) ag (fun _ z => nomatch z)
  obtain ⟨a1, a2, a3, a4, a5⟩ := s'
  have e5 : a5 = sI.os := os
  subst e5
  exact J
end
end Hl
namespace Hl
open PySem L2
open PyProof.Rows hiding St
section
variable {B : Bx} {X : Cx} {e a b c o : Expr} {es rest : List Expr} {kw : Keyword} {kws : List Keyword} {st : Stmt} {sts body suite : List Stmt} {δ δ' : Env'} {M : Mem} {Φ : D → Mem → Prop} {Ψ : DEnds} {pos pos' apos pp np : Pos} {d x y : D} {ΦL : List D → Mem → Prop}
/-! ### try, by data -/
/-- a handler, by data: its class, its slot, its suite -/
abbrev HdD := Addr × Option Nat × List Stmt
def endsD (oi : Option Nat) (Ψ : DEnds) : DEnds := match oi with
  | none => Ψ
  | some i => { nx := fun δ M => Ψ.nx (δ.set i none) M, rt := Ψ.rt, bk := fun δ M => Ψ.bk (δ.set i none) M, ct := fun δ M => Ψ.ct (δ.set i none) M }
def envD (oi : Option Nat) (δ : Env') (d : D) : Env' := match oi with
  | none => δ
  | some i => δ.set i (some d)
def exH (B : Bx) (X : Cx) (Ψ : DEnds) : List HdD → Addr → List Str → List D → Env' → Mem → Prop
  | [] => B.ex
  | (c0, oi, suite) :: r => fun C ns ds δ M => ∃ b, PySem.W.exmOne X.K (.ref C) (.ref c0) = some b ∧ (b = true → ∀ a pn kp, DSs ⟨kp, fun _ _ _ _ _ => False⟩ (X.suite a pn) suite (envD oi δ (.exn C ns ds)) M (endsD oi Ψ)) ∧ (b = false → exH B X Ψ r C ns ds δ M)
/-! ### raise -/
/-- an own exception class without an own __init__ -/
structure Ex0 (K : PySem.W.Frag) (mg : Str → Option Value) (x : Str) (C : Addr) : Prop where
  gC : mg x = some (.ref C)
  q : PySem.W.excIn K C [.type "ValueError", .type "Exception", .type "BaseException", .type "object"] "ValueError.__new__" = true
  kC : PySem.W.keepIn K (.ref C) = true
  sub : PySem.W.subIn K (.ref C) (.type "BaseException") = some true
  ty : PySem.W.typeIn K (.ref C) = some (.type "type")
theorem pmk_own0 {C : Addr} {x : Str} {p : Pos} (T : Ex0 X.K X.mg x C) (hg : Gl X x) (hdb : (x == ("__debug__" : Str)) = false := by decide) : PMk X (.Call (.Name x p) [] [] pos) (fun σ H Q => Q (.ref C) none H) := by
  intro pins s σ H Q I h
  refine wpAny_Call_Name_kw (ld_glob I hg T.gC ?_ hdb)
  refine PySem.W.callWith_K0 I.kIn T.kC ?_
  show wpAny _ _ (call (.ref C) []) _ _ _
  obtain ⟨bm, N, nm, qn, bs, hdct, sn, sub, ab, col, dd, k0, k1, k2, k3, k5, mN, hC, hN, hni, T'⟩ := exc_obj I.kIn T.q
  refine wpAny_call_exc_subT PySem.F.excBase_ValueError T' hC hN hni (fun h' e hm => ?_) (by show 0 ≤ sizeLine; exact Nat.zero_le _)
  exact mk_of I hm (raises_own T.sub T.ty) h (I.hok.gone hm.new)
theorem ds_raise0 {C : Addr} {x : Str} {p : Pos} {n : Nat} (z : Cz X n) (tk : Tks X B) (T : Ex0 X.K X.mg x C) (hg : Gl X x) (h : B.ex C [] [] δ M) (hdb : (x == ("__debug__" : Str)) = false := by decide) : DS B X (.Raise (some (.Call (.Name x p) [] [] pos)) none pos') δ M Ψ :=
  .of (ps_raise z.calm tk (pmk_own0 T hg hdb)) fun κ σ H E hb R k => ⟨C, [], [], δ, M, κ, rfl, h, hb, R, .inl ⟨rfl, rfl, rfl⟩⟩
theorem ds_raise {C : Addr} {x : Str} {p : Pos} {n : Nat} (z : Cz X n) (tk : Tks X B) (T : Ex0 X.K X.mg x C) (hg : Gl X x) (h : DA B X (e :: es) δ M fun ds M' => ds.length ≤ sizeLine ∧ B.ex C [] [] δ M')
    (hdb : (x == ("__debug__" : Str)) = false := by decide) (he : starEach (e :: es) X.env = (false, eval e X.env) :: starEach es X.env := by rfl) (hpl : (backTo pos (starEach es X.env)).any (·.1) = false := by rfl) : DS B X (.Raise (some (.Call (.Name x p) (e :: es) [] pos)) none pos') δ M Ψ :=
  .of (ps_raise z.calm tk (pmk_ownA PySem.F.excBase_ValueError T.q T.gC T.kC (raises_own T.sub T.ty) hg cA hdb he hpl)) fun κ σ H E hb R k => h κ σ H _ hb R fun vs ds M1 H1 ⟨hl, q⟩ R1 r1 =>
    ⟨by rw [r1.length]; exact hl, C, [], [], δ, M1, κ, rfl, q, hb, R1, .inl ⟨rfl, rfl, rfl⟩⟩
/-- the promise of an exception's __init__: the fields are set, one by one -/
def spXI (C : Addr) (ns : List Str) : Sp := fun vs H Q _ => ∃ a args, vs = .ref a :: args ∧ args.length = ns.length ∧ H a = some (exo a C none) ∧
  ∀ dx H', H dx = none → dx ≠ a → H' a = some (exo a C (some dx)) → H' dx = some (exd dx (ns.reverse.zip args.reverse)) → (∀ b, b ≠ a → b ≠ dx → H' b = H b) → Q .non H'
/-- an own exception class whose __init__ keeps its arguments -/
structure ExI (P : Program) (w : World) (K : PySem.W.Frag) (mg : Str → Option Value) (base : Heap) (x : Str) (C : Addr) (ns : List Str) : Prop where
  gC : mg x = some (.ref C)
  T : OexC K C
  ex : ∃ fI fd ps, PySem.W.findIn K (.ref C) "__init__" = some (some (.ref fI)) ∧ PySem.W.typeIn K (.ref fI) = some (.type "function") ∧ Binds K fd ps [] ∧ FnOk P w K mg base CX0 1 fI fd ps (spXI C ns)
theorem Reps.reverse {F : List Addr} {H : Hp} : ∀ {vs : List V} {ds : List D}, Reps F H vs ds → Reps F H vs.reverse ds.reverse
  | _, _, .nil => .nil
  | _, _, .cons r t => by
    rw [List.reverse_cons, List.reverse_cons]
    exact (Reps.reverse t).append (.cons r .nil)
theorem ds_raiseI {C : Addr} {x : Str} {p : Pos} {n : Nat} {ns : List Str} (z : Cz X n) (hn : 2 ≤ n) (tk : Tks X B) (T : ExI X.prog X.w X.K X.mg X.base x C ns) (hg : Gl X x) (h : DA B X (e :: es) δ M fun ds M' => ds.length = ns.length ∧ ds.length ≤ 1000 ∧ B.ex C ns.reverse ds.reverse δ M')
    (hdb : (x == ("__debug__" : Str)) = false := by decide) (he : starEach (e :: es) X.env = (false, eval e X.env) :: starEach es X.env := by rfl) (hpl : (backTo pos (starEach es X.env)).any (·.1) = false := by rfl) : DS B X (.Raise (some (.Call (.Name x p) (e :: es) [] pos)) none pos') δ M Ψ := by
  obtain ⟨fI, fd, ps, h1, h2, h3, h4⟩ := T.ex
  refine .of (ps_raise z.calm tk (pmk_oex T.T h1 h2 h4 (z.room.mono hn) h3 .nil pass0 hg T.gC cA hdb he hpl)) fun κ σ H E hb R k => h κ σ H _ hb R fun vs ds M1 H1 ⟨hl, hl2, q⟩ R1 r1 => ?_
  refine ⟨by rw [r1.length]; exact hl2, fun a na => ⟨a, vs, by rw [List.append_nil], by rw [r1.length]; exact hl, upd_same, fun dx H' n1 n2 e1 e2 e3 => ?_⟩⟩
  have ndx : H1 dx = none := by rw [upd_ne n2] at n1; exact n1
  refine ⟨rfl, dx, _, e1, e2, ndx, ?_⟩
  have eq : upd (del H' a) dx (.xd (ns.reverse.zip vs.reverse)) = upd H1 dx (.xd (ns.reverse.zip vs.reverse)) := by
    funext b
    by_cases hb : b = dx
    · subst hb; rw [upd_same, upd_same]
    · rw [upd_ne hb, upd_ne hb]
      by_cases ha : b = a
      · subst ha; rw [del_same, na]
      · rw [del_ne ha, e3 b ha hb, upd_ne ha]
  rw [eq]
  exact ⟨C, ns.reverse, ds.reverse, δ, M1, κ, rfl, q, hb, R1.new ndx, .inr ⟨dx, vs.reverse, rfl, R1.fresh ndx, upd_same, by rw [List.length_reverse, List.length_reverse, r1.length, hl], (Reps.reverse r1).fwd (Fwd.new ndx)⟩⟩
/-! ### fields -/
structure FldP (K : PySem.W.Frag) (C : Addr) (f : Str) : Prop where
  c : Cls K C
  n : NoAttr K C f
structure XfP (K : PySem.W.Frag) (C : Addr) (f : Str) : Prop where
  ga : PySem.W.findIn K (.ref C) "__getattribute__" = some (some (.builtin "BaseException.__getattribute__"))
  gg : PySem.W.findIn K (.ref C) "__getattr__" = some none
  exC : PySem.W.subIn K (.ref C) (.type "BaseException") = some true
  hdC : PySem.W.hasDictIn K C = true
  no : PySem.W.findIn K (.ref C) f = some none
def tFldU (K : PySem.W.Frag) (ta : TE) (f : Str) : TE := fun σ H Q => ta σ H fun x H1 => (∃ a C dx fs v, x = .ref a ∧ H1 a = some (.ins C dx fs) ∧ FldP K C f ∧ fs.lookup f = some v ∧ Q v H1) ∨
  ∃ a C d fs v, x = .ref a ∧ H1 a = some (XO (.ref C) (some d) a) ∧ H1 d = some (.xd fs) ∧ XfP K C f ∧ fs.lookup f = some v ∧ Q v H1
theorem pe_fldU {f : Str} {ta : TE} (he : PE X e ta) (hb : attributeBase e f X.env (eval e X.env) = eval e X.env) : PE X (.Attribute e f pos) (tFldU X.K ta f) := by
  refine ⟨fun pins s σ H Q I h => ?_⟩
  refine attr_of hb (thn (he.run pins s σ H _ I h) fun u s1 ⟨x, H1, I1, rx, q⟩ => ?_)
  rcases q with ⟨a, C, dx, fs, v, ex, ea, ff, l, q⟩ | ⟨a, C, dd, fs, v, ex, ea, ed, T, l, q⟩
  · subst ex
    obtain rfl : u = Value.ref a := rx
    exact getattr_ok I1 ea ff.c ff.n l fun u' s2 I2 ru => ⟨v, H1, I2, ru, q⟩
  · subst ex
    obtain rfl : u = Value.ref a := rx
    obtain ⟨⟨oe, vs, ha, hz, hd⟩, _, _⟩ := I1.hok a _ ea
    have hx : ObjOk X.prog X.w H1 s1.heap dd (.xd fs) := I1.hok dd _ ed
    obtain ⟨mA, hns, hr⟩ := hx
    obtain ⟨od, ho, hl⟩ := lookIn_ns hns
    obtain ⟨u, hu, ru⟩ := RelO.some_of (v := v) (o := mA f) (by rw [← l]; exact hr f)
    have J : PySem.W.InstAt s1.heap a oe C (some od) := ⟨ha, hz.1, by unfold PySem.W.notCls; rw [hd] <;> rfl, by rw [hz.2]; exact ho⟩
    exact HandSPX.exc_get I1.kIn J T.ga T.gg T.exC (PySem.W.findObj_own T.hdC T.no rfl (by rw [hl, hu])) (handed_of ru) ⟨v, H1, I1.tok _, ru, q⟩
theorem reps_lookup {F : List Addr} {H : Hp} {f : Str} : ∀ {ns : List Str} {vs : List V} {ds : List D} {d : D}, Reps F H vs ds → (ns.zip ds).lookup f = some d → ∃ v, (ns.zip vs).lookup f = some v ∧ Rep F H v d
  | [], _, _, _, _, h => by simp at h
  | _ :: _, _, _, _, .nil, h => by simp at h
  | n :: ns, v :: vs, d0 :: ds, d, .cons r t, h => by
    rw [List.zip_cons_cons, List.lookup_cons] at h
    rw [List.zip_cons_cons, List.lookup_cons]
    cases e : f == n with
    | true => rw [e] at h; cases h; exact ⟨v, rfl, r⟩
    | false => rw [e] at h; exact reps_lookup t h
/-- a field of data -/
def FldD (K : PySem.W.Frag) (f : Str) (x : D) (M : Mem) (Φ : D → Mem → Prop) : Prop := (∃ C ns fs d, IsO M x C ns fs ∧ FldP K C f ∧ (ns.zip fs).lookup f = some d ∧ Φ d M) ∨ ∃ C ns fs d, x = .exn C ns fs ∧ XfP K C f ∧ (ns.zip fs).lookup f = some d ∧ Φ d M
theorem de_fld {f : Str} (h : DE B X o δ M fun x M1 => FldD X.K f x M1 Φ) (hb : attributeBase o f X.env (eval o X.env) = eval o X.env := by rfl) : DE B X (.Attribute o f pos) δ M Φ :=
  .of (pe_fldU cE hb) fun κ σ H Q hb R k => h κ σ H _ hb R fun v x M1 H1 q R1 r1 => by
    rcases q with ⟨C, ns, fs, d, io, ff, l, q⟩ | ⟨C, ns, fs, d, ex, T, l, q⟩
    · obtain ⟨a, dx, vs, rfl, ea, hl, rr⟩ := io.sq R1 r1
      obtain ⟨v, l2, rv⟩ := reps_lookup rr l
      exact .inl ⟨a, C, dx, _, v, rfl, ea, ff, l2, k _ _ _ _ q R1 rv⟩
    · subst ex
      cases r1 with
      | exn0 h1 e1 => simp at l
      | exn h1 e1 h2 e2 hl rr =>
        obtain ⟨v, l2, rv⟩ := reps_lookup rr l
        exact .inr ⟨_, C, _, _, v, rfl, e1, e2, T, l2, k _ _ _ _ q R1 rv⟩
theorem fld_v {K : PySem.W.Frag} {f : Str} {C : Addr} {ns : List Str} {fs : List D} (ff : FldP K C f) (l : (ns.zip fs).lookup f = some d) (k : Φ d M) : FldD K f (.obj C ns fs) M Φ := .inl ⟨C, ns, fs, d, .val _ _ _, ff, l, k⟩
theorem fld_c {K : PySem.W.Frag} {f : Str} {C p : Addr} {ns : List Str} {fs : List D} (j : Nat) (hm : M[j]? = some (p, .obj C ns fs)) (ff : FldP K C f) (l : (ns.zip fs).lookup f = some d) (k : Φ d M) : FldD K f (.raw (.ref p)) M Φ := .inl ⟨C, ns, fs, d, .cell j hm, ff, l, k⟩
theorem fld_x {K : PySem.W.Frag} {f : Str} {C : Addr} {ns : List Str} {fs : List D} (T : XfP K C f) (l : (ns.zip fs).lookup f = some d) (k : Φ d M) : FldD K f (.exn C ns fs) M Φ := .inr ⟨C, ns, fs, d, rfl, T, l, k⟩
/-- a field is set -/
def putN (f : Str) (d : D) : List Str → List D → List Str × List D
  | n :: ns, x :: ds => if n = f then (n :: ns, d :: ds) else (n :: (putN f d ns ds).1, x :: (putN f d ns ds).2)
  | _, _ => ([f], [d])
theorem putN_rep {F : List Addr} {H : Hp} {f : Str} {v : V} {d : D} (rv : Rep F H v d) : ∀ {ns : List Str} {vs : List V} {ds : List D}, ns.length = vs.length → Reps F H vs ds → ∃ vs', putF f v (ns.zip vs) = (putN f d ns ds).1.zip vs' ∧ (putN f d ns ds).1.length = vs'.length ∧ Reps F H vs' (putN f d ns ds).2
  | [], [], _, _, .nil => ⟨[v], rfl, rfl, .cons rv .nil⟩
  | [], _ :: _, _, h, _ => by cases h
  | _ :: _, [], _, h, _ => by cases h
  | n :: ns, w :: vs, x :: ds, h, .cons r t => by
    unfold putN
    rw [List.zip_cons_cons]
    unfold putF
    by_cases e : n = f
    · rw [if_pos e, if_pos e]
      exact ⟨v :: vs, rfl, h, .cons rv t⟩
    · rw [if_neg e, if_neg e]
      obtain ⟨vs', h1, h2, h3⟩ := putN_rep (f := f) rv (ns := ns) (vs := vs) (ds := ds) (by simpa using h) t
      exact ⟨w :: vs', by rw [h1]; rfl, by simp [h2], .cons r h3⟩
theorem ds_fld {f : Str} (h : DE B X e δ M fun d M1 => DE B X o δ M1 fun x M2 => ∃ p C ns fs M3, x = .raw (.ref p) ∧ Rpl p (.obj C ns fs) (.obj C (putN f d ns fs).1 (putN f d ns fs).2) M2 M3 ∧ FldP X.K C f ∧ ns.length < 1000 ∧ Ψ.nx δ M3)
    (hs : swapsWith e (some (.Attribute o f pos')) pos.line X.env = pure false := by rfl) : DS B X (.Assign [.Attribute o f pos'] e pos) δ M Ψ :=
  .of (ps_fld cE cE hs) fun κ σ H E hb R k => h κ σ H _ hb R fun v d M1 H1 q1 R1 r1 => q1 ((v, d) :: κ) σ H1 _ (fun q hq => List.mem_cons_of_mem _ (hb q hq)) (R1.push r1) fun w x M2 H2 ⟨p, C, ns, fs, M3, ex, hr, ff, hl, q⟩ R2 r2 => by
    subst ex
    cases r2
    obtain ⟨dx, vs, e1, l1, rr⟩ := hr.inM.ok R2
    obtain ⟨vs', h1, h2, h3⟩ := putN_rep (f := f) R2.top l1 rr
    refine ⟨p, C, dx, _, rfl, e1, ff.c, ff.n, by simp [l1]; omega, k.nx _ _ _ _ q ?_⟩
    have hp : ∀ x, x ∉ M2.F → upd H2 p (.ins C dx (putF f v (ns.zip vs))) x = H2 x := fun x hx => upd_ne fun z => hx (z ▸ hr.inM.mem)
    exact R2.pop.rpl hr (fun x hx => upd_ne hx) ⟨dx, vs', by rw [upd_same, h1], h2, h3.fwd (Fwd.same hp)⟩
/-! ### isinstance of exceptions and own things -/
structure ExcP (K : PySem.W.Frag) (C : Addr) : Prop where
  cl : (PySem.W.clsIn K C).isSome = true
  ga : PySem.W.findIn K (.ref C) "__getattribute__" = some (some (.builtin "BaseException.__getattribute__"))
  gg : PySem.W.findIn K (.ref C) "__getattr__" = some none
  hs : PySem.W.subIn K (.ref C) (.type "BaseException") = some true
  ha : PySem.W.findIn K (.ref C) "__class__" = some (some (.builtin "object.__class__"))
  hn : PySem.W.specialIn K (.builtin "object.__class__") "__get__" = some (some (.builtin "getset_descriptor.__get__"))
  ht : PySem.W.takesIn K (.builtin "object.__class__") = some true
  hm : PySem.W.mroIn K C (.type "object") = some true
structure InsP (K : PySem.W.Frag) (C : Addr) : Prop where
  cl : Cls K C
  ha : PySem.W.findIn K (.ref C) "__class__" = some (some (.builtin "object.__class__"))
  hn : PySem.W.specialIn K (.builtin "object.__class__") "__get__" = some (some (.builtin "getset_descriptor.__get__"))
  ht : PySem.W.takesIn K (.builtin "object.__class__") = some true
  hm : PySem.W.mroIn K C (.type "object") = some true
def rIsX (K : PySem.W.Frag) : List V → Hp → VK → Prop := fun xs H Q => ∃ (a C : Addr) (dx : Option Addr) (c : V) (u : Value) (b : Bool), xs = [.ref a, c] ∧ ClsV c u ∧ H a = some (XO (.ref C) dx a) ∧ (dx = none ∨ ∃ d fs, dx = some d ∧ H d = some (.xd fs)) ∧ ExcP K C ∧ PySem.W.kitOne K (.ref C) u = some b ∧ Q (.bl b) H
def rIsiU (K : PySem.W.Frag) : List V → Hp → VK → Prop := fun xs H Q => rIsi K xs H Q ∨ rIsX K xs H Q
theorem call_isX : CallR X (.builtin "isinstance") (rIsX X.K) := by
  intro pins s σ H xs us Q I r h
  obtain ⟨a, C, dx, c, u, b, rfl, k, ea, hd, T, e, q⟩ := h
  cases r with
  | cons rx rr =>
    cases rr with
    | cons rt rr =>
      cases rr
      cases rx
      have ec := k.eq rt
      subst ec
      obtain ⟨⟨oe, vs, ha, hz, hdt⟩, _, _⟩ := I.hok a _ ea
      have J : ∃ od, PySem.W.InstAt s.heap a oe C od := by
        rcases hd with rfl | ⟨d, fs, rfl, ed⟩
        · exact ⟨none, ha, hz.1, by unfold PySem.W.notCls; rw [hdt] <;> rfl, by rw [hz.2]; trivial⟩
        · have hx : ObjOk X.prog X.w H s.heap d (.xd fs) := I.hok d _ ed
          obtain ⟨mA, hns, hr⟩ := hx
          obtain ⟨od, ho, hl⟩ := lookIn_ns hns
          exact ⟨some od, ha, hz.1, by unfold PySem.W.notCls; rw [hdt] <;> rfl, by rw [hz.2]; exact ho⟩
      obtain ⟨od, J⟩ := J
      exact PySem.W.kia_one (PySem.W.kitx_exc T.cl T.ga T.gg T.hs T.ha T.hn T.ht T.hm) I.kIn J e (fun z => nomatch z) fun tk => ⟨.bl b, H, I.kept (t' := tk) fun _ _ z => z, rfl, q⟩
theorem ClsD {c : V} {F : List Addr} {H : Hp} {v : V} (r : Rep F H v (.raw c)) : v = c := by cases r; rfl
theorem isx_x {K : PySem.W.Frag} {C : Addr} {ns : List Str} {fs : List D} {c : V} {u : Value} {b : Bool} (T : ExcP K C) (hc : ClsV c u) (hk : PySem.W.kitOne K (.ref C) u = some b) (k : Φ (.bl b) M) : CallD (rIsiU K) [.exn C ns fs, .raw c] M Φ := .inr fun κ δ σ H vs Q R rs f => by
  cases rs with
  | cons r1 r2 =>
    cases r2 with
    | cons r2 r3 =>
      cases r3
      have := ClsD r2
      subst this
      cases r1 with
      | exn0 h1 e1 => exact ⟨_, C, none, _, u, b, rfl, hc, e1, .inl rfl, T, hk, f _ _ _ _ k R (.bl _)⟩
      | exn h1 e1 h2 e2 hl rr => exact ⟨_, C, _, _, u, b, rfl, hc, e1, .inr ⟨_, _, rfl, e2⟩, T, hk, f _ _ _ _ k R (.bl _)⟩
theorem isx_o {K : PySem.W.Frag} {C : Addr} {ns : List Str} {fs : List D} {c : V} {u : Value} {b : Bool} (h : IsO M x C ns fs) (T : InsP K C) (hc : ClsV c u) (hk : PySem.W.kitOne K (.ref C) u = some b) (k : Φ (.bl b) M) : CallD (rIsiU K) [x, .raw c] M Φ := .inl fun κ δ σ H vs Q R rs f => by
  cases rs with
  | cons r1 r2 =>
    cases r2 with
    | cons r2 r3 =>
      cases r3
      have := ClsD r2
      subst this
      obtain ⟨p, dx, vs, rfl, ea, hl, rr⟩ := h.sq R r1
      exact ⟨_, _, .ref C, u, b, rfl, hc, .base (.ins ea T.cl T.ha T.hn T.ht T.hm), hk, f _ _ _ _ k R (.bl _)⟩
/-- a plain thing and an own class -/
theorem isx_b {K : PySem.W.Frag} {S : String} {c : V} {u : Value} {b : Bool} (hx : tyD x = some S) (hc : ClsV c u) (hk : PySem.W.kitOne K (.type S) u = some b) (k : Φ (.bl b) M) : CallD (rIsiU K) [x, .raw c] M Φ := .inl fun κ δ σ H vs Q R rs f => by
  cases rs with
  | cons r1 r2 =>
    cases r2 with
    | cons r2 r3 =>
      cases r3
      have := ClsD r2
      subst this
      refine ⟨_, _, .type S, u, b, rfl, hc, ?_, hk, f _ _ _ _ k R (.bl _)⟩
      cases r1 with
      | non => cases hx; exact .base .non
      | bl b => cases hx; exact .base (.bl b)
      | int i => cases hx; exact .base (.int i)
      | str i => cases hx; exact .base (.str i)
      | lst h1 e1 _ => cases hx; exact .base (.lst e1)
      | tup h1 e1 _ => cases hx; exact .base (.tup e1)
      | obj _ _ _ _ => cases hx
      | raw _ => cases hx
      | scrH _ _ => cases hx
      | scrK _ => cases hx
      | exn0 _ _ => cases hx
      | exn _ _ _ _ _ _ => cases hx
      | fd _ _ _ _ _ => cases hx
      | hp _ _ _ => cases hx
      | fn _ _ _ _ _ _ _ _ _ => cases hx
/-- an own class as a value -/
theorem de_gcls {x : Str} {C : Addr} (hg : Gl X x) (hm : X.mg x = some (.ref C)) (k : Φ (.raw (.ref C)) M) (hd : (x == ("__debug__" : Str)) = false := by decide) : DE B X (.Name x pos) δ M Φ := de_glob (v := .ref C) ⟨hg, ⟨_, hm, rfl⟩, hd⟩ (fun _ _ => .raw _) k
end
end Hl
namespace Hl
open PySem L2
open PyProof.Rows hiding St
/-! ### a def as it stands, with or without defaults -/
structure FunG (K : PySem.W.Frag) (x qual : Str) (st : Stmt) (f : Addr) (fd : FuncData) : Prop where
  ex : ∃ (oc : Value) (od : Option Addr) (dV kV doc pm : Value) (an : Option Addr) (cdv ct : Value) (osl : Array (Option Value)),
    fd = PySem.W.fnOf x qual (defArgs st) (defBody st) (defScope st) dV kV doc pm an cdv ct ∧ K.lookup f = some ⟨oc, od, .func fd, osl⟩ ∧ PySem.W.codeIn K cdv qual = true
theorem fung_mk {K : PySem.W.Frag} {x qual : Str} {st : Stmt} {f : Addr} {oc : Value} {od an : Option Addr} {osl : Array (Option Value)} {dV kV doc pm cdv ct : Value} (l : K.lookup f = some ⟨oc, od, .func (PySem.W.fnOf x qual (defArgs st) (defBody st) (defScope st) dV kV doc pm an cdv ct), osl⟩)
    (c : PySem.W.codeIn K cdv qual = true) : FunG K x qual st f (PySem.W.fnOf x qual (defArgs st) (defBody st) (defScope st) dV kV doc pm an cdv ct) := ⟨oc, od, dV, kV, doc, pm, an, cdv, ct, osl, rfl, l, c⟩
theorem fnokG_of {P : Program} {w : World} {K : PySem.W.Frag} {mg : Str → Option Value} {base : Heap} {x qual : Str} {st : Stmt} {f : Addr} {fd : FuncData} {N ps : List Str} {k : Nat} {p : DSpE} (F : FunG K x qual st f fd) (S : FnScope N ps (defScope st))
    (len : ∀ ds M Φ Ξ, p ds M Φ Ξ → ds.length = ps.length)
    (h : ∀ X kp ds M Φ Ξ, p ds M Φ Ξ → InDefE P w K mg base N (defScope st) k X ⟨kp, fun C ns es _ M' => ∃ es2 M2, VwX ns es M' es2 M2 ∧ Ξ C ns es2 M2⟩ → DSs ⟨kp, fun C ns es _ M' => ∃ es2 M2, VwX ns es M' es2 M2 ∧ Ξ C ns es2 M2⟩ X (defBody st) (startD N.length ds) M { nx := fun _ M' => ∃ d2 M2, Vw .non M' d2 M2 ∧ Φ d2 M2, rt := fun d M' => ∃ d2 M2, Vw d M' d2 M2 ∧ Φ d2 M2 }) : FnOk P w K mg base (L2.CX P w) (k + 1) f fd ps (liftE p) := by
  obtain ⟨oc, od, dV, kV, doc, pm, an, cdv, ct, osl, rfl, lk, hcd⟩ := F.ex
  refine fn_of lk hcd S (fun vs H Q E hl => ?_) fun A outer s H vs Q E hr hl => ?_
  · obtain ⟨κ, ds, M, Φ, Ξ, R, r, q, _⟩ := hl
    rw [r.length]; exact len ds M Φ Ξ q
  · obtain ⟨κ, ds, M, Φ, Ξ, R, r, q, kk, kx⟩ := hl
    refine ⟨_, cSs, ?_⟩
    refine h _ κ ds M Φ Ξ q ⟨rfl, rfl, rfl, rfl, rfl, rfl, rfl, rfl, ⟨S.nd, rfl, hr⟩, PassesOwn.leaving, ?_, rfl, rfl⟩ κ _ H _ (fun _ h => h) (start_rs R r) ⟨fun δ M' σ H' ⟨d2, M2, h1, h2⟩ R' => ?_, fun v d M' δ σ H' ⟨d2, M2, h1, h2⟩ R' r' => ?_, fun _ _ _ _ z => z.elim, fun _ _ _ _ z => z.elim⟩
    · refine Takes.imp (takes_of (E := E) rfl rfl rfl rfl) fun cls dx σ H' hw => ?_
      obtain ⟨C, ns, es, δ, M', κ', rfl, ⟨es2, M2, hv, hX⟩, hb, R', x'⟩ := hw
      obtain ⟨R2, x2⟩ := hv κ' δ σ H' dx R' x'
      exact kx C ns es2 M2 H' dx hX ⟨fun q hq => R2.kp q (hb q hq), .nil, R2.cl, R2.nd⟩ x2
    · obtain ⟨R2, r2⟩ := h1 _ _ _ _ _ R' .non
      exact kk .non d2 M2 H' h2 ⟨R2.kp, .nil, R2.cl, R2.nd⟩ r2
    · obtain ⟨R2, r2⟩ := h1 _ _ _ _ _ R' r'
      exact kk v d2 M2 H' h2 ⟨R2.kp, .nil, R2.cl, R2.nd⟩ r2
/-! facts within a comprehension's block -/
section
variable {X X' : Cx} {scope : Scope} {k : Nat} {x f : Str} {n : Nat} {ks : List Str} {sel : Sel} {p : DSpE} {C : Addr}
theorem Bk.kE (h : Bk X X' scope) (d : MakeEX X k x C n ks sel p) : MakeEX X' k x C n ks sel p := by unfold MakeEX; rw [h.prog, h.wd, h.K, h.mg, h.base]; exact d
theorem Bk.fld (h : Bk X X' scope) (d : FldP X.K C f) : FldP X'.K C f := by rw [h.K]; exact d
end
/-! ### loops and joins by the slots that change -/
def putAll (δ : Env') : List Nat → List (Option D) → Env'
  | i :: is, v :: vs => putAll (δ.set i v) is vs
  | _, _ => δ
theorem set_self {α : Type} {l : List (Option α)} {i : Nat} : l.set i (l.getD i none) = l := by
  apply List.ext_getElem?
  intro n
  by_cases hn : i = n
  · subst hn
    by_cases hl : i < l.length
    · rw [List.getElem?_set_self hl, List.getD_eq_getElem?_getD, List.getElem?_eq_getElem hl]; rfl
    · rw [List.getElem?_eq_none (by simpa using hl), List.getElem?_eq_none (by simpa using hl)]
  · rw [List.getElem?_set_ne hn]
theorem putAll_self {δ : Env'} : ∀ {cs : List Nat}, putAll δ cs (cs.map fun i => δ.getD i none) = δ
  | [] => rfl
  | c :: cs => by
    show putAll (δ.set c (δ.getD c none)) cs _ = δ
    rw [set_self]; exact putAll_self
section
variable {B : Bx} {X : Cx} {tg iter c : Expr} {st : Stmt} {sts body : List Stmt} {δ : Env'} {M : Mem} {Ψ : DEnds} {pos : Pos}
theorem ds_forC {n : Nat} (cs : List Nat) (z : Cz X n) (hp : PassesOwn (model X.prog X.w) X.A X.env X.xe)
    (h : DI B X tg iter δ M fun xs M' => ∃ Iv : Nat → List (Option D) → Mem → Prop, Iv 0 (cs.map fun i => δ.getD i none) M' ∧
      (∀ i x vs δ1 M1, xs[i]? = some x → Iv i vs M1 → δ1 = putAll δ cs vs → DG B X tg x δ1 M1 fun δ' M' => DSs B X body δ' M' { Ψ with nx := fun δ' M' => ∃ vs', δ' = putAll δ cs vs' ∧ Iv (i + 1) vs' M', ct := fun δ' M' => ∃ vs', δ' = putAll δ cs vs' ∧ Iv (i + 1) vs' M', bk := Ψ.nx }) ∧
      ∀ vs δ1 M1, Iv xs.length vs M1 → δ1 = putAll δ cs vs → Ψ.nx δ1 M1)
    (hs : ∀ x, foldedSetIterable iter X.env x = pure x := by intro _; rfl) : DS B X (.For tg iter body [] pos) δ M Ψ := by
  refine ds_for z hp ?_ hs
  obtain ⟨wi, pi, w⟩ := h
  refine ⟨wi, pi, fun κ σ H R hb Rr k => w κ σ H R hb Rr fun xs M' H' J κ' ⟨Iv, h0, h1, h2⟩ hk R' W => k xs M' H' J κ' ⟨fun i δ1 M1 => ∃ vs, δ1 = putAll δ cs vs ∧ Iv i vs M1, ⟨_, putAll_self.symm, h0⟩, fun i x δ1 M1 hx ⟨vs, e, hv⟩ => h1 i x vs δ1 M1 hx hv e, fun δ1 M1 ⟨vs, e, hv⟩ => h2 vs δ1 M1 hv e⟩ hk R' W⟩
theorem ds_cutC (cs : List Nat) (Mid : List (Option D) → Mem → Prop) (h1 : DS B X st δ M { Ψ with nx := fun δ' M' => ∃ vs, δ' = putAll δ cs vs ∧ Mid vs M' }) (h2 : ∀ vs δ1 M1, Mid vs M1 → δ1 = putAll δ cs vs → DSs B X sts δ1 M1 Ψ) : DSs B X (st :: sts) δ M Ψ :=
  ds_cut (fun δ1 M1 => ∃ vs, δ1 = putAll δ cs vs ∧ Mid vs M1) h1 fun δ1 M1 ⟨vs, e, hv⟩ => h2 vs δ1 M1 hv e
end
/-! ### items of typed lists -/
section
variable {K : PySem.W.Frag} {M : Mem} {Φ : D → Mem → Prop} {α : Type} {l : List α} {f : α → D} {i : Int}
theorem od_ixE (h : 0 ≤ i ∧ i < l.length) (k : ∀ y, l[i.toNat]? = some y → Φ (f y) M) : OpD (rIxU K) (.lst (l.map f)) (.int i) M Φ := by
  obtain ⟨y, h1, h2⟩ := at_map (f := f) h.1 h.2
  exact od_ixL h2 (k y h1)
end
end Hl
namespace Hl
open PySem L2
open PyProof.Rows hiding St
section
variable {B : Bx} {X : Cx} {e a b c o : Expr} {es rest : List Expr} {kw : Keyword} {kws : List Keyword} {st : Stmt} {sts body suite : List Stmt} {δ δ' : Env'} {M : Mem} {Φ : D → Mem → Prop} {Ψ : DEnds} {pos pos' apos pp np : Pos} {d x y : D} {ΦL : List D → Mem → Prop}
def selN (n : Nat) : Sel := (List.range n).map .inl
theorem selN_eq {ds : List D} {n : Nat} (h : ds.length = n) : selD (selN n) ds = ds := by
  subst h
  unfold selD selN
  rw [List.map_map]
  apply List.ext_getElem
  · simp
  · intro i h1 h2
    simp [List.getD, h2]
theorem ar_id {k : Nat} {p : DSpE} {ds : List D} {Ξ : XPost} (h : ds.length = k) (q : p ds M Φ Ξ) : ds.length = k ∧ ([] : List D).length = ([] : List Str).length ∧ p (selD (selN k) (ds ++ [])) M Φ Ξ := ⟨h, rfl, by rw [List.append_nil, selN_eq h]; exact q⟩
theorem ar_idM {k : Nat} {p : DSpE} {ds : List D} {Ξ : XPost} (h : ds.length = k) (q : p (x :: ds) M Φ Ξ) : ds.length = k ∧ ([] : List D).length = ([] : List Str).length ∧ p (selD (selN (k + 1)) (x :: ds ++ [])) M Φ Ξ := ⟨h, rfl, by rw [List.append_nil, selN_eq (by simp [h])]; exact q⟩
theorem ar_idN {k : Nat} {p : DSpE} {ds : List D} {Ξ : XPost} {Φ' : Addr → D → Mem → Prop} {Mm : Addr → Mem} (h : ds.length = k) (q : ∀ a, p (.raw (.ref a) :: ds) (Mm a) (Φ' a) Ξ) : ds.length = k ∧ ([] : List D).length = ([] : List Str).length ∧ ∀ a, p (selD (selN (k + 1)) (.raw (.ref a) :: ds ++ [])) (Mm a) (Φ' a) Ξ := ⟨h, rfl, fun a => by rw [List.append_nil, selN_eq (by simp [h])]; exact q a⟩
theorem ar_g {k : Nat} {p : DSpE} {ds zs : List D} {ks : List Str} {sel : Sel} {Ξ : XPost} (h : ds.length = k) (h2 : zs.length = ks.length) (q : p (selD sel (ds ++ zs)) M Φ Ξ) : ds.length = k ∧ zs.length = ks.length ∧ p (selD sel (ds ++ zs)) M Φ Ξ := ⟨h, h2, q⟩
theorem ar_gM {k : Nat} {p : DSpE} {ds zs : List D} {ks : List Str} {sel : Sel} {Ξ : XPost} (h : ds.length = k) (h2 : zs.length = ks.length) (q : p (selD sel (x :: ds ++ zs)) M Φ Ξ) : ds.length = k ∧ zs.length = ks.length ∧ p (selD sel (x :: ds ++ zs)) M Φ Ξ := ⟨h, h2, q⟩
theorem ar_gN {k : Nat} {p : DSpE} {ds zs : List D} {ks : List Str} {sel : Sel} {Ξ : XPost} {Φ' : Addr → D → Mem → Prop} {Mm : Addr → Mem} (h : ds.length = k) (h2 : zs.length = ks.length) (q : ∀ a, p (selD sel (.raw (.ref a) :: ds ++ zs)) (Mm a) (Φ' a) Ξ) : ds.length = k ∧ zs.length = ks.length ∧ ∀ a, p (selD sel (.raw (.ref a) :: ds ++ zs)) (Mm a) (Φ' a) Ξ := ⟨h, h2, q⟩
/-! methods, the class by the thing -/
def MtE (B : Bx) (X : Cx) (m : Nat) (pos : Pos) (es : List Expr) (kws : List Keyword) (mn : Str) (δ : Env') (x : D) (M1 : Mem) (Φ : D → Mem → Prop) : Prop := ∃ C k n ks sel p Ξ, MethEX X k C mn n ks sel p ∧ k ≤ m ∧ Lets X B δ Ξ ∧ PlA X pos es kws ks ∧ (∃ ns fs, IsO M1 x C ns fs ∧ ns.contains mn = false) ∧
  DAK B X es kws δ M1 fun ds zs M' => ds.length = n ∧ zs.length = ks.length ∧ p (selD sel (x :: ds ++ zs)) M' Φ Ξ
theorem de_mU {pl_ : Sem Bool} {m : Nat} {mn : Str} (z : Cz X m) (h : DE B X o δ M fun x M1 => MtE B X m pos es kws mn δ x M1 Φ)
    (ht : eval (.Call (.Attribute o mn apos) es kws pos) X.env = (do
      let ov ← eval o X.env
      standAt apos.atName
      let (f, first) ← holding [ov] (getMethod ov mn pl_)
      callWith pos f first (backTo pos (starEach es X.env)) (backToKw pos (keywordEach kws X.env))) := by rfl) : DE B X (.Call (.Attribute o mn apos) es kws pos) δ M Φ := by
  intro κ σ H Q hb R kk
  unfold tE
  intro pins s I
  refine PySem.W.methodCall_KW (pl := pl_) (thn ((cE (X := X) (e := o)).run pins s σ H (fun v H1 => ∃ x M1, MtE B X m pos es kws mn δ x M1 Φ ∧ Rs κ δ M1 σ H1 ∧ Rep M1.F H1 v x) I (h κ σ H _ hb R fun v x M1 H1 q R1 r1 => ⟨x, M1, q, R1, r1⟩)) fun u s1 ⟨v, H1, I1, rv, x, M1, hm, R1, r1⟩ => ?_) ht
  obtain ⟨C, k, n, ks, sel, p, Ξ, f, hk, lt, pl, ⟨ns, fs, io, hn⟩, hd⟩ := hm
  obtain ⟨fa, c, hm, h3⟩ := f.ex
  obtain ⟨W, tk, hx⟩ := lt
  obtain ⟨a, dx, vs0, rfl, ea, hl, rr⟩ := io.sq R1 r1
  obtain rfl : u = Value.ref a := rv
  refine getmeth_ok I1 ea c hm (lookup_zip hn) ?_
  refine dak_run (κ := (.ref a, x) :: κ) (first := [.ref a]) hm.kp pl hd I1 (fun q hq => List.mem_cons_of_mem _ (hb q hq)) (R1.push r1) fun us ws s2 vs zs ds es M2 H2 I2 rv rz ⟨l1, l2, q⟩ R2 r3 r4 => ?_
  have rs : Vals (V.ref a :: vs) (Value.ref a :: us) := .cons rfl rv
  refine run_E h3 (z.room.mono hk) (passAt tk σ) I2 rs rz (by rw [List.length_cons, r3.length, l1]) (by rw [r4.length]; exact l2) fun us' all rr so => ?_
  exact liftE_of so rr.length R2.pop ((Reps.cons R2.top r3).append r4) q kk fun C ns es M' H' dx e R' x => hx κ σ C ns es M' H' dx hb e R' x
theorem mt_v {m k n : Nat} {mn : Str} {C : Addr} {ns ks : List Str} {fs : List D} {sel : Sel} {p : DSpE} {Ξ : XPost} (f : MethEX X k C mn n ks sel p) (hk : k ≤ m) (lt : Lets X B δ Ξ) (pl : PlA X pos es kws ks) (hn : ns.contains mn = false)
    (h : DAK B X es kws δ M fun ds zs M' => ds.length = n ∧ zs.length = ks.length ∧ p (selD sel (.obj C ns fs :: ds ++ zs)) M' Φ Ξ) : MtE B X m pos es kws mn δ (.obj C ns fs) M Φ := ⟨C, k, n, ks, sel, p, Ξ, f, hk, lt, pl, ⟨ns, fs, .val _ _ _, hn⟩, h⟩
theorem mt_c {m k n : Nat} {mn : Str} {C q : Addr} {ns ks : List Str} {fs : List D} {sel : Sel} {p : DSpE} {Ξ : XPost} (j : Nat) (hm : M[j]? = some (q, .obj C ns fs)) (f : MethEX X k C mn n ks sel p) (hk : k ≤ m) (lt : Lets X B δ Ξ) (pl : PlA X pos es kws ks) (hn : ns.contains mn = false)
    (h : DAK B X es kws δ M fun ds zs M' => ds.length = n ∧ zs.length = ks.length ∧ p (selD sel (.raw (.ref q) :: ds ++ zs)) M' Φ Ξ) : MtE B X m pos es kws mn δ (.raw (.ref q)) M Φ := ⟨C, k, n, ks, sel, p, Ξ, f, hk, lt, pl, ⟨ns, fs, .cell j hm, hn⟩, h⟩
/-! an exception reaches a handler -/
theorem exh_yes {c0 C : Addr} {oi : Option Nat} {ns : List Str} {ds : List D} {r : List HdD} (hm : PySem.W.exmOne X.K (.ref C) (.ref c0) = some true) (h : ∀ a pn kp, DSs ⟨kp, fun _ _ _ _ _ => False⟩ (X.suite a pn) suite (envD oi δ (.exn C ns ds)) M (endsD oi Ψ)) : exH B X Ψ ((c0, oi, suite) :: r) C ns ds δ M := ⟨true, hm, (fun _ => h), (fun z => nomatch z)⟩
theorem exh_no {c0 C : Addr} {oi : Option Nat} {ns : List Str} {ds : List D} {r : List HdD} (hm : PySem.W.exmOne X.K (.ref C) (.ref c0) = some false) (h : exH B X Ψ r C ns ds δ M) : exH B X Ψ ((c0, oi, suite) :: r) C ns ds δ M := ⟨false, hm, (fun z => nomatch z), fun _ => h⟩
theorem kind_of {sc : Scope} {x : Str} (hs : X.env.scope = sc) (h : sc.names.lookup x = some .local) : X.env.kindOf x = some .local := by unfold Env.kindOf; rw [hs]; exact h
theorem len_andI {ds : List D} {ns : List Str} {P : Prop} (h1 : ds.length = ns.length) (h2 : ds.length ≤ 1000) (k : P) : ds.length = ns.length ∧ ds.length ≤ 1000 ∧ P := ⟨h1, h2, k⟩
/-- a store without calm -/
theorem ds_setN {i : Nat} {x : Str} (nd : X.N.Nodup) (l : Lo X i x) (h : DE B X e δ M fun d M' => Sets δ i d fun δ' => Ψ.nx δ' M') (hs : swapsWith e (some (.Name x pos')) pos.line X.env = pure false := by rfl) : DS B X (.Assign [.Name x pos'] e pos) δ M Ψ :=
  .of (ps_set nd l.at_ l.loc cE hs l.fn) fun κ σ H E hb R k => h κ σ H _ hb R fun v d M' H' q R' r => k.nx _ _ _ _ q.get (R'.put i r)
/-! a field is set, the class by the thing -/
def StF (K : PySem.W.Frag) (f : Str) (d x : D) (M : Mem) (Φ : Mem → Prop) : Prop := ∃ p C ns fs ns' fs' M', x = .raw (.ref p) ∧ Rpl p (.obj C ns fs) (.obj C ns' fs') M M' ∧ FldP K C f ∧ ns.length < 1000 ∧ putN f d ns fs = (ns', fs') ∧ Φ M'
theorem ds_fldU {f : Str} (h : DE B X e δ M fun d M1 => DE B X o δ M1 fun x M2 => StF X.K f d x M2 fun M3 => Ψ.nx δ M3)
    (hs : swapsWith e (some (.Attribute o f pos')) pos.line X.env = pure false := by rfl) : DS B X (.Assign [.Attribute o f pos'] e pos) δ M Ψ := ds_fld (h.mono fun d M1 h1 => h1.mono fun x M2 ⟨p, C, ns, fs, ns', fs', M3, e1, e2, ff, hl, hp, k⟩ => ⟨p, C, ns, fs, M3, e1, by rw [hp]; exact e2, ff, hl, k⟩) hs
theorem sf_n0 {K : PySem.W.Frag} {f : Str} {p C : Addr}   {ΦM : Mem → Prop} (j : Nat) (hm : M[j]? = some (p, .obj C [] [])) (ff : FldP K C f)  (k : ΦM (M.set j (p, .obj C [f] [d]))) : StF K f d (.raw (.ref p)) M ΦM := ⟨p, C, _, _, _, _, _, rfl, .cell j hm, ff, (by show 0 < 1000; decide), by simp [putN], k⟩
theorem sf_n1 {K : PySem.W.Frag} {f : Str} {p C : Addr} {n0 : Str} {x0 : D} {ΦM : Mem → Prop} (j : Nat) (hm : M[j]? = some (p, .obj C [n0] [x0])) (ff : FldP K C f) (h0 : (n0 = f) = False) (k : ΦM (M.set j (p, .obj C [n0, f] [x0, d]))) : StF K f d (.raw (.ref p)) M ΦM := ⟨p, C, _, _, _, _, _, rfl, .cell j hm, ff, (by show 1 < 1000; decide), by simp [putN, h0], k⟩
theorem sf_n2 {K : PySem.W.Frag} {f : Str} {p C : Addr} {n0 n1 : Str} {x0 x1 : D} {ΦM : Mem → Prop} (j : Nat) (hm : M[j]? = some (p, .obj C [n0, n1] [x0, x1])) (ff : FldP K C f) (h0 : (n0 = f) = False) (h1 : (n1 = f) = False) (k : ΦM (M.set j (p, .obj C [n0, n1, f] [x0, x1, d]))) : StF K f d (.raw (.ref p)) M ΦM := ⟨p, C, _, _, _, _, _, rfl, .cell j hm, ff, (by show 2 < 1000; decide), by simp [putN, h0, h1], k⟩
theorem sf_n3 {K : PySem.W.Frag} {f : Str} {p C : Addr} {n0 n1 n2 : Str} {x0 x1 x2 : D} {ΦM : Mem → Prop} (j : Nat) (hm : M[j]? = some (p, .obj C [n0, n1, n2] [x0, x1, x2])) (ff : FldP K C f) (h0 : (n0 = f) = False) (h1 : (n1 = f) = False) (h2 : (n2 = f) = False) (k : ΦM (M.set j (p, .obj C [n0, n1, n2, f] [x0, x1, x2, d]))) : StF K f d (.raw (.ref p)) M ΦM := ⟨p, C, _, _, _, _, _, rfl, .cell j hm, ff, (by show 3 < 1000; decide), by simp [putN, h0, h1, h2], k⟩
theorem sf_n4 {K : PySem.W.Frag} {f : Str} {p C : Addr} {n0 n1 n2 n3 : Str} {x0 x1 x2 x3 : D} {ΦM : Mem → Prop} (j : Nat) (hm : M[j]? = some (p, .obj C [n0, n1, n2, n3] [x0, x1, x2, x3])) (ff : FldP K C f) (h0 : (n0 = f) = False) (h1 : (n1 = f) = False) (h2 : (n2 = f) = False) (h3 : (n3 = f) = False) (k : ΦM (M.set j (p, .obj C [n0, n1, n2, n3, f] [x0, x1, x2, x3, d]))) : StF K f d (.raw (.ref p)) M ΦM := ⟨p, C, _, _, _, _, _, rfl, .cell j hm, ff, (by show 4 < 1000; decide), by simp [putN, h0, h1, h2, h3], k⟩
theorem sf_n5 {K : PySem.W.Frag} {f : Str} {p C : Addr} {n0 n1 n2 n3 n4 : Str} {x0 x1 x2 x3 x4 : D} {ΦM : Mem → Prop} (j : Nat) (hm : M[j]? = some (p, .obj C [n0, n1, n2, n3, n4] [x0, x1, x2, x3, x4])) (ff : FldP K C f) (h0 : (n0 = f) = False) (h1 : (n1 = f) = False) (h2 : (n2 = f) = False) (h3 : (n3 = f) = False) (h4 : (n4 = f) = False) (k : ΦM (M.set j (p, .obj C [n0, n1, n2, n3, n4, f] [x0, x1, x2, x3, x4, d]))) : StF K f d (.raw (.ref p)) M ΦM := ⟨p, C, _, _, _, _, _, rfl, .cell j hm, ff, (by show 5 < 1000; decide), by simp [putN, h0, h1, h2, h3, h4], k⟩
theorem isl_c {p : Addr} {ds : List D} {P : Prop} (j : Nat) (hm : M[j]? = some (p, .lst ds)) (k : P) : (∃ ds, IsL M (.raw (.ref p)) ds) ∧ P := ⟨⟨ds, .cell j hm⟩, k⟩
theorem idApp {K : PySem.W.Frag} {ds : List D} {r : V → List V → Hp → VK → Prop} (h : MtD K "list" r x ds M Φ) : MtD K "list" r x ds M Φ := h
theorem len_lt {n : Nat} (h : n ≤ 100000) : n < sizeLine := Nat.lt_of_le_of_lt h (by decide)
theorem idFld {f : Str} {K : PySem.W.Frag} (h : FldD K f x M Φ) : FldD K f x M Φ := h
theorem idMt {m : Nat} {mn : Str} (h : MtE B X m pos es kws mn δ x M Φ) : MtE B X m pos es kws mn δ x M Φ := h
theorem idStF {f : Str} {K : PySem.W.Frag} {ΦM : Mem → Prop} (h : StF K f d x M ΦM) : StF K f d x M ΦM := h
theorem idDAK {ΦA : List D → List D → Mem → Prop} (h : DAK B X es kws δ M ΦA) : DAK B X es kws δ M ΦA := h
theorem idAttr {f : Str} (h : DE B X (.Attribute o f pos) δ M Φ) : DE B X (.Attribute o f pos) δ M Φ := h
theorem idRaise {e' : Option Expr} {e2 : Option Expr} (h : DS B X (.Raise e' e2 pos) δ M Ψ) : DS B X (.Raise e' e2 pos) δ M Ψ := h
end
end Hl
namespace Hl
open PySem L2
open PyProof.Rows hiding St
section
variable {B : Bx} {X : Cx} {e a b c o : Expr} {es rest : List Expr} {δ δ' : Env'} {M : Mem} {Φ : D → Mem → Prop} {Ψ : DEnds} {pos pos' apos pp np : Pos} {d x y : D}
/-! isinstance(e, (A, B)), e an exception that is held -/
def rIsXT (K : PySem.W.Frag) : List V → Hp → VK → Prop := fun xs H Q => ∃ (a C tp : Addr) (dx : Option Addr) (cs : List V) (us : List Value) (b : Bool), xs = [.ref a, .ref tp] ∧ H tp = some (.tup cs) ∧ Paired ClsV cs us ∧ H a = some (XO (.ref C) dx a) ∧ (dx = none ∨ ∃ d fs, dx = some d ∧ H d = some (.xd fs)) ∧ ExcP K C ∧ PySem.W.kitAny K (.ref C) us = some b ∧ Q (.bl b) H
theorem call_isXT : CallR X (.builtin "isinstance") (rIsXT X.K) := by
  intro pins s σ H xs us Q I r h
  obtain ⟨a, C, tp, dx, cs, ws, b, rfl, hT, k, ea, hd, T, e, q⟩ := h
  obtain ⟨u1, u2, rfl, r1, r2⟩ := vals2 r
  cases (show u2 = Value.ref tp from r2)
  cases (show u1 = Value.ref a from r1)
  obtain ⟨⟨oe, vs, ha, hz, hdt⟩, _, _⟩ := I.hok a _ ea
  have J : ∃ od, PySem.W.InstAt s.heap a oe C od := by
    rcases hd with rfl | ⟨d, fs, rfl, ed⟩
    · exact ⟨none, ha, hz.1, by unfold PySem.W.notCls; rw [hdt] <;> rfl, by rw [hz.2]; trivial⟩
    · have hx : ObjOk X.prog X.w H s.heap d (.xd fs) := I.hok d _ ed
      obtain ⟨mA, hns, hr⟩ := hx
      obtain ⟨od, ho, hl⟩ := lookIn_ns hns
      exact ⟨some od, ha, hz.1, by unfold PySem.W.notCls; rw [hdt] <;> rfl, by rw [hz.2]; exact ho⟩
  obtain ⟨od, J⟩ := J
  obtain ⟨_, its, rv, o, h1, h2, n, h3⟩ := (show ObjOk X.prog X.w H s.heap tp (.tup cs) from I.hok tp _ hT)
  have e3 := ClsV.all k rv
  subst e3
  obtain ⟨oc, od2, dt, sl⟩ := o
  simp only at h2 h3
  subst h2 h3
  exact PySem.W.kia_tup (PySem.W.kitx_exc T.cl T.ga T.gg T.hs T.ha T.hn T.ht T.hm) I.kIn J h1 e (fun z => nomatch z) fun tk => ⟨.bl b, H, I.tok tk, rfl, q⟩
def rIsiV (K : PySem.W.Frag) : List V → Hp → VK → Prop := fun xs H Q => rIsiU K xs H Q ∨ rIsXT K xs H Q
theorem de_isiV {p : Pos} (g : Gn X "isinstance") (h : DA B X [a, b] δ M fun ds M1 => CallD (rIsiV X.K) ds M1 Φ) (he : starEach [a, b] X.env = (false, eval a X.env) :: starEach [b] X.env := by rfl) (hpl : (backTo pos (starEach [b] X.env)).any (·.1) = false := by rfl) : DE B X (.Call (.Name "isinstance" p) [a, b] [] pos) δ M Φ := de_blt ((call_isi.or call_isX).or call_isXT) g boot_isinstance h (by decide) (by decide) he hpl
/-- a held exception and two own classes -/
theorem isx_t2 {K : PySem.W.Frag} {C : Addr} {ns : List Str} {fs : List D} {c1 c2 : V} {u1 u2 : Value} {b1 b2 : Bool} (T : ExcP K C) (h1 : ClsV c1 u1) (h2 : ClsV c2 u2) (k1 : PySem.W.kitOne K (.ref C) u1 = some b1) (k2 : PySem.W.kitOne K (.ref C) u2 = some b2) (k : Φ (.bl (b1 || b2)) M) : CallD (rIsiV K) [.exn C ns fs, .tup [.raw c1, .raw c2]] M Φ := .inr fun κ δ σ H vs Q R rs f => by
  cases rs with
  | cons r1 r2 =>
    cases r2 with
    | cons r2 r3 =>
      cases r3
      have kk : PySem.W.kitAny K (.ref C) [u1, u2] = some (b1 || b2) := by
        refine kitAny_cons k1 (fun e => ?_) fun e => by rw [e]; rfl
        rw [e]
        refine kitAny_cons k2 (fun e => ?_) fun e => by rw [e]; rfl
        rw [e]; exact kitAny_nil
      cases r2 with
      | tup hn e2 rr =>
        cases rr with
        | cons q1 rr =>
          cases rr with
          | cons q2 rr =>
            cases rr
            have := ClsD q1
            subst this
            have := ClsD q2
            subst this
            cases r1 with
            | exn0 h3 e1 => exact ⟨_, C, _, none, _, _, _, rfl, e2, .cons h1 (.cons h2 .nil), e1, .inl rfl, T, kk, f _ _ _ _ k R (.bl _)⟩
            | exn h3 e1 h4 e4 hl rr => exact ⟨_, C, _, _, _, _, _, rfl, e2, .cons h1 (.cons h2 .nil), e1, .inr ⟨_, _, rfl, e4⟩, T, kk, f _ _ _ _ k R (.bl _)⟩
end
/-! the name of a handler goes -/
def Uns (δ : Env') (i : Nat) (P : Env' → Prop) : Prop := P (δ.set i none)
theorem ua0 {P : Env' → Prop} {x0 : Option D} {r : Env'} (h : P (none :: r)) : Uns (x0 :: r) 0 P := h
theorem ua1 {P : Env' → Prop} {x0 x1 : Option D} {r : Env'} (h : P (x0 :: none :: r)) : Uns (x0 :: x1 :: r) 1 P := h
theorem ua2 {P : Env' → Prop} {x0 x1 x2 : Option D} {r : Env'} (h : P (x0 :: x1 :: none :: r)) : Uns (x0 :: x1 :: x2 :: r) 2 P := h
theorem ua3 {P : Env' → Prop} {x0 x1 x2 x3 : Option D} {r : Env'} (h : P (x0 :: x1 :: x2 :: none :: r)) : Uns (x0 :: x1 :: x2 :: x3 :: r) 3 P := h
theorem ua4 {P : Env' → Prop} {x0 x1 x2 x3 x4 : Option D} {r : Env'} (h : P (x0 :: x1 :: x2 :: x3 :: none :: r)) : Uns (x0 :: x1 :: x2 :: x3 :: x4 :: r) 4 P := h
theorem ua5 {P : Env' → Prop} {x0 x1 x2 x3 x4 x5 : Option D} {r : Env'} (h : P (x0 :: x1 :: x2 :: x3 :: x4 :: none :: r)) : Uns (x0 :: x1 :: x2 :: x3 :: x4 :: x5 :: r) 5 P := h
theorem ua6 {P : Env' → Prop} {x0 x1 x2 x3 x4 x5 x6 : Option D} {r : Env'} (h : P (x0 :: x1 :: x2 :: x3 :: x4 :: x5 :: none :: r)) : Uns (x0 :: x1 :: x2 :: x3 :: x4 :: x5 :: x6 :: r) 6 P := h
theorem ua7 {P : Env' → Prop} {x0 x1 x2 x3 x4 x5 x6 x7 : Option D} {r : Env'} (h : P (x0 :: x1 :: x2 :: x3 :: x4 :: x5 :: x6 :: none :: r)) : Uns (x0 :: x1 :: x2 :: x3 :: x4 :: x5 :: x6 :: x7 :: r) 7 P := h
theorem ua8 {P : Env' → Prop} {x0 x1 x2 x3 x4 x5 x6 x7 x8 : Option D} {r : Env'} (h : P (x0 :: x1 :: x2 :: x3 :: x4 :: x5 :: x6 :: x7 :: none :: r)) : Uns (x0 :: x1 :: x2 :: x3 :: x4 :: x5 :: x6 :: x7 :: x8 :: r) 8 P := h
theorem ua9 {P : Env' → Prop} {x0 x1 x2 x3 x4 x5 x6 x7 x8 x9 : Option D} {r : Env'} (h : P (x0 :: x1 :: x2 :: x3 :: x4 :: x5 :: x6 :: x7 :: x8 :: none :: r)) : Uns (x0 :: x1 :: x2 :: x3 :: x4 :: x5 :: x6 :: x7 :: x8 :: x9 :: r) 9 P := h
theorem ua10 {P : Env' → Prop} {x0 x1 x2 x3 x4 x5 x6 x7 x8 x9 x10 : Option D} {r : Env'} (h : P (x0 :: x1 :: x2 :: x3 :: x4 :: x5 :: x6 :: x7 :: x8 :: x9 :: none :: r)) : Uns (x0 :: x1 :: x2 :: x3 :: x4 :: x5 :: x6 :: x7 :: x8 :: x9 :: x10 :: r) 10 P := h
theorem ua11 {P : Env' → Prop} {x0 x1 x2 x3 x4 x5 x6 x7 x8 x9 x10 x11 : Option D} {r : Env'} (h : P (x0 :: x1 :: x2 :: x3 :: x4 :: x5 :: x6 :: x7 :: x8 :: x9 :: x10 :: none :: r)) : Uns (x0 :: x1 :: x2 :: x3 :: x4 :: x5 :: x6 :: x7 :: x8 :: x9 :: x10 :: x11 :: r) 11 P := h
theorem ua12 {P : Env' → Prop} {x0 x1 x2 x3 x4 x5 x6 x7 x8 x9 x10 x11 x12 : Option D} {r : Env'} (h : P (x0 :: x1 :: x2 :: x3 :: x4 :: x5 :: x6 :: x7 :: x8 :: x9 :: x10 :: x11 :: none :: r)) : Uns (x0 :: x1 :: x2 :: x3 :: x4 :: x5 :: x6 :: x7 :: x8 :: x9 :: x10 :: x11 :: x12 :: r) 12 P := h
theorem ua13 {P : Env' → Prop} {x0 x1 x2 x3 x4 x5 x6 x7 x8 x9 x10 x11 x12 x13 : Option D} {r : Env'} (h : P (x0 :: x1 :: x2 :: x3 :: x4 :: x5 :: x6 :: x7 :: x8 :: x9 :: x10 :: x11 :: x12 :: none :: r)) : Uns (x0 :: x1 :: x2 :: x3 :: x4 :: x5 :: x6 :: x7 :: x8 :: x9 :: x10 :: x11 :: x12 :: x13 :: r) 13 P := h
theorem ua14 {P : Env' → Prop} {x0 x1 x2 x3 x4 x5 x6 x7 x8 x9 x10 x11 x12 x13 x14 : Option D} {r : Env'} (h : P (x0 :: x1 :: x2 :: x3 :: x4 :: x5 :: x6 :: x7 :: x8 :: x9 :: x10 :: x11 :: x12 :: x13 :: none :: r)) : Uns (x0 :: x1 :: x2 :: x3 :: x4 :: x5 :: x6 :: x7 :: x8 :: x9 :: x10 :: x11 :: x12 :: x13 :: x14 :: r) 14 P := h
theorem ua15 {P : Env' → Prop} {x0 x1 x2 x3 x4 x5 x6 x7 x8 x9 x10 x11 x12 x13 x14 x15 : Option D} {r : Env'} (h : P (x0 :: x1 :: x2 :: x3 :: x4 :: x5 :: x6 :: x7 :: x8 :: x9 :: x10 :: x11 :: x12 :: x13 :: x14 :: none :: r)) : Uns (x0 :: x1 :: x2 :: x3 :: x4 :: x5 :: x6 :: x7 :: x8 :: x9 :: x10 :: x11 :: x12 :: x13 :: x14 :: x15 :: r) 15 P := h
theorem ua16 {P : Env' → Prop} {x0 x1 x2 x3 x4 x5 x6 x7 x8 x9 x10 x11 x12 x13 x14 x15 x16 : Option D} {r : Env'} (h : P (x0 :: x1 :: x2 :: x3 :: x4 :: x5 :: x6 :: x7 :: x8 :: x9 :: x10 :: x11 :: x12 :: x13 :: x14 :: x15 :: none :: r)) : Uns (x0 :: x1 :: x2 :: x3 :: x4 :: x5 :: x6 :: x7 :: x8 :: x9 :: x10 :: x11 :: x12 :: x13 :: x14 :: x15 :: x16 :: r) 16 P := h
theorem ua17 {P : Env' → Prop} {x0 x1 x2 x3 x4 x5 x6 x7 x8 x9 x10 x11 x12 x13 x14 x15 x16 x17 : Option D} {r : Env'} (h : P (x0 :: x1 :: x2 :: x3 :: x4 :: x5 :: x6 :: x7 :: x8 :: x9 :: x10 :: x11 :: x12 :: x13 :: x14 :: x15 :: x16 :: none :: r)) : Uns (x0 :: x1 :: x2 :: x3 :: x4 :: x5 :: x6 :: x7 :: x8 :: x9 :: x10 :: x11 :: x12 :: x13 :: x14 :: x15 :: x16 :: x17 :: r) 17 P := h
theorem ua18 {P : Env' → Prop} {x0 x1 x2 x3 x4 x5 x6 x7 x8 x9 x10 x11 x12 x13 x14 x15 x16 x17 x18 : Option D} {r : Env'} (h : P (x0 :: x1 :: x2 :: x3 :: x4 :: x5 :: x6 :: x7 :: x8 :: x9 :: x10 :: x11 :: x12 :: x13 :: x14 :: x15 :: x16 :: x17 :: none :: r)) : Uns (x0 :: x1 :: x2 :: x3 :: x4 :: x5 :: x6 :: x7 :: x8 :: x9 :: x10 :: x11 :: x12 :: x13 :: x14 :: x15 :: x16 :: x17 :: x18 :: r) 18 P := h
theorem ua19 {P : Env' → Prop} {x0 x1 x2 x3 x4 x5 x6 x7 x8 x9 x10 x11 x12 x13 x14 x15 x16 x17 x18 x19 : Option D} {r : Env'} (h : P (x0 :: x1 :: x2 :: x3 :: x4 :: x5 :: x6 :: x7 :: x8 :: x9 :: x10 :: x11 :: x12 :: x13 :: x14 :: x15 :: x16 :: x17 :: x18 :: none :: r)) : Uns (x0 :: x1 :: x2 :: x3 :: x4 :: x5 :: x6 :: x7 :: x8 :: x9 :: x10 :: x11 :: x12 :: x13 :: x14 :: x15 :: x16 :: x17 :: x18 :: x19 :: r) 19 P := h
theorem ua20 {P : Env' → Prop} {x0 x1 x2 x3 x4 x5 x6 x7 x8 x9 x10 x11 x12 x13 x14 x15 x16 x17 x18 x19 x20 : Option D} {r : Env'} (h : P (x0 :: x1 :: x2 :: x3 :: x4 :: x5 :: x6 :: x7 :: x8 :: x9 :: x10 :: x11 :: x12 :: x13 :: x14 :: x15 :: x16 :: x17 :: x18 :: x19 :: none :: r)) : Uns (x0 :: x1 :: x2 :: x3 :: x4 :: x5 :: x6 :: x7 :: x8 :: x9 :: x10 :: x11 :: x12 :: x13 :: x14 :: x15 :: x16 :: x17 :: x18 :: x19 :: x20 :: r) 20 P := h
theorem ua21 {P : Env' → Prop} {x0 x1 x2 x3 x4 x5 x6 x7 x8 x9 x10 x11 x12 x13 x14 x15 x16 x17 x18 x19 x20 x21 : Option D} {r : Env'} (h : P (x0 :: x1 :: x2 :: x3 :: x4 :: x5 :: x6 :: x7 :: x8 :: x9 :: x10 :: x11 :: x12 :: x13 :: x14 :: x15 :: x16 :: x17 :: x18 :: x19 :: x20 :: none :: r)) : Uns (x0 :: x1 :: x2 :: x3 :: x4 :: x5 :: x6 :: x7 :: x8 :: x9 :: x10 :: x11 :: x12 :: x13 :: x14 :: x15 :: x16 :: x17 :: x18 :: x19 :: x20 :: x21 :: r) 21 P := h
theorem ua22 {P : Env' → Prop} {x0 x1 x2 x3 x4 x5 x6 x7 x8 x9 x10 x11 x12 x13 x14 x15 x16 x17 x18 x19 x20 x21 x22 : Option D} {r : Env'} (h : P (x0 :: x1 :: x2 :: x3 :: x4 :: x5 :: x6 :: x7 :: x8 :: x9 :: x10 :: x11 :: x12 :: x13 :: x14 :: x15 :: x16 :: x17 :: x18 :: x19 :: x20 :: x21 :: none :: r)) : Uns (x0 :: x1 :: x2 :: x3 :: x4 :: x5 :: x6 :: x7 :: x8 :: x9 :: x10 :: x11 :: x12 :: x13 :: x14 :: x15 :: x16 :: x17 :: x18 :: x19 :: x20 :: x21 :: x22 :: r) 22 P := h
theorem ua23 {P : Env' → Prop} {x0 x1 x2 x3 x4 x5 x6 x7 x8 x9 x10 x11 x12 x13 x14 x15 x16 x17 x18 x19 x20 x21 x22 x23 : Option D} {r : Env'} (h : P (x0 :: x1 :: x2 :: x3 :: x4 :: x5 :: x6 :: x7 :: x8 :: x9 :: x10 :: x11 :: x12 :: x13 :: x14 :: x15 :: x16 :: x17 :: x18 :: x19 :: x20 :: x21 :: x22 :: none :: r)) : Uns (x0 :: x1 :: x2 :: x3 :: x4 :: x5 :: x6 :: x7 :: x8 :: x9 :: x10 :: x11 :: x12 :: x13 :: x14 :: x15 :: x16 :: x17 :: x18 :: x19 :: x20 :: x21 :: x22 :: x23 :: r) 23 P := h
theorem endA {Ψ : DEnds} {i : Nat} {δ : Env'} {M : Mem} (h : Uns δ i fun δ' => Ψ.nx δ' M) : (endsD (some i) Ψ).nx δ M := h
theorem idUns {δ : Env'} {i : Nat} {P : Env' → Prop} (h : Uns δ i P) : Uns δ i P := h
/-! x in xs, a list of ints -/
section
variable {M : Mem} {Φ : D → Mem → Prop} {y : D}
theorem inV_ints (z : Int) : ∀ zs : List Int, inV (.int z) (zs.map .int) = decide (z ∈ zs)
  | [] => by simp [inV]
  | w :: zs => by
    have ih := inV_ints z zs
    unfold inV at ih ⊢
    rw [List.map_cons, List.any_cons, ih]
    show ((w == z) || _) = _
    by_cases h : w = z
    · subst h; simp
    · simp [h, Ne.symm h, beq_eq_false_iff_ne.mpr h]
theorem flat_ints : ∀ zs : List Int, (zs.map V.int).all flatV = true
  | [] => rfl
  | _ :: zs => flat_ints zs
theorem od_inN {K : PySem.W.Frag} {z : Int} {zs : List Int} (h : IsL M y (zs.map .int)) (k : Φ (.bl (decide (z ∈ zs))) M) : OpD (rInU K) (.int z) y M Φ := .inr (OpD.inl (fun κ δ σ H v w Q R rv rw' f => by
  cases rv
  obtain ⟨p, us, rfl, e1, rr⟩ := h.sq R rw'
  have := rr.ints
  subst this
  refine ⟨p, _, rfl, .inl (SqL.of e1), rfl, flat_ints zs, ?_⟩
  show Q (.bl (inV _ _)) H
  rw [inV_ints]
  exact f _ _ M H k R (.bl _)))
theorem od_notinN {K : PySem.W.Frag} {z : Int} {zs : List Int} (h : IsL M y (zs.map .int)) (k : Φ (.bl (!decide (z ∈ zs))) M) : OpD (rNotInU K) (.int z) y M Φ := .inr (OpD.inl (fun κ δ σ H v w Q R rv rw' f => by
  cases rv
  obtain ⟨p, us, rfl, e1, rr⟩ := h.sq R rw'
  have := rr.ints
  subst this
  refine ⟨p, _, rfl, .inl (SqL.of e1), rfl, flat_ints zs, ?_⟩
  show Q (.bl (!inV _ _)) H
  rw [inV_ints]
  exact f _ _ M H k R (.bl _)))
end
end Hl
namespace Hl
open PySem L2
end Hl
namespace Hl
open PySem L2
open PyProof.Rows hiding St
section
variable {B : Bx} {X : Cx} {e a b c o : Expr} {es rest : List Expr} {st : Stmt} {sts : List Stmt} {δ δ' : Env'} {M : Mem} {Φ : D → Mem → Prop} {Ψ : DEnds} {pos pos' apos cpos pp np : Pos} {d x y : D} {ΦB : Bool → Mem → Prop}
/-! ### dicts -/
theorem look_none {k : Key} : ∀ {ws : List (Key × V)} {kvs : List (Key × D)}, ws.map (·.1) = kvs.map (·.1) → lookD kvs k = none → valV ws k = none
  | [], [], _, _ => rfl
  | [], _ :: _, h, _ => by cases h
  | _ :: _, [], h, _ => by cases h
  | (k1, v) :: ws, (k2, d') :: kvs, h, e => by
    have h1 : k1 = k2 := (List.cons.inj h).1
    have h2 : ws.map (·.1) = kvs.map (·.1) := (List.cons.inj h).2
    subst h1
    unfold lookD at e
    unfold valV
    by_cases hk : k1 = k
    · rw [List.find?_cons_of_pos (by simpa using hk)] at e
      cases e
    · rw [List.find?_cons_of_neg (by simpa using hk)] at e ⊢
      exact look_none h2 e
/-- a dict, by its cell -/
inductive IsDc (M : Mem) : D → List (Key × D) → Prop
  | cell {p : Addr} {kvs : List (Key × D)} (j : Nat) (h : M[j]? = some (p, .dct kvs)) : IsDc M (.raw (.ref p)) kvs
  | lock {p : Addr} {o : Obj} {ws : List (Key × V)} {kvs : List (Key × D)} (j : Nat) (h : M[j]? = some (p, .fdc o ws kvs)) : IsDc M (.raw (.ref p)) kvs
  | inm {p : Addr} {kvs : List (Key × D)} (h : InM M p (.dct kvs)) : IsDc M (.raw (.ref p)) kvs
  | inmL {p : Addr} {o : Obj} {ws : List (Key × V)} {kvs : List (Key × D)} (h : InM M p (.fdc o ws kvs)) : IsDc M (.raw (.ref p)) kvs
  | val (kvs : List (Key × D)) : IsDc M (.fd (kvs.map (·.1)) (kvs.map (·.2))) kvs
theorem IsDc.sq {κ : List (V × D)} {σ : St} {H : Hp} {v : V} {x : D} {kvs : List (Key × D)} (h : IsDc M x kvs) (R : Rs κ δ M σ H) (r : Rep M.F H v x) : ∃ p ws, v = .ref p ∧ Rd H p (.dK ws) ∧ ws.map (·.1) = kvs.map (·.1) ∧ Reps M.F H (ws.map (·.2)) (kvs.map (·.2)) := by
  cases h with
  | cell j h =>
    cases r
    obtain ⟨ws, e1, e2, r1⟩ := R.at h
    exact ⟨_, ws, rfl, .inl e1, e2, r1⟩
  | lock j h =>
    cases r
    obtain ⟨e1, e2, r1⟩ := R.at h
    exact ⟨_, _, rfl, .inr ⟨_, e1⟩, e2, r1⟩
  | inm h =>
    cases r
    obtain ⟨ws, e1, e2, r1⟩ := h.ok R
    exact ⟨_, ws, rfl, .inl e1, e2, r1⟩
  | inmL h =>
    cases r
    obtain ⟨e1, e2, r1⟩ := h.ok R
    exact ⟨_, _, rfl, .inr ⟨_, e1⟩, e2, r1⟩
  | val kvs =>
    cases r with
    | fd h e e1 e2 r1 => subst e2; exact ⟨_, _, rfl, .inr ⟨_, e⟩, e1, r1⟩
theorem val_rep {F : List Addr} {H : Hp} {k : Key} {ws : List (Key × V)} {kvs : List (Key × D)} (h : ws.map (·.1) = kvs.map (·.1)) (r : Reps F H (ws.map (·.2)) (kvs.map (·.2))) : (lookD kvs k = none ∧ valV ws k = none) ∨ ∃ v d, valV ws k = some v ∧ lookD kvs k = some d ∧ Rep F H v d := by
  cases e : lookD kvs k with
  | none => exact .inl ⟨rfl, look_none h e⟩
  | some d =>
    obtain ⟨v, e1, r1⟩ := look_rep h r e
    exact .inr ⟨v, d, e1, rfl, r1⟩
def GtD (x y w : D) (M : Mem) (Φ : D → Mem → Prop) : Prop := ∃ kvs k, IsDc M x kvs ∧ y = kD k ∧ Φ ((lookD kvs k).getD w) M
/-- d.get(k, x) -/
theorem de_dget2 {n : Nat} (z : Cz X n) (h : DE B X o δ M fun x M1 => (∃ kvs, IsDc M1 x kvs) ∧ DE B X a δ M1 fun y M2 => DE B X b δ M2 fun w M3 => GtD x y w M3 Φ)
    (hbase : attributeBase o "get" X.env (eval o X.env) = eval o X.env := by rfl)
    (hfew : ((backTo cpos (starEach [a, b] X.env)).all (fun x => !x.1) && (backToKw cpos (keywordEach [] X.env)).all (fun x => x.1.isSome)
      && decide (([a, b] : List Expr).length + ([] : List Keyword).length + (if ([] : List Keyword).isEmpty then 0 else 1) < 30)) = true := by rfl)
    (hline : (apos.endLine == cpos.line) = true := by rfl) (htr : backTo cpos (starEach [a, b] X.env) = [(false, eval a X.env), (false, eval b X.env)] := by rfl) : DE B X (.Call (.Attribute o "get" apos) [a, b] [] cpos) δ M Φ :=
  .of (pe_dget2 (un1 z) cE cE cE ⟨hbase, hfew, hline, htr⟩) fun κ σ H Q hb R kk => h κ σ H _ hb R fun v x M1 H1 ⟨⟨kvs0, d0⟩, q1⟩ R1 r1 => by
    obtain ⟨p, ws0, rfl, e0, _⟩ := d0.sq R1 r1
    refine ⟨p, rfl, .inl ⟨ws0, e0⟩, q1 ((.ref p, x) :: κ) σ H1 _ (fun q hq => List.mem_cons_of_mem _ (hb q hq)) (R1.push r1) fun vy y M2 H2 q2 R2 r2 => ?_⟩
    refine q2 ((vy, y) :: (.ref p, x) :: κ) σ H2 _ (fun q hq => List.mem_cons_of_mem _ (List.mem_cons_of_mem _ (hb q hq))) (R2.push r2) fun vw w M3 H3 ⟨kvs, k, hd, ey, q3⟩ R3 r3 => ?_
    obtain ⟨p', ws, ep, e1, e2, rr⟩ := hd.sq R3 R3.pop.top
    cases ep
    have hy := R3.top
    subst ey
    have := rep_k hy
    subst this
    refine ⟨_, .inl ⟨ws, k, e1, rfl, rfl⟩, ?_⟩
    rcases val_rep (k := k) e2 rr with ⟨n1, n2⟩ | ⟨v, d, s1, s2, rv⟩
    · rw [n1] at q3; rw [n2]; exact kk _ _ _ _ q3 R3.pop.pop r3
    · rw [s2] at q3; rw [s1]; exact kk _ _ _ _ q3 R3.pop.pop rv
theorem isd_c {p : Addr} {kvs : List (Key × D)} {P : Prop} (j : Nat) (hm : M[j]? = some (p, .dct kvs)) (k : P) : (∃ kvs, IsDc M (.raw (.ref p)) kvs) ∧ P := ⟨⟨kvs, .cell j hm⟩, k⟩
theorem dg_i {p : Addr} {kvs : List (Key × D)} {i : Int} (j : Nat) (hm : M[j]? = some (p, .dct kvs)) (k : Φ ((lookD kvs (.inl i)).getD d) M) : GtD (.raw (.ref p)) (.int i) d M Φ := ⟨kvs, .inl i, .cell j hm, rfl, k⟩
theorem dg_s {p : Addr} {kvs : List (Key × D)} {i : Str} (j : Nat) (hm : M[j]? = some (p, .dct kvs)) (k : Φ ((lookD kvs (.inr i)).getD d) M) : GtD (.raw (.ref p)) (.str i) d M Φ := ⟨kvs, .inr i, .cell j hm, rfl, k⟩
end
end Hl
namespace Hl
open PySem L2
section
variable {M : Mem} {Φ : D → Mem → Prop} {ΦM : Mem → Prop} {x d : D} {α : Type} {l : List α} {f : α → D} {i : Int} {p : Addr} {K : PySem.W.Frag}
theorem od_ixEC (j : Nat) (hm : M[j]? = some (p, .lst (l.map f))) (h : 0 ≤ i ∧ i < l.length) (k : ∀ y, l[i.toNat]? = some y → Φ (f y) M) : OpD (rIxU K) (.raw (.ref p)) (.int i) M Φ := by
  obtain ⟨y, h1, h2⟩ := at_map (f := f) h.1 h.2
  exact od_ixC hm h2 (k y h1)
theorem cd_lenLM (h : IsL M x (l.map f)) (k : Φ (.int (l.length : Nat)) M) : CallD (rLenU K) [x] M Φ := cd_lenL h (by rw [List.length_map]; exact k)
theorem sd_listE {y : α} (j : Nat) (hm : M[j]? = some (p, .lst (l.map f))) (h : 0 ≤ i ∧ i < l.length) (hd : d = f y) (k : ΦM (M.set j (p, .lst ((l.set i.toNat y).map f)))) : SetD (.raw (.ref p)) (.int i) d M ΦM := by
  refine sd_list (m := i.toNat) hm ?_ (by rw [hd, ← List.map_set]; exact k)
  rw [List.length_map]
  obtain ⟨n, rfl⟩ : ∃ n : Nat, i = (n : Int) := ⟨i.toNat, by omega⟩
  exact ixN_nat' (by omega)
theorem sd_dictI {kvs : List (Key × D)} (j : Nat) (hm : M[j]? = some (p, .dct kvs)) (hl : kvs.length < sizeLine) (k : ΦM (M.set j (p, .dct (putD kvs (.inl i) d)))) : SetD (.raw (.ref p)) (.int i) d M ΦM := sd_dict (k := .inl i) j hm rfl hl k
theorem sd_dictS {kvs : List (Key × D)} {z : Str} (j : Nat) (hm : M[j]? = some (p, .dct kvs)) (hl : kvs.length < sizeLine) (k : ΦM (M.set j (p, .dct (putD kvs (.inr z) d)))) : SetD (.raw (.ref p)) (.str z) d M ΦM := sd_dict (k := .inr z) j hm rfl hl k
end
end Hl
namespace Hl
open PySem L2
open PyProof.Rows hiding St
/-! ### a op b op c .. of ints -/
def relOf : CmpOp → R2
  | .Lt => rLtU
  | .LtE => rLeU
  | .Gt => rGtU
  | .GtE => rGeU
  | _ => fun _ _ _ _ => False
theorem op_rel {X : Cx} : ∀ op : CmpOp, OpR X (compareOp op) (relOf op)
  | .Lt => op_lt
  | .LtE => op_le
  | .Gt => op_gt
  | .GtE => op_ge
  | .Eq => fun _ _ _ _ _ _ _ _ _ _ _ _ h => h.elim
  | .NotEq => fun _ _ _ _ _ _ _ _ _ _ _ _ h => h.elim
  | .Is => fun _ _ _ _ _ _ _ _ _ _ _ _ h => h.elim
  | .IsNot => fun _ _ _ _ _ _ _ _ _ _ _ _ h => h.elim
  | .In => fun _ _ _ _ _ _ _ _ _ _ _ _ h => h.elim
  | .NotIn => fun _ _ _ _ _ _ _ _ _ _ _ _ h => h.elim
def DLk (B : Bx) (X : Cx) : List CmpOp → List Expr → D → Env' → Mem → (Bool → Mem → Prop) → Prop
  | [op], [b], x, δ, M, Φ => DE B X b δ M fun y M1 => OpD (relOf op) x y M1 (toB Φ)
  | op :: op' :: ops, b :: b' :: bs, x, δ, M, Φ => DE B X b δ M fun y M1 => OpD (relOf op) x y M1 (toB fun t M2 => Br t (DLk B X (op' :: ops) (b' :: bs) y δ M2 Φ) (Φ false M2))
  | _, _, _, _, _, _ => False
section
variable {B : Bx} {X : Cx} {a b b' : Expr} {bs : List Expr} {op op' : CmpOp} {ops : List CmpOp} {δ : Env'} {M : Mem} {Φ : D → Mem → Prop} {ΦB : Bool → Mem → Prop} {pos : Pos} {x : D}
theorem lk_test : ∀ {ops : List CmpOp} {bs : List Expr} {x : D} {v : V} {u : Value} {M : Mem} {κ : List (V × D)} {σ : St} {H : Hp} {s : Shared} {pins : List (Addr × Obj)} {Q : Bool → Hp → Prop}, DLk B X ops bs x δ M ΦB → Inv X pins σ H s → RelV v u → (∀ q ∈ B.ps, q ∈ κ) → Rs κ δ M σ H → Rep M.F H v x → (∀ t M' H', ΦB t M' → Rs κ δ M' σ H' → Q t H') →
    wpAny (model X.prog X.w) X.A (testChain pos u ops (evalEach bs X.env)) (TP X pins σ Q) X.xe s
  | [op], [b], x, v, u, M, κ, σ, H, s, pins, Q, h, I, rv, hb, R, r, k => by
    refine test_last (thn ((cE (X := X) (e := b)).run pins s σ H (fun w H1 => ∃ y M1, OpD (relOf op) x y M1 (toB ΦB) ∧ Rs ((v, x) :: κ) δ M1 σ H1 ∧ Rep M1.F H1 w y) I (h ((v, x) :: κ) σ H _ (fun q hq => List.mem_cons_of_mem _ (hb q hq)) (R.push r) fun w y M1 H1 q R1 r1 => ⟨y, M1, q, R1, r1⟩)) fun u' s1 ⟨w, H1, I1, rw', y, M1, q, R1, r1⟩ => ?_)
    refine thn (op_rel op pins s1 σ H1 v w u u' (fun z H2 => ∃ t, z = .bl t ∧ Q t H2) I1 rv rw' (q κ δ σ H1 v w _ R1.pop R1.top r1 fun z d M2 H2 ⟨t, ed, q2⟩ R2 r2 => by subst ed; cases r2; exact ⟨t, rfl, k t M2 H2 q2 R2⟩)) fun c s2 ⟨z, H2, I2, r2, t, e, q2⟩ => ?_
    subst e
    cases r2
    exact wpAny_truthy_bool ⟨H2, I2, q2⟩
  | op :: op' :: ops, b :: b' :: bs, x, v, u, M, κ, σ, H, s, pins, Q, h, I, rv, hb, R, r, k => by
    refine test_link (thn ((cE (X := X) (e := b)).run pins s σ H (fun w H1 => ∃ y M1, OpD (relOf op) x y M1 (toB fun t M2 => Br t (DLk B X (op' :: ops) (b' :: bs) y δ M2 ΦB) (ΦB false M2)) ∧ Rs ((v, x) :: κ) δ M1 σ H1 ∧ Rep M1.F H1 w y) I (h ((v, x) :: κ) σ H _ (fun q hq => List.mem_cons_of_mem _ (hb q hq)) (R.push r) fun w y M1 H1 q R1 r1 => ⟨y, M1, q, R1, r1⟩)) fun u' s1 ⟨w, H1, I1, rw', y, M1, q, R1, r1⟩ => ?_)
    refine thn (op_rel op pins s1 σ H1 v w u u' (fun z H2 => ∃ t M2, z = .bl t ∧ Br t (DLk B X (op' :: ops) (b' :: bs) y δ M2 ΦB) (ΦB false M2) ∧ Rs ((w, y) :: κ) δ M2 σ H2) I1 rv rw' (q ((w, y) :: κ) δ σ H1 v w _ (R1.pop.push r1) R1.top r1 fun z d M2 H2 ⟨t, ed, q2⟩ R2 r2 => by subst ed; cases r2; exact ⟨t, M2, rfl, q2, R2⟩)) fun c s2 ⟨z, H2, I2, r2, t, M2, e, q2, R2⟩ => ?_
    subst e
    cases r2
    refine wpAny_truthy_bool ?_
    cases t with
    | false => exact ite_ff ⟨H2, I2, k _ _ _ (q2.2 rfl) R2.pop⟩
    | true => exact ite_tt (lk_test (q2.1 rfl) I2 rw' hb R2.pop R2.top k)
  | [], _, _, _, _, _, _, _, _, _, _, _, h, _, _, _, _, _, _ => h.elim
  | [_], [], _, _, _, _, _, _, _, _, _, _, h, _, _, _, _, _, _ => h.elim
  | [_], _ :: _ :: _, _, _, _, _, _, _, _, _, _, _, h, _, _, _, _, _, _ => h.elim
  | _ :: _ :: _, [], _, _, _, _, _, _, _, _, _, _, h, _, _, _, _, _, _ => h.elim
  | _ :: _ :: _, [_], _, _, _, _, _, _, _, _, _, _, h, _, _, _, _, _, _ => h.elim
theorem lk_val : ∀ {ops : List CmpOp} {bs : List Expr} {x : D} {v : V} {u : Value} {M : Mem} {κ : List (V × D)} {σ : St} {H : Hp} {s : Shared} {pins : List (Addr × Obj)} {Q : VK}, DLk B X ops bs x δ M ΦB → Inv X pins σ H s → RelV v u → (∀ q ∈ B.ps, q ∈ κ) → Rs κ δ M σ H → Rep M.F H v x → (∀ t M' H', ΦB t M' → Rs κ δ M' σ H' → Q (.bl t) H') →
    wpAny (model X.prog X.w) X.A (compareChain pos u ops (evalEach bs X.env)) (EP X pins σ Q) X.xe s
  | [op], [b], x, v, u, M, κ, σ, H, s, pins, Q, h, I, rv, hb, R, r, k => by
    refine chain_last (thn ((cE (X := X) (e := b)).run pins s σ H (fun w H1 => ∃ y M1, OpD (relOf op) x y M1 (toB ΦB) ∧ Rs ((v, x) :: κ) δ M1 σ H1 ∧ Rep M1.F H1 w y) I (h ((v, x) :: κ) σ H _ (fun q hq => List.mem_cons_of_mem _ (hb q hq)) (R.push r) fun w y M1 H1 q R1 r1 => ⟨y, M1, q, R1, r1⟩)) fun u' s1 ⟨w, H1, I1, rw', y, M1, q, R1, r1⟩ => ?_)
    exact op_rel op pins s1 σ H1 v w u u' Q I1 rv rw' (q κ δ σ H1 v w _ R1.pop R1.top r1 fun z d M2 H2 ⟨t, ed, q2⟩ R2 r2 => by subst ed; cases r2; exact k t M2 H2 q2 R2)
  | op :: op' :: ops, b :: b' :: bs, x, v, u, M, κ, σ, H, s, pins, Q, h, I, rv, hb, R, r, k => by
    refine chain_link (thn ((cE (X := X) (e := b)).run pins s σ H (fun w H1 => ∃ y M1, OpD (relOf op) x y M1 (toB fun t M2 => Br t (DLk B X (op' :: ops) (b' :: bs) y δ M2 ΦB) (ΦB false M2)) ∧ Rs ((v, x) :: κ) δ M1 σ H1 ∧ Rep M1.F H1 w y) I (h ((v, x) :: κ) σ H _ (fun q hq => List.mem_cons_of_mem _ (hb q hq)) (R.push r) fun w y M1 H1 q R1 r1 => ⟨y, M1, q, R1, r1⟩)) fun u' s1 ⟨w, H1, I1, rw', y, M1, q, R1, r1⟩ => ?_)
    refine thn (op_rel op pins s1 σ H1 v w u u' (fun z H2 => ∃ t M2, z = .bl t ∧ Br t (DLk B X (op' :: ops) (b' :: bs) y δ M2 ΦB) (ΦB false M2) ∧ Rs ((w, y) :: κ) δ M2 σ H2) I1 rv rw' (q ((w, y) :: κ) δ σ H1 v w _ (R1.pop.push r1) R1.top r1 fun z d M2 H2 ⟨t, ed, q2⟩ R2 r2 => by subst ed; cases r2; exact ⟨t, M2, rfl, q2, R2⟩)) fun c s2 ⟨z, H2, I2, r2, t, M2, e, q2, R2⟩ => ?_
    subst e
    cases r2
    refine wpAny_truthy_bool ?_
    cases t with
    | false => exact ite_ff ⟨.bl false, H2, I2, rfl, k _ _ _ (q2.2 rfl) R2.pop⟩
    | true => exact ite_tt (lk_val (q2.1 rfl) I2 rw' hb R2.pop R2.top k)
  | [], _, _, _, _, _, _, _, _, _, _, _, h, _, _, _, _, _, _ => h.elim
  | [_], [], _, _, _, _, _, _, _, _, _, _, h, _, _, _, _, _, _ => h.elim
  | [_], _ :: _ :: _, _, _, _, _, _, _, _, _, _, _, h, _, _, _, _, _, _ => h.elim
  | _ :: _ :: _, [], _, _, _, _, _, _, _, _, _, _, h, _, _, _, _, _, _ => h.elim
  | _ :: _ :: _, [_], _, _, _, _, _, _, _, _, _, _, h, _, _, _, _, _, _ => h.elim
theorem dt_chn (h : DE B X a δ M fun x M1 => DLk B X (op :: op' :: ops) (b :: b' :: bs) x δ M1 ΦB) (hm : lastMarks (op :: op' :: ops) (b :: b' :: bs) = false := by with_unfolding_all rfl) : DT B X (.Compare a (op :: op' :: ops) (b :: b' :: bs) pos) δ M ΦB := by
  intro κ σ H Q hb R k
  unfold tT
  intro pins s I
  refine isTrue_chain (thn ((cE (X := X) (e := a)).run pins s σ H (fun v H1 => ∃ x M1, DLk B X (op :: op' :: ops) (b :: b' :: bs) x δ M1 ΦB ∧ Rs κ δ M1 σ H1 ∧ Rep M1.F H1 v x) I (h κ σ H _ hb R fun v x M1 H1 q R1 r1 => ⟨x, M1, q, R1, r1⟩)) fun u s1 ⟨v, H1, I1, rv, x, M1, q, R1, r1⟩ => ?_) hm
  exact lk_test q I1 rv hb R1 r1 fun t M' H' q' R' => k t M' H' q' R'
theorem de_chn (h : DE B X a δ M fun x M1 => DLk B X (op :: op' :: ops) (b :: b' :: bs) x δ M1 fun t M2 => Φ (.bl t) M2) (hm : lastMarks (op :: op' :: ops) (b :: b' :: bs) = false := by with_unfolding_all rfl) : DE B X (.Compare a (op :: op' :: ops) (b :: b' :: bs) pos) δ M Φ := by
  intro κ σ H Q hb R k
  unfold tE
  intro pins s I
  refine Compare_chain (thn ((cE (X := X) (e := a)).run pins s σ H (fun v H1 => ∃ x M1, (DLk B X (op :: op' :: ops) (b :: b' :: bs) x δ M1 fun t M2 => Φ (.bl t) M2) ∧ Rs κ δ M1 σ H1 ∧ Rep M1.F H1 v x) I (h κ σ H _ hb R fun v x M1 H1 q R1 r1 => ⟨x, M1, q, R1, r1⟩)) fun u s1 ⟨v, H1, I1, rv, x, M1, q, R1, r1⟩ => ?_) hm
  exact lk_val q I1 rv hb R1 r1 fun t M' H' q' R' => k _ _ M' H' q' R' (.bl _)
theorem lk1le {i : Int} (h : DE B X b δ M fun y M1 => OpD rLeU (.int i) y M1 (toB ΦB)) : DLk B X [.LtE] [b] (.int i) δ M ΦB := h
theorem lk1lt {i : Int} (h : DE B X b δ M fun y M1 => OpD rLtU (.int i) y M1 (toB ΦB)) : DLk B X [.Lt] [b] (.int i) δ M ΦB := h
theorem lk1gt {i : Int} (h : DE B X b δ M fun y M1 => OpD rGtU (.int i) y M1 (toB ΦB)) : DLk B X [.Gt] [b] (.int i) δ M ΦB := h
theorem lk1ge {i : Int} (h : DE B X b δ M fun y M1 => OpD rGeU (.int i) y M1 (toB ΦB)) : DLk B X [.GtE] [b] (.int i) δ M ΦB := h
theorem lkle (h : DE B X b δ M fun y M1 => OpD rLeU x y M1 (toB fun t M2 => Br t (DLk B X (op' :: ops) (b' :: bs) y δ M2 ΦB) (ΦB false M2))) : DLk B X (.LtE :: op' :: ops) (b :: b' :: bs) x δ M ΦB := h
theorem lklt (h : DE B X b δ M fun y M1 => OpD rLtU x y M1 (toB fun t M2 => Br t (DLk B X (op' :: ops) (b' :: bs) y δ M2 ΦB) (ΦB false M2))) : DLk B X (.Lt :: op' :: ops) (b :: b' :: bs) x δ M ΦB := h
theorem lkgt (h : DE B X b δ M fun y M1 => OpD rGtU x y M1 (toB fun t M2 => Br t (DLk B X (op' :: ops) (b' :: bs) y δ M2 ΦB) (ΦB false M2))) : DLk B X (.Gt :: op' :: ops) (b :: b' :: bs) x δ M ΦB := h
theorem lkge (h : DE B X b δ M fun y M1 => OpD rGeU x y M1 (toB fun t M2 => Br t (DLk B X (op' :: ops) (b' :: bs) y δ M2 ΦB) (ΦB false M2))) : DLk B X (.GtE :: op' :: ops) (b :: b' :: bs) x δ M ΦB := h
theorem idLk (h : DLk B X ops bs x δ M ΦB) : DLk B X ops bs x δ M ΦB := h
end
end Hl
namespace Hl
open PySem L2
open PyProof.Rows hiding St
section
variable {B : Bx} {X : Cx} {e a b c o : Expr} {es rest : List Expr} {kw : Keyword} {kws : List Keyword} {st : Stmt} {sts body suite : List Stmt} {δ δ' : Env'} {M : Mem} {Φ : D → Mem → Prop} {Ψ : DEnds} {pos pos' apos pp np : Pos} {d x y : D} {ΦL : List D → Mem → Prop}
theorem fld_o {K : PySem.W.Frag} {f : Str} {C : Addr} {ns : List Str} {fs : List D} (io : IsO M x C ns fs) (ff : FldP K C f) (l : (ns.zip fs).lookup f = some d) (k : Φ d M) : FldD K f x M Φ := .inl ⟨C, ns, fs, d, io, ff, l, k⟩
theorem mt_o {m k n : Nat} {mn : Str} {C : Addr} {ns ks : List Str} {fs : List D} {sel : Sel} {p : DSpE} {Ξ : XPost} (io : IsO M x C ns fs) (f : MethEX X k C mn n ks sel p) (hk : k ≤ m) (lt : Lets X B δ Ξ) (pl : PlA X pos es kws ks) (hn : ns.contains mn = false)
    (h : DAK B X es kws δ M fun ds zs M' => ds.length = n ∧ zs.length = ks.length ∧ p (selD sel (x :: ds ++ zs)) M' Φ Ξ) : MtE B X m pos es kws mn δ x M Φ := ⟨C, k, n, ks, sel, p, Ξ, f, hk, lt, pl, ⟨ns, fs, io, hn⟩, h⟩
/-- behind an expression the state may be looked at otherwise -/
theorem DE.vw (h : DE B X e δ M fun d M' => ∃ d2 M2, Vw d M' d2 M2 ∧ Φ d2 M2) : DE B X e δ M Φ := fun κ σ H Q hb R k => h κ σ H Q hb R fun v d M' H' ⟨d2, M2, hv, q⟩ R' r' => let ⟨R2, r2⟩ := hv κ δ σ H' v R' r'; k v d2 M2 H' q R2 r2
/-- what becomes of a new object: kept as a cell, or frozen -/
def Made (a : Addr) (Φ : D → Mem → Prop) : D → Mem → Prop := fun d M2 => d = .non ∧ ∃ d2 M3, Vw (.raw (.ref a)) M2 d2 M3 ∧ Φ d2 M3
theorem de_kU {k m n : Nat} {x : Str} {ks : List Str} {sel : Sel} {p : DSpE} {Ξ : XPost} {C : Addr} (j : Nat) (z : Cz X m) (f : MakeEX X k x C n ks sel p) (hk : k + 1 ≤ m) (hg : Gl X x) (lt : Lets X B δ Ξ)
    (h : DAK B X es kws δ M fun ds zs M' => ds.length = n ∧ zs.length = ks.length ∧ ∀ a, p (selD sel (.raw (.ref a) :: ds ++ zs)) (insM j (a, .obj C [] []) M') (Made a Φ) Ξ) (pl : PlA X pos es kws ks) (hdb : (x == ("__debug__" : Str)) = false := by decide) : DE B X (.Call (.Name x pp) es kws pos) δ M Φ :=
  .vw (de_kE j z f hk hg lt h pl hdb)
theorem Made.cell {a : Addr} (k : Φ (.raw (.ref a)) M) : Made a Φ .non M := ⟨rfl, _, _, .refl, k⟩
theorem Made.val {a C : Addr} {ns : List Str} {ds : List D} (j : Nat) (hm : M[j]? = some (a, .obj C ns ds)) (k : Φ (.obj C ns ds) (M.eraseIdx j)) : Made a Φ .non M := ⟨rfl, _, _, .frzO j hm, k⟩
end
end Hl
namespace Hl
open PySem L2
open PyProof.Rows hiding St
section
variable {B : Bx} {X : Cx} {e a b c o : Expr} {es rest : List Expr} {st : Stmt} {sts body suite : List Stmt} {δ δ' : Env'} {M : Mem} {Φ : D → Mem → Prop} {Ψ : DEnds} {pos pos' apos pp np px py pz pt pt2 : Pos} {d : D} {x y w : Str} {kt k2 : Nat}
theorem sws2 (hx : X.env.kindOf x = some .local) (hy : X.env.kindOf y = some .local) (hk : X.env.blockKind = .function) (hne : (x == y) = false) (hl : (py.line == px.line) = true) (h1 : ([a, b].any fun | .Starred .. => true | _ => false) = false) (h2 : [a, b].all (foldedForSure 8) = false) (h3 : [a, b].all (constantsAlone 8) = false) :
    swappedStores [.Tuple [.Name x px, .Name y py] kt pt] (.Tuple [a, b] k2 pt2) X.env = pure (some [x, y]) := by
  have hyx : (y == x) = false := by
    rw [Bool.eq_false_iff] at hne ⊢
    intro h; exact hne (by rw [beq_iff_eq] at h ⊢; exact h.symm)
  unfold swappedStores
  simp only [bind_pure_comp, pure_bind]
  rw [if_neg (by simp [hk])]
  rw [if_neg (by intro h; exact absurd (h1.symm.trans h) (by decide))]
  have hn : ([Expr.Name x px, Expr.Name y py].filterMap fun
    | .Name id pos => if X.env.kindOf id == some .local && pos.line == (([Expr.Name x px, Expr.Name y py].head?.map (·.pos.line)).getD 0) then some id else none
    | _ => none) = [x, y] := by
    have e2 : (([Expr.Name x px, Expr.Name y py].head?.map (·.pos.line)).getD 0) = px.line := rfl
    rw [e2]
    simp [hx, hy, beq_iff_eq.mp hl]
  generalize hg : List.filterMap _ _ = L
  have hL : L = [x, y] := hg.symm.trans hn
  subst hL
  rw [if_neg (by simp [List.eraseDups_cons, hyx]), if_neg (by rw [h2]; decide), if_neg (by rw [h3]; decide)]
theorem sws3 (hx : X.env.kindOf x = some .local) (hy : X.env.kindOf y = some .local) (hw : X.env.kindOf w = some .local) (hk : X.env.blockKind = .function) (h12 : (y == x) = false) (h13 : (w == x) = false) (h23 : (w == y) = false) (hl : (py.line == px.line) = true) (hl2 : (pz.line == px.line) = true) (h1 : ([a, b, c].any fun | .Starred .. => true | _ => false) = false) (h2 : [a, b, c].all (foldedForSure 8) = false) (h3 : [a, b, c].all (constantsAlone 8) = false) :
    swappedStores [.Tuple [.Name x px, .Name y py, .Name w pz] kt pt] (.Tuple [a, b, c] k2 pt2) X.env = pure (some [x, y, w]) := by
  unfold swappedStores
  simp only [bind_pure_comp, pure_bind]
  rw [if_neg (by simp [hk])]
  rw [if_neg (by intro h; exact absurd (h1.symm.trans h) (by decide))]
  have hn : ([Expr.Name x px, Expr.Name y py, Expr.Name w pz].filterMap fun
    | .Name id pos => if X.env.kindOf id == some .local && pos.line == (([Expr.Name x px, Expr.Name y py, Expr.Name w pz].head?.map (·.pos.line)).getD 0) then some id else none
    | _ => none) = [x, y, w] := by
    have e2 : (([Expr.Name x px, Expr.Name y py, Expr.Name w pz].head?.map (·.pos.line)).getD 0) = px.line := rfl
    rw [e2]
    simp [hx, hy, hw, beq_iff_eq.mp hl, beq_iff_eq.mp hl2]
  generalize hg : List.filterMap _ _ = L
  have hL : L = [x, y, w] := hg.symm.trans hn
  subst hL
  rw [if_neg (by simp [List.eraseDups_cons, h12, h13, h23]), if_neg (by rw [h2]; decide), if_neg (by rw [h3]; decide)]
/-- a tuple of constants: no names are swapped -/
theorem swsC {ts vs : List Expr} (h2 : vs.all (foldedForSure 8) = true) (h1 : (vs.any fun | .Starred .. => true | _ => false) = false) : swappedStores [.Tuple ts kt pt] (.Tuple vs k2 pt2) X.env = pure none := by
  unfold swappedStores
  simp only [bind_pure_comp, pure_bind]
  split
  · rfl
  · split
    · rfl
    · split
      · rfl
      · rfl
theorem blk_of {sc : Scope} (hs : X.env.scope = sc) (h : sc.kind = .function) : X.env.blockKind = .function := by
  unfold Env.blockKind
  rw [hs, h]; rfl
theorem ds_par2 {n i j : Nat} (z : Cz X n) (li : Lo X i x) (lj : Lo X j y) (hij : i ≠ j) (hx : X.env.kindOf x = some .local) (hy : X.env.kindOf y = some .local) (hk : X.env.blockKind = .function) (hne : (x == y) = false)
    (h : DA B X [a, b] δ M fun ds M1 => ∃ d1 d2, ds = [d1, d2] ∧ Sets δ i d1 fun δ1 => Sets δ1 j d2 fun δ2 => Ψ.nx δ2 M1)
    (hl : (py.line == px.line) = true := by rfl) (h1 : ([a, b].any fun | .Starred .. => true | _ => false) = false := by rfl) (h2 : [a, b].all (foldedForSure 8) = false := by rfl) (h3 : [a, b].all (constantsAlone 8) = false := by rfl)
    (hs : swapsWithSole [.Tuple [.Name x px, .Name y py] kt pt] (.Tuple [a, b] k2 pt2) pos.line X.env = pure false := by rfl) : DS B X (.Assign [.Tuple [.Name x px, .Name y py] kt pt] (.Tuple [a, b] k2 pt2) pos) δ M Ψ :=
  .of (ps_par z.calm z.nd li.at_ lj.at_ hij hx hy cA (sws2 hx hy hk hne hl h1 h2 h3) hs) fun κ σ H E hb R k => h κ σ H _ hb R fun vs ds M1 H1 ⟨d1, d2, e, q⟩ R1 r1 => by
    subst e
    cases r1 with
    | cons r1 r2 =>
      cases r2 with
      | cons r2 r3 =>
        cases r3
        exact ⟨_, _, rfl, k.nx _ _ _ _ q.get.get ((R1.put i r1).put j r2)⟩
theorem ds_par3 {n i j l : Nat} (z : Cz X n) (li : Lo X i x) (lj : Lo X j y) (ll : Lo X l w) (hij : i ≠ j) (hil : i ≠ l) (hjl : j ≠ l) (hx : X.env.kindOf x = some .local) (hy : X.env.kindOf y = some .local) (hw : X.env.kindOf w = some .local) (hk : X.env.blockKind = .function) (h12 : (y == x) = false) (h13 : (w == x) = false) (h23 : (w == y) = false)
    (h : DA B X [a, b, c] δ M fun ds M1 => ∃ d1 d2 d3, ds = [d1, d2, d3] ∧ Sets δ i d1 fun δ1 => Sets δ1 j d2 fun δ2 => Sets δ2 l d3 fun δ3 => Ψ.nx δ3 M1)
    (hl : (py.line == px.line) = true := by rfl) (hl2 : (pz.line == px.line) = true := by rfl) (h1 : ([a, b, c].any fun | .Starred .. => true | _ => false) = false := by rfl) (h2 : [a, b, c].all (foldedForSure 8) = false := by rfl) (h3 : [a, b, c].all (constantsAlone 8) = false := by rfl)
    (hs : swapsWithSole [.Tuple [.Name x px, .Name y py, .Name w pz] kt pt] (.Tuple [a, b, c] k2 pt2) pos.line X.env = pure false := by rfl) : DS B X (.Assign [.Tuple [.Name x px, .Name y py, .Name w pz] kt pt] (.Tuple [a, b, c] k2 pt2) pos) δ M Ψ :=
  .of (ps_par3 z.calm z.nd li.at_ lj.at_ ll.at_ hij hil hjl hx hy hw cA (sws3 hx hy hw hk h12 h13 h23 hl hl2 h1 h2 h3) hs) fun κ σ H E hb R k => h κ σ H _ hb R fun vs ds M1 H1 ⟨d1, d2, d3, e, q⟩ R1 r1 => by
    subst e
    cases r1 with
    | cons r1 r2 =>
      cases r2 with
      | cons r2 r3 =>
        cases r3 with
        | cons r3 r4 =>
          cases r4
          exact ⟨_, _, _, rfl, k.nx _ _ _ _ q.get.get.get (((R1.put i r1).put j r2).put l r3)⟩
theorem ex_2 {d1 d2 : D} {P : D → D → Prop} (h : P d1 d2) : ∃ a b, [d1, d2] = [a, b] ∧ P a b := ⟨d1, d2, rfl, h⟩
theorem ex_3 {d1 d2 d3 : D} {P : D → D → D → Prop} (h : P d1 d2 d3) : ∃ a b c, [d1, d2, d3] = [a, b, c] ∧ P a b c := ⟨d1, d2, d3, rfl, h⟩
/-- a, b = constants -/
theorem ds_asgC {ts vs : List Expr} {kt k2 : Nat} (h : DE B X (.Tuple vs k2 pt2) δ M fun d M' => DG B X (.Tuple ts kt pt) d δ M' Ψ.nx) (h2 : vs.all (foldedForSure 8) = true := by rfl) (h1 : (vs.any fun | .Starred .. => true | _ => false) = false := by rfl) (hs : swapsWithSole [.Tuple ts kt pt] (.Tuple vs k2 pt2) pos.line X.env = pure false := by rfl) (h3 : (assignEach [.Tuple ts kt pt] X.env).map (·.2) = [assign (.Tuple ts kt pt) X.env] := by rfl) : DS B X (.Assign [.Tuple ts kt pt] (.Tuple vs k2 pt2) pos) δ M Ψ := ds_asg h hs (swsC h2 h1) h3
end
end Hl
namespace Hl
open PySem L2
open PyProof.Rows hiding St
section
variable {B : Bx} {X : Cx} {e a b c o : Expr} {es rest : List Expr} {kw : Keyword} {kws : List Keyword} {st : Stmt} {sts body suite : List Stmt} {δ δ' : Env'} {M : Mem} {Φ : D → Mem → Prop} {Ψ : DEnds} {pos pos' apos pp np : Pos} {d x y : D} {ΦL : List D → Mem → Prop}
/-- cells that are not wanted any more -/
theorem ws_drop {ts : TS} {M2 : Mem} (hm : M2.Sublist M) (h : WS B ts δ M2 Ψ) : WS B ts δ M Ψ := h.view fun κ σ H R => R.less hm
/-- the names of keywords -/
def kwN : List Keyword → List Str
  | [] => []
  | ⟨some n, _, _⟩ :: ks => n :: kwN ks
  | ⟨none, _, _⟩ :: ks => kwN ks
/-! calls, the fact chosen by the call's shape -/
theorem de_fS {k m : Nat} {x : Str} {sel : Sel} {p : DSpE} {Ξ : XPost} (z : Cz X m) (f : DefEX X k x es.length (kwN kws) sel p) (hk : k ≤ m) (hg : Gl X x) (lt : Lets X B δ Ξ)
    (h : DAK B X es kws δ M fun ds zs M' => ds.length = es.length ∧ zs.length = (kwN kws).length ∧ p (selD sel (ds ++ zs)) M' Φ Ξ) (pl : PlA X pos es kws (kwN kws)) (hdb : (x == ("__debug__" : Str)) = false := by decide) : DE B X (.Call (.Name x pp) es kws pos) δ M Φ := de_fE z f hk hg lt h pl hdb
theorem de_kS {k m : Nat} {x : Str} {sel : Sel} {p : DSpE} {Ξ : XPost} {C : Addr} (j : Nat) (z : Cz X m) (f : MakeEX X k x C es.length (kwN kws) sel p) (hk : k + 1 ≤ m) (hg : Gl X x) (lt : Lets X B δ Ξ)
    (h : DAK B X es kws δ M fun ds zs M' => ds.length = es.length ∧ zs.length = (kwN kws).length ∧ ∀ a, p (selD sel (.raw (.ref a) :: ds ++ zs)) (insM j (a, .obj C [] []) M') (Made a Φ) Ξ) (pl : PlA X pos es kws (kwN kws)) (hdb : (x == ("__debug__" : Str)) = false := by decide) : DE B X (.Call (.Name x pp) es kws pos) δ M Φ := de_kU j z f hk hg lt h pl hdb
theorem mt_vS {m k : Nat} {mn : Str} {C : Addr} {ns : List Str} {fs : List D} {sel : Sel} {p : DSpE} {Ξ : XPost} (f : MethEX X k C mn es.length (kwN kws) sel p) (hk : k ≤ m) (lt : Lets X B δ Ξ) (pl : PlA X pos es kws (kwN kws)) (hn : ns.contains mn = false)
    (h : DAK B X es kws δ M fun ds zs M' => ds.length = es.length ∧ zs.length = (kwN kws).length ∧ p (selD sel (.obj C ns fs :: ds ++ zs)) M' Φ Ξ) : MtE B X m pos es kws mn δ (.obj C ns fs) M Φ := mt_v f hk lt pl hn h
theorem mt_cS {m k : Nat} {mn : Str} {C q : Addr} {ns : List Str} {fs : List D} {sel : Sel} {p : DSpE} {Ξ : XPost} (j : Nat) (hm : M[j]? = some (q, .obj C ns fs)) (f : MethEX X k C mn es.length (kwN kws) sel p) (hk : k ≤ m) (lt : Lets X B δ Ξ) (pl : PlA X pos es kws (kwN kws)) (hn : ns.contains mn = false)
    (h : DAK B X es kws δ M fun ds zs M' => ds.length = es.length ∧ zs.length = (kwN kws).length ∧ p (selD sel (.raw (.ref q) :: ds ++ zs)) M' Φ Ξ) : MtE B X m pos es kws mn δ (.raw (.ref q)) M Φ := mt_c j hm f hk lt pl hn h
theorem mt_oS {m k : Nat} {mn : Str} {C : Addr} {ns : List Str} {fs : List D} {sel : Sel} {p : DSpE} {Ξ : XPost} (io : IsO M x C ns fs) (f : MethEX X k C mn es.length (kwN kws) sel p) (hk : k ≤ m) (lt : Lets X B δ Ξ) (pl : PlA X pos es kws (kwN kws)) (hn : ns.contains mn = false)
    (h : DAK B X es kws δ M fun ds zs M' => ds.length = es.length ∧ zs.length = (kwN kws).length ∧ p (selD sel (x :: ds ++ zs)) M' Φ Ξ) : MtE B X m pos es kws mn δ x M Φ := mt_o io f hk lt pl hn h
end
end Hl
namespace Hl
open PySem L2
open PyProof.Rows hiding St
section
variable {B : Bx} {X : Cx} {e a b c o : Expr} {es rest : List Expr} {kw : Keyword} {kws : List Keyword} {st : Stmt} {sts body suite : List Stmt} {δ δ' : Env'} {M : Mem} {Φ : D → Mem → Prop} {Ψ : DEnds} {pos pos' apos pp np : Pos} {d x y : D} {ΦL : List D → Mem → Prop}
theorem Reps.rev {F : List Addr} {H : Hp} {vs : List V} {ds : List D} (r : Reps F H vs ds) : Reps F H vs.reverse ds.reverse := by
  induction ds generalizing vs with
  | nil => cases r; exact .nil
  | cons d ds ih =>
    cases r with
    | cons r1 r2 =>
      rw [List.reverse_cons, List.reverse_cons]
      exact (ih r2).append (.cons r1 .nil)
theorem Reps.repl {F : List Addr} {H : Hp} {vs : List V} {ds : List D} (r : Reps F H vs ds) : ∀ n : Nat, Reps F H (List.replicate n vs).flatten (List.replicate n ds).flatten
  | 0 => .nil
  | n + 1 => by
    rw [List.replicate_succ, List.replicate_succ, List.flatten_cons, List.flatten_cons]
    exact r.append (Reps.repl r n)
/-- xs[::-1] -/
theorem de_rev {k : Nat} {p1 p2 p3 : Pos} (h : DE B X a δ M fun x M1 => ∃ ds, IsL M1 x ds ∧ Φ (.lst ds.reverse) M1) : DE B X (.Subscript a (.Slice none none (some (.UnaryOp .USub (.Constant (.int 1) k p1) p2)) p3) pos) δ M Φ :=
  .of (pe_revL cE) fun κ σ H Q hb R k => h κ σ H _ hb R fun v x M1 H1 ⟨ds, il, q⟩ R1 r1 => by
    obtain ⟨a, us, rfl, e1, rr⟩ := il.sq R1 r1
    refine ⟨a, us, rfl, SqL.of e1, fun p hp => ?_⟩
    obtain ⟨R', r'⟩ := R1.lstV rr.rev hp
    exact k _ _ _ _ q R' r'
/-- min of three -/
theorem de_min3 {n : Nat} (z : Cz X n) {p : Pos} (g : Gn X "min") (h : DA B X [a, b, c] δ M fun ds M1 => CallD (rNuC3 nuMin3) ds M1 Φ) (he : starEach [a, b, c] X.env = (false, eval a X.env) :: starEach [b, c] X.env := by rfl) (hpl : (backTo pos (starEach [b, c] X.env)).any (·.1) = false := by rfl) : DE B X (.Call (.Name "min" p) [a, b, c] [] pos) δ M Φ := de_blt (call_min3Nu z.calm) g boot_min h (by decide) (by decide) he hpl
theorem cd_min3 {i j l : Int} (k : Φ (.int (min (min i j) l)) M) : CallD (rNuC3 nuMin3) [.int i, .int j, .int l] M Φ := fun κ δ σ H vs Q R rs f => by
  cases rs with
  | cons r1 r2 =>
    cases r1
    cases r2 with
    | cons r2 r3 =>
      cases r2
      cases r3 with
      | cons r3 r4 =>
        cases r3
        cases r4
        refine ⟨_, _, _, .int (min (min i j) l), rfl, ?_, f _ _ _ _ k R (.int _)⟩
        have h2 : ∀ a b : Int, nuMin2 (.int a) (.int b) = some (.int (min a b)) := fun a b => by
          show some (if decide (b < a) = true then V.int b else V.int a) = _
          by_cases h : b < a
          · rw [if_pos (by simpa using h), Int.min_eq_right (by omega)]
          · rw [if_neg (by simpa using h), Int.min_eq_left (by omega)]
        unfold nuMin3
        rw [h2]
        exact h2 _ _
theorem de_repD {p : Pos} (h : DE B X (.List es p) δ M fun x M1 => DE B X b δ M1 fun y M2 => OpD rRep x y M2 Φ) : DE B X (.BinOp (.List es p) .Mult b pos) δ M Φ := de_bin op_rep h
end
end Hl
namespace Hl
open PySem L2
open PyProof.Rows hiding St
section
variable {B : Bx} {X : Cx} {e a b c o : Expr} {es rest : List Expr} {kw : Keyword} {kws : List Keyword} {st : Stmt} {sts body suite : List Stmt} {δ δ' : Env'} {M : Mem} {Φ : D → Mem → Prop} {ΦB : Bool → Mem → Prop} {Ψ : DEnds} {pos pos' apos pp np : Pos} {d x y : D} {ΦL : List D → Mem → Prop}
/-! ### is True, is not True, is False, is not False -/
def rIsBl : R2 := fun x y H Q => ∃ a b, x = .bl a ∧ y = .bl b ∧ Q (.bl (decide (a = b))) H
def rNotBl : R2 := fun x y H Q => ∃ a b, x = .bl a ∧ y = .bl b ∧ Q (.bl (!decide (a = b))) H
theorem od_isB {i j : Bool} (k : Φ (.bl (decide (i = j))) M) : OpD rIsBl (.bl i) (.bl j) M Φ := fun κ δ σ H v w Q R rv rw' h => by
  cases rv; cases rw'
  exact ⟨i, j, rfl, rfl, h _ _ M H k R (.bl _)⟩
theorem od_notB {i j : Bool} (k : Φ (.bl (!decide (i = j))) M) : OpD rNotBl (.bl i) (.bl j) M Φ := fun κ δ σ H v w Q R rv rw' h => by
  cases rv; cases rw'
  exact ⟨i, j, rfl, rfl, h _ _ M H k R (.bl _)⟩
theorem de_isB {t : Bool} {n : Nat} {p : Pos} (h : DE B X a δ M fun x M1 => OpD rIsBl x (.bl t) M1 Φ) : DE B X (.Compare a [.Is] [.Constant (.bool t) n p] pos) δ M Φ := de_cmp op_is_bl (nomark _) (h.mono fun _ _ q => de_bl q)
theorem de_isnotB {t : Bool} {n : Nat} {p : Pos} (h : DE B X a δ M fun x M1 => OpD rNotBl x (.bl t) M1 Φ) : DE B X (.Compare a [.IsNot] [.Constant (.bool t) n p] pos) δ M Φ := de_cmp op_isnot_bl (nomark _) (h.mono fun _ _ q => de_bl q)
theorem dt_isB {t : Bool} {n : Nat} {p : Pos} (h : DE B X a δ M fun x M1 => OpD rIsBl x (.bl t) M1 (toB ΦB)) : DT B X (.Compare a [.Is] [.Constant (.bool t) n p] pos) δ M ΦB := dt_cmp op_is_bl (nomark _) (h.mono fun _ _ q => de_bl q)
theorem dt_isnotB {t : Bool} {n : Nat} {p : Pos} (h : DE B X a δ M fun x M1 => OpD rNotBl x (.bl t) M1 (toB ΦB)) : DT B X (.Compare a [.IsNot] [.Constant (.bool t) n p] pos) δ M ΦB := dt_cmp op_isnot_bl (nomark _) (h.mono fun _ _ q => de_bl q)
end
end Hl
namespace Hl
open PySem L2
end Hl
namespace Hl
open PySem L2
open PyProof.Rows hiding St
section
variable {B : Bx} {X : Cx} {e a b c o : Expr} {es rest : List Expr} {kw : Keyword} {kws : List Keyword} {st : Stmt} {sts body suite : List Stmt} {δ δ' : Env'} {M : Mem} {Φ : D → Mem → Prop} {ΦB : Bool → Mem → Prop} {Ψ : DEnds} {pos pos' apos pp np : Pos} {d x y : D} {ΦL : List D → Mem → Prop}
/-! ### insert -/
def rIns : V → List V → Hp → VK → Prop := fun x vs H Q => ∃ (l : Addr) (xs : List V) (i : Int) (y : V), x = .ref l ∧ vs = [.int i, y] ∧ H l = some (.lst xs) ∧ xs.length < sizeLine ∧ 0 ≤ i ∧ i < 2 ^ 63 ∧
    Q .non (upd H l (.lst (xs.take i.toNat ++ [y] ++ xs.drop i.toNat)))
theorem de_insert {cpos : Pos} (h : DE B X o δ M fun x M1 => (∃ ds, IsL M1 x ds) ∧ DA B X [a, b] δ M1 fun ys M2 => MtD X.K "list" rIns x ys M2 Φ)
    (hbase : attributeBase o "insert" X.env (eval o X.env) = eval o X.env := by rfl)
    (hfew : ((backTo cpos (starEach [a, b] X.env)).all (fun x => !x.1) && (backToKw cpos (keywordEach [] X.env)).all (fun x => x.1.isSome)
      && decide (([a, b] : List Expr).length + ([] : List Keyword).length + (if ([] : List Keyword).isEmpty then 0 else 1) < 30)) = true := by rfl)
    (hline : (apos.endLine == cpos.line) = true := by rfl) (hs : starEach [a, b] X.env = (false, eval a X.env) :: starEach [b] X.env := by rfl) (hplain : (backTo cpos (starEach [b] X.env)).any (·.1) = false := by rfl) :
    DE B X (.Call (.Attribute o "insert" apos) [a, b] [] cpos) δ M Φ := de_bml PySem.F.slot_list_insert PySem.F.type_list_insert mt_insert h hbase hfew hline hs hplain
/-- cells in another order -/
theorem ws_perm {ts : TS} {M2 : Mem} (hm : M.Perm M2) (h : WS B ts δ M2 Ψ) : WS B ts δ M Ψ := h.view fun κ σ H R => R.perm hm
end
end Hl
namespace Hl
open PySem L2
open PyProof.Rows hiding St
section
variable {B : Bx} {X : Cx} {e a b c o : Expr} {es rest : List Expr} {δ δ' : Env'} {M : Mem} {Φ : D → Mem → Prop} {Ψ : DEnds} {d x y : D} {ΦL : List D → Mem → Prop}
/-- a comprehension over a range whose items are drawn -/
theorem LcH.drawT {β : Type} {scope : Scope} {elt : Expr} {own : List (Str × Nat)} {tk : Tk} {k : Nat} {s g : Addr} {b : Nat} {n : Nat} (P : β → Prop) (f : β → D) (c : Nat) (hn : n ≤ 1000) (hb : c * n ≤ b)
    (h : ∀ (p : Addr) acc (i : Nat) (b1 : Nat), i < n → c ≤ b1 → ∃ δ2, bindK tk (.int (0 + (i : Int))) (wipeD δ (own.map (·.2))) = some δ2 ∧ ∀ X', Bk X X' scope → DE B X' elt δ2 (insM k (p, .lst acc) ((s, .st g b1) :: M)) fun d M2 => ∃ y b2, P y ∧ b1 ≤ b2 + c ∧ d = f y ∧ M2 = insM k (p, .lst acc) ((s, .st g b2) :: M))
    (q : ∀ (ys : List β) b', ys.length = n → (∀ y ∈ ys, P y) → b ≤ b' + c * n → ΦL (ys.map f) ((s, .st g b') :: M)) : LcH k B X scope elt [] own tk δ (rangeD 0 n) ((s, .st g b) :: M) ΦL := by
  refine ⟨fun i acc M1 => ∃ (ys : List β) (b1 : Nat), acc = ys.map f ∧ M1 = (s, .st g b1) :: M ∧ ys.length = i ∧ (∀ y ∈ ys, P y) ∧ b ≤ b1 + c * i, ⟨[], b, rfl, rfl, rfl, (fun y hy => nomatch hy), by omega⟩, ?_, ?_⟩
  · rintro p i x acc M1 hx ⟨ys, b1, rfl, rfl, hl, hP, hbb⟩
    obtain ⟨hi, rfl⟩ := range_get hx
    have hci : c * i + c ≤ c * n := by have := Nat.mul_le_mul_left c (show i + 1 ≤ n by omega); rw [Nat.mul_add, Nat.mul_one] at this; exact this
    obtain ⟨δ2, e1, tu⟩ := h p (ys.map f) i b1 hi (by omega)
    refine ⟨by rw [List.length_map]; exact Nat.lt_of_lt_of_le (show ys.length < 1001 by omega) (by decide), δ2, e1, fun X' bk => (tu X' bk).mono ?_⟩
    rintro d M2 ⟨y, b2, hy, hb2, rfl, rfl⟩
    refine ⟨_, rfl, ys ++ [y], b2, by simp, rfl, by simp [hl], fun z hz => ?_, by rw [Nat.mul_add, Nat.mul_one]; omega⟩
    rcases List.mem_append.mp hz with hz | hz
    · exact hP z hz
    · rw [List.mem_singleton.mp hz]; exact hy
  · rintro acc M1 ⟨ys, b1, rfl, rfl, hl, hP, hbb⟩
    rw [range_len] at hl hbb
    exact q ys b1 hl hP hbb
end
end Hl
namespace Hl
open PySem L2
open PyProof.Rows hiding St
section
variable {B : Bx} {X : Cx} {e a b c o : Expr} {es rest : List Expr} {δ δ' : Env'} {M : Mem} {Φ : D → Mem → Prop} {Ψ : DEnds} {pos : Pos} {d x y : D} {ΦL : List D → Mem → Prop}
/-! ### sorted of whole numbers -/
theorem de_sortedI {p : Pos} (g : Gn X "sorted") (h : DA B X [a] δ M fun ds M1 => CallD (rSortedI X.K) ds M1 Φ) (he : starEach [a] X.env = (false, eval a X.env) :: starEach [] X.env := by rfl) (hpl : (backTo pos (starEach [] X.env)).any (·.1) = false := by rfl) : DE B X (.Call (.Name "sorted" p) [a] [] pos) δ M Φ := de_sorted cr_sortedI g h he hpl
theorem reps_ints {F : List Addr} {H : Hp} : ∀ ns : List Int, Reps F H (ns.map V.int) (ns.map D.int)
  | [] => .nil
  | n :: ns => .cons (.int n) (reps_ints ns)
theorem cd_sortedI {K : PySem.W.Frag} {ns : List Int} (h : IsL M x (ns.map .int)) (k : ∀ ms : List Int, ms.Perm ns → ms.Pairwise (· ≤ ·) → Φ (.lst (ms.map .int)) M) : CallD (rSortedI K) [x] M Φ := fun κ δ σ H vs Q R rs f => by
  cases rs with
  | cons r1 r2 =>
    cases r2
    obtain ⟨a, us, rfl, e1, rr⟩ := h.sq R r1
    have := rr.ints
    subst this
    refine ⟨a, ns, rfl, SqL.of e1, fun ms p h1 h2 hp => ?_⟩
    obtain ⟨R', r'⟩ := R.lstV (reps_ints ms) hp
    exact f _ _ _ _ (k ms h1 h2) R' r'
/-! ### slices of tuples -/
end
end Hl
namespace Hl
open PySem L2
end Hl
namespace Hl
open PySem L2
open PyProof.Rows hiding St
section
variable {B : Bx} {X : Cx} {e a b c o : Expr} {es rest : List Expr} {kw : Keyword} {kws : List Keyword} {st : Stmt} {sts body suite : List Stmt} {δ δ' : Env'} {M : Mem} {Φ : D → Mem → Prop} {ΦB : Bool → Mem → Prop} {Ψ : DEnds} {pos pos' apos pp np : Pos} {d x y : D} {ΦL : List D → Mem → Prop}
/-! ### lists put together, as a new one -/
theorem df_add (h : DE B X a δ M fun x M1 => DE B X b δ M1 fun y M2 => ∃ xs ys, IsL M2 x xs ∧ IsL M2 y ys ∧ xs.length + ys.length ≤ sizeLine ∧ ΦL (xs ++ ys) M2) : DF B X (.BinOp a .Add b pos) δ M ΦL :=
  .of (pe_op op_addU cE cE) fun κ σ H Q hb R k => h κ σ H _ hb R fun v x M1 H1 q1 R1 r1 => q1 ((v, x) :: κ) σ H1 _ (fun q hq => List.mem_cons_of_mem _ (hb q hq)) (R1.push r1) fun w y M2 H2 ⟨xs, ys, i1, i2, hl, q2⟩ R2 r2 => by
    obtain ⟨p1, vs, rfl, e1, rr1⟩ := i1.sq R2.pop R2.top
    obtain ⟨p2, ws, rfl, e2, rr2⟩ := i2.sq R2.pop r2
    refine .inr (.inr (.inl ⟨_, _, _, _, rfl, rfl, e1, e2, by rw [rr1.length, rr2.length]; exact hl, fun p hp => ?_⟩))
    exact k p _ M2 _ q2 (R2.pop.lst (rr1.append rr2) hp)
/-! ### extend -/
theorem de_extend {cpos : Pos} (h : DE B X o δ M fun x M1 => (∃ ds, IsL M1 x ds) ∧ DA B X [a] δ M1 fun ys M2 => MtD X.K "list" rExtend x ys M2 Φ)
    (hbase : attributeBase o "extend" X.env (eval o X.env) = eval o X.env := by rfl)
    (hfew : ((backTo cpos (starEach [a] X.env)).all (fun x => !x.1) && (backToKw cpos (keywordEach [] X.env)).all (fun x => x.1.isSome)
      && decide (([a] : List Expr).length + ([] : List Keyword).length + (if ([] : List Keyword).isEmpty then 0 else 1) < 30)) = true := by rfl)
    (hline : (apos.endLine == cpos.line) = true := by rfl) (hs : starEach [a] X.env = (false, eval a X.env) :: starEach [] X.env := by rfl) (hplain : (backTo cpos (starEach [] X.env)).any (·.1) = false := by rfl) :
    DE B X (.Call (.Attribute o "extend" apos) [a] [] cpos) δ M Φ := de_bml PySem.F.slot_list_extend PySem.F.type_list_extend mt_extend h hbase hfew hline hs hplain
theorem mt_ext {K : PySem.W.Frag} {j : Nat} {p : Addr} {ds es : List D} (hm : M[j]? = some (p, .lst ds)) (hy : IsL M y es) (hl : ds.length + es.length ≤ sizeLine) (k : Φ .non (M.set j (p, .lst (ds ++ es)))) : MtD K "list" rExtend (.raw (.ref p)) [y] M Φ := fun κ δ σ H v vs Q R rv rs h => by
  cases rv
  cases rs with
  | cons r1 r2 =>
    cases r2
    obtain ⟨vs, e1, rr⟩ := R.at hm
    obtain ⟨b, zs, rfl, e2, rr2⟩ := hy.sq R r1
    refine ⟨p, b, vs, zs, rfl, rfl, e1, e2, by rw [rr.length, rr2.length]; exact hl, h _ _ _ _ k ?_ .non⟩
    have hp : ∀ x, x ∉ M.F → upd H p (.lst (vs ++ zs)) x = H x := fun x hx => upd_ne fun z => hx (z ▸ R.mem hm p (by simp [own]))
    exact R.cell hm rfl (fun x hx => upd_ne (by simpa [own] using hx)) ⟨_, upd_same, (rr.append rr2).fwd (Fwd.same hp)⟩
theorem Reps.put {F : List Addr} {H : Hp} {d : D} : ∀ {vs : List V} {ds : List D} {i : Nat} {v : V}, Reps F H vs ds → vs[i]? = some v → Rep F H v d → Reps F H vs (ds.set i d)
  | _, _, _, _, .nil, _, _ => .nil
  | _, _, 0, _, .cons _ t, e, r => by simp at e; subst e; exact .cons r t
  | _, _, i + 1, _, .cons q t, e, r => .cons q (Reps.put (i := i) t (by simpa using e) r)
end
end Hl
namespace Hl
open PySem L2
open PyProof.Rows hiding St
theorem nodup_len {α : Type} [DecidableEq α] : ∀ {l l' : List α}, l.Nodup → l ⊆ l' → l.length ≤ l'.length
  | [], _, _, _ => Nat.zero_le _
  | x :: l, l', hn, hs => by
    have hx : x ∈ l' := hs List.mem_cons_self
    have h := nodup_len (l := l) (l' := l'.erase x) (List.nodup_cons.mp hn).2 fun y hy => (List.mem_erase_of_ne fun z => (List.nodup_cons.mp hn).1 (by rw [← z]; exact hy)).mpr (hs (List.mem_cons_of_mem _ hy))
    rw [List.length_erase_of_mem hx] at h
    have := List.length_pos_of_mem hx
    simp only [List.length_cons]; omega
theorem setR_card {w : World} {h : Heap} {a : Addr} {S : Int → Bool} {n : Nat} (R : SetR w h a S n) {L : List Int} (hL : ∀ k, S k = true → k ∈ L) : n ≤ L.length := by
  obtain ⟨o, es, ep, t, ho, hex, hd, g, nd, hm, hb, hf, hn, hr, hl⟩ := R
  have := nodup_len nd fun k hk => hL k ((hm k).mpr hk)
  rw [List.length_map, Array.length_toList] at this
  omega
def rSetLC (K : PySem.W.Frag) (w : World) : List V → Hp → VK → Prop := fun xs H Q => ∃ (l : Addr) (ns : List Int), xs = [V.ref l] ∧ SqL K H l (ns.map V.int) ∧ ns.length ≤ 1000 ∧ ∀ p c, H p = none → (∀ L : List Int, (∀ k ∈ ns, k ∈ L) → c ≤ L.length) → Q (.ref p) (upd H p (SetO w p (fun j => decide (j ∈ ns)) c))
theorem cr_setLC {X : Cx} (hc : X.calm = true) : CallR X (.type "set") (rSetLC X.K X.w) := by
  intro pins s σ H vs us Q I r h
  obtain ⟨a, ns, rfl, hs, hl, q⟩ := h
  obtain ⟨its, rv, pl, _⟩ := I.list hs
  rw [Vals.ref1 r]
  refine call_set_listI ns (I.ok.hd hc) pl.isList (by simpa using rv.ints) (by unfold scanBound; omega) fun h' tk c R hcn hk => ?_
  exact ⟨.ref _, upd H s.heap.objs.size (SetO X.w s.heap.objs.size (fun j => decide (j ∈ ns)) c), I.laid (t' := tk) hk (Nat.le_refl _) (setO_new R), rfl, q _ c (I.hok.fresh (Nat.le_refl _)) fun L hL => setR_card R fun k hk => hL k (by simpa using hk)⟩
section
variable {B : Bx} {X : Cx} {e a b c o : Expr} {es rest : List Expr} {δ δ' : Env'} {M : Mem} {Φ : D → Mem → Prop} {pos pos' pos2 p2 : Pos} {d x y : D} {ΦL : List D → Mem → Prop}
theorem de_sortedSetC {p : Pos} {n : Nat} (z : Cz X n) (g : Gn X "sorted") (g2 : Gn X "set") (h : DE B X a δ M fun x M1 => ∃ ns L : List Int, IsL M1 x (ns.map .int) ∧ ns.length ≤ 1000 ∧ (∀ k ∈ ns, k ∈ L) ∧ L.length < 64 ∧ ∀ ms : List Int, ms.Pairwise (· < ·) → (∀ k, k ∈ ms ↔ k ∈ ns) → Φ (.lst (ms.map .int)) M1)
    (he : starEach [a] X.env = (false, eval a X.env) :: starEach [] X.env := by rfl) (hpl : (backTo pos2 (starEach [] X.env)).any (·.1) = false := by rfl)
    (he2 : starEach [.Call (.Name "set" p2) [a] [] pos2] X.env = (false, eval (.Call (.Name "set" p2) [a] [] pos2) X.env) :: starEach [] X.env := by rfl) (hpl2 : (backTo pos (starEach [] X.env)).any (·.1) = false := by rfl) :
    DE B X (.Call (.Name "sorted" p) [.Call (.Name "set" p2) [a] [] pos2] [] pos) δ M Φ :=
  .of (pe_callB (cr_sortedSet z.calm) g.gl g.no boot_sorted (pa_cons (pe_callTy (cr_setLC z.calm) g2.gl g2.no boot_set (pa_cons cE pa_nil he) (by decide) (by decide) he hpl) pa_nil he2) (by decide) (by decide) he2 hpl2) fun κ σ H Q hb R k => h κ σ H _ hb R fun v x M1 H1 ⟨ns, L, il, hl, hL, hL2, q⟩ R1 r1 => by
    obtain ⟨a, us, rfl, e1, rr⟩ := il.sq R1 r1
    have := rr.ints
    subst this
    refine ⟨a, ns, rfl, SqL.of e1, hl, fun p' c hp hc => ?_⟩
    refine ⟨p', _, c, rfl, upd_same, by have := hc L hL; omega, fun ms l hpw hmem hlen hl => ?_⟩
    have R2 := R1.new (p := p') (o := SetO X.w p' (fun j => decide (j ∈ ns)) c) hp
    have hrep : Reps M1.F (upd H1 p' (SetO X.w p' (fun j => decide (j ∈ ns)) c)) (ms.map V.int) (ms.map D.int) := by
      clear hpw hmem hlen
      induction ms with
      | nil => exact .nil
      | cons m ms ih => exact .cons (.int _) ih
    obtain ⟨R3, r3⟩ := R2.lstV hrep hl
    exact k _ _ _ _ (q ms hpw fun kk => by rw [hmem kk]; simp) R3 r3
end
end Hl
namespace Hl
open PySem L2
open PyProof.Rows hiding St
/-! ### a cell that is not changed any more: a plain list from here on, wherever it stands -/
mutual
inductive Up (q : Addr) (es : List D) : D → D → Prop
  | here : Up q es (.raw (.ref q)) (.lst es)
  | tup {ds ds' : List D} : Ups q es ds ds' → Up q es (.tup ds) (.tup ds')
  | same (d : D) : Up q es d d
inductive Ups (q : Addr) (es : List D) : List D → List D → Prop
  | nil : Ups q es [] []
  | cons {d d' : D} {ds ds' : List D} : Up q es d d' → Ups q es ds ds' → Ups q es (d :: ds) (d' :: ds')
end
inductive UpO (q : Addr) (es : List D) : List (Option D) → List (Option D) → Prop
  | nil : UpO q es [] []
  | some {d d' : D} {ds ds' : List (Option D)} : Up q es d d' → UpO q es ds ds' → UpO q es (some d :: ds) (some d' :: ds')
  | none {ds ds' : List (Option D)} : UpO q es ds ds' → UpO q es (none :: ds) (none :: ds')
  | any {o : Option D} {ds ds' : List (Option D)} : UpO q es ds ds' → UpO q es (o :: ds) (o :: ds')
section
variable {F F' : List Addr} {H : Hp} {q : Addr} {es : List D}
mutual
theorem Rep.up (k : Fwd F H F' H) (r0 : Rep F' H (.ref q) (.lst es)) : ∀ {d d' : D} {v : V}, Up q es d d' → Rep F H v d → Rep F' H v d'
  | _, _, _, .here, r => by cases r; exact r0
  | _, _, _, .tup u, r => by
    cases r with
    | tup h e rs => exact .tup (k _ _ h e (fun _ z => nomatch z)).1 e (Reps.ups k r0 u rs)
  | _, _, _, .same _, r => r.fwd k
theorem Reps.ups (k : Fwd F H F' H) (r0 : Rep F' H (.ref q) (.lst es)) : ∀ {ds ds' : List D} {vs : List V}, Ups q es ds ds' → Reps F H vs ds → Reps F' H vs ds'
  | _, _, _, .nil, r => by cases r; exact .nil
  | _, _, _, .cons u us, r => by
    cases r with
    | cons r1 rs => exact .cons (Rep.up k r0 u r1) (Reps.ups k r0 us rs)
end
theorem slots_up (k : Fwd F H F' H) (r0 : Rep F' H (.ref q) (.lst es)) : ∀ {δ δ' : List (Option D)} {σ : St}, UpO q es δ δ' → Paired (SlotOk F H) σ δ → Paired (SlotOk F' H) σ δ'
  | _, _, _, .nil, p => by cases p; exact .nil
  | _, _, _, .some u us, p => by
    cases p with
    | cons h t => exact .cons (fun d e => by cases e; obtain ⟨v, ev, r⟩ := h _ rfl; exact ⟨v, ev, Rep.up k r0 u r⟩) (slots_up k r0 us t)
  | _, _, _, .none us, p => by
    cases p with
    | cons h t => exact .cons (fun d e => by cases e) (slots_up k r0 us t)
  | _, _, _, .any us, p => by
    cases p with
    | cons h t => exact .cons (h.fwd k) (slots_up k r0 us t)
end
section
variable {B : Bx} {X : Cx} {δ δ' : Env'} {M : Mem} {Ψ : DEnds} {d x y : D}
theorem ws_up {ts : TS} {q : Addr} {es : List D} (j : Nat) (e : M[j]? = some (q, .lst es)) (hu : UpO q es δ δ') (h : WS B ts δ' (M.eraseIdx j) Ψ) : WS B ts δ M Ψ := fun κ σ H E hb R k => by
  obtain ⟨R2, r2⟩ := R.frz e
  refine h κ σ H E hb ?_ k
  exact R2.slots (slots_up (Fwd.less fun x hx => (F_sub erase_sub).subset hx) r2 hu R.sl)
theorem ws_upE {ts : TS} {q : Addr} {es : List D} (j : Nat) (e : M[j]? = some (q, .lst es)) (h : ∃ δ', UpO q es δ δ' ∧ WS B ts δ' (M.eraseIdx j) Ψ) : WS B ts δ M Ψ := let ⟨_, hu, h⟩ := h; ws_up j e hu h
theorem Vw.up {q : Addr} {es : List D} (j : Nat) (e : M[j]? = some (q, .lst es)) (hu : Up q es d x) : Vw d M x (M.eraseIdx j) := fun _ _ _ H _ R r => by
  obtain ⟨R2, r2⟩ := R.frz e
  exact ⟨R2, Rep.up (Fwd.less fun x hx => (F_sub erase_sub).subset hx) r2 hu r⟩
end
/-! ### data within data, some of them cells -/
mutual
inductive IsD (M : Mem) : D → D → Prop
  | val (d : D) : IsD M d d
  | cell {p : Addr} {ds ds' : List D} (j : Nat) (h : M[j]? = some (p, .lst ds)) : IsDs M ds ds' → IsD M (.raw (.ref p)) (.lst ds')
  | lst {ds ds' : List D} : IsDs M ds ds' → IsD M (.lst ds) (.lst ds')
  | tup {ds ds' : List D} : IsDs M ds ds' → IsD M (.tup ds) (.tup ds')
inductive IsDs (M : Mem) : List D → List D → Prop
  | nil : IsDs M [] []
  | cons {d d' : D} {ds ds' : List D} : IsD M d d' → IsDs M ds ds' → IsDs M (d :: ds) (d' :: ds')
end
theorem IsDs.refl {M : Mem} : ∀ ds : List D, IsDs M ds ds
  | [] => .nil
  | d :: ds => .cons (.val d) (IsDs.refl ds)
theorem IsDs.map {M : Mem} {α : Type} {f g : α → D} : ∀ {l : List α}, (∀ x ∈ l, IsD M (f x) (g x)) → IsDs M (l.map f) (l.map g)
  | [], _ => .nil
  | x :: l, h => .cons (h x List.mem_cons_self) (IsDs.map fun y hy => h y (List.mem_cons_of_mem _ hy))
section
variable {M : Mem} {δ : Env'} {κ : List (V × D)} {σ : St} {H : Hp} {K : PySem.W.Frag}
mutual
theorem IsD.dp (R : Rs κ δ M σ H) : ∀ {x d : D} {v : V}, IsD M x d → Rep M.F H v x → okD d = true → Dp K H v (toPy d)
  | _, _, _, .val _, r, k => rep_dp r k
  | _, _, _, .cell j h hs, r, k => by
    cases r
    obtain ⟨vs, e, rs⟩ := R.at h
    exact .lst (SqL.of e) (IsDs.dp R hs rs k)
  | _, _, _, .lst hs, r, k => by
    cases r with
    | lst h e rs => exact .lst (SqL.of e) (IsDs.dp R hs rs k)
  | _, _, _, .tup hs, r, k => by
    cases r with
    | tup h e rs => exact .tup (SqT.of e) (IsDs.dp R hs rs k)
theorem IsDs.dp (R : Rs κ δ M σ H) : ∀ {xs ds : List D} {vs : List V}, IsDs M xs ds → Reps M.F H vs xs → okDs ds = true → DpAll K H vs (toPys ds)
  | _, _, _, .nil, r, _ => by cases r; exact .nil
  | _, _, _, .cons h hs, r, k => by
    cases r with
    | cons r rs =>
      have k := Bool.and_eq_true_iff.mp (show (_ && _) = true from k)
      exact .cons (IsD.dp R h r k.1) (IsDs.dp R hs rs k.2)
end
end
end Hl
namespace Hl
open PySem L2
open PyProof.Rows hiding St
section
variable {B : Bx} {X : Cx} {e a b c o : Expr} {es rest : List Expr} {δ δ' : Env'} {M : Mem} {Φ : D → Mem → Prop} {Ψ : DEnds} {pos pos' : Pos} {d x y : D}
/-! ### xs += ys, xs a cell -/
theorem ds_augL {i : Nat} {x : Str} {n : Nat} (z : Cz X n) (l : Lo X i x) (hd : δ[i]? = some (some d)) (h : DE B X e δ M fun y M' => OpD rExt2 d y M' fun v M2 => Sets δ i v fun δ' => Ψ.nx δ' M2) : DS B X (.AugAssign (.Name x pos') .Add e pos) δ M Ψ := ds_aug z l iop_ext hd h
theorem oi_ext {j : Nat} {p : Addr} {ds es : List D} (hm : M[j]? = some (p, .lst ds)) (hy : IsL M y es) (hl : ds.length + es.length ≤ sizeLine) (k : Φ (.raw (.ref p)) (M.set j (p, .lst (ds ++ es)))) : OpD rExt2 (.raw (.ref p)) y M Φ := fun κ δ σ H v w Q R rv rw' h => by
  cases rv
  obtain ⟨vs, e1, rr⟩ := R.at hm
  obtain ⟨b, zs, rfl, e2, rr2⟩ := hy.sq R rw'
  refine ⟨p, b, vs, zs, rfl, rfl, e1, e2, by rw [rr.length, rr2.length]; exact hl, h _ _ _ _ k ?_ (.raw _)⟩
  have hp : ∀ x, x ∉ M.F → upd H p (.lst (vs ++ zs)) x = H x := fun x hx => upd_ne fun z => hx (z ▸ R.mem hm p (by simp [own]))
  exact R.cell hm rfl (fun x hx => upd_ne (by simpa [own] using hx)) ⟨_, upd_same, (rr.append rr2).fwd (Fwd.same hp)⟩
end
end Hl
namespace Hl
open PySem L2
/-! ### a thing with its parts, opened and closed -/
end Hl
namespace Hl
open PySem L2
end Hl
namespace Hl
open PySem L2
section
variable {B : Bx} {X : Cx} {e a b c o : Expr} {es rest : List Expr} {st : Stmt} {sts body : List Stmt} {δ δ' : Env'} {M : Mem} {Φ : D → Mem → Prop} {Ψ : DEnds} {te ta tb : TE} {tt : TT} {pos pos' apos : Pos} {d x y : D} {ΦB : Bool → Mem → Prop} {ΦL : List D → Mem → Prop}
variable {tg iter : Expr}
/-- a fact of a memory that stays where cells come in -/
def Anc (P : Mem → Prop) : Prop := ∀ M M' : Mem, (∀ x ∈ M, x ∈ M') → P M → P M'
/-! ### walking a list that is a cell (and stays so) -/
end
end Hl
namespace Hl
open PySem L2
/-! ### data with a reference seen otherwise -/
mutual
inductive UpV (q : Addr) (y : D) : D → D → Prop
  | here : UpV q y (.raw (.ref q)) y
  | tup {ds ds' : List D} : UpVs q y ds ds' → UpV q y (.tup ds) (.tup ds')
  | same (d : D) : UpV q y d d
inductive UpVs (q : Addr) (y : D) : List D → List D → Prop
  | nil : UpVs q y [] []
  | cons {d d' : D} {ds ds' : List D} : UpV q y d d' → UpVs q y ds ds' → UpVs q y (d :: ds) (d' :: ds')
end
inductive UpVO (q : Addr) (y : D) : List (Option D) → List (Option D) → Prop
  | nil : UpVO q y [] []
  | some {d d' : D} {ds ds' : List (Option D)} : UpV q y d d' → UpVO q y ds ds' → UpVO q y (some d :: ds) (some d' :: ds')
  | none {ds ds' : List (Option D)} : UpVO q y ds ds' → UpVO q y (none :: ds) (none :: ds')
  | any {o : Option D} {ds ds' : List (Option D)} : UpVO q y ds ds' → UpVO q y (o :: ds) (o :: ds')
section
variable {B : Bx} {X : Cx} {e a b c o : Expr} {es rest : List Expr} {st : Stmt} {sts body : List Stmt} {δ δ' : Env'} {M : Mem} {Φ : D → Mem → Prop} {Ψ : DEnds} {te ta tb : TE} {tt : TT} {pos pos' apos : Pos} {d x y : D} {ΦB : Bool → Mem → Prop} {ΦL : List D → Mem → Prop} {kvs : List (Key × D)} {k : Key}
variable {tg iter : Expr}
/-! ### a dict in the slots is frozen -/
/-! ### a dict is locked while a statement, or an expression, runs -/
theorem Rpl.F {p : Addr} {c c' : SC} {M' : Mem} (r : Rpl p c c' M M') : M'.F = M.F := by
  cases r with
  | cell j h => exact F_set h (by rw [own_up, own_up])
  | head j h => exact F_set h rfl
  | @part N b c0 j i h h2 => exact F_set h (by show b :: _ = b :: _; rw [map_set_fst h2])
/-! ### fields of things with parts -/
theorem fld_h {K : PySem.W.Frag} {f : Str} {C p : Addr} {ns : List Str} {fs : List D} {N : List (Addr × SC)} (j : Nat) (hm : M[j]? = some (p, .grp (.obj C ns fs) N)) (ff : FldP K C f) (l : (ns.zip fs).lookup f = some d) (k : Φ d M) : FldD K f (.raw (.ref p)) M Φ := fld_o (.inm (.inr (.inl ⟨_, List.mem_of_getElem? hm⟩))) ff l k
theorem fld_p {K : PySem.W.Frag} {f : Str} {C p b : Addr} {ns : List Str} {fs : List D} {c0 : SC} {N : List (Addr × SC)} (j : Nat) (hm : M[j]? = some (b, .grp c0 N)) (hp : (p, SC.obj C ns fs) ∈ N) (ff : FldP K C f) (l : (ns.zip fs).lookup f = some d) (k : Φ d M) : FldD K f (.raw (.ref p)) M Φ := fld_o (.inm (.inr (.inr ⟨_, _, _, List.mem_of_getElem? hm, hp⟩))) ff l k
/-! ### o.f += e -/
end
end Hl
namespace Hl
open PySem L2
section
variable {B : Bx} {X : Cx} {e a b c o : Expr} {es rest : List Expr} {kws : List Keyword} {st : Stmt} {sts body : List Stmt} {δ δ' : Env'} {M : Mem} {Φ : D → Mem → Prop} {Ψ : DEnds} {te ta tb : TE} {tt : TT} {pos pos' apos : Pos} {d x y : D} {ΦB : Bool → Mem → Prop} {ΦL : List D → Mem → Prop} {kvs : List (Key × D)} {k : Key}
/-! ### methods of things with parts, and of their parts -/
theorem mt_hS {m k : Nat} {mn : Str} {C q : Addr} {ns : List Str} {fs : List D} {N : List (Addr × SC)} {sel : Sel} {p : DSpE} {Ξ : XPost} (j : Nat) (hm : M[j]? = some (q, .grp (.obj C ns fs) N)) (f : MethEX X k C mn es.length (kwN kws) sel p) (hk : k ≤ m) (lt : Lets X B δ Ξ) (pl : PlA X pos es kws (kwN kws)) (hn : ns.contains mn = false)
    (h : DAK B X es kws δ M fun ds zs M' => ds.length = es.length ∧ zs.length = (kwN kws).length ∧ p (selD sel (.raw (.ref q) :: ds ++ zs)) M' Φ Ξ) : MtE B X m pos es kws mn δ (.raw (.ref q)) M Φ := mt_o (.inm (.inr (.inl ⟨_, List.mem_of_getElem? hm⟩))) f hk lt pl hn h
theorem mt_pS {m k : Nat} {mn : Str} {C q b : Addr} {ns : List Str} {fs : List D} {c0 : SC} {N : List (Addr × SC)} {sel : Sel} {p : DSpE} {Ξ : XPost} (j : Nat) (hm : M[j]? = some (b, .grp c0 N)) (hp : (q, SC.obj C ns fs) ∈ N) (f : MethEX X k C mn es.length (kwN kws) sel p) (hk : k ≤ m) (lt : Lets X B δ Ξ) (pl : PlA X pos es kws (kwN kws)) (hn : ns.contains mn = false)
    (h : DAK B X es kws δ M fun ds zs M' => ds.length = es.length ∧ zs.length = (kwN kws).length ∧ p (selD sel (.raw (.ref q) :: ds ++ zs)) M' Φ Ξ) : MtE B X m pos es kws mn δ (.raw (.ref q)) M Φ := mt_o (.inm (.inr (.inr ⟨_, _, _, List.mem_of_getElem? hm, hp⟩))) f hk lt pl hn h
end
/-! ### a promise about the first cells, with other cells ahead of them -/
end Hl
namespace Hl
open PySem L2
section
variable {B : Bx} {X : Cx} {e a b c o : Expr} {es rest : List Expr} {kws : List Keyword} {st : Stmt} {sts body : List Stmt} {δ δ' : Env'} {M : Mem} {Φ : D → Mem → Prop} {Ψ : DEnds} {te ta tb : TE} {tt : TT} {pos pos' apos cpos : Pos} {d x y : D} {ΦB : Bool → Mem → Prop} {ΦL : List D → Mem → Prop} {kvs : List (Key × D)} {k : Key}
/-! ### xs.count(y), xs.index(y) of truths -/
def rCountV (K : PySem.W.Frag) : V → List V → Hp → VK → Prop := fun x xs H Q => ∃ (a : Addr) (ys : List V) (y : V), x = V.ref a ∧ xs = [y] ∧ SqL K H a ys ∧ flatV y = true ∧ ys.all flatV = true ∧ Q (.int (ys.countP (fun z => eqV z y) : Nat)) H
theorem count_vals {y : V} : ∀ {ys : List V} {us : List Value}, Vals ys us → ys.all flatV = true → us.countP (eqU y) = ys.countP fun z => eqV z y
  | _, _, .nil, _ => rfl
  | z :: ys, u :: us, .cons r rs, f => by
    have f2 := Bool.and_eq_true_iff.mp (show (_ && _) = true from f)
    rw [List.countP_cons, List.countP_cons, count_vals rs f2.2, eqU_of r f2.1]
theorem mt_countV : MtR X "list.count" (rCountV X.K) := by
  intro pins s σ H x xs v us Q I rx rxs h
  obtain ⟨a, ys, y, rfl, rfl, hs, fy, fys, q⟩ := h
  cases rx
  cases rxs with
  | cons ry rt =>
    rename_i uy ut
    cases rt
    obtain ⟨its, rv, ⟨⟨cls, dd, data, sl⟩, n, ho, hc, hdn, hd⟩, hlen⟩ := I.list hs
    simp only at hc hd
    subst hc hd
    refine call_meets PySem.F.slot_list_count ⟨_, ho, rfl⟩ PySem.F.entry_list_count (PySem.F.args_list_count_2 _ _)
      (SeqAt.list_countAt a its.toArray n dd sl uy (eqU y)) ⟨ho, fun u' hu' => mem_eqAt ry fy rv fys u' (by simpa using hu'), ?_⟩
    refine ⟨.int _, H, I.tok _, ⟨s.toks, ?_⟩, q⟩
    show Value.int ((its.toArray.toList.countP (eqU y) : Nat) : Int) s.toks = _
    rw [List.toList_toArray, count_vals rv fys]
theorem de_count (h : DE B X o δ M fun x M1 => (∃ ds, IsL M1 x ds) ∧ DA B X [a] δ M1 fun ys M2 => MtD X.K "list" (rCountV X.K) x ys M2 Φ)
    (hbase : attributeBase o "count" X.env (eval o X.env) = eval o X.env := by rfl)
    (hfew : ((backTo cpos (starEach [a] X.env)).all (fun x => !x.1) && (backToKw cpos (keywordEach [] X.env)).all (fun x => x.1.isSome)
      && decide (([a] : List Expr).length + ([] : List Keyword).length + (if ([] : List Keyword).isEmpty then 0 else 1) < 30)) = true := by rfl)
    (hline : (apos.endLine == cpos.line) = true := by rfl) (hs : starEach [a] X.env = (false, eval a X.env) :: starEach [] X.env := by rfl) (hplain : (backTo cpos (starEach [] X.env)).any (·.1) = false := by rfl) :
    DE B X (.Call (.Attribute o "count" apos) [a] [] cpos) δ M Φ := de_bml PySem.F.slot_list_count PySem.F.type_list_count mt_countV h hbase hfew hline hs hplain
theorem de_index (h : DE B X o δ M fun x M1 => (∃ ds, IsL M1 x ds) ∧ DA B X [a] δ M1 fun ys M2 => MtD X.K "list" (rIndex X.K) x ys M2 Φ)
    (hbase : attributeBase o "index" X.env (eval o X.env) = eval o X.env := by rfl)
    (hfew : ((backTo cpos (starEach [a] X.env)).all (fun x => !x.1) && (backToKw cpos (keywordEach [] X.env)).all (fun x => x.1.isSome)
      && decide (([a] : List Expr).length + ([] : List Keyword).length + (if ([] : List Keyword).isEmpty then 0 else 1) < 30)) = true := by rfl)
    (hline : (apos.endLine == cpos.line) = true := by rfl) (hs : starEach [a] X.env = (false, eval a X.env) :: starEach [] X.env := by rfl) (hplain : (backTo cpos (starEach [] X.env)).any (·.1) = false := by rfl) :
    DE B X (.Call (.Attribute o "index" apos) [a] [] cpos) δ M Φ := de_bml PySem.F.slot_list_index PySem.F.type_list_index mt_index h hbase hfew hline hs hplain
/-! ### sep.join(texts) -/
theorem de_join (h : DE B X o δ M fun x M1 => ∃ z, x = .str z ∧ DE B X a δ M1 fun y M2 => ∃ ys : List Str, IsL M2 y (ys.map .str) ∧ (ys.map (·.length)).sum + ys.length * z.length ≤ 16777216 ∧ Φ (.str (Txt.join z ys)) M2)
    (hs : starEach [a] X.env = [(false, eval a X.env)] := by rfl) (hbase : attributeBase o "join" X.env (eval o X.env) = eval o X.env := by rfl) (hline : (apos.endLine == pos.line) = true := by rfl) : DE B X (.Call (.Attribute o "join" apos) [a] [] pos) δ M Φ :=
  .of (pe_join cE cE hs hbase hline) fun κ σ H Q hb R k => h κ σ H _ hb R fun v x M1 H1 ⟨z, ez, q1⟩ R1 r1 => by
    subst ez
    cases r1
    refine ⟨⟨z, rfl⟩, q1 κ σ H1 _ hb R1 fun vy y M2 H2 ⟨ys, il, hl, q2⟩ R2 r2 => ?_⟩
    obtain ⟨p, us, rfl, e1, rr⟩ := il.sq R2 r2
    have := rr.strs
    subst this
    exact ⟨z, p, ys, rfl, rfl, .inl (SqL.of e1), hl, k _ _ _ _ q2 R2 (.str _)⟩
end
/-! signs of a joined text -/
end Hl
namespace Hl
open PySem L2
/-! ### facts of classes, not to be looked into -/
structure KitP (K : PySem.W.Frag) (t u : Value) (b : Bool) : Prop where
  is : PySem.W.kitOne K t u = some b
structure ExmP (K : PySem.W.Frag) (t u : Value) (b : Bool) : Prop where
  is : PySem.W.exmOne K t u = some b
structure MgP (mg : Str → Option Value) (x : Str) (C : Addr) : Prop where
  is : mg x = some (.ref C)
section
variable {B : Bx} {X X' : Cx} {δ : Env'} {M : Mem} {Φ : D → Mem → Prop} {Ψ : DEnds} {d x y : D} {scope : Scope} {suite : List Stmt} {pos : Pos}
theorem isx_xP {K : PySem.W.Frag} {C : Addr} {ns : List Str} {fs : List D} {c : V} {u : Value} {b : Bool} (T : ExcP K C) (hc : ClsV c u) (hk : KitP K (.ref C) u b) (k : Φ (.bl b) M) : CallD (rIsiU K) [.exn C ns fs, .raw c] M Φ := isx_x T hc hk.is k
theorem isx_oP {K : PySem.W.Frag} {C : Addr} {ns : List Str} {fs : List D} {c : V} {u : Value} {b : Bool} (h : IsO M x C ns fs) (T : InsP K C) (hc : ClsV c u) (hk : KitP K (.ref C) u b) (k : Φ (.bl b) M) : CallD (rIsiU K) [x, .raw c] M Φ := isx_o h T hc hk.is k
theorem isx_bP {K : PySem.W.Frag} {S : String} {c : V} {u : Value} {b : Bool} (hx : tyD x = some S) (hc : ClsV c u) (hk : KitP K (.type S) u b) (k : Φ (.bl b) M) : CallD (rIsiU K) [x, .raw c] M Φ := isx_b hx hc hk.is k
theorem isx_t2P {K : PySem.W.Frag} {C : Addr} {ns : List Str} {fs : List D} {c1 c2 : V} {u1 u2 : Value} {b1 b2 : Bool} (T : ExcP K C) (h1 : ClsV c1 u1) (h2 : ClsV c2 u2) (k1 : KitP K (.ref C) u1 b1) (k2 : KitP K (.ref C) u2 b2) (k : Φ (.bl (b1 || b2)) M) : CallD (rIsiV K) [.exn C ns fs, .tup [.raw c1, .raw c2]] M Φ := isx_t2 T h1 h2 k1.is k2.is k
theorem exh_yesP {c0 C : Addr} {oi : Option Nat} {ns : List Str} {ds : List D} {r : List HdD} (hm : ExmP X.K (.ref C) (.ref c0) true) (h : ∀ a pn kp, DSs ⟨kp, fun _ _ _ _ _ => False⟩ (X.suite a pn) suite (envD oi δ (.exn C ns ds)) M (endsD oi Ψ)) : exH B X Ψ ((c0, oi, suite) :: r) C ns ds δ M := exh_yes hm.is h
theorem exh_noP {c0 C : Addr} {oi : Option Nat} {ns : List Str} {ds : List D} {r : List HdD} (hm : ExmP X.K (.ref C) (.ref c0) false) (h : exH B X Ψ r C ns ds δ M) : exH B X Ψ ((c0, oi, suite) :: r) C ns ds δ M := exh_no hm.is h
theorem de_gclsP {x : Str} {C : Addr} (hg : Gl X x) (hm : MgP X.mg x C) (k : Φ (.raw (.ref C)) M) (hd : (x == ("__debug__" : Str)) = false := by decide) : DE B X (.Name x pos) δ M Φ := de_gcls hg hm.is k hd
end
end Hl
namespace Hl
open PySem L2
/-! ### zip of two lists of one length -/
end Hl
namespace Hl
open PySem L2
open PyProof.Rows hiding St
/-! ### a list, a tuple, or a list that is a cell -/
inductive IsSq (M : Mem) : D → List D → Prop
  | lst (ds : List D) : IsSq M (.lst ds) ds
  | tup (ds : List D) : IsSq M (.tup ds) ds
  | cell {p : Addr} {ds : List D} (h : InM M p (.lst ds)) : IsSq M (.raw (.ref p)) ds
theorem anc_sq {y : D} {ds : List D} : Anc fun M => IsSq M y ds := fun M M' h k => by
  cases k with
  | lst => exact .lst _
  | tup => exact .tup _
  | cell h' => exact .cell (h'.mono h)
theorem IsSq.sq {κ : List (V × D)} {δ : Env'} {M : Mem} {σ : St} {H : Hp} {v : V} {x : D} {ds : List D} (h : IsSq M x ds) (R : Rs κ δ M σ H) (r : Rep M.F H v x) : ∃ p vs, v = .ref p ∧ (H p = some (.lst vs) ∨ H p = some (.tup vs)) ∧ Reps M.F H vs ds := by
  cases h with
  | lst => cases r with | lst h1 e1 r1 => exact ⟨_, _, rfl, .inl e1, r1⟩
  | tup => cases r with | tup h1 e1 r1 => exact ⟨_, _, rfl, .inr e1, r1⟩
  | cell h =>
    cases r
    obtain ⟨vs, e1, r1⟩ := h.ok R
    exact ⟨_, _, rfl, .inl e1, r1⟩
end Hl
namespace Hl
open PySem L2
section
variable {B : Bx} {X : Cx} {δ δ' : Env'} {M : Mem} {Φ : D → Mem → Prop} {d x y : D} {α : Type} {l : List α} {f : α → D} {i : Int}
theorem od_ixTE {K : PySem.W.Frag} (h : 0 ≤ i ∧ i < l.length) (k : ∀ y, l[i.toNat]? = some y → Φ (f y) M) : OpD (rIxU K) (.tup (l.map f)) (.int i) M Φ := by
  have hi : i.toNat < l.length := by omega
  obtain ⟨n, rfl⟩ : ∃ n : Nat, i = (n : Int) := ⟨i.toNat, by omega⟩
  have hn : n < l.length := by omega
  exact od_ixT (d := f l[n]) (at_mapN (by simp [hn])) (k _ (by simp [hn]))
end
end Hl
namespace Hl
open PySem L2
end Hl
namespace Hl
open PySem L2
open PyProof.Rows hiding St
section
variable {B : Bx} {X : Cx} {e a b c o : Expr} {es rest : List Expr} {δ δ' : Env'} {M M' : Mem} {Φ : D → Mem → Prop} {Ψ : DEnds} {pos pos' apos cpos : Pos} {d x y : D} {ΦL : List D → Mem → Prop}
/-! ### xs.clear() -/
def rClear : V → List V → Hp → VK → Prop := fun x vs H Q => ∃ l xs, x = .ref l ∧ vs = [] ∧ H l = some (.lst xs) ∧ Q .non (upd H l (.lst []))
theorem mt_clear : MtR X "list.clear" rClear := by
  intro pins s σ H x vs v us Q I rx rv h
  obtain ⟨l, xs, rfl, rfl, hH, q⟩ := h
  cases rx
  have hus := rv.zero
  subst hus
  obtain ⟨z, its, n, r, hl, e⟩ := I.lstM hH
  refine call_meets F.slot_list_clear ⟨_, e, rfl⟩ F.entry_list_clear (F.args_list_clear_1 _) (AutoSeq1.list_clear_list_0 l its.toArray n (by rw [List.size_toArray]; omega)) ⟨e, ?_⟩
  exact ⟨.non, _, I.lset (its' := []) hH e (by simp) .nil (Nat.zero_le _), rfl, q⟩
theorem de_bml0 {name : Str} {id : String} {r : V → List V → Hp → VK → Prop} (slot : Slot "list" name id) (hty : typeOf (.builtin id) = pure (.type "method_descriptor")) (hm : MtR X id r)
    (h : DE B X o δ M fun x M1 => (∃ ds, IsL M1 x ds) ∧ MtD X.K "list" r x [] M1 Φ)
    (hbase : attributeBase o name X.env (eval o X.env) = eval o X.env := by rfl) (hline : (apos.endLine == cpos.line) = true := by rfl) :
    DE B X (.Call (.Attribute o name apos) [] [] cpos) δ M Φ := .of (pe_bm0 PySem.F.plainAttrs_list slot hty hm cE hbase hline) fun κ σ H Q hb R k =>
  h κ σ H _ hb R fun v x M1 H1 ⟨⟨ds, il⟩, q⟩ R1 r1 => by
    obtain ⟨p, vs, ev, e1, rr⟩ := il.sq R1 r1
    refine ⟨by subst ev; exact .inl ⟨rfl, vs, SqL.of e1⟩, ?_⟩
    exact q κ δ σ H1 v [] Q R1 r1 .nil k
theorem de_clear (h : DE B X o δ M fun x M1 => (∃ ds, IsL M1 x ds) ∧ MtD X.K "list" rClear x [] M1 Φ)
    (hbase : attributeBase o "clear" X.env (eval o X.env) = eval o X.env := by rfl) (hline : (apos.endLine == cpos.line) = true := by rfl) :
    DE B X (.Call (.Attribute o "clear" apos) [] [] cpos) δ M Φ := de_bml0 PySem.F.slot_list_clear PySem.F.type_list_clear mt_clear h hbase hline
/-! ### a comprehension whose items are new cells, put behind all others -/
end
theorem IsO.mono {M M' : Mem} {x : D} {C : Addr} {ns : List Str} {ds : List D} (h : IsO M x C ns ds) (k : ∀ c ∈ M, c ∈ M') : IsO M' x C ns ds := by
  cases h with
  | val => exact .val _ _ _
  | cell j h => exact .inm ((InM.mono (M := M) (.inl (List.mem_of_getElem? h))) k)
  | inm h => exact .inm (h.mono k)
theorem IsSq.mono {M M' : Mem} {x : D} {ds : List D} (h : IsSq M x ds) (k : ∀ c ∈ M, c ∈ M') : IsSq M' x ds := anc_sq M M' k h
end Hl
namespace PySem.W
open PySem PySem.Calls PyProof.Rows Builtin
end PySem.W
namespace Hl
open PySem L2
open PyProof.Rows hiding St
end Hl
namespace Hl
open PySem L2
open PyProof.Rows hiding St
section
variable {B : Bx} {X : Cx} {e a b c o : Expr} {es rest : List Expr} {δ δ' : Env'} {M M' : Mem} {Φ : D → Mem → Prop} {pos pos' apos cpos : Pos} {d x y : D} {ΦL : List D → Mem → Prop}
/-! ### xs.pop() -/
theorem de_pop0 (h : DE B X o δ M fun x M1 => (∃ ds, IsL M1 x ds) ∧ MtD X.K "list" rPop x [] M1 Φ)
    (hbase : attributeBase o "pop" X.env (eval o X.env) = eval o X.env := by rfl) (hline : (apos.endLine == cpos.line) = true := by rfl) :
    DE B X (.Call (.Attribute o "pop" apos) [] [] cpos) δ M Φ := de_bml0 PySem.F.slot_list_pop PySem.F.type_list_pop mt_pop h hbase hline
/-! ### max of three -/
theorem de_max3 {n : Nat} (z : Cz X n) {p : Pos} (g : Gn X "max") (h : DA B X [a, b, c] δ M fun ds M1 => CallD (rNuC3 nuMax3) ds M1 Φ) (he : starEach [a, b, c] X.env = (false, eval a X.env) :: starEach [b, c] X.env := by rfl) (hpl : (backTo pos (starEach [b, c] X.env)).any (·.1) = false := by rfl) : DE B X (.Call (.Name "max" p) [a, b, c] [] pos) δ M Φ := de_blt (call_max3Nu z.calm) g boot_max h (by decide) (by decide) he hpl
theorem cd_max3 {i j l : Int} (k : Φ (.int (max (max i j) l)) M) : CallD (rNuC3 nuMax3) [.int i, .int j, .int l] M Φ := fun κ δ σ H vs Q R rs f => by
  cases rs with
  | cons r1 r2 =>
    cases r1
    cases r2 with
    | cons r2 r3 =>
      cases r2
      cases r3 with
      | cons r3 r4 =>
        cases r3
        cases r4
        refine ⟨_, _, _, .int (max (max i j) l), rfl, ?_, f _ _ _ _ k R (.int _)⟩
        have h2 : ∀ a b : Int, nuMax2 (.int a) (.int b) = some (.int (max a b)) := fun a b => by
          show some (if decide (a < b) = true then V.int b else V.int a) = _
          by_cases h : a < b
          · rw [if_pos (by simpa using h), Int.max_eq_right (by omega)]
          · rw [if_neg (by simpa using h), Int.max_eq_left (by omega)]
        unfold nuMax3
        rw [h2]
        exact h2 _ _
end
end Hl
namespace Hl
open PySem L2
open PyProof.Rows hiding St
/-! ### an exception made as a value -/
section
variable {X : Cx} {pins : List (Addr × Obj)} {σ : St} {H : Hp} {s s' : Shared}
theorem ep_mk {Q : XK} {Q' : VK} {u : Value} (m : MkP X pins σ Q u s') (q : ∀ cls d H' a, Q cls d H' → H' a = none → Q' (.ref a) (upd H' a (XO cls d a))) : EP X pins σ Q' u s' := by
  obtain ⟨a, oe, vs, sI, H', cls, d, rfl, J, k, hne, ha, hz, hd, h1, na, os, ag, r, q0⟩ := m
  refine ⟨.ref a, upd H' a (XO cls d a), ?_, rfl, q _ _ _ _ q0 na⟩
  exact Inv.landedX (B := PySem.W.hideAll sI.heap (frs X.stack)) J (fun b o e hb => PySem.W.hideAll_get _ e hb) (fun b o e => k b o (PySem.W.of_hideAll _ e)) (Heap.UpToSlots.of_keeps k) os ag na hne (xo_ok ha hz hd)
end
section
variable {X : Cx} {B : Bx} {δ : Env'} {M : Mem} {Φ : D → Mem → Prop} {e : Expr} {es : List Expr} {kws : List Keyword} {pos pp : Pos} {m : Nat}
theorem de_ofMk {t : St → Hp → XK → Prop} (hm : PMk X e t) (h : ∀ κ σ H, (∀ q ∈ B.ps, q ∈ κ) → Rs κ δ M σ H → t σ H fun cls d H' => ∃ C ns ds M', cls = .ref C ∧ Rs κ δ M' σ H' ∧ XRep M'.F H' d ns ds ∧ Φ (.exn C ns ds) M') : DE B X e δ M Φ := by
  intro κ σ H Q hb R k
  unfold tE
  intro pins s I
  refine wpAny_mono (hm pins s σ H _ I (h κ σ H hb R)) (fun u s1 mk => ep_mk mk fun cls d H' a ⟨C, ns, ds, M', e1, R1, x1, q⟩ na => ?_) fun _ _ x => x
  subst e1
  exact k _ _ M' _ q (R1.new na) (x1.held (R1.fresh na) na)
theorem de_exn0 {C : Addr} {x : Str} (T : Ex0 X.K X.mg x C) (hg : Gl X x) (h : Φ (.exn C [] []) M) (hdb : (x == ("__debug__" : Str)) = false := by decide) : DE B X (.Call (.Name x pp) [] [] pos) δ M Φ :=
  de_ofMk (pmk_own0 T hg hdb) fun κ σ H hb R => ⟨C, [], [], M, rfl, R, .inl ⟨rfl, rfl, rfl⟩, h⟩
end
/-! ### with keywords: type.__call__ on a class of exceptions -/
section
open PySem.W PySem.Calls PySem.HandSPX PyProof
variable {prog : Program} {w : World} {A : Around} {E : Value → Shared → Prop} {R : Result → Shared → Prop} {h : Heap} {g : Array GenState} {d : Drawn} {t : Nat} {os : OsState}
variable {nm q : Str} {C N : Addr} {bs bm bmB : List Value} {hdct : Bool} {sn : List Str} {sub : List Value} {ab : Bool} {col : Option Bool} {dd : Option Addr} {k0 k1 k2 k3 k5 : Option Value} {B newId initId : String} {kw : List (Str × Value)}
theorem check_newK {M : Model} (F : ExcBaseFacts B newId initId bmB) (hT : ∀ X : String, bm.contains (.type X) = bmB.contains (.type X)) {rest : List Value} {Q : Unit → Shared → Prop}
    (hC : h.get? C = some (excClassObj nm q C N bs bm hdct sn sub ab col dd k0 k1 k2 k3 k5 newId)) (hq : Q () ⟨h, g, d, t, os⟩) : wpAny M A (checkBuiltinCall newId ⟨.ref C :: rest, kw⟩) Q E ⟨h, g, d, t, os⟩ := by
  have hcont : (Value.ref C :: bm).contains (.type B) = true := by rw [List.contains_cons, hT, F.hasB, Bool.or_true]
  have hstar := F.noStar
  simp only [checkBuiltinCall, F.newKind, F.newSplit, F.newRow]
  repeat (first | refine wpAny_loadPart_at hC ?_ | (refine wpAny_isSubtype_exc hC ?_; rw [hcont]) | refine wpAny_staticBase_exc hC ?_ | refine wpAny_madeBy_exc hC ?_ | simp only [bne_self_eq_false, Bool.false_eq_true, if_false] | wp_step)
  exact hq
theorem newK (F : ExcBaseFacts B newId initId bmB) (hT : ∀ X : String, bm.contains (.type X) = bmB.contains (.type X)) {rest : List Value}
    (hC : h.get? C = some (excClassObj nm q C N bs bm hdct sn sub ab col dd k0 k1 k2 k3 k5 newId))
    (hq : R (.ok (.ret (.ref (h.objs.size + 1)))) ⟨(h.push { cls := .type "tuple", data := .seq rest.toArray }).push
      { cls := .ref C, data := .fields #[.ref h.objs.size, .none, .none, .none, .bool false, .none] }, g, d, t, os⟩) (hrest : rest.length ≤ sizeLine) :
    codeAny (model prog w) A (.builtin newId ⟨.ref C :: rest, kw⟩) R ⟨h, g, d, t, os⟩ := by
  have hends := F.ends
  have hcB : (Value.ref C :: bm).contains (.type B) = true := by rw [List.contains_cons, hT, F.hasB, Bool.or_true]
  have hcA : (Value.ref C :: bm).contains (.type "AttributeError") = false := by rw [List.contains_cons, hT, F.noAttr]; rfl
  have hcN : (Value.ref C :: bm).contains (.type "NameError") = false := by rw [List.contains_cons, hT, F.noName]; rfl
  refine codeAny_builtinAt F.entry ?_
  unfold Builtin.«BaseException.__new__»
  refine PySem.wpAt_bind ?_
  show PySem.wpAt _ _ _ (stack >>= _) _ _ _
  refine PySem.wpAt_bind (PySem.wpAt_stack fun p below => PySem.wpAt_of_wpAny ?_)
  wp_walk
  refine PySem.wpAt_of_wpAny ?_
  rw [F.owner]
  repeat (first | with_reducible refine wpAny_madeHere_exc F.canon hC ?_ | with_reducible refine wpAny_loadPart_at hC ?_ | (with_reducible refine wpAny_isSubtype_exc hC ?_; first | rw [hcB] | rw [hcA] | rw [hcN]) | wp_step)
  show R _ _
  rw [Heap.size_push]
  exact hq
theorem type_callK (F : ExcBaseFacts B newId initId bmB) (hT : ∀ X : String, bm.contains (.type X) = bmB.contains (.type X)) {rest : List Value} {fI : Addr} {Q : Fin → Shared → Prop}
    (hC : h.get? C = some (excClassObj nm q C N bs bm hdct sn sub ab col dd k0 k1 k2 k3 k5 newId))
    (hi : W.Looks (model prog w) h (typeLookup (.ref C) "__init__") (some (.ref fI))) (hb : ∀ self, W.Looks (model prog w) h (bindSpecial (.ref fI) self) (.ref fI, [self])) (hrest : rest.length ≤ sizeLine)
    (hq : codeAny (model prog w) A (.call (.ref fI) ⟨.ref (h.objs.size + 1) :: rest, kw⟩)
      (fun r s' => match r with | .ok (.ret v) => v = .none ∧ Q (.done (.ret (.ref (h.objs.size + 1)))) s' | .ok _ => False | .error e => E e s')
      ⟨(h.push (W.kdv_tup rest)).push (excO C h.objs.size), g, d, t, os⟩) :
    wpAny (model prog w) A (Builtin.«type.__call__» ⟨.ref C :: rest, kw⟩) Q E ⟨h, g, d, t, os⟩ := by
  repeat (first | with_reducible refine wpAny_loadPart_at hC ?_ | with_reducible refine wpAny_madeBy_exc hC ?_ | wp_step)
  refine codeAny_call_builtin_code (Code.quiet_builtin _ F.quiet) (check_newK F hT hC ?_)
  refine newK F hT hC ?_ hrest
  show wpAny _ _ _ _ _ _
  have k : ∀ b o, h.get? b = some o → ((h.push (W.kdv_tup rest)).push (excO C h.objs.size)).get? b = some o := fun b o e => Heap.get?_push_of_some _ (Heap.get?_push_of_some _ e)
  have hC₁ := k _ _ hC
  have hget : ((h.push (W.kdv_tup rest)).push (excO C h.objs.size)).get? (h.objs.size + 1) = some (excO C h.objs.size) := by heap_get
  have hcC : (Value.ref C :: bm).contains (.ref C) = true := by simp
  have i1 := hi.keeps k
  have b1 := (hb (.ref (h.objs.size + 1))).keeps k
  unfold isInstance
  repeat (first | with_reducible refine wpAny_loadPart_at hget ?_ | (with_reducible refine wpAny_isSubtype_exc hC₁ ?_; rw [hcC]) | wp_step)
  show wpAny _ _ (typeLookup (.ref C) _) _ _ _
  refine i1.at ?_
  refine wpAny_holding (wpAny_bind (b1.at ?_))
  refine wpAny_bind (wpAny_call (codeAny_mono hq fun r s' z => ?_))
  rcases r with e | (v | _ | _ | _) <;> first | exact z | exact z.elim | skip
  obtain ⟨rfl, z⟩ := z
  first
    | exact wpAny_pure (wpAny_pure z)
    | (wp_walk; exact z)
theorem check_tcK {M : Model} {rest : List Value} {Q : Unit → Shared → Prop} (hC : h.get? C = some (excClassObj nm q C N bs bm hdct sn sub ab col dd k0 k1 k2 k3 k5 newId))
    (hq : Q () ⟨h, g, d, t, os⟩) : wpAny M A (checkBuiltinCall "type.__call__" ⟨.ref C :: rest, kw⟩) Q E ⟨h, g, d, t, os⟩ := by
  have f3 := tc_sub
  have hT : (⟨h, g, d, t, os⟩ : Shared).TypeIs (.ref C) "type" := ⟨_, hC, rfl⟩
  simp only [checkBuiltinCall, tc_kind, tc_split]
  repeat (any_goals (first | assumption | with_reducible refine wpAny_loadPart_at hC ?_ | with_reducible refine wpAny_onRaise ?_ | with_reducible refine wpAny_map ?_ | wp_step))
theorem call_ownK (F : ExcBaseFacts B newId initId bmB) (hT : ∀ X : String, bm.contains (.type X) = bmB.contains (.type X)) {rest : List Value} {fI : Addr}
    (hC : h.get? C = some (excClassObj nm q C N bs bm hdct sn sub ab col dd k0 k1 k2 k3 k5 newId))
    (hi : W.Looks (model prog w) h (typeLookup (.ref C) "__init__") (some (.ref fI))) (hb : ∀ self, W.Looks (model prog w) h (bindSpecial (.ref fI) self) (.ref fI, [self])) (hrest : rest.length ≤ sizeLine)
    (hq : codeAny (model prog w) (A.under (.builtin "type.__call__" ⟨.ref C :: rest, kw⟩)) (.call (.ref fI) ⟨.ref (h.objs.size + 1) :: rest, kw⟩) (W.InitBack (h.objs.size + 1) R)
      ⟨(h.push (W.kdv_tup rest)).push (excO C h.objs.size), g, d, t, os⟩) :
    codeAny (model prog w) A (.call (.ref C) ⟨rest, kw⟩) R ⟨h, g, d, t, os⟩ := by
  have f1 := tc_lookup
  have f2 := tc_bind (.ref C)
  have hTy : (⟨h, g, d, t, os⟩ : Shared).TypeIs (.ref C) "type" := ⟨_, hC, rfl⟩
  refine codeAny_of_tree ?_
  show wpAny _ _ (callAny (.ref C) _) _ _ _
  repeat (any_goals (first | assumption | with_reducible refine wpAny_loadPart_at hC ?_ | wp_step))
  refine ⟨rfl, ?_⟩
  refine codeAny_call_builtin_at (Code.quiet_builtin _ (by decide +kernel)) entry_typeCall (check_tcK hC (type_callK F hT hC hi hb hrest ?_))
  refine codeAny_mono hq fun r s' z => ?_
  rcases r with e | (v | _ | _ | _) <;> exact z
end
/-- an own exception class whose __init__ keeps its arguments, called with arguments by place and by name -/
structure ExN (P : Program) (w : World) (K : PySem.W.Frag) (mg : Str → Option Value) (base : Heap) (x : Str) (C : Addr) (ns : List Str) (n : Nat) (ks : List Str) (sel : Sel) : Prop where
  gC : mg x = some (.ref C)
  T : OexC K C
  ex : ∃ fI fd ps, PySem.W.findIn K (.ref C) "__init__" = some (some (.ref fI)) ∧ PySem.W.typeIn K (.ref fI) = some (.type "function") ∧ CallB K fd ps (n + 1) ks (.inl 0 :: sel) ∧ FnOk P w K mg base CX0 1 fI fd ps (spXI C ns)
section
open PySem.W PySem.Calls PySem.HandSPX
variable {X : Cx} {B : Bx} {δ : Env'} {M : Mem} {Φ : D → Mem → Prop} {e : Expr} {es : List Expr} {kws : List Keyword} {pos pp : Pos} {m : Nat}
theorem de_exnN {C : Addr} {x : Str} {n : Nat} {ns ks : List Str} {sel : Sel} (z : Cz X m) (hn : 2 ≤ m) (T : ExN X.prog X.w X.K X.mg X.base x C ns n ks sel) (hg : Gl X x)
    (h : DAK B X es kws δ M fun ds zs M' => ds.length = n ∧ n ≤ 1000 ∧ zs.length = ks.length ∧ sel.length = ns.length ∧ ∀ x, Φ (.exn C ns.reverse (selD sel (x :: (ds ++ zs))).reverse) M') (pl : PlA X pos es kws ks)
    (hdb : (x == ("__debug__" : Str)) = false := by decide) : DE B X (.Call (.Name x pp) es kws pos) δ M Φ := by
  obtain ⟨fI, fd, ps, iC, tI, cb, F1⟩ := T.ex
  obtain ⟨nm, q, N, bs, bm, sn, sub, ab, col, dd, k0, k1, k2, k3, k5, hC, hbm⟩ := T.T.cls
  intro κ σ H Q hb R kk
  unfold tE
  intro pins s I
  refine wpAny_Call_Name_kw (ld_glob I hg T.gC ?_ hdb)
  refine dak_run (first := []) T.T.kC pl h I hb R fun us ws s2 vs zs ds zd M2 H2 I2 rv rz ⟨l1, l0, l2, l3, q⟩ R2 r1 r2 => ?_
  show wpAny _ _ (call (.ref C) us (ks.zip ws)) _ _ _
  obtain ⟨hp, g, dr, tk, os⟩ := s2
  have hsz : hp.objs.size ≤ hp.objs.size + 1 := Nat.le_succ _
  have na : H2 (hp.objs.size + 1) = none := I2.hok.fresh hsz
  have k2 : ∀ b o, hp.get? b = some o → ((hp.push (PySem.W.kdv_tup us)).push (PySem.HandSPX.excO C hp.objs.size)).get? b = some o := fun b o e => Heap.get?_push_of_some _ (Heap.get?_push_of_some _ e)
  have hget : ((hp.push (PySem.W.kdv_tup us)).push (PySem.HandSPX.excO C hp.objs.size)).get? (hp.objs.size + 1) = some (PySem.HandSPX.excO C hp.objs.size) := by heap_get
  have I3 : Inv X pins σ (upd H2 (hp.objs.size + 1) (exo (hp.objs.size + 1) C none)) ⟨(hp.push (PySem.W.kdv_tup us)).push (PySem.HandSPX.excO C hp.objs.size), g, dr, tk, os⟩ :=
    I2.laid (t' := tk) (a := hp.objs.size + 1) (o := exo (hp.objs.size + 1) C none) (h' := (hp.push (PySem.W.kdv_tup us)).push (PySem.HandSPX.excO C hp.objs.size)) k2 hsz (exo_ok hget)
  obtain ⟨a, ea0⟩ : ∃ a, a = hp.objs.size + 1 := ⟨_, rfl⟩
  rw [← ea0] at hsz na hget I3
  obtain ⟨all, so, b⟩ := cb.to ⟨_, g, dr, tk, os⟩ (.ref a :: us) ws I3.kIn (by rw [List.length_cons, ← rv.length, r1.length, l1]) (by rw [← rz.length, r2.length, l2])
  have rr : Vals (V.ref a :: (vs ++ zs)) (Value.ref a :: (us ++ ws)) := .cons rfl (rv.append rz)
  have r3 := so.vals rr
  obtain ⟨u0, all', rfl, so'⟩ : ∃ u0 all', all = u0 :: all' ∧ SelOk (.ref a :: (us ++ ws)) sel all' := by cases so; exact ⟨_, _, rfl, by assumption⟩
  have hR3 : Rs κ δ M2 σ (upd H2 a (exo a C none)) := R2.new na
  let QX : XK := fun cls d H' => ∃ C' ns' ds' M', cls = .ref C' ∧ Rs κ δ M' σ H' ∧ XRep M'.F H' d ns' ds' ∧ Φ (.exn C' ns' ds') M'
  have hl3 : (selV sel (V.ref a :: (vs ++ zs))).length = ns.length := by rw [← l3]; exact List.length_map ..
  have rp : Reps M2.F H2 (selV sel (V.ref a :: (vs ++ zs))) (selD sel (.raw (.ref a) :: (ds ++ zd))) :=
    SelOk.reps (us := .ref a :: (us ++ ws)) rr.length (.cons (.raw _) (r1.append r2)) so'
  have hq : spXI C ns (selV (.inl 0 :: sel) (V.ref a :: (vs ++ zs))) (upd H2 a (exo a C none)) (fun v H' => v = .non ∧ ∃ (d : Addr) (fs : List (Str × V)), H' a = some (exo a C (some d)) ∧ H' d = some (exd d fs) ∧ H2 d = none ∧ QX (.ref C) (some d) (upd (del H' a) d (.xd fs))) (fun _ _ _ => False) := by
    refine ⟨a, selV sel (V.ref a :: (vs ++ zs)), rfl, hl3, upd_same, fun dx H' n1 n2 e1 e2 e3 => ?_⟩
    have ndx : H2 dx = none := by rw [upd_ne n2] at n1; exact n1
    refine ⟨rfl, dx, _, e1, e2, ndx, ?_⟩
    have eq : upd (del H' a) dx (.xd (ns.reverse.zip (selV sel (V.ref a :: (vs ++ zs))).reverse)) = upd H2 dx (.xd (ns.reverse.zip (selV sel (V.ref a :: (vs ++ zs))).reverse)) := by
      funext b
      by_cases hb : b = dx
      · subst hb; rw [upd_same, upd_same]
      · rw [upd_ne hb, upd_ne hb]
        by_cases ha : b = a
        · subst ha; rw [del_same, na]
        · rw [del_ne ha, e3 b ha hb, upd_ne ha]
    rw [eq]
    exact ⟨C, ns.reverse, _, M2, rfl, R2.new ndx, .inr ⟨dx, _, rfl, R2.fresh ndx, upd_same, by rw [List.length_reverse, List.length_reverse, hl3], (Reps.reverse rp).fwd (Fwd.new ndx)⟩, q _⟩
  have hus : us.length ≤ sizeLine := by
    rw [← rv.length, r1.length, l1, sizeLine_eq]
    omega
  subst ea0
  refine wpAny_call (call_ownK F.excBase_ValueError (fun Y => PySem.HandSPX.refsVE_contains Y bm hbm) (I2.kIn _ _ hC) (PySem.W.looks_findIn I2.kIn iC) (fun self => PySem.W.bind_fn I2.kIn self tI) hus
    (codeAny_mono (F1.run _ X.stack _ _ ⟨Value.ref (hp.objs.size + 1) :: us, ks.zip ws⟩ _ _ _ (fun _ _ _ => False) ((z.room.mono hn).make C us (ks.zip ws)) (I3.env0.make C us (ks.zip ws)) b r3 hq) fun r s' hq' => ?_))
  cases r with
  | error er => exact hq'.elim
  | ok fl =>
    cases fl with
    | ret u =>
      obtain ⟨v, H3, os2, bare2, un2, hok2, rv', ev, d, fs, ea, ed, hd1, q2⟩ := hq'
      subst ev
      obtain ⟨h2, g2, d2, t2, os'⟩ := s'
      refine ⟨rv', ep_mk (mk_end (raises_own T.T.exC T.T.tyC) I2 (Nat.le_succ _) k2 un2 hok2 os2 bare2 ea ed hd1 q2) fun cls d' H' a' ⟨C', ns', ds', M', e1, R1', x1, q'⟩ na' => ?_⟩
      subst e1
      exact kk _ _ M' _ q' (R1'.new na') (x1.held (R1'.fresh na') na')
    | next => exact False.elim hq'
    | brk => exact False.elim hq'
    | cont => exact False.elim hq'
/-- an exception laid, by the call's shape -/
@[irreducible] def XnP (C : Addr) (ns : List Str) (sel : Sel) (n m : Nat) (Φ : D → Mem → Prop) (ds zs : List D) (M : Mem) : Prop := ds.length = n ∧ zs.length = m ∧ ∀ x, Φ (.exn C ns.reverse (selD sel (x :: (ds ++ zs))).reverse) M
theorem XnP.out {C : Addr} {ns : List Str} {sel : Sel} {n k : Nat} {ds zs : List D} (h : XnP C ns sel n k Φ ds zs M) : ds.length = n ∧ zs.length = k ∧ ∀ x, Φ (.exn C ns.reverse (selD sel (x :: (ds ++ zs))).reverse) M := by unfold XnP at h; exact h
theorem XnP.of {C : Addr} {ns : List Str} {sel : Sel} {n k : Nat} {ds zs : List D} (h : ds.length = n ∧ zs.length = k ∧ ∀ x, Φ (.exn C ns.reverse (selD sel (x :: (ds ++ zs))).reverse) M) : XnP C ns sel n k Φ ds zs M := by unfold XnP; exact h
theorem de_exnS {C : Addr} {x : Str} {ns : List Str} {sel : Sel} (z : Cz X m) (T : ExN X.prog X.w X.K X.mg X.base x C ns es.length (kwN kws) sel) (hn : 2 ≤ m) (h0 : es.length ≤ 1000) (h1 : sel.length = ns.length) (hg : Gl X x)
    (h : DAK B X es kws δ M fun ds zs M' => XnP C ns sel es.length (kwN kws).length Φ ds zs M') (pl : PlA X pos es kws (kwN kws))
    (hdb : (x == ("__debug__" : Str)) = false := by decide) : DE B X (.Call (.Name x pp) es kws pos) δ M Φ := by
  refine de_exnN z hn T hg ?_ pl hdb
  cases es <;> cases kws
  · have h := XnP.out h
    exact ⟨h.1, by simp, h.2.1, h1, h.2.2⟩
  · exact fun κ σ H Q hb R k => h κ σ H Q hb R fun vs ds M' H' q => k vs ds M' H' ⟨(XnP.out q).1, h0, (XnP.out q).2.1, h1, (XnP.out q).2.2⟩
  · exact fun κ σ H Q hb R k => h κ σ H Q hb R fun vs ds M' H' q => k vs ds M' H' ⟨(XnP.out q).1, h0, (XnP.out q).2.1, h1, (XnP.out q).2.2⟩
  · exact fun κ σ H Q hb R k => h κ σ H Q hb R fun vs ds M' H' q => k vs ds M' H' fun κ2 σ2 H2 Q2 hb2 R2 k2 => q κ2 σ2 H2 Q2 hb2 R2 fun vs2 ds2 M2 H2' q2 => k2 vs2 ds2 M2 H2' ⟨(XnP.out q2).1, h0, (XnP.out q2).2.1, h1, (XnP.out q2).2.2⟩
theorem xn_10 {C : Addr} {f : Str} {d : D} (h : Φ (.exn C [f] [d]) M) : XnP C [f] [.inl 1] 1 0 Φ [d] [] M := .of ⟨rfl, rfl, fun _ => h⟩
theorem xn_01 {C : Addr} {f : Str} {d : D} (h : Φ (.exn C [f] [d]) M) : XnP C [f] [.inl 1] 0 1 Φ [] [d] M := .of ⟨rfl, rfl, fun _ => h⟩
theorem xn_02 {C : Addr} {f g : Str} {d e : D} (h : Φ (.exn C [g, f] [d, e]) M) : XnP C [f, g] [.inl 2, .inl 1] 0 2 Φ [] [d, e] M := .of ⟨rfl, rfl, fun _ => h⟩
theorem xn_04 {C : Addr} {f g i j : Str} {d e a b : D} (h : Φ (.exn C [j, i, g, f] [e, d, b, a]) M) : XnP C [f, g, i, j] [.inl 3, .inl 4, .inl 1, .inl 2] 0 4 Φ [] [d, e, a, b] M := .of ⟨rfl, rfl, fun _ => h⟩
theorem idXn {C : Addr} {ns : List Str} {sel : Sel} {n k : Nat} {ds zs : List D} (h : XnP C ns sel n k Φ ds zs M) : XnP C ns sel n k Φ ds zs M := h
end
end Hl
namespace Hl
open PySem L2
open PyProof.Rows hiding St
/-! ### a, b, c = x, y, z where a name is a cell: no names are swapped -/
end Hl
namespace Hl
open PySem L2
open PyProof.Rows hiding St
/-! ### f-strings -/
section
variable {B : Bx} {X : Cx} {e a b c o : Expr} {es rest : List Expr} {δ δ' : Env'} {M : Mem} {Φ : D → Mem → Prop} {Ψ : DEnds} {pos pos' : Pos} {d x y : D}
def FmD (x : D) (M : Mem) (Φ : D → Mem → Prop) : Prop := (∃ y : Str, x = .str y ∧ y.length ≤ sizeLine ∧ Φ (.str y) M) ∨ ∃ i : Int, x = .int i ∧ i.natAbs.log2 < 1920 ∧ Φ (.str (toString i)) M
theorem fm_s {z : Str} (h : z.length ≤ sizeLine) (k : Φ (.str z) M) : FmD (.str z) M Φ := .inl ⟨z, rfl, h, k⟩
theorem fm_i {i : Int} (h : i.natAbs.log2 < 1920) (k : Φ (.str (toString i)) M) : FmD (.int i) M Φ := .inr ⟨i, rfl, h, k⟩
theorem de_fmt (h : DE B X e δ M fun x M' => FmD x M' Φ) : DE B X (.FormattedValue e (-1) none pos) δ M Φ := DE.of (pe_fmt cE) fun κ σ H Q hb R k => h κ σ H _ hb R fun v x M1 H1 q R1 r1 => by
  rcases q with ⟨z, rfl, hz, q⟩ | ⟨i, rfl, hz, q⟩
  · cases r1
    exact .inl ⟨z, rfl, hz, k _ _ M1 _ q R1 (.str _)⟩
  · cases r1
    exact .inr ⟨i, rfl, hz, k _ _ M1 _ q R1 (.str _)⟩
@[irreducible] def JnD (x : D) (acc : Str) (Φ : Str → Prop) : Prop := ∃ z : Str, x = .str z ∧ (acc ++ z).length ≤ sizeLine ∧ Φ (acc ++ z)
theorem jn_mk {z acc : Str} {Φ : Str → Prop} (h : (acc ++ z).length ≤ sizeLine) (k : Φ (acc ++ z)) : JnD (.str z) acc Φ := by unfold JnD; exact ⟨z, rfl, h, k⟩
theorem JnD.out {acc : Str} {Φ : Str → Prop} (h : JnD x acc Φ) : ∃ z : Str, x = .str z ∧ (acc ++ z).length ≤ sizeLine ∧ Φ (acc ++ z) := by unfold JnD at h; exact h
def DJr (B : Bx) (X : Cx) (δ : Env') (Φ : Str → Mem → Prop) : List Expr → Str → Mem → Prop
  | [], acc, M => Φ acc M
  | e :: es, acc, M => DE B X e δ M fun x M' => JnD x acc fun out => DJr B X δ Φ es out M'
@[irreducible] def DJ (B : Bx) (X : Cx) (δ : Env') (Φ : Str → Mem → Prop) (es : List Expr) (acc : Str) (M : Mem) : Prop := DJr B X δ Φ es acc M
theorem DJ_eq : @DJ = @DJr := by
  funext B X δ Φ es acc M
  unfold DJ
  rfl
theorem dj_nil {Φ : Str → Mem → Prop} {acc : Str} (h : Φ acc M) : DJ B X δ Φ [] acc M := by rw [DJ_eq] at *; exact h
theorem dj_cons {Φ : Str → Mem → Prop} {acc : Str} (h : DE B X e δ M fun x M' => JnD x acc fun out => DJ B X δ Φ es out M') : DJ B X δ Φ (e :: es) acc M := by rw [DJ_eq] at *; exact h
theorem pj_c : ∀ es : List Expr, PJ X es (es.map fun e => tE X e)
  | [] => .nil
  | e :: es => .cons cE (pj_c es)
theorem dj_run {Φ : Str → Mem → Prop} {κ : List (V × D)} {σ : St} (hb : ∀ q ∈ B.ps, q ∈ κ) : ∀ (es : List Expr) (acc : Str) (M : Mem) (H : Hp) (Q : Str → Hp → Prop), DJ B X δ Φ es acc M → Rs κ δ M σ H → (∀ out M1 H1, Φ out M1 → Rs κ δ M1 σ H1 → Q out H1) → tJs (es.map fun e => tE X e) acc σ H Q
  | [], acc, M, H, Q, h, R, k => by rw [DJ_eq] at h; exact k _ _ _ h R
  | e :: es, acc, M, H, Q, h, R, k => by
    rw [DJ_eq] at h
    refine h κ σ H _ hb R fun v x M1 H1 jq R1 r1 => ?_
    obtain ⟨z, ex, hz, q⟩ := JnD.out jq
    subst ex
    cases r1
    exact ⟨z, rfl, hz, dj_run hb es _ M1 H1 Q (by rw [DJ_eq]; exact q) R1 k⟩
theorem de_joined {v1 v2 : Expr} (h : DJ B X δ (fun out M' => Φ (.str out) M') (v1 :: v2 :: rest) Str.empty M) : DE B X (.JoinedStr (v1 :: v2 :: rest) pos) δ M Φ := DE.of (pe_joined (pj_c _)) fun κ σ H Q hb R k => dj_run hb _ _ M H _ h R fun out M1 H1 q R1 => k _ _ M1 H1 q R1 (.str _)
theorem de_joined1 (h : DE B X e δ M Φ) : DE B X (.JoinedStr [e] pos) δ M Φ := DE.of (pe_joined1 cE) h
end
end Hl
namespace Hl
open PySem L2
open PyProof.Rows hiding St
/-! ### str(x), repr(x) by the own __str__, __repr__ -/
end Hl
namespace Hl
open PySem L2
open PyProof.Rows hiding St
/-! ### o[i] op= e, o a list -/
section
variable {B : Bx} {X : Cx} {e a b c o : Expr} {es rest : List Expr} {δ δ' : Env'} {M : Mem} {Φ : D → Mem → Prop} {Ψ : DEnds} {pos pos' tpos : Pos} {d x y : D}
theorem get_list : PGet X (rIxL X.K) := by
  intro pins s σ H x y v u Q I rx ry h
  obtain ⟨p, xs, i, z, rfl, rfl, hq, he, q⟩ := h
  cases rx
  obtain ⟨t, rfl⟩ := ry
  obtain ⟨its, r, pl, hz⟩ := I.list hq
  obtain ⟨j, h1, h2, h3, h4, h5⟩ := atI_get he
  obtain ⟨w, ew, rw'⟩ := r.get h2
  have hl := r.length
  have hn := line63
  have fin : EP X pins σ Q w s := ⟨z, H, I, rw', q⟩
  by_cases h0 : 0 ≤ i
  · have hj : i.toNat = j := by
      rw [seqIndex_of h0 h5] at h1
      exact Option.some.inj h1
    exact wpAny_getItem_list pl.isList h0 (by omega) (by rw [hj]; simpa using ew) fin
  · have hj : (i + (its.toArray.size : Int)).toNat = j := by
      rw [seqIndex_neg (by omega) h4] at h1
      rw [List.size_toArray, ← hl]
      exact Option.some.inj h1
    exact wpAny_getItem_list_neg pl.isList (by omega) (by rw [List.size_toArray] <;> omega) (by omega) (by rw [hj]; simpa using ew) fin
def IxAug (r : TIp) (B : Bx) (X : Cx) (e : Expr) (δ : Env') (x y : D) (M : Mem) (ΦM : Mem → Prop) : Prop := OpD (rIxL X.K) x y M fun d M3 => DE B X e δ M3 fun w M4 => OpD r d w M4 fun v M5 => SetD x y v M5 ΦM
theorem ds_augIx {op : Operator} {r : TIp} {n : Nat} (z : Cz X n) (ho : PIp X op r) (h : DE B X o δ M fun x M1 => DE B X b δ M1 fun y M2 => IxAug r B X e δ x y M2 fun M6 => Ψ.nx δ M6)
    (ha : ∀ ov iv new, augStore b ov iv new = (do holding [new, ov, iv] (setItem ov iv new); release [new, ov, iv] []; pure .next) := by intros; rfl) : DS B X (.AugAssign (.Subscript o b tpos) op e pos) δ M Ψ :=
  .of (ps_augS cE cE get_list cE ho (set_U z) ha) fun κ σ H E hb R kk =>
    h κ σ H _ hb R fun vo x M1 H1 q1 R1 r1 => q1 ((vo, x) :: κ) σ H1 _ (fun q hq => List.mem_cons_of_mem _ (hb q hq)) (R1.push r1) fun vi y M2 H2 q2 R2 r2 =>
      q2 ((vi, y) :: (vo, x) :: κ) δ σ H2 vo vi _ (R2.push r2) R2.top r2 fun vd d M3 H3 q3 R3 r3 =>
        q3 ((vd, d) :: (vi, y) :: (vo, x) :: κ) σ H3 _ (fun q hq => List.mem_cons_of_mem _ (List.mem_cons_of_mem _ (List.mem_cons_of_mem _ (hb q hq)))) (R3.push r3) fun vw w M4 H4 q4 R4 r4 =>
          q4 ((vi, y) :: (vo, x) :: κ) δ σ H4 vd vw _ R4.pop R4.top r4 fun vz z M5 H5 q5 R5 r5 =>
            q5 κ δ σ H5 vo vi vz _ R5.pop.pop R5.pop.top R5.top r5 fun M6 H6 q6 R6 => kk.nx _ _ _ _ q6 R6
theorem ds_augIxA {n : Nat} (z : Cz X n) (h : DE B X o δ M fun x M1 => DE B X b δ M1 fun y M2 => IxAug rAddI B X e δ x y M2 fun M6 => Ψ.nx δ M6)
    (ha : ∀ ov iv new, augStore b ov iv new = (do holding [new, ov, iv] (setItem ov iv new); release [new, ov, iv] []; pure .next) := by intros; rfl) : DS B X (.AugAssign (.Subscript o b tpos) .Add e pos) δ M Ψ := ds_augIx z ip_add h ha
theorem od_ixLC {K : PySem.W.Frag} {p : Addr} {ds : List D} {i : Int} (j : Nat) (hm : M[j]? = some (p, .lst ds)) (h : atI ds i = some d) (k : Φ d M) : OpD (rIxL K) (.raw (.ref p)) (.int i) M Φ := fun κ δ σ H v w Q R rv rw' f => by
  cases rw'
  cases rv
  obtain ⟨vs, e1, rr⟩ := R.at hm
  obtain ⟨v0, h1, h2⟩ := at_rep rr h
  exact ⟨p, vs, i, v0, rfl, rfl, SqL.of e1, h1, f _ _ _ _ k R h2⟩
theorem ix_aug {r : TIp} {p : Addr} {ds : List D} {i : Int} (j : Nat) (hm : M[j]? = some (p, .lst ds)) (h : atI ds i = some d) {ΦM : Mem → Prop} (k : DE B X e δ M fun w M4 => OpD r d w M4 fun v M5 => SetD (.raw (.ref p)) (.int i) v M5 ΦM) : IxAug r B X e δ (.raw (.ref p)) (.int i) M ΦM := od_ixLC j hm h k
end
end Hl
namespace Hl
open PySem L2
open PyProof.Rows hiding St
/-! ### f"{x}" by the own __str__; a, b, c = a list; lists in a thing's fields as values -/
end Hl
namespace Hl
open PySem L2
open PyProof.Rows hiding St
/-! ### a def of the top as a value: called by a local name -/
/-- the def at fa, as a value -/
structure FunV (P : Program) (w : World) (K : PySem.W.Frag) (mg : Str → Option Value) (base : Heap) (k : Nat) (fa : Addr) (n : Nat) (ks : List Str) (sel : Sel) (p : DSpE) : Prop where
  kp : PySem.W.keepIn K (.ref fa) = true
  fn : FnD P w K mg base k fa n ks sel p
abbrev FunVX (X : Cx) := FunV X.prog X.w X.K X.mg X.base
section
variable {B : Bx} {X : Cx} {es : List Expr} {kws : List Keyword} {δ : Env'} {M : Mem} {Φ : D → Mem → Prop} {pos pp : Pos} {k n m i : Nat} {x : Str} {ks : List Str} {sel : Sel} {p : DSpE} {Ξ : XPost} {fa : Addr}
theorem de_callL (z : Cz X m) (l : Nm X i x) (hd : δ[i]? = some (some (.raw (.ref fa)))) (f : FunVX X k fa n ks sel p) (hk : k ≤ m) (lt : Lets X B δ Ξ)
    (h : DAK B X es kws δ M fun ds zs M' => ds.length = n ∧ zs.length = ks.length ∧ p (selD sel (ds ++ zs)) M' Φ Ξ) (pl : PlA X pos es kws ks) : DE B X (.Call (.Name x pp) es kws pos) δ M Φ := by
  obtain ⟨h2, h3⟩ := f
  obtain ⟨W, tk, hx⟩ := lt
  intro κ σ H Q hb R kk
  unfold tE
  intro pins s I
  obtain ⟨v, ev, rv⟩ := R.get hd
  cases rv
  refine wpAny_Call_Name_kw (thn ((pe_var (pos := pp) l.at_ l.vis l.dbg l.cdc).run pins s σ H (fun v H1 => v = .ref fa ∧ H1 = H) I ⟨.ref fa, ev, rfl, rfl⟩) fun u s1 hv => ?_)
  obtain ⟨v, H1, I1, r1, e1, e2⟩ := hv
  subst e1
  rw [e2] at I1
  cases r1
  refine dak_run (first := []) h2 pl h I1 hb R fun us ws s2 vs zs ds es M2 H2 I2 rv rz q2 R2 r1 r2 => ?_
  obtain ⟨l1, l2, q⟩ := q2
  refine run_E h3 (z.room.mono hk) (passAt tk σ) I2 rv rz (by rw [r1.length]; exact l1) (by rw [r2.length]; exact l2) fun us' all rr so => ?_
  exact liftE_of so rr.length R2 (r1.append r2) q kk fun C ns es M' H' dx e R' x => hx κ σ C ns es M' H' dx hb e R' x
end
end Hl
namespace Hl
open PySem L2
open PyProof.Rows hiding St
/-! ### int(text), text.split(sep) -/
end Hl
namespace Hl
open PySem L2
open PyProof.Rows hiding St
/-! ### xs[a::2] -/
def ixs2 (a n : Nat) : List Nat := sliceRange ((min a n : Nat) : Int) (n : Int) 2
def step2 {α : Type} (a : Nat) (xs : List α) : List α := (ixs2 a xs.length).filterMap (xs[·]?)
theorem bounds2 (a n : Nat) : sliceBounds (some (a : Int)) none (some 2) n = (((min a n : Nat) : Int), (n : Int), 2) := by
  have h : ¬ ((a : Int) < 0) := by omega
  show ((max 0 (min (if (a : Int) < 0 then (a : Int) + n else (a : Int)) (n : Int)) : Int), (n : Int), (2 : Int)) = _
  rw [if_neg h]
  congr 1
  omega
theorem vals_pick {xs : List V} {its : List Value} (r : Vals xs its) : ∀ ix : List Nat, Vals (ix.filterMap (xs[·]?)) (ix.filterMap (its[·]?))
  | [] => .nil
  | i :: ix => by
    have hl := r.length
    by_cases h : i < xs.length
    · obtain ⟨u, hu, ru⟩ := r.get (List.getElem?_eq_getElem h)
      rw [List.filterMap_cons_some (List.getElem?_eq_getElem h), List.filterMap_cons_some hu]
      exact .cons ru (vals_pick r ix)
    · rw [List.filterMap_cons_none (List.getElem?_eq_none (by omega)), List.filterMap_cons_none (List.getElem?_eq_none (by omega))]
      exact vals_pick r ix
theorem reps_pick {F : List Addr} {H : Hp} : ∀ {vs : List V} {ds : List D}, Reps F H vs ds → ∀ i : Nat, (vs[i]? = none ∧ ds[i]? = none) ∨ ∃ v d, vs[i]? = some v ∧ ds[i]? = some d ∧ Rep F H v d
  | _, _, .nil, i => .inl ⟨by simp, by simp⟩
  | _, _, .cons r rs, 0 => .inr ⟨_, _, rfl, rfl, r⟩
  | _, _, .cons r rs, i + 1 => by
    simpa using reps_pick rs i
theorem reps_picks {F : List Addr} {H : Hp} {vs : List V} {ds : List D} (r : Reps F H vs ds) : ∀ ix : List Nat, Reps F H (ix.filterMap (vs[·]?)) (ix.filterMap (ds[·]?))
  | [] => .nil
  | i :: ix => by
    rcases reps_pick r i with ⟨h1, h2⟩ | ⟨v, d, h1, h2, h3⟩
    · rw [List.filterMap_cons_none h1, List.filterMap_cons_none h2]
      exact reps_picks r ix
    · rw [List.filterMap_cons_some h1, List.filterMap_cons_some h2]
      exact .cons h3 (reps_picks r ix)
def tStep2 (K : PySem.W.Frag) (a : Nat) (te : TE) : TE := fun σ H Q => te σ H fun x H1 => ∃ p xs, x = .ref p ∧ SqL K H1 p xs ∧ ∀ l, H1 l = none → Q (.ref l) (upd H1 l (.lst (step2 a xs)))
section
variable {B : Bx} {X : Cx} {e o : Expr} {δ : Env'} {M : Mem} {Φ : D → Mem → Prop} {ΦL : List D → Mem → Prop} {pos : Pos}
theorem pick_len {α : Type} (xs : List α) : ∀ ix : List Nat, (ix.filterMap (xs[·]?)).length ≤ ix.length := fun ix => List.length_filterMap_le _ _
theorem ixs2_len (a n : Nat) : (ixs2 a n).length ≤ n := by
  unfold ixs2 sliceRange
  rw [List.length_map, List.length_range]
  have : (2 : Int) > 0 := by decide
  simp only [this, if_true]
  split
  · omega
  · omega
theorem pe_step2 {te : TE} {a k0 k : Nat} {p0 p1 p3 : Pos} (he : PE X e te) : PE X (.Subscript e (.Slice (some (.Constant (.int (a : Int)) k0 p0)) none (some (.Constant (.int 2) k p1)) p3) pos) (tStep2 X.K a te) := by
  refine ⟨fun pins s σ H Q I h => ?_⟩
  refine Subscript_ (thn (he.run pins s σ H _ I h) fun v s1 ⟨x, H1, I1, r1, q1⟩ => ?_)
  obtain ⟨b, xs, ex, hx, q⟩ := q1
  subst ex
  cases r1
  have hlo : PO X (some (.Constant (.int (a : Int)) k0 p0)) (tPart (tC (.int (a : Int)))) := po_some pe_int
  have hst : PO X (some (.Constant (.int 2) k p1)) (tPart (tC (.int 2))) := po_some pe_int
  refine wpAny_Slice (thn (hlo.run pins s1 σ H1 (fun o H2 => o = some (a : Int) ∧ H2 = H1) I1 ⟨(a : Int), rfl, rfl, rfl⟩) fun vl s2 ⟨l, H2, I2, pl, el, e2⟩ => ?_)
  subst el e2
  refine thn (po_none.run pins s2 σ H2 (fun o H3 => o = none ∧ H3 = H2) I2 ⟨rfl, rfl⟩) fun vu s3 ⟨u, H3, I3, pu, eu, e3⟩ => ?_
  subst eu e3
  refine thn (hst.run pins s3 σ H3 (fun o H4 => o = some 2 ∧ H4 = H3) I3 ⟨2, rfl, rfl, rfl⟩) fun vs s4 ⟨o, H4, I4, ps, eo, e4⟩ => ?_
  subst eo e4
  have I5 : Inv X pins σ H4 { s4 with heap := s4.heap.push { cls := .type "slice", data := .fields #[vl, vu, vs] } } := I4.kept (t' := s4.toks) fun b ob q => Heap.get?_push_of_some _ q
  obtain ⟨its, r, ht, hz⟩ := I5.list hx
  have hlen := r.length
  show wpAny (model X.prog X.w) X.A (subscriptTail e (.Slice (some (.Constant (.int (a : Int)) k0 p0)) none (some (.Constant (.int 2) k p1)) p3) (.ref b) (.ref s4.heap.objs.size)) (EP X pins σ Q) X.xe { s4 with heap := s4.heap.push { cls := .type "slice", data := .fields #[vl, vu, vs] } }
  refine tail_any (ops := [.ref b, .ref s4.heap.objs.size]) ht.isList.typeIs (PySem.slot_list_getitem.lookup) ?_ (by with_unfolding_all rfl)
  refine wpAny_getItem_list_slice ht.isList (Heap.IsSliceOf.new _ vl vu vs) pl pu ps (by decide) ?_ (by rw [List.size_toArray]; omega)
  have ep : slicePick its.toArray (some (a : Int)) none (some 2) = ((ixs2 a its.length).filterMap (its[·]?)).toArray := by
    unfold slicePick
    rw [bounds2, List.size_toArray]
    show ((ixs2 a its.length).filterMap fun i => its.toArray[i]?).toArray = _
    simp
  rw [ep]
  have rv := vals_pick r (ixs2 a its.length)
  rw [← hlen] at rv ⊢
  refine ⟨.ref _, _, I5.laid (t' := s4.toks) (o := .lst (step2 a xs)) (fun b ob q => Heap.get?_push_of_some _ q) (Nat.le_refl _) ?_, rfl, q _ (I5.hok.fresh (Nat.le_refl _))⟩
  exact ⟨Nat.le_trans (Nat.le_trans (pick_len xs _) (ixs2_len _ _)) hz, _, 0, rv, Heap.get?_push_size _ rfl⟩
theorem df_step2 {a k0 k : Nat} {p0 p1 p3 : Pos} (h : DE B X e δ M fun x M1 => ∃ ds, IsL M1 x ds ∧ ΦL (step2 a ds) M1) : DF B X (.Subscript e (.Slice (some (.Constant (.int (a : Int)) k0 p0)) none (some (.Constant (.int 2) k p1)) p3) pos) δ M ΦL :=
  .of (pe_step2 cE) fun κ σ H Q hb R kk => h κ σ H _ hb R fun v x M1 H1 ⟨ds, il, q⟩ R1 r1 => by
    obtain ⟨p, us, rfl, e1, rr⟩ := il.sq R1 r1
    refine ⟨p, us, rfl, SqL.of e1, fun l hl => kk l _ M1 _ q (R1.lst ?_ hl)⟩
    have := reps_picks rr (ixs2 a us.length)
    unfold step2
    rw [← rr.length]
    exact this
end
end Hl
namespace Hl
open PySem L2
open PyProof.Rows hiding St
/-! ### sorted(range(n), key=lambda x: xs[x][0]) -/
end Hl
namespace Hl
open PySem L2
open PyProof.Rows hiding St
/-! ### functions are made -/
section
variable {κ : List (V × D)} {δ : Env'} {M : Mem} {σ : L2.St} {H H1 : Hp}
theorem sok_kind {F : List Addr} {a : Addr} {c : SC} (h : SOk F H a c) : ∃ o, H a = some o ∧ (∀ φ, o ≠ .ext φ) ∧ Nt o := by
  cases c with
  | lst ds => obtain ⟨vs, e, _⟩ := h; exact ⟨_, e, (fun _ z => nomatch z), fun _ z => nomatch z⟩
  | obj C ns ds => obtain ⟨dx, vs, e, _⟩ := h; exact ⟨_, e, (fun _ z => nomatch z), fun _ z => nomatch z⟩
  | dct kvs => obtain ⟨ws, e, _⟩ := h; exact ⟨_, e, (fun _ z => nomatch z), fun _ z => nomatch z⟩
  | fdc o ws kvs => exact ⟨_, h.1, (fun _ z => nomatch z), fun _ z => nomatch z⟩
theorem cok_kind {F : List Addr} {a x : Addr} {c : Cell} (h : CellOk F H a c) (hx : x ∈ own a c) : ∃ o, H x = some o ∧ (∀ φ, o ≠ .ext φ) ∧ ((∀ q : Str, c ≠ Cell.tab q) → Nt o) := by
  have one : ∀ c : SC, SOk F H a c → x = a → ∃ o, H x = some o ∧ (∀ φ, o ≠ .ext φ) ∧ Nt o := fun c h e => by rw [e]; exact sok_kind h
  cases c with
  | lst ds => obtain ⟨o, h1, h2, h3⟩ := one (.lst ds) h (by simpa [own] using hx); exact ⟨o, h1, h2, fun _ => h3⟩
  | obj C ns ds => obtain ⟨o, h1, h2, h3⟩ := one (.obj C ns ds) h (by simpa [own] using hx); exact ⟨o, h1, h2, fun _ => h3⟩
  | dct kvs => obtain ⟨o, h1, h2, h3⟩ := one (.dct kvs) h (by simpa [own] using hx); exact ⟨o, h1, h2, fun _ => h3⟩
  | fdc o ws kvs => obtain ⟨o, h1, h2, h3⟩ := one (.fdc o ws kvs) h (by simpa [own] using hx); exact ⟨o, h1, h2, fun _ => h3⟩
  | lam W fr as =>
    obtain ⟨c, od, sl, doc, pm, ctv, e, _⟩ := h
    have : x = a := by simpa [own] using hx
    subst this
    exact ⟨_, e, (fun _ z => nomatch z), fun _ _ z => nomatch z⟩
  | fnc W fr as ds =>
    obtain ⟨c, od, sl, doc, pm, ctv, vs, e, _, _, _, _, hv, hc, _⟩ := h
    rcases List.mem_cons.mp hx with rfl | hx
    · exact ⟨_, e, (fun _ z => nomatch z), fun _ _ z => nomatch z⟩
    · obtain ⟨i, hi⟩ := List.mem_iff_getElem?.mp hx
      have hl : i < vs.length := by rw [hv]; exact (List.getElem?_eq_some_iff.mp hi).1
      obtain ⟨o, u, e2, _⟩ := hc (x, vs[i]) (List.mem_of_getElem? (i := i) (by rw [List.getElem?_zip_eq_some]; exact ⟨hi, by simp [hl]⟩))
      exact ⟨_, e2, (fun _ z => nomatch z), fun _ _ z => nomatch z⟩
  | tab q =>
    obtain ⟨ps, e, _⟩ := h
    have : x = a := by simpa [own] using hx
    subst this
    exact ⟨_, e, (fun _ z => nomatch z), fun z => absurd rfl (z q)⟩
  | grp c N =>
    rcases List.mem_cons.mp hx with rfl | hx
    · obtain ⟨o, h1, h2, h3⟩ := sok_kind h.1; exact ⟨o, h1, h2, fun _ => h3⟩
    · obtain ⟨p, hp, rfl⟩ := List.mem_map.mp hx
      obtain ⟨o, h1, h2, h3⟩ := sok_kind (h.2 p hp); exact ⟨o, h1, h2, fun _ => h3⟩
  | st g b =>
    obtain ⟨c, r, t, e, gs, cs, _, h1, h2, _⟩ := h
    simp [own] at hx
    rcases hx with rfl | rfl
    · exact ⟨_, h1, (fun _ z => nomatch z), fun _ _ z => nomatch z⟩
    · exact ⟨_, h2, (fun _ z => nomatch z), fun _ _ z => nomatch z⟩
theorem rs_noext (R : Rs κ δ M σ H) {x : Addr} {φ : Heap → Prop} (e : H x = some (.ext φ)) : x ∉ M.F := fun hx => by
  obtain ⟨q, hq, hx⟩ := List.mem_flatMap.mp hx
  obtain ⟨o, h1, h2, _⟩ := cok_kind (R.cl q hq) hx
  rw [e] at h1
  exact h2 φ (Option.some.inj h1).symm
/-- the tables of a memory -/
def tabs (M : Mem) : List (Addr × Str) := M.filterMap fun p => match p.2 with | .tab q => some (p.1, q) | _ => none
theorem tabs_mem {a : Addr} {q : Str} : (a, q) ∈ tabs M ↔ (a, Cell.tab q) ∈ M := by
  unfold tabs
  rw [List.mem_filterMap]
  constructor
  · rintro ⟨⟨b, c⟩, hp, e⟩
    cases c <;> simp at e
    obtain ⟨rfl, rfl⟩ := e
    exact hp
  · intro h; exact ⟨_, h, rfl⟩
theorem rs_tabs (R : Rs κ δ M σ H) : LamX.Tabs (tabs M) H := fun p hp => by
  obtain ⟨a, q⟩ := p
  obtain ⟨ps, h1, h2, h3⟩ := R.cl _ (tabs_mem.mp hp)
  exact ⟨ps, h1, h2, fun pos cv hc => let ⟨c, e1, _, e2⟩ := h3 pos cv hc; ⟨c, e1, e2⟩⟩
theorem rs_tab1 (R : Rs κ δ M σ H) {P : Addr} {q : Str} (h : (P, Cell.tab q) ∈ M) : ∀ p ∈ tabs M, p.1 = P → p.2 = q := fun p hp e => by
  obtain ⟨a, q'⟩ := p
  have e : a = P := e
  subst e
  have h2 := tabs_mem.mp hp
  obtain ⟨i, hi⟩ := List.mem_iff_getElem?.mp h
  obtain ⟨j, hj⟩ := List.mem_iff_getElem?.mp h2
  by_cases hij : i = j
  · subst hij
    rw [hi] at hj
    cases hj; rfl
  · exact absurd (by simp [own]) (F_apart R.nd hi hj hij a (by simp [own]))
theorem rs_extN (R : Rs κ δ M σ H) (e : LamX.ExtN H H1) (t : LamX.Tabs (tabs M) H1) : Rs κ δ M σ H1 := by
  have k : Fwd M.F H M.F H1 := fun a o ha ho n => ⟨ha, e a o ho n⟩
  refine ⟨fun q hq => (R.kp q hq).fwd k, Paired.mono (fun _ _ h => h.fwd k) R.sl, fun p hp => ?_, R.nd⟩
  obtain ⟨a, c⟩ := p
  by_cases hc : ∃ q, c = .tab q
  · obtain ⟨q, rfl⟩ := hc
    obtain ⟨ps, h1, h2, h3⟩ := t (a, q) (tabs_mem.mpr hp)
    refine ⟨ps, h1, h2, fun pos cv hcv => ?_⟩
    obtain ⟨c, e1, e2⟩ := h3 pos cv hcv
    refine ⟨c, e1, fun hx => ?_, e2⟩
    obtain ⟨⟨b, c'⟩, hb, hx⟩ := List.mem_flatMap.mp hx
    obtain ⟨o, k1, k2, k3⟩ := cok_kind (R.cl _ hb) hx
    by_cases hc' : ∃ q, c' = .tab q
    · obtain ⟨q', rfl⟩ := hc'
      obtain ⟨ps', z, _⟩ := t (b, q') (tabs_mem.mpr hb)
      have : c = b := by simpa [own] using hx
      rw [this] at e2
      rw [show H1 b = _ from z] at e2
      unfold LamX.CodeO at e2
      cases e2
    · have := e c o k1 (k3 fun q z => hc' ⟨q, z⟩)
      rw [e2] at this
      exact k2 _ (Option.some.inj this).symm
  · refine (R.cl _ hp).fwd k fun x hx => ?_
    obtain ⟨o, k1, _, k3⟩ := cok_kind (R.cl _ hp) hx
    rw [k1]
    exact e x o k1 (k3 fun q z => hc ⟨q, z⟩)
end
/-- a def makes functions: its code object's table -/
structure TbP (base : Heap) (mg : Str → Option Value) (env : Env) (P : Addr) : Prop where
  is : ∃ c, LamX.TabB base mg c P ∧ env.code = .ref c
abbrev Tb (X : Cx) := TbP X.base X.mg X.env
end Hl
namespace Hl
open PySem L2
open PyProof.Rows hiding St
/-! ### defs that make functions; laws with tables -/
/-- the facts of a def that makes functions -/
abbrev TbF (base : Heap) (mg : Str → Option Value) (fd : FuncData) (P : Addr) : Prop := ∃ c, LamX.TabB base mg c P ∧ fd.code = .ref c
theorem fnokT_of {P : Program} {w : World} {K : PySem.W.Frag} {mg : Str → Option Value} {base : Heap} {x qual : Str} {st : Stmt} {f PT : Addr} {fd : FuncData} {N ps : List Str} {k : Nat} {p : DSpE} (F : FunG K x qual st f fd) (S : FnScope N ps (defScope st))
    (T : TbF base mg fd PT) (len : ∀ ds M Φ Ξ, p ds M Φ Ξ → ds.length = ps.length)
    (h : ∀ X kp ds M Φ Ξ, p ds M Φ Ξ → InDefE P w K mg base N (defScope st) k X ⟨kp, fun C ns es _ M' => ∃ es2 M2, VwX ns es M' es2 M2 ∧ Ξ C ns es2 M2⟩ → Tb X PT → X.env.qual = qual ++ ".<locals>." → DSs ⟨kp, fun C ns es _ M' => ∃ es2 M2, VwX ns es M' es2 M2 ∧ Ξ C ns es2 M2⟩ X (defBody st) (startD N.length ds) M { nx := fun _ M' => ∃ d2 M2, Vw .non M' d2 M2 ∧ Φ d2 M2, rt := fun d M' => ∃ d2 M2, Vw d M' d2 M2 ∧ Φ d2 M2 }) : FnOk P w K mg base (L2.CX P w) (k + 1) f fd ps (liftE p) := by
  obtain ⟨oc, od, dV, kV, doc, pm, an, cdv, ct, osl, rfl, lk, hcd⟩ := F.ex
  refine fn_of lk hcd S (fun vs H Q E hl => ?_) fun A outer s H vs Q E hr hl => ?_
  · obtain ⟨κ, ds, M, Φ, Ξ, R, r, q, _⟩ := hl
    rw [r.length]; exact len ds M Φ Ξ q
  · obtain ⟨κ, ds, M, Φ, Ξ, R, r, q, kk, kx⟩ := hl
    refine ⟨_, cSs, ?_⟩
    refine h _ κ ds M Φ Ξ q ⟨rfl, rfl, rfl, rfl, rfl, rfl, rfl, rfl, ⟨S.nd, rfl, hr⟩, PassesOwn.leaving, ?_, rfl, rfl⟩ ⟨T⟩ rfl κ _ H _ (fun _ h => h) (start_rs R r) ⟨fun δ M' σ H' ⟨d2, M2, h1, h2⟩ R' => ?_, fun v d M' δ σ H' ⟨d2, M2, h1, h2⟩ R' r' => ?_, fun _ _ _ _ z => z.elim, fun _ _ _ _ z => z.elim⟩
    · refine Takes.imp (takes_of (E := E) rfl rfl rfl rfl) fun cls dx σ H' hw => ?_
      obtain ⟨C, ns, es, δ, M', κ', rfl, ⟨es2, M2, hv, hX⟩, hb, R', x'⟩ := hw
      obtain ⟨R2, x2⟩ := hv κ' δ σ H' dx R' x'
      exact kx C ns es2 M2 H' dx hX ⟨fun q hq => R2.kp q (hb q hq), .nil, R2.cl, R2.nd⟩ x2
    · obtain ⟨R2, r2⟩ := h1 _ _ _ _ _ R' .non
      exact kk .non d2 M2 H' h2 ⟨R2.kp, .nil, R2.cl, R2.nd⟩ r2
    · obtain ⟨R2, r2⟩ := h1 _ _ _ _ _ R' r'
      exact kk v d2 M2 H' h2 ⟨R2.kp, .nil, R2.cl, R2.nd⟩ r2
/-- the tables' cells at the law's start -/
def tbM (ts : List (Addr × Str)) : Mem := ts.map fun p => (p.1, .tab p.2)
theorem tbM_F : ∀ ts : List (Addr × Str), Mem.F (tbM ts) = ts.map (·.1)
  | [] => rfl
  | p :: ts => by
    show [p.1] ++ Mem.F (tbM ts) = p.1 :: _
    rw [tbM_F ts]; rfl
/-- the law, with tables -/
def pLawT (ts : List (Addr × Str)) (K : PySem.W.Frag) : DSpE := fun ds M Φ Ξ => ∃ ns, ds = [.scr K ns] ∧ M = tbM ts ∧ ns.length ≤ 63 ∧ Φ (.bl true) M
theorem law_startT {K : PySem.W.Frag} {H : Hp} {a : Addr} {ns : List Int} {ts : List (Addr × Str)} (nd : (ts.map (·.1)).Nodup) (hT : ∀ p ∈ ts, H p.1 = some (.tbl #[])) (hl : ns.length ≤ 63) (hS : SqL K H a (ns.map V.int)) : liftE (pLawT ts K) [.ref a] H (fun v _ => v = .bl true) (fun _ _ _ => False) := by
  have hF : Mem.F (tbM ts) = ts.map (·.1) := tbM_F ts
  refine ⟨[], [.scr K ns], tbM ts, fun d _ => d = .bl true, fun _ _ _ _ => False, ⟨by simp, .nil, fun p hp => ?_, by rw [hF]; exact nd⟩, .cons ?_ .nil, ⟨ns, rfl, rfl, hl, rfl⟩, fun v d M' H' e R r => by subst e; cases r; rfl, fun _ _ _ _ _ _ z => z.elim⟩
  · obtain ⟨q, hq, rfl⟩ := List.mem_map.mp hp
    exact ⟨#[], hT q hq, True.intro, fun pos cv hc => by
      have z : codeAmong pos [] = some cv := hc
      simp [codeAmong] at z⟩
  · have na : ∀ o, H a = some o → Nt o → a ∉ Mem.F (tbM ts) := fun o e n hx => by
      rw [hF] at hx
      obtain ⟨q, hq, e2⟩ := List.mem_map.mp hx
      have := hT q hq
      rw [e2, e] at this
      exact n _ (Option.some.inj this)
    rcases hS with h | h
    · refine .scrH ?_ h
      rcases h with h | ⟨o, h⟩
      · exact na _ h fun _ z => nomatch z
      · exact na _ h fun _ z => nomatch z
    · exact .scrK fun _ => .inr h
end Hl
namespace Hl
open PySem L2
open PyProof.Rows hiding St
end Hl
namespace Hl
open PySem L2
open PyProof.Rows hiding St
/-! ### int(truth) -/
section
variable {B : Bx} {X : Cx} {a : Expr} {δ : Env'} {M : Mem} {Φ : D → Mem → Prop} {pos : Pos}
def rIntB : List V → Hp → VK → Prop := fun xs H Q => ∃ b : Bool, xs = [.bl b] ∧ Q (.int (if b then 1 else 0)) H
theorem call_int_bl : CallR X (.type "int") rIntB := by
  intro pins s σ H xs us Q I rs h
  obtain ⟨b, rfl, h⟩ := h
  cases rs with
  | cons r1 rs =>
    cases rs
    cases r1
    exact PySem.call_int_bool ⟨.int _, H, I.tok _, ⟨_, rfl⟩, h⟩
theorem cd_intB {b : Bool} (k : Φ (.int (if b then 1 else 0)) M) : CallD rIntB [.bl b] M Φ := fun κ δ σ H vs Q R rs kk => by
  cases rs with
  | cons rv rn =>
  cases rn
  cases rv
  exact ⟨b, rfl, kk _ _ _ _ k R (.int _)⟩
theorem de_intB {p' : Pos} (g : Gn X "int") (h : DA B X [a] δ M fun ds M1 => CallD rIntB ds M1 Φ)
    (he : starEach [a] X.env = (false, eval a X.env) :: starEach [] X.env := by rfl) (hpl : (backTo pos (starEach [] X.env)).any (·.1) = false := by rfl) : DE B X (.Call (.Name "int" p') [a] [] pos) δ M Φ := de_ty call_int_bl g boot_int h (by decide) (by decide) he hpl
end
/-! ### len of a dict -/
/-! ### x = [.. for .. in a list that is a cell] -/
end Hl
namespace Hl
open PySem L2
open PyProof.Rows hiding St
/-! ### functions made in a def: a function with its captured cells as one cell; calls -/
/-- without the addresses l -/
def les (H : Hp) (l : List Addr) : Hp := fun b => if b ∈ l then none else H b
/-- H at l, H' elsewhere -/
def mix (H H' : Hp) (l : List Addr) : Hp := fun b => if b ∈ l then H b else H' b
section
variable {κ : List (V × D)} {δ : Env'} {M M0 M' : Mem} {σ : L2.St} {H H' : Hp} {l : List Addr} {a f : Addr} {o : HO} {W : FW} {fr : List Str} {as : List Addr} {cs : List D}
theorem les_in (h : a ∈ l) : les H l a = none := by unfold les; rw [if_pos h]
theorem les_out (h : a ∉ l) : les H l a = H a := by unfold les; rw [if_neg h]
theorem les_some (h : les H l a = some o) : a ∉ l ∧ H a = some o := by
  unfold les at h
  split at h
  · cases h
  · rename_i n; exact ⟨n, h⟩
theorem mix_in (h : a ∈ l) : mix H H' l a = H a := by unfold mix; rw [if_pos h]
theorem mix_out (h : a ∉ l) : mix H H' l a = H' a := by unfold mix; rw [if_neg h]
theorem fwd_les {F : List Addr} : Fwd (l ++ F) H F (les H l) := fun a o ha e _ => by
  rw [List.mem_append, not_or] at ha
  exact ⟨ha.2, by rw [les_out ha.1]; exact e⟩
theorem fwd_mix {F : List Addr} (hn : ∀ a ∈ l, H' a = none) : Fwd F H' (l ++ F) (mix H H' l) := fun a o ha e _ => by
  have : a ∉ l := fun z => by rw [hn a z] at e; cases e
  exact ⟨by rw [List.mem_append, not_or]; exact ⟨this, ha⟩, by rw [mix_out this]; exact e⟩
theorem rs_out (R : Rs κ δ ((f, .fnc W fr as cs) :: M0) σ H) : Rs κ δ M0 σ (les H (f :: as)) := by
  have nd : ((f :: as) ++ Mem.F M0).Nodup := R.nd
  have k : Fwd ((f :: as) ++ Mem.F M0) H (Mem.F M0) (les H (f :: as)) := fwd_les
  refine ⟨fun q hq => (R.kp q hq).fwd k, Paired.mono (fun _ _ h => h.fwd k) R.sl, fun q hq => (R.cl q (List.mem_cons_of_mem _ hq)).fwd k fun x hx => les_out fun z => ?_, (List.nodup_append.mp nd).2.1⟩
  exact (List.nodup_append.mp nd).2.2 x z x (List.mem_flatMap.mpr ⟨q, hq, hx⟩) rfl
/-- what is known of such a cell -/
structure FncAt (H : Hp) (f : Addr) (W : FW) (as : List Addr) (fr : List Str) (c : Addr) (vs : List V) (od : Option Addr) (sl : Array (Option Value)) (doc pm ctv : Value) : Prop where
  fn : H f = some (Exact f (⟨.type "function", od, .func (W.fd (fr.zip as) c doc pm ctv), sl⟩ : Obj))
  len : fr.length = as.length
  nd : fr.Nodup
  vl : vs.length = as.length
  ce : ∀ p ∈ as.zip vs, ∃ (o : Obj) (u : Value), H p.1 = some (Exact p.1 o) ∧ o.data = .cell (some u) ∧ RelV p.2 u
theorem FncAt.ex {c : Addr} {vs : List V} {od : Option Addr} {sl : Array (Option Value)} {doc pm ctv : Value} (h : FncAt H f W as fr c vs od sl doc pm ctv) : ∀ a ∈ f :: as, ∃ o, H a = some (Exact a o) := fun a ha => by
  rcases List.mem_cons.mp ha with rfl | ha
  · exact ⟨_, h.fn⟩
  · obtain ⟨i, hi⟩ := List.mem_iff_getElem?.mp ha
    have hl : i < vs.length := by rw [h.vl]; exact (List.getElem?_eq_some_iff.mp hi).1
    obtain ⟨o, u, e2, _⟩ := h.ce (a, vs[i]) (List.mem_of_getElem? (i := i) (by rw [List.getElem?_zip_eq_some]; exact ⟨hi, by simp [hl]⟩))
    exact ⟨_, e2⟩
theorem rs_fnc (R : Rs κ δ ((f, .fnc W fr as cs) :: M0) σ H) : ∃ c vs od sl doc pm ctv, FncAt H f W as fr c vs od sl doc pm ctv ∧ c ∉ f :: as ∧ c ∉ M0.F ∧ H c = some (LamX.CodeO c W.qual) ∧ Reps (Mem.F M0) (les H (f :: as)) vs cs := by
  obtain ⟨c, od, sl, doc, pm, ctv, vs, h1, h2, h3, h4, h5, h6, h7, h8⟩ := R.cl _ List.mem_cons_self
  have h2 : c ∉ (f :: as) ++ Mem.F M0 := h2
  rw [List.mem_append, not_or] at h2
  exact ⟨c, vs, od, sl, doc, pm, ctv, ⟨h1, h4, h5, h6, h7⟩, h2.1, h2.2, h3, h8.fwd fwd_les⟩
theorem rs_back {c : Addr} {vs : List V} {od : Option Addr} {sl : Array (Option Value)} {doc pm ctv : Value} (A : FncAt H f W as fr c vs od sl doc pm ctv) (nd : (f :: as).Nodup) (hn : ∀ a ∈ f :: as, H' a = none) (hc : Rep M'.F H' (.ref c) (.hp c (LamX.CodeO c W.qual))) (hr : Reps M'.F H' vs cs) (R : Rs κ δ M' σ H') : Rs κ δ ((f, .fnc W fr as cs) :: M') σ (mix H H' (f :: as)) := by
  have k : Fwd M'.F H' ((f :: as) ++ Mem.F M') (mix H H' (f :: as)) := fwd_mix hn
  have nin : ∀ x ∈ Mem.F M', x ∉ f :: as := fun x hx z => by
    obtain ⟨o, e⟩ := R.inF hx
    rw [hn x z] at e; cases e
  refine ⟨fun q hq => (R.kp q hq).fwd k, Paired.mono (fun _ _ h => h.fwd k) R.sl, fun q hq => ?_, ?_⟩
  · rcases List.mem_cons.mp hq with rfl | hq
    · cases hc with
      | hp h1 h2 h3 =>
        refine ⟨c, od, sl, doc, pm, ctv, vs, (mix_in List.mem_cons_self).trans A.fn, (k _ _ h1 h2 h3).1, (k _ _ h1 h2 h3).2, A.len, A.nd, A.vl, fun p hp => ?_, hr.fwd k⟩
        obtain ⟨o, u, e, q⟩ := A.ce p hp
        exact ⟨o, u, (mix_in (List.mem_cons_of_mem _ (List.of_mem_zip (show (p.1, p.2) ∈ as.zip vs from hp)).1)).trans e, q⟩
    · exact (R.cl q hq).fwd k fun x hx => mix_out (nin x (List.mem_flatMap.mpr ⟨q, hq, hx⟩))
  · show ((f :: as) ++ Mem.F M').Nodup
    exact List.nodup_append.mpr ⟨nd, R.nd, fun x hx y hy e => nin y hy (e ▸ hx)⟩
end
/-- the heap behind a call that did not track l: l is tracked again -/
theorem ce_mix {P : Program} {w : World} {outer : List Env} {H H' : Hp} {h h' : Heap} {l : List Addr} (hx : ∀ a ∈ l, ∃ o, H a = some (Exact a o)) (hok : HOk P w H h) (hfr : ∀ b ∈ frs outer, H b = none) (un : Un (frs outer) [] (les H l) H' h h') (hok' : HOk P w H' h') :
    Un (frs outer) [] H (mix H H' l) h h' ∧ HOk P w (mix H H' l) h' ∧ ∀ a ∈ l, H' a = none := by
  have at_ : ∀ a ∈ l, ∃ o, H a = some (Exact a o) ∧ h.get? a = some o := fun a ha => by
    obtain ⟨o, e⟩ := hx a ha
    exact ⟨o, e, (hok a _ e).1⟩
  have gone : ∀ a ∈ l, H' a = none := fun a ha => by
    obtain ⟨o, e, q⟩ := at_ a ha
    exact un.free a o q (les_in ha) (by simp)
  have nol : ∀ {b : Addr}, H b = none → b ∉ l := fun {b} n z => by
    obtain ⟨o, e⟩ := hx b z
    rw [n] at e; cases e
  have nol' : ∀ {b : Addr} {o : HO}, H' b = some o → b ∉ l := fun {b o} e z => by rw [gone b z] at e; cases e
  refine ⟨⟨fun b o e n hb hxx => un.keep b o e ((les_out (nol n)).trans n) hb hxx, fun b o e n hb hxx => un.slot b o e ((les_out (nol n)).trans n) hb hxx, fun b o e n hxx => (mix_out (nol n)).trans (un.free b o e ((les_out (nol n)).trans n) hxx), un.there, fun b xs e => ?_, fun b o u e => ?_, fun b ps e => ?_⟩, fun b o e => ?_, gone⟩
  · have nb : b ∉ l := fun z => by
      obtain ⟨o, q⟩ := hx b z
      rw [e] at q; cases q
    exact (mix_out nb).trans (un.tups b xs ((les_out nb).trans e))
  · by_cases hb : b ∈ l
    · exact (mix_in hb).trans e
    · exact (mix_out hb).trans (un.frzs b o u ((les_out hb).trans e))
  · have nb : b ∉ l := fun z => by
      obtain ⟨o, q⟩ := hx b z
      rw [e] at q; cases q
    obtain ⟨m, q⟩ := un.tbls b ps ((les_out nb).trans e)
    exact ⟨m, (mix_out nb).trans q⟩
  · by_cases hb : b ∈ l
    · rw [mix_in hb] at e
      obtain ⟨ob, q, hq⟩ := at_ b hb
      rw [q] at e
      cases e
      have nf : b ∉ frs outer := fun z => by rw [hfr b z] at q; cases q
      have e' := un.keep b ob hq (les_in hb) nf (by simp)
      exact ⟨e', e', ⟨ob, e'⟩, fun h1 h2 p st => st _ p⟩
    · rw [mix_out hb] at e
      exact (hok' b o e).stay (fun _ _ _ q => q) (fun c q => (mix_out (nol' q)).trans q) fun c xs q => (mix_out (nol' q)).trans q
theorem env0_les {P : Program} {w : World} {K : PySem.W.Frag} {mg : Str → Option Value} {base : Heap} {A : Around} {outer : List Env} {s : Shared} {H : Hp} {l : List Addr} (hx : ∀ a ∈ l, ∃ o, H a = some (Exact a o)) (e : Env0 P w K mg base A outer s H) : Env0 P w K mg base A outer s (les H l) := by
  have no : ∀ {b : Addr} {u : HO}, H b = some u → (∀ o, u ≠ Exact b o) → b ∉ l := fun {b u} q n z => by
    obtain ⟨o, q'⟩ := hx b z
    rw [q] at q'
    exact n o (Option.some.inj q')
  refine ⟨e.frames, e.mod, fun b o q => ⟨(e.bs b o q).1, ?_⟩, e.bsz, e.funs, fun b hb => ?_, fun b o q => ?_, e.bare⟩
  · unfold les; split
    · rfl
    · exact (e.bs b o q).2
  · unfold les; split
    · rfl
    · exact e.frf b hb
  · obtain ⟨_, q⟩ := les_some q
    exact (e.hok b o q).stay (fun _ _ _ z => z) (fun c z => (les_out (no z fun _ y => nomatch y)).trans z) fun c xs z => (les_out (no z fun _ y => nomatch y)).trans z
theorem zip_lk : ∀ {fr : List Str} {as : List Addr} {i : Nat} {y : Str} {a : Addr}, fr.Nodup → fr[i]? = some y → as[i]? = some a → (fr.zip as).lookup y = some a
  | [], _, _, _, _, _, h, _ => by simp at h
  | _ :: _, [], _, _, _, _, _, h => by simp at h
  | p :: ps, v :: us, 0, x, u, nd, h1, h2 => by
    simp at h1 h2
    subst h1; subst h2
    simp [List.lookup]
  | p :: ps, v :: us, i + 1, x, u, nd, h1, h2 => by
    have hx : x ∈ ps := List.mem_of_getElem? (show ps[i]? = some x by simpa using h1)
    have : (x == p) = false := by
      rw [beq_eq_false_iff_ne]
      rintro rfl
      exact (List.nodup_cons.mp nd).1 hx
    rw [List.zip_cons_cons, List.lookup_cons, this]
    exact zip_lk (List.nodup_cons.mp nd).2 (by simpa using h1) (by simpa using h2)
theorem zip_lk' {fr : List Str} {as : List Addr} {y : Str} {a : Addr} (h : (fr.zip as).lookup y = some a) : ∃ i : Nat, fr[i]? = some y ∧ as[i]? = some a := by
  obtain ⟨i, hi⟩ := List.mem_iff_getElem?.mp (PySem.mem_of_lookup h)
  rw [List.getElem?_zip_eq_some] at hi
  exact ⟨i, hi⟩
theorem cells_at {P : Program} {w : World} {H : Hp} {h : Heap} {f c : Addr} {W : FW} {as : List Addr} {fr : List Str} {vs : List V} {od : Option Addr} {sl : Array (Option Value)} {doc pm ctv : Value} (A : FncAt H f W as fr c vs od sl doc pm ctv) (nd : (f :: as).Nodup) (hok : HOk P w H h) :
    NdefX.CellsAt (fr.zip as) fr (vs.map some) h (les H (f :: as)) := by
  have at_ : ∀ (i : Nat) (a : Addr), as[i]? = some a → ∃ v u, vs[i]? = some v ∧ RelV v u ∧ h.IsCell a (some u) := fun i a hi => by
    have hl : i < vs.length := by rw [A.vl]; exact (List.getElem?_eq_some_iff.mp hi).1
    obtain ⟨o, u, e, hd, r⟩ := A.ce (a, vs[i]) (List.mem_of_getElem? (i := i) (by rw [List.getElem?_zip_eq_some]; exact ⟨hi, by simp [hl]⟩))
    exact ⟨vs[i], u, by simp [hl], r, o, (hok a _ e).1, hd⟩
  refine ⟨by rw [List.length_map, A.vl, A.len], fun y a e => ?_, fun x y a e1 e2 => ?_, fun i y e => ?_⟩
  · obtain ⟨i, h1, h2⟩ := zip_lk' e
    obtain ⟨v, u, _, _, z⟩ := at_ i a h2
    exact ⟨les_in (List.mem_cons_of_mem _ (List.mem_of_getElem? h2)), _, z⟩
  · obtain ⟨i, h1, h2⟩ := zip_lk' e1
    obtain ⟨j, h3, h4⟩ := zip_lk' e2
    have : i = j := by
      obtain ⟨l1, q1⟩ := List.getElem?_eq_some_iff.mp h2
      obtain ⟨l2, q2⟩ := List.getElem?_eq_some_iff.mp h4
      exact (List.getElem_inj (List.nodup_cons.mp nd).2).mp (q1.trans q2.symm)
    subst this
    rw [h1] at h3; exact Option.some.inj h3
  · have hl : i < as.length := by rw [← A.len]; exact (List.getElem?_eq_some_iff.mp e).1
    obtain ⟨v, u, h1, r, z⟩ := at_ i as[i] (by simp [hl])
    refine ⟨as[i], zip_lk A.nd e (by simp [hl]), fun v' hv => ?_⟩
    rw [List.getElem?_map, h1] at hv
    cases hv
    exact ⟨u, r, z⟩
/-! ### the promise of a function that is made -/
structure FunN (P : Program) (w : World) (K : PySem.W.Frag) (mg : Str → Option Value) (base : Heap) (W : FW) (fr : List Str) (k n : Nat) (p : List D → DSp) : Prop where
  run : ∀ (A : Around) (outer : List Env) (s : Shared) (H : Hp) (f c : Addr) (od : Option Addr) (sl : Array (Option Value)) (doc pm ctv : Value) (as : List Addr) (us : List Value) (vs cvs : List V) (cs ds : List D) (κ : List (V × D)) (M : Mem) (Φ : D → Mem → Prop),
    Room k A → Env0 P w K mg base A outer s H → s.heap.get? f = some (⟨.type "function", od, .func (W.fd (fr.zip as) c doc pm ctv), sl⟩ : Obj) → s.heap.CodeRec (.ref c) W.qual → NdefX.CellsAt (fr.zip as) fr (cvs.map some) s.heap H → Vals vs us → us.length = n →
    Rs κ [] M [] H → Reps M.F H cvs cs → Reps M.F H vs ds → p cs ds M Φ → codeAny (model P w) A (.call (.ref f) ⟨us, []⟩) (CR (L2.CX P w) outer P w H s (fun v H' => ∃ d M', Φ d M' ∧ Rs κ [] M' [] H' ∧ Rep M'.F H' v d) (fun _ _ _ => False)) s
abbrev FunNX (X : Cx) := FunN X.prog X.w X.K X.mg X.base
theorem FunN.mono {P : Program} {w : World} {K : PySem.W.Frag} {mg : Str → Option Value} {base : Heap} {W : FW} {fr : List Str} {j k n : Nat} {p : List D → DSp} (F : FunN P w K mg base W fr j n p) (h : j ≤ k) : FunN P w K mg base W fr k n p :=
  ⟨fun A outer s H f c od sl doc pm ctv as us vs cvs cs ds κ M Φ hr => F.run A outer s H f c od sl doc pm ctv as us vs cvs cs ds κ M Φ (hr.mono h)⟩
/-- the context of its body -/
structure InNest (P : Program) (w : World) (K : PySem.W.Frag) (mg : Str → Option Value) (base : Heap) (N : List Str) (sc : Scope) (k : Nat) (X : Cx) (B : Bx) : Prop where
  prog : X.prog = P
  wd : X.w = w
  K : X.K = K
  mg : X.mg = mg
  base : X.base = base
  N : X.N = N
  sc : X.env.scope = sc
  fn : X.fn = fun _ => false
  z : Cz X k
  hp : PassesOwn (model X.prog X.w) X.A X.env X.xe
  tk : Tks X B
  st : X.stack = X.env :: X.outer
  fr : X.env.frame = some X.env.locals
/-- the slots at its entry: parameters, captured names, its own names -/
def startC (n : Nat) (ds cs : List D) : Env' := ds.map some ++ (cs.map some ++ List.replicate (n - ds.length - cs.length) none)
theorem paired_app {α β : Type} {G : α → β → Prop} : ∀ {a : List α} {b : List β} {c : List α} {d : List β}, Paired G a b → Paired G c d → Paired G (a ++ c) (b ++ d)
  | _, _, _, _, .nil, h => h
  | _, _, _, _, .cons r t, h => .cons r (paired_app t h)
theorem paired_reps {F : List Addr} {H : Hp} : ∀ {vs : List V} {ds : List D}, Reps F H vs ds → Paired (SlotOk F H) (vs.map some) (ds.map some)
  | _, _, .nil => .nil
  | _, _, .cons r t => .cons (fun d e => by cases e; exact ⟨_, rfl, r⟩) (paired_reps t)
theorem paired_none {F : List Addr} {H : Hp} : ∀ n : Nat, Paired (SlotOk F H) (List.replicate n none) (List.replicate n none)
  | 0 => .nil
  | n + 1 => .cons (fun d e => by cases e) (paired_none n)
theorem start_rsC {κ : List (V × D)} {M : Mem} {H : Hp} {N : List Str} {vs cvs : List V} {ds cs : List D} (R : Rs κ [] M [] H) (r : Reps M.F H vs ds) (q : Reps M.F H cvs cs) : Rs κ (startC N.length ds cs) M (NdefX.startF N vs (cvs.map some)) H := by
  refine ⟨R.kp, ?_, R.cl, R.nd⟩
  unfold NdefX.startF startC
  rw [List.length_map, r.length, q.length]
  exact paired_app (paired_reps r) (paired_app (paired_reps q) (paired_none _))
section
variable {P : Program} {w : World} {K : PySem.W.Frag} {mg : Str → Option Value} {base : Heap} {W : FW} {N ps fr : List Str} {k : Nat} {p : List D → DSp}
/-- .. a lambda's -/
theorem funL_of {e : Expr} (hW : W.body = .expr e) (S : NdefX.NScope N ps fr W.scope) (hb : ∀ (cl : List (Str × Addr)) (c : Addr) (doc pm ctv : Value) (us : List Value), us.length = ps.length → bindArgs (W.fd cl c doc pm ctv) ⟨us, []⟩ = pure (ps.zip us))
    (h : ∀ X kp cs ds M Φ, p cs ds M Φ → InNest P w K mg base N W.scope k X ⟨kp, fun _ _ _ _ _ => False⟩ → DE ⟨kp, fun _ _ _ _ _ => False⟩ X e (startC N.length ds cs) M Φ) : FunN P w K mg base W fr (k + 1) ps.length p := by
  refine ⟨fun A outer s H f c od sl doc pm ctv as us vs cvs cs ds κ M Φ hr e0 ho hcd C rv hul R rc rd hp => ?_⟩
  have hl : vs.length = ps.length := by rw [rv.length]; exact hul
  have lim : s.heap.NoLimit := e0.mod.nolimit.keeps fun b o e => (e0.bs b o e).1
  obtain ⟨F, hF⟩ : ∃ F : NdefX.NF, F = ⟨W.name, W.qual, W.params, [], W.scope, fr.zip as, c⟩ := ⟨_, rfl⟩
  have SF : NdefX.NScope N ps fr F.scope := by subst hF; exact S
  have CF : NdefX.CellsAt F.cl fr (cvs.map some) s.heap H := by subst hF; exact C
  refine PySem.W.kla_callFunE (fd := W.fd (fr.zip as) c doc pm ctv) (body := e) hr.depth ho rfl S.co S.gen hW hcd ?_
  rw [hb _ _ doc pm ctv us hul]
  refine wpAny_pure (wpAny_newFunctionEnv S.nocell (fun ⟨n, _⟩ hy => S.par n (List.of_mem_zip hy).1) (fun h₁ hns hsb => ⟨lim.fresh _ hsb, ?_⟩) S.kind)
  have henv : newEnv (W.fd (fr.zip as) c doc pm ctv).scope s.heap.objs.size (W.fd (fr.zip as) c doc pm ctv).globals (W.fd (fr.zip as) c doc pm ctv).closure ((W.fd (fr.zip as) c doc pm ctv).qualname ++ ".<locals>.") (some f) (W.fd (fr.zip as) c doc pm ctv).code none (W.fd (fr.zip as) c doc pm ctv).builtins = NdefX.envF F f s.heap.objs.size := by subst hF; rfl
  rw [henv]
  refine PySem.W.kla_codeExpr ?_
  have kp : ∀ b o, s.heap.get? b = some o → h₁.get? b = some o := fun b o e => hsb.extBut b o (Nat.ne_of_lt (Heap.lt_size e)) (Heap.get?_push_of_some _ e)
  have I : Inv (NdefX.ncx (L2.CX P w) P w K mg base N F f A outer s H (fun _ _ _ => False)) [] (NdefX.startF N vs (cvs.map some)) H { s with heap := h₁, toks := s.toks + (ps.zip us).length } := NdefX.inv_startN SF hr.hd e0 hl rv CF hns kp
  obtain ⟨Qv, hQv⟩ : ∃ Qv : VK, Qv = fun v H' => ∃ d M', Φ d M' ∧ Rs κ [] M' [] H' ∧ Rep M'.F H' v d := ⟨_, rfl⟩
  have body := h (NdefX.ncx (L2.CX P w) P w K mg base N F f A outer s H (fun _ _ _ => False)) κ cs ds M Φ hp ⟨rfl, rfl, rfl, rfl, rfl, rfl, by subst hF; rfl, rfl, ⟨S.nd, rfl, hr.deeper _⟩, PassesOwn.leaving, Takes.imp (takes_of (E := fun _ _ _ => False) rfl rfl rfl rfl) (fun cls dx σ H' hw => by
    obtain ⟨C, ns, es, δ, M', κ', _, hX, _⟩ := hw
    exact hX.elim), rfl, rfl⟩ κ _ H Qv (fun _ h => h) (start_rsC (N := N) R rd rc) (fun v d M' H' q R' r' => by rw [hQv]; exact ⟨d, M', q, ⟨R'.kp, .nil, R'.cl, R'.nd⟩, r'⟩)
  rw [← hQv]
  refine wpAny_mono ((cE (X := NdefX.ncx (L2.CX P w) P w K mg base N F f A outer s H (fun _ _ _ => False)) (e := e)).run [] _ _ H _ I body) (fun u s' hs => ?_) fun e s' hs => hs
  obtain ⟨v, H', J, rv, q⟩ := hs
  exact ⟨v, H', J.os, J.bare, J.base, J.hok, rv, q⟩
end
/-! ### calls -/
section
variable {B : Bx} {X : Cx} {e : Expr} {es : List Expr} {δ : Env'} {M : Mem} {Φ : D → Mem → Prop} {pos pp : Pos} {k n m i : Nat} {x : Str} {W : FW} {fr : List Str} {p : List D → DSp}
theorem hp_code {F : List Addr} {H : Hp} {c : Addr} {q : Str} (h : c ∉ F) (e : H c = some (LamX.CodeO c q)) : Rep F H (.ref c) (.hp c (LamX.CodeO c q)) := .hp h e fun _ z => by unfold LamX.CodeO at z; cases z
theorem reps_zip {F F' : List Addr} {H H' : Hp} : ∀ {vs : List V} {ds : List D}, Reps F H vs ds → (∀ q ∈ vs.zip ds, Rep F' H' q.1 q.2) → Reps F' H' vs ds
  | _, _, .nil, _ => .nil
  | _, _, .cons r t, h => .cons (h _ List.mem_cons_self) (reps_zip t fun q hq => h q (List.mem_cons_of_mem _ hq))
theorem reps_mem {F : List Addr} {H : Hp} : ∀ {vs : List V} {ds : List D}, Reps F H vs ds → ∀ q ∈ vs.zip ds, Rep F H q.1 q.2
  | _, _, .nil => fun q hq => by simp at hq
  | _, _, .cons r t => fun q hq => by
    rcases List.mem_cons.mp (show q ∈ _ :: _ from hq) with rfl | hq
    · exact r
    · exact reps_mem t q hq
/-- f(..), f a name that holds a function made in a def -/
theorem de_callC {f : Addr} {as0 : List Addr} {cs0 : List D} (z : Cz X m) (l : Nm X i x) (hd : δ[i]? = some (some (.raw (.ref f)))) (hm : (f, Cell.fnc W fr as0 cs0) ∈ M) (hk : k ≤ m) (Fn : FunNX X W fr k n p)
    (h : DA B X (e :: es) δ M fun ds M1 => ∃ as cs M0, M1 = (f, .fnc W fr as cs) :: M0 ∧ ds.length = n ∧ p cs ds M0 fun d M' => Φ d ((f, .fnc W fr as cs) :: M'))
    (he : starEach (e :: es) X.env = (false, eval e X.env) :: starEach es X.env := by rfl) (hpl : (backTo pos (starEach es X.env)).any (·.1) = false := by rfl) : DE B X (.Call (.Name x pp) (e :: es) [] pos) δ M Φ := by
  intro κ σ H Q hb R kk
  unfold tE
  intro pins s I
  obtain ⟨v, ev, rv⟩ := R.get hd
  cases rv
  refine wpAny_Call_Name_kw (thn ((pe_var (pos := pp) l.at_ l.vis l.dbg l.cdc).run pins s σ H (fun v H1 => v = .ref f ∧ H1 = H) I ⟨.ref f, ev, rfl, rfl⟩) fun u s1 hv => ?_)
  obtain ⟨v, H1, I1, r1, e1, e2⟩ := hv
  subst e1
  rw [e2] at I1
  obtain rfl : u = Value.ref f := r1
  have fa : ∀ {M : Mem} {H : Hp} {s : Shared} {σ : L2.St} {δ : Env'} {as0 : List Addr} {cs0 : List D}, Rs κ δ M σ H → Inv X pins σ H s → (f, Cell.fnc W fr as0 cs0) ∈ M → PySem.W.FnAt f s.heap := fun {M H s σ δ as0 cs0} R I hm => by
    obtain ⟨c, od, sl, doc, pm, ctv, vs, h1, _⟩ := R.cl _ hm
    exact ⟨_, od, _, sl, (I.hok f _ h1).1⟩
  refine PySem.W.callWith_F (first := []) (fa R I1 hm) (thn (cA.run pos pins s1 σ H _ I1 (h κ σ H _ hb R fun vs ds M' H' q R' r' => (show ∃ ds M', _ ∧ Rs κ δ M' σ H' ∧ Reps M'.F H' vs ds from ⟨ds, M', q, R', r'⟩))) fun us s2 hv2 => ?_) he hpl
  obtain ⟨vs, H2, I2, rvs, ds, M1, ⟨as, cs, M0, rfl, hn, hp⟩, R2, r2⟩ := hv2
  refine ⟨fa R2 I2 List.mem_cons_self, ?_⟩
  show wpAny _ _ (call (.ref f) us) _ _ _
  obtain ⟨c, vs', od, sl, doc, pm, ctv, A, hcl, hcM, hc, hr⟩ := rs_fnc R2
  have nd : (f :: as).Nodup := (List.nodup_append.mp (show ((f :: as) ++ Mem.F M0).Nodup from R2.nd)).1
  have R3 := rs_out R2.pack
  have R4 : Rs ((.ref c, .hp c (LamX.CodeO c W.qual)) :: (vs'.zip cs ++ (κ ++ sk σ δ))) [] M0 [] (les H2 (f :: as)) := ⟨fun q hq => by
    rcases List.mem_cons.mp hq with rfl | hq
    · exact hp_code hcM ((les_out hcl).trans hc)
    · rcases List.mem_append.mp hq with hq | hq
      · exact reps_mem hr q hq
      · exact R3.kp q hq, .nil, R3.cl, R3.nd⟩
  refine wpAny_call (codeAny_mono (Fn.run X.A X.stack s2 (les H2 (f :: as)) f c od sl doc pm ctv as us vs vs' cs ds _ M0 _ (z.room.mono hk) (env0_les A.ex I2.env0) (I2.hok f _ A.fn).1 (NdefX.codeO_at I2.hok hc) (cells_at A nd I2.hok) rvs (by rw [← rvs.length, r2.length]; exact hn) R4 hr (r2.fwd fwd_les) hp) fun r s' hq => ?_)
  cases r with
  | error e =>
    obtain ⟨a, B, H', cls, d, _, _, _, _, _, _, _, hE⟩ := hq
    exact hE.elim
  | ok fl =>
    cases fl with
    | ret u =>
      obtain ⟨v, H', os, bare, un, hok', rv, d, M', hΦ, R5, r5⟩ := hq
      obtain ⟨un2, hok2, gone⟩ := ce_mix A.ex I2.hok I2.stkFree un hok'
      obtain ⟨v', H3, I3, rv3, q3, q4⟩ := I2.after (Q := fun v' H'' => v' = v ∧ H'' = mix H2 H' (f :: as)) ⟨v, _, os, bare, un2, hok2, rv, rfl, rfl⟩
      subst q3
      subst q4
      have R6 := rs_back (κ := κ ++ sk σ δ) (cs := cs) A nd gone (R5.kp _ List.mem_cons_self) (reps_zip hr fun q hq => R5.kp q (List.mem_cons_of_mem _ (List.mem_append_left _ hq))) (R5.sub fun q hq => List.mem_cons_of_mem _ (List.mem_append_right _ hq))
      exact ⟨v', _, I3, rv, kk v' d _ _ hΦ (R2.unpack R6) (r5.fwd (fwd_mix gone))⟩
    | next => exact False.elim hq
    | brk => exact False.elim hq
    | cont => exact False.elim hq
end
/-! ### the def that makes the function and returns it -/
/-- the names that a function captures, in its closure's order -/
def frOf (names : List (Str × NameKind)) : List Str := ((names.filter fun y => y.2 == .free).map (·.1)).reverse
theorem clo_eq {cells : List (Str × Addr)} : ∀ (names : List (Str × NameKind)) (acc : List (Str × Addr)), cloFrom cells names acc = ((frOf names).map fun n => (n, (cells.lookup n).getD 0)) ++ acc
  | [], acc => rfl
  | (n, k) :: r, acc => by
    unfold cloFrom frOf
    by_cases h : k == .free
    · rw [if_pos h, clo_eq r, List.filter_cons_of_pos (by exact h)]
      simp [frOf]
    · rw [if_neg h, clo_eq r, List.filter_cons_of_neg (by exact h)]
      rfl
theorem zip_map_self {g : Str → Addr} : ∀ fr : List Str, fr.zip (fr.map g) = fr.map fun n => (n, g n)
  | [] => rfl
  | x :: r => by rw [List.map_cons, List.zip_cons_cons, zip_map_self r]; rfl
section
variable {κ : List (V × D)} {δ : Env'} {M : Mem} {σ : L2.St} {H H1 : Hp} {l : List Addr}
theorem rs_extL (R : Rs κ δ M σ H) (e : LamX.ExtN H H1) (t : LamX.Tabs (tabs M) H1) (hl : ∀ a ∈ l, H a = none) (hc : ∀ c q, H1 c = some (LamX.CodeO c q) → c ∉ l) :
    (∀ q ∈ κ, Rep (l ++ M.F) H1 q.1 q.2) ∧ Paired (SlotOk (l ++ M.F) H1) σ δ ∧ (∀ p ∈ M, CellOk (l ++ M.F) H1 p.1 p.2) ∧ Fwd M.F H (l ++ M.F) H1 := by
  have k : Fwd M.F H (l ++ M.F) H1 := fun a o ha ho n => ⟨by
    rw [List.mem_append, not_or]
    refine ⟨fun z => ?_, ha⟩
    rw [hl a z] at ho
    exact (nomatch ho), e a o ho n⟩
  have R1 := rs_extN R e t
  refine ⟨fun q hq => (R.kp q hq).fwd k, Paired.mono (fun _ _ h => h.fwd k) R.sl, fun p hp => ?_, k⟩
  obtain ⟨a, c⟩ := p
  by_cases hcc : ∃ q, c = .tab q
  · obtain ⟨q, rfl⟩ := hcc
    obtain ⟨ps, h1, h2, h3⟩ := R1.cl _ hp
    refine ⟨ps, h1, h2, fun pos cv hcv => ?_⟩
    obtain ⟨c, e1, hx, e2⟩ := h3 pos cv hcv
    exact ⟨c, e1, by rw [List.mem_append, not_or]; exact ⟨hc c _ e2, hx⟩, e2⟩
  · refine (R.cl _ hp).fwd k fun x hx => ?_
    obtain ⟨o, k1, _, k3⟩ := cok_kind (R.cl _ hp) hx
    rw [k1]
    exact e x o k1 (k3 fun q z => hcc ⟨q, z⟩)
end
/-! ### looks ahead of a rule: what kind of goal it is -/
section
variable {M : Mem} {Φ : D → Mem → Prop} {x : D}
theorem idJn {acc : Str} {Φ : Str → Prop} (h : JnD x acc Φ) : JnD x acc Φ := h
theorem idFm (h : FmD x M Φ) : FmD x M Φ := h
theorem idFmS {z : Str} (h : FmD (.str z) M Φ) : FmD (.str z) M Φ := h
end
end Hl
namespace Hl
open PySem L2
open PyProof.Rows hiding St
/-! ### lambdas handed on: made in a running frame, called by a callee -/
/-- the cells of the running frame, by name -/
def asX (X : Cx) (fr : List Str) : List Addr := fr.map fun n => (X.env.cells.lookup n).getD 0
section
variable {X : Cx} {pins : List (Addr × Obj)} {σ : L2.St} {H : Hp} {s : Shared}
theorem extN_upd {H H1 : Hp} {f : Addr} {o : HO} (e : LamX.ExtN H H1) (n : H f = none) : LamX.ExtN H (upd H1 f o) := fun a u ha hn => (upd_ne (ne_of_none ha n)).trans (e a u ha hn)
theorem tabs_upd {T : List (Addr × Str)} {H1 : Hp} {f : Addr} {o : HO} (t : LamX.Tabs T H1) (n : H1 f = none) : LamX.Tabs T (upd H1 f o) := fun p hp => by
  obtain ⟨ps, a1, a2, a3⟩ := t p hp
  refine ⟨ps, (upd_ne (ne_of_none a1 n)).trans a1, a2, fun pos cv hc => ?_⟩
  obtain ⟨c, e1, e2⟩ := a3 pos cv hc
  exact ⟨c, e1, (upd_ne (ne_of_none e2 n)).trans e2⟩
theorem exact_ok {P : Program} {w : World} {H : Hp} {h : Heap} {a : Addr} {o : Obj} (e : h.get? a = some o) : ObjOk P w H h a (Exact a o) := ⟨e, e, ⟨o, e⟩, fun _ _ _ st => st _ ‹_›⟩
/-- a lambda is made, and known from then on -/
theorem lam_makeE {T : List (Addr × Str)} {c P : Addr} {params : Arguments} {body : Expr} {scope : Scope} {pos : Pos} {E : Value → Shared → Prop} {Q : Value → Shared → Prop} (I : Inv X pins σ H s) (TB : LamX.TabB X.base X.mg c P) (hcode : X.env.code = .ref c)
    (hm : (P, X.env.qual ++ "<lambda>") ∈ T) (hu : ∀ p ∈ T, p.1 = P → p.2 = X.env.qual ++ "<lambda>") (hT : LamX.Tabs T H) (hdef : defaultsOf params X.env = ([], [])) (hfree : ∀ y ∈ scope.names, y.2 = .free → ∃ c, X.env.cells.lookup y.1 = some c)
    (h : ∀ (f c' : Addr) (pm ctv : Value) (H1 : Hp) (s' : Shared), Inv X pins σ H1 s' → LamX.ExtN H H1 → LamX.Tabs T H1 → H f = none → H1 f = some (Exact f (PySem.W.kla_obj "<lambda>" (X.env.qual ++ "<lambda>") params body scope (cloFrom X.env.cells scope.names []) pm c' ctv)) → H1 c' = some (LamX.CodeO c' (X.env.qual ++ "<lambda>")) → Q (.ref f) s') :
    wpAny (model X.prog X.w) X.A (eval (.Lambda params body scope pos) X.env) Q E s := by
  obtain ⟨ps, hP, ht, ha⟩ := hT _ hm
  refine PySem.W.kla_eval hdef ?_
  have bP : s.heap.BuiltinsAt X.mg P := TB.bm.keeps I.bk
  have hP' : s.heap.get? P = some { cls := .none, data := .fields ps } := I.hok P _ hP
  cases hc : codeAmong pos ps.toList with
  | none =>
    refine PySem.W.kla_makeFunction (mg := X.mg) (c := c) (P := P) (ps := ps) (closure_ok hfree) I.ok.glob (I.mod.glob.keeps I.bk) hcode (TB.code.keeps I.bk) hP' ht hc TB.gP bP fun c' ctv h' tk hx hge hlt hrec htb => ?_
    obtain ⟨c2, oc, vs, t, e2, hoc, hd, hv⟩ := hrec
    cases e2
    have hsz : s.heap.objs.size ≤ h'.objs.size := Nat.le_trans hge (Nat.le_of_lt hlt)
    have nC : H c' = none := I.hok.fresh hge
    have I1 := LamX.inv_table (t' := tk) (more := #[rawInt pos.line, rawInt pos.col, .ref c']) (h' := h') I hP (fun b o hb e => hx b o hb e) htb hge ⟨oc, vs, t, hoc, hd, hv⟩
    have hE : LamX.ExtN H (upd (upd H P (.tbl (ps ++ #[rawInt pos.line, rawInt pos.col, .ref c']))) c' (LamX.CodeO c' (X.env.qual ++ "<lambda>"))) := fun b o e n => by
      rw [upd_ne (ne_of_none e nC), upd_ne (fun z => n ps (Option.some.inj (e.symm.trans (by rw [z]; exact hP))))]
      exact e
    have eL : (ps ++ #[rawInt pos.line, rawInt pos.col, .ref c']).toList = ps.toList ++ [rawInt pos.line, rawInt pos.col, .ref c'] := by simp
    have T1 : LamX.Tabs T (upd (upd H P (.tbl (ps ++ #[rawInt pos.line, rawInt pos.col, .ref c']))) c' (LamX.CodeO c' (X.env.qual ++ "<lambda>"))) := fun p hp => by
      by_cases hb : p.1 = P
      · rw [hu p hp hb, hb]
        refine ⟨_, by rw [upd_ne (ne_of_none hP nC), upd_same], by rw [eL]; exact PySem.TriplesOk_snoc _ _ _ _ ht, fun p' cv hcv => ?_⟩
        rw [eL] at hcv
        rcases LamX.among_app _ ht hcv with z | z
        · obtain ⟨c0, e1, e2⟩ := ha p' cv z
          exact ⟨c0, e1, hE _ _ e2 LamX.codeO_ne⟩
        · exact ⟨c', z, upd_same⟩
      · obtain ⟨ps', a1, a2, a3⟩ := hT p hp
        refine ⟨ps', by rw [upd_ne (ne_of_none a1 nC), upd_ne hb]; exact a1, a2, fun p' cv hcv => ?_⟩
        obtain ⟨c0, e1, e2⟩ := a3 p' cv hcv
        exact ⟨c0, e1, hE _ _ e2 LamX.codeO_ne⟩
    have nF := I1.hok.fresh (Nat.le_refl h'.objs.size)
    have I2 := I1.laid (a := h'.objs.size) (o := Exact h'.objs.size (PySem.W.kla_obj "<lambda>" (X.env.qual ++ "<lambda>") params body scope (cloFrom X.env.cells scope.names []) ((X.mg "__name__").getD .none) c' ctv)) (h' := h'.push (PySem.W.kla_obj "<lambda>" (X.env.qual ++ "<lambda>") params body scope (cloFrom X.env.cells scope.names []) ((X.mg "__name__").getD .none) c' ctv)) (t' := tk) (fun b u e => Heap.get?_push_of_some _ e) (Nat.le_refl _) (exact_ok (Heap.get?_push_size _ rfl))
    exact h h'.objs.size c' ((X.mg "__name__").getD .none) ctv _ _ I2 (extN_upd hE (I.hok.fresh hsz)) (tabs_upd T1 nF) (I.hok.fresh hsz) upd_same ((upd_ne (Nat.ne_of_lt hlt)).trans upd_same)
  | some cv =>
    obtain ⟨c', e, hco⟩ := ha pos cv hc
    subst e
    refine PySem.W.kla_makeFunctionHit (mg := X.mg) (c := c) (P := P) (ps := ps) (closure_ok hfree) I.ok.glob (I.mod.glob.keeps I.bk) hcode (TB.code.keeps I.bk) hP' ht hc bP fun ctv h' tk hx hsz => ?_
    have I1 : Inv X pins σ H { s with heap := h', toks := tk } := I.kept hx
    have nF := I1.hok.fresh (Nat.le_refl h'.objs.size)
    have I2 := I1.laid (a := h'.objs.size) (o := Exact h'.objs.size (PySem.W.kla_obj "<lambda>" (X.env.qual ++ "<lambda>") params body scope (cloFrom X.env.cells scope.names []) ((X.mg "__name__").getD .none) c' ctv)) (h' := h'.push (PySem.W.kla_obj "<lambda>" (X.env.qual ++ "<lambda>") params body scope (cloFrom X.env.cells scope.names []) ((X.mg "__name__").getD .none) c' ctv)) (t' := tk) (fun b u e => Heap.get?_push_of_some _ e) (Nat.le_refl _) (exact_ok (Heap.get?_push_size _ rfl))
    exact h h'.objs.size c' ((X.mg "__name__").getD .none) ctv _ _ I2 (extN_upd (LamX.ExtN.refl H) nF) (tabs_upd hT nF) nF upd_same ((upd_ne (ne_of_none hco nF)).trans hco)
end
section
variable {B : Bx} {X : Cx} {es : List Expr} {kws : List Keyword} {δ : Env'} {M : Mem} {Φ : D → Mem → Prop} {pos pp : Pos}
/-- a lambda -/
theorem de_lam {P : Addr} {params : Arguments} {body : Expr} {scope : Scope} {q : Str} (T : Tb X P) (hq : X.env.qual = q) (hM : (P, Cell.tab (q ++ "<lambda>")) ∈ M) (hdef : defaultsOf params X.env = ([], []))
    (hfree : ∀ y ∈ scope.names, y.2 = .free → X.env.scope.names.lookup y.1 = some .cell ∨ X.env.scope.names.lookup y.1 = some .free)
    (k : ∀ f, Φ (.raw (.ref f)) ((f, .lam ⟨"<lambda>", q ++ "<lambda>", params, .expr body, scope⟩ (frOf scope.names) (asX X (frOf scope.names))) :: M)) : DE B X (.Lambda params body scope pos) δ M Φ := by
  intro κ σ H Q hb R kk
  unfold tE
  intro pins s I
  subst hq
  obtain ⟨c, TB, hc⟩ := T.is
  have hfree' : ∀ y ∈ scope.names, y.2 = .free → ∃ c, X.env.cells.lookup y.1 = some c := fun y hy e => (hfree y hy e).elim (fun z => I.ok.has _ (.inl z)) fun z => I.ok.has _ (.inr z)
  refine lam_makeE (T := tabs M) I TB hc (tabs_mem.mpr hM) (rs_tab1 R hM) (rs_tabs R) hdef hfree' fun f c' pm ctv H1 s' I1 eN tN f0 f1 c1 => ⟨.ref f, H1, I1, rfl, ?_⟩
  have hn : ∀ c q, H1 c = some (LamX.CodeO c q) → c ∉ [f] := fun c q e z => by
    obtain rfl : c = f := by simpa using z
    rw [f1] at e
    unfold LamX.CodeO at e
    cases e
  obtain ⟨z1, z2, z3, kf⟩ := rs_extL (l := [f]) R eN tN (fun a ha => by
    have e : a = f := by simpa using ha
    rw [e]; exact f0) hn
  have hcF : c' ∉ [f] ++ Mem.F M := by
    rw [List.mem_append, not_or]
    refine ⟨hn c' _ c1, ?_⟩
    have := rs_extN R eN tN
    unfold LamX.CodeO at c1
    exact rs_noext this c1
  refine kk (.ref f) (.raw (.ref f)) _ H1 (k f) ⟨z1, z2, fun p hp => ?_, ?_⟩ (.raw _)
  · rcases List.mem_cons.mp hp with rfl | hp
    · refine ⟨c', none, #[], .none, pm, ctv, ?_, hcF, c1⟩
      rw [f1]
      unfold asX
      rw [zip_map_self, show cloFrom X.env.cells scope.names [] = _ from clo_eq _ _, List.append_nil]
    · exact z3 p hp
  · show ([f] ++ Mem.F M).Nodup
    refine List.nodup_append.mpr ⟨by simp, R.nd, fun x hx y hy e => ?_⟩
    obtain rfl : x = f := by simpa using hx
    subst e
    obtain ⟨o, z⟩ := R.inF hy
    rw [f0] at z; cases z
/-- the captured names are cells of the running frame, at the places js -/
structure LamCap (X : Cx) (fr : List Str) (js : List Nat) : Prop where
  nd : fr.Nodup
  cell : ∀ y ∈ fr, X.env.scope.names.lookup y = some .cell
  fn : X.fn = fun _ => true
  at_ : js.map (fun j => X.N[j]?) = fr.map some
theorem picks {κ : List (V × D)} {σ : L2.St} {H : Hp} (R : Rs κ δ M σ H) : ∀ {js : List Nat} {cs : List D}, js.map (fun j => δ[j]?) = cs.map (fun c => some (some c)) → ∃ vs : List V, js.map (fun j => σ[j]?) = vs.map (fun v => some (some v)) ∧ Reps M.F H vs cs
  | [], [], _ => ⟨[], rfl, .nil⟩
  | [], _ :: _, h => by simp at h
  | _ :: _, [], h => by simp at h
  | j :: js, c :: cs, h => by
    rw [List.map_cons, List.map_cons, List.cons.injEq] at h
    obtain ⟨v, ev, rv⟩ := R.get h.1
    obtain ⟨vs, e, r⟩ := picks R h.2
    exact ⟨v :: vs, by rw [List.map_cons, List.map_cons, ev, e], .cons rv r⟩
/-- g(.., f), f a lambda made here -/
theorem de_fL {m k n : Nat} {x : Str} {ks : List Str} {sel : Sel} {p : DSpE} (z : Cz X m) (f : DefEX X k x n ks sel p) (hk : k ≤ m) (hg : Gl X x)
    (h : DAK B X es kws δ M fun ds zs M1 => ds.length = n ∧ zs.length = ks.length ∧ ∃ (fa : Addr) (W : FW) (fr : List Str) (js : List Nat) (cs : List D) (M0 : Mem), M1 = (fa, .lam W fr (asX X fr)) :: M0 ∧ LamCap X fr js ∧ js.map (fun j => δ[j]?) = cs.map (fun c => some (some c)) ∧
      p (selD sel (ds ++ zs)) ((fa, .fnc W fr (asX X fr) cs) :: M0) (fun d M' => ∃ M2, M' = (fa, .fnc W fr (asX X fr) cs) :: M2 ∧ Φ d ((fa, .lam W fr (asX X fr)) :: M2)) (fun _ _ _ _ => False))
    (pl : PlA X pos es kws ks) (hdb : (x == ("__debug__" : Str)) = false := by decide) : DE B X (.Call (.Name x pp) es kws pos) δ M Φ := by
  obtain ⟨ga, h1, h2, h3⟩ := f.ex
  obtain ⟨fd, ps, cb, FO⟩ := h3.ex
  intro κ σ H Q hb R kk
  unfold tE
  intro pins s I
  refine wpAny_Call_Name_kw (ld_glob I hg h1 ?_ hdb)
  refine dak_run (first := []) h2 pl h I hb R fun us ws s2 vs zs ds es M1 H2 I2 rv rz hq2 R2 r1 r2 => ?_
  obtain ⟨l1, l2, fa, W, fr, js, cs, M0, rfl, cap, hcs, hp⟩ := hq2
  obtain ⟨as, has⟩ : ∃ as, as = asX X fr := ⟨_, rfl⟩
  rw [← has] at R2 r1 r2 hp
  have hcell : ∀ y ∈ fr, ∃ c, X.env.cells.lookup y = some c ∧ (X.env.cells.lookup y).getD 0 = c := fun y hy => by
    obtain ⟨c, hc⟩ := I2.ok.has y (.inl (cap.cell y hy))
    exact ⟨c, hc, by rw [hc]; rfl⟩
  have nA : ∀ a ∈ as, ∃ y, X.env.cells.lookup y = some a := fun a ha => by
    rw [has] at ha
    unfold asX at ha
    obtain ⟨y, hy, rfl⟩ := List.mem_map.mp ha
    obtain ⟨c, h1, h2⟩ := hcell y hy
    exact ⟨y, by rw [h2]; exact h1⟩
  have sA : ∀ a ∈ as, X.s_0.heap.objs.size ≤ a := fun a ha => by
    obtain ⟨y, e⟩ := nA a ha
    exact I2.ok.cab y a (by rw [cap.fn]) e
  have fA : ∀ a ∈ as, H2 a = none := fun a ha => by
    obtain ⟨y, e⟩ := nA a ha
    exact I2.freeC y a e
  have ndA : as.Nodup := by
    rw [has]
    unfold asX
    rw [List.nodup_iff_pairwise_ne, List.pairwise_map]
    refine (List.nodup_iff_pairwise_ne.mp cap.nd).imp_of_mem fun {a b} ha hb ne e => ne ?_
    obtain ⟨c, h1, h2⟩ := hcell a ha
    obtain ⟨d, h3, h4⟩ := hcell b hb
    have : c = d := by rw [← h2, ← h4]; exact e
    subst this
    exact I2.ok.inj a b c h1 h3
  obtain ⟨Hx, hHx⟩ : ∃ Hx : Hp, Hx = fun b => (s2.heap.get? b).map (Exact b) := ⟨_, rfl⟩
  have hHxe : ∀ {b o}, s2.heap.get? b = some o → Hx b = some (Exact b o) := fun {b o} e => by rw [hHx]; show (s2.heap.get? b).map _ = _; rw [e]; rfl
  obtain ⟨Hp', hHp⟩ : ∃ Hp' : Hp, Hp' = mix Hx H2 as := ⟨_, rfl⟩
  have i2 : ∀ {b}, b ∈ as → Hp' b = Hx b := fun {b} h => by rw [hHp, mix_in h]
  have o2 : ∀ {b}, b ∉ as → Hp' b = H2 b := fun {b} h => by rw [hHp, mix_out h]
  have nl : ∀ {b : Addr} {o : HO}, H2 b = some o → b ∉ as := fun {b o} e z => by rw [fA b z] at e; cases e
  have exA : ∀ a ∈ as, ∃ o, s2.heap.get? a = some o ∧ Hp' a = some (Exact a o) := fun a ha => by
    obtain ⟨y, e⟩ := nA a ha
    obtain ⟨v, o, ho, _⟩ := I2.cell y a e
    exact ⟨o, ho, (i2 ha).trans (hHxe ho)⟩
  have nfr : ∀ b ∈ frs X.stack, b ∉ as := fun b hb z => by
    obtain ⟨y, e⟩ := nA b z
    rcases List.mem_cons.mp (I2.stkSub b hb) with q | q
    · exact I2.cne y b e q
    · obtain ⟨_, o, ho, _⟩ := I2.ok.funs.mem q
      exact absurd (Heap.lt_size ho) (Nat.not_lt.mpr (sA b z))
  have hokP : HOk X.prog X.w Hp' s2.heap := fun b o e => by
    by_cases hb : b ∈ as
    · obtain ⟨ob, ho, e2⟩ := exA b hb
      rw [e2] at e; cases e
      exact exact_ok ho
    · rw [o2 hb] at e
      exact (I2.hok b o e).stay (fun _ _ _ q => q) (fun c q => (o2 (nl q)).trans q) fun c xs q => (o2 (nl q)).trans q
  have E0 : Env0 X.prog X.w X.K X.mg X.base X.A X.stack s2 Hp' := by
    have e := I2.env0
    refine ⟨e.frames, e.mod, fun b o q => ⟨(e.bs b o q).1, ?_⟩, e.bsz, e.funs, fun b hb => (o2 (nfr b hb)).trans (e.frf b hb), hokP, e.bare⟩
    rw [o2 fun z => absurd (Heap.lt_size q) (Nat.not_lt.mpr (Nat.le_trans I2.ok.bsz (sA b z)))]
    exact (e.bs b o q).2
  have kf : Fwd ([fa] ++ Mem.F M0) H2 ((fa :: as) ++ Mem.F M0) Hp' := fun a o ha e _ => by
    have n := nl e
    rw [List.mem_append, not_or] at ha
    refine ⟨?_, (o2 n).trans e⟩
    rw [List.mem_append, not_or, List.mem_cons, not_or]
    exact ⟨⟨fun z => ha.1 (by rw [z]; exact List.mem_cons_self), n⟩, ha.2⟩
  obtain ⟨cvs, hcv, rcv⟩ := picks R2 hcs
  have R2p := R2.pack
  have hfa := R2.cl _ List.mem_cons_self
  obtain ⟨c, od, sl, doc, pm, ctv, e1, hcF, e2⟩ := hfa
  have hcF : c ∉ [fa] ++ Mem.F M0 := hcF
  have ndM : ([fa] ++ Mem.F M0).Nodup := R2.nd
  have faA : fa ∉ as := nl e1
  have lenJ : js.length = fr.length := by
    have := congrArg List.length cap.at_
    rwa [List.length_map, List.length_map] at this
  have lenV : cvs.length = js.length := by
    have := congrArg List.length hcv
    rw [List.length_map, List.length_map] at this
    exact this.symm
  have R3 : Rs (κ ++ sk σ δ) [] ((fa, .fnc W fr as cs) :: M0) [] Hp' := by
    refine ⟨fun q hq => (R2p.kp q hq).fwd kf, .nil, fun q hq => ?_, ?_⟩
    · rcases List.mem_cons.mp hq with rfl | hq
      · refine ⟨c, od, sl, doc, pm, ctv, cvs, (o2 faA).trans e1, (kf _ _ hcF e2 (fun _ z => by unfold LamX.CodeO at z; cases z)).1, (kf _ _ hcF e2 (fun _ z => by unfold LamX.CodeO at z; cases z)).2, by rw [has]; unfold asX; rw [List.length_map], cap.nd, by rw [lenV, lenJ, has]; unfold asX; rw [List.length_map], fun pr hpr => ?_, rcv.fwd kf⟩
        obtain ⟨ix, hix⟩ := List.mem_iff_getElem?.mp hpr
        rw [List.getElem?_zip_eq_some] at hix
        obtain ⟨g1, g2⟩ := hix
        have g1' := g1
        rw [has] at g1
        unfold asX at g1
        rw [List.getElem?_map] at g1
        cases ey : fr[ix]? with
        | none => rw [ey] at g1; cases g1
        | some y =>
          rw [ey] at g1
          have g1 : (X.env.cells.lookup y).getD 0 = pr.1 := Option.some.inj g1
          cases ej : js[ix]? with
          | none =>
            have : ix < js.length := by rw [lenJ]; exact (List.getElem?_eq_some_iff.mp ey).1
            rw [List.getElem?_eq_none_iff] at ej
            omega
          | some j =>
            have hNj : X.N[j]? = some y := by
              have := congrArg (fun l : List (Option Str) => l[ix]?) cap.at_
              simp only [List.getElem?_map, ej, ey, Option.map_some] at this
              exact Option.some.inj this
            have hsj : σ[j]? = some (some pr.2) := by
              have := congrArg (fun l : List (Option (Option V)) => l[ix]?) hcv
              simp only [List.getElem?_map, ej, g2, Option.map_some] at this
              exact Option.some.inj this
            have hyc := cap.cell y (List.mem_of_getElem? ey)
            obtain ⟨m0, hns, hlk⟩ := I2.loc
            obtain ⟨u, ru, lk⟩ := hlk j y pr.2 hNj hsj (.inr (.inl hyc))
            obtain ⟨c0, hc0, ho⟩ : ∃ c, X.env.cells.lookup y = some c ∧ s2.heap.IsCell c (some u) := by
              rcases lk with ⟨k1, _⟩ | ⟨_, c, q1, q2⟩
              · rw [show X.env.kindOf y = some .cell from hyc] at k1; cases k1
              · exact ⟨c, q1, q2⟩
            have hca : pr.1 = c0 := by rw [← g1, hc0]; rfl
            obtain ⟨oc, ho1, ho2⟩ := ho
            refine ⟨oc, u, ?_, ho2, ru⟩
            rw [i2 (List.mem_of_getElem? g1'), hca, hHxe ho1]
      · refine (R2.cl q (List.mem_cons_of_mem _ hq)).fwd kf fun x hx => ?_
        obtain ⟨o, eo⟩ := R2.inF (show x ∈ Mem.F ((fa, Cell.lam W fr as) :: M0) from List.mem_append_right _ (List.mem_flatMap.mpr ⟨q, hq, hx⟩))
        exact o2 (nl eo)
    · show ((fa :: as) ++ Mem.F M0).Nodup
      refine List.nodup_append.mpr ⟨List.nodup_cons.mpr ⟨faA, ndA⟩, (List.nodup_append.mp ndM).2.1, fun x hx y hy e => ?_⟩
      subst e
      rcases List.mem_cons.mp hx with rfl | hx
      · exact (List.nodup_append.mp ndM).2.2 x (by simp) x hy rfl
      · obtain ⟨o, eo⟩ := R2.inF (show x ∈ Mem.F ((fa, Cell.lam W fr as) :: M0) from List.mem_append_right _ hy)
        rw [fA x hx] at eo; cases eo
  obtain ⟨all, so, bt⟩ := cb.to s2 us ws I2.kIn (by rw [← rv.length, r1.length]; exact l1) (by rw [← rz.length, r2.length]; exact l2)
  have rr := so.vals (rv.append rz)
  have rd := so.reps (rv.append rz).length ((r1.fwd kf).append (r2.fwd kf))
  have hlift : liftE p (selV sel (vs ++ zs)) Hp' (fun v H' => ∃ d M2, Φ d ((fa, .lam W fr as) :: M2) ∧ Rs (κ ++ sk σ δ) [] ((fa, .fnc W fr as cs) :: M2) [] H' ∧ Rep ((fa :: as) ++ Mem.F M2) H' v d) (fun _ _ _ => False) :=
    ⟨κ ++ sk σ δ, _, _, _, _, R3, rd, hp, fun v d M' H' hφ R' r' => by
      obtain ⟨M2, rfl, hΦ⟩ := hφ
      exact ⟨d, M2, hΦ, R', r'⟩, fun _ _ _ _ _ _ z => z.elim⟩
  refine wpAny_call (codeAny_mono (FO.run X.A X.stack s2 Hp' ⟨us, ks.zip ws⟩ all _ _ _ (z.room.mono hk) E0 bt rr hlift) fun r s' hq => ?_)
  cases r with
  | error e =>
    obtain ⟨a, B, H', cls, d, _, _, _, _, _, _, _, hE⟩ := hq
    exact hE.elim
  | ok fl =>
    cases fl with
    | ret u =>
      obtain ⟨v, H', os, bare, un, hok', ru, d, M2, hΦ, R5, r5⟩ := hq
      have ex' : ∀ a ∈ as, ∃ o, H' a = some (Exact a o) ∧ s2.heap.get? a = some o := fun a ha => by
        obtain ⟨o, ho, e⟩ := exA a ha
        exact ⟨o, un.frzs a o _ e, ho⟩
      have nx : ∀ {b : Addr} {u : HO}, H' b = some u → (∀ o, u ≠ Exact b o) → b ∉ as := fun {b u} q n z => by
        obtain ⟨o, q', _⟩ := ex' b z
        rw [q] at q'
        exact n o (Option.some.inj q')
      have hok2 : HOk X.prog X.w (les H' as) s'.heap := fun b o q => by
        obtain ⟨_, q⟩ := les_some q
        exact (hok' b o q).stay (fun _ _ _ z => z) (fun c z => (les_out (nx z fun _ y => nomatch y)).trans z) fun c xs z => (les_out (nx z fun _ y => nomatch y)).trans z
      have un2 : Un (frs X.stack) [] H2 (les H' as) s2.heap s'.heap := by
        refine ⟨fun b o e n hb hx => ?_, fun b o e n hb hx => un.slot b o e ((o2 (nfr b hb)).trans n) hb hx, fun b o e n hx => ?_, un.there, fun b xs e => ?_, fun b o u e => ?_, fun b ps e => ?_⟩
        · by_cases hba : b ∈ as
          · obtain ⟨o', q1, q2⟩ := ex' b hba
            rw [e] at q2; cases q2
            exact (hok' b _ q1).1
          · exact un.keep b o e ((o2 hba).trans n) hb hx
        · by_cases hba : b ∈ as
          · exact les_in hba
          · exact (les_out hba).trans (un.free b o e ((o2 hba).trans n) hx)
        · have := nl e
          exact (les_out this).trans (un.tups b xs ((o2 this).trans e))
        · have := nl e
          exact (les_out this).trans (un.frzs b o u ((o2 this).trans e))
        · have := nl e
          obtain ⟨mo, q⟩ := un.tbls b ps ((o2 this).trans e)
          exact ⟨mo, (les_out this).trans q⟩
      obtain ⟨v', H3, I3, rv3, q3, q4⟩ := I2.after (Q := fun v' H'' => v' = v ∧ H'' = les H' as) ⟨v, _, os, bare, un2, hok2, ru, rfl, rfl⟩
      subst q3
      subst q4
      have kb : Fwd ((fa :: as) ++ Mem.F M2) H' ([fa] ++ Mem.F M2) (les H' as) := fun a o ha e _ => by
        rw [List.mem_append, not_or, List.mem_cons, not_or] at ha
        refine ⟨?_, (les_out ha.1.2).trans e⟩
        rw [List.mem_append, not_or]
        exact ⟨fun z => ha.1.1 (by simpa using z), ha.2⟩
      have nd5 : ((fa :: as) ++ Mem.F M2).Nodup := R5.nd
      have hL : ((as ++ [fa]) ++ Mem.F M2).Nodup := (List.perm_append_comm (l₁ := [fa]) (l₂ := as)).append_right _ |>.nodup_iff.mp nd5
      have R6 : Rs (κ ++ sk σ δ) [] ((fa, .lam W fr as) :: M2) [] (les H' as) := by
        refine ⟨fun q hq => (R5.kp q hq).fwd kb, .nil, fun q hq => ?_, ?_⟩
        · rcases List.mem_cons.mp hq with rfl | hq
          · obtain ⟨c, od, sl, doc, pm, ctv, vs, e1, hcF, e2, _⟩ := R5.cl _ List.mem_cons_self
            exact ⟨c, od, sl, doc, pm, ctv, (les_out faA).trans e1, (kb _ _ hcF e2 (fun _ z => by unfold LamX.CodeO at z; cases z)).1, (kb _ _ hcF e2 (fun _ z => by unfold LamX.CodeO at z; cases z)).2⟩
          · refine (R5.cl q (List.mem_cons_of_mem _ hq)).fwd kb fun x hx => les_out fun z => ?_
            exact (List.nodup_append.mp nd5).2.2 x (List.mem_cons_of_mem _ z) x (List.mem_flatMap.mpr ⟨q, hq, hx⟩) rfl
        · show ([fa] ++ Mem.F M2).Nodup
          refine List.nodup_append.mpr ⟨by simp, (List.nodup_append.mp nd5).2.1, fun x hx y hy e => ?_⟩
          obtain rfl : x = fa := by simpa using hx
          exact (List.nodup_append.mp nd5).2.2 x List.mem_cons_self y hy e
      exact ⟨v', _, I3, rv3, kk v' d _ _ hΦ (R2.unpack R6) (r5.fwd kb)⟩
    | next => exact False.elim hq
    | brk => exact False.elim hq
    | cont => exact False.elim hq
end
end Hl
namespace Hl
open PySem L2
open PyProof.Rows hiding St
section
variable {B : Bx} {X : Cx} {b : Expr} {es : List Expr} {δ : Env'} {M : Mem} {pos : Pos} {ΦL : List D → Mem → Prop}
/-- [..] * n as a new list -/
theorem df_rep {p : Pos} (h : DE B X (.List es p) δ M fun x M1 => DE B X b δ M1 fun y M2 => ∃ (ds : List D) (n : Int), x = .lst ds ∧ y = .int n ∧ (-(2 ^ 63) ≤ n ∧ n < 2 ^ 63 ∧ ds.length * n.toNat ≤ sizeLine) ∧ ΦL (List.replicate n.toNat ds).flatten M2) : DF B X (.BinOp (.List es p) .Mult b pos) δ M ΦL :=
  .of (pe_op op_rep cE cE) fun κ σ H Q hb R k => h κ σ H _ hb R fun v x M1 H1 q1 R1 r1 => q1 ((v, x) :: κ) σ H1 _ (fun q hq => List.mem_cons_of_mem _ (hb q hq)) (R1.push r1) fun w y M2 H2 ⟨ds, n, e1, e2, hl, q2⟩ R2 r2 => by
    subst e1
    subst e2
    cases r2
    have r3 := R2.top
    cases r3 with
    | lst h1 e1 rr =>
      refine ⟨_, n, _, rfl, rfl, e1, hl.1, hl.2.1, by rw [rr.length]; exact hl.2.2, fun p hp => ?_⟩
      exact k p _ M2 _ q2 (R2.pop.lst (rr.repl n.toNat) hp)
end
end Hl
namespace Lw
open PySem L2 Hl
local macro_rules | `(tactic| kpc_text) => `(tactic| first | refine dj_cons ?_ | refine dj_nil ?_ | ((with_reducible refine idJn ?_); refine jn_mk (Nat.le_trans (show _ ≤ 1000 by simp only [PySem.Str.length_append]; omega) (by decide)) ?_) | ((with_reducible refine idFm ?_); first | ((with_reducible refine idFmS ?_); refine fm_s (by kdf_acc) ?_) | refine fm_i (by assumption) ?_))
local macro_rules | `(tactic| kpc_text) => `(tactic| ((with_reducible refine idXn ?_); first | refine xn_10 ?_ | refine xn_01 ?_ | refine xn_02 ?_ | refine xn_04 ?_))
/-! ### the steps of a walk by data -/
local macro_rules | `(tactic| kat_pair) => `(tactic| first | assumption | exact LoP.toNmP (by assumption))
local macro_rules | `(tactic| kas_out) => `(tactic| first
  | ((with_reducible refine idName ?_); first | refine de_name (by kat_pair) (by rfl) ?_ | refine de_gint (by assumption) ?_ | refine de_gstr (by assumption) ?_ | kat_known | refine de_gclsP (by assumption) (by assumption) ?_)
  | ((with_reducible refine idCst ?_); first | refine de_int ?_ | refine de_str ?_ | refine de_bl ?_ | refine de_non ?_)
  | ((with_reducible refine idBin ?_); first | refine de_repD ?_ | refine de_add ?_ | refine de_sub ?_ | refine de_mul ?_ | refine de_div ?_ | refine de_mod ?_ | refine de_pow ?_)
  | ((with_reducible refine idCmp ?_); first | refine de_lt ?_ | refine de_le ?_ | refine de_gt ?_ | refine de_ge ?_ | refine de_eq (by assumption) ?_ | refine de_ne (by assumption) ?_ | refine de_isB ?_ | refine de_is ?_ | refine de_isnotB ?_ | refine de_isnot ?_ | refine de_in (by assumption) ?_ | refine de_notin (by assumption) ?_ | refine de_le2C ?_ | refine de_le2 ?_)
  | refine de_rev ?_ | refine de_slice ?_
  | refine de_ix (by assumption) ?_
  | ((with_reducible refine idCallN ?_); first | kll_open | refine de_len (by assumption) ?_ | refine de_min2 (by assumption) (by assumption) ?_ | refine de_min3 (by assumption) (by assumption) ?_ | refine de_max2 (by assumption) (by assumption) ?_ | refine de_isiV (by assumption) ?_ | refine de_sum (by assumption) (by assumption) ?_ | refine de_list (by assumption) ?_ | refine de_tuple (by assumption) ?_ | refine de_maxDef (by assumption) (by assumption) ?_ (un64 (by assumption)) | refine de_minL (by assumption) (by assumption) ?_ | refine de_maxL (by assumption) (by assumption) ?_ | refine de_all (by assumption) (by assumption) ?_)
  | ((with_reducible refine idAttr ?_); refine de_fld ?_)
  | ((with_reducible refine idCallA ?_); first | refine de_append ?_ | refine de_insert ?_ | refine de_pop ?_ | kbu_src | refine de_mU (by assumption) ?_)
  | refine de_and ?_ | refine de_or ?_ | refine de_not ?_ | refine de_one ?_ | refine de_if ?_ | refine de_neg ?_
  | refine de_tup ?_ | refine de_lst ?_)
open PyProof.Rows in
local macro_rules | `(tactic| kat_known) => `(tactic| first | refine de_tyN (T := "int") (by assumption) boot_int ?_ | refine de_tyN (T := "ValueError") (by assumption) (by decide +kernel) ?_ | refine de_tyN (T := "str") (by assumption) (by decide +kernel) ?_ | refine de_tyN (T := "bool") (by assumption) boot_bool ?_ | refine de_tyN (T := "list") (by assumption) boot_list ?_ | refine de_tyN (T := "tuple") (by assumption) boot_tuple ?_)
local macro_rules | `(tactic| kc_free) => `(tactic| first | exact .own _ | exact .ty _)
local macro_rules | `(tactic| kcj_rest) => `(tactic| fail "no rule")
local macro_rules | `(tactic| kll_here) => `(tactic| fail "no callee")
local macro_rules | `(tactic| kll_open) => `(tactic| first | refine de_call (by assumption) (by assumption) (by decide) (by assumption) ?_ | refine de_callK (by assumption) (by assumption) (by decide) (by assumption) ?_ | refine de_fS (by assumption) (by assumption) (by decide) (by assumption) (by kas_known) ?_ (by kat_eight) | refine de_kS 0 (by assumption) (by assumption) (by decide) (by assumption) (by kas_known) ?_ (by kat_eight))
local macro_rules | `(tactic| kas_known) => `(tactic| first | exact lets_at (by assumption) | exact lets_no)
local macro_rules | `(tactic| kat_eight) => `(tactic| first | exact rfl | exact ⟨rfl, rfl, rfl⟩ | exact ⟨rfl, rfl, rfl, rfl⟩)
local macro_rules | `(tactic| kbu_src) => `(tactic| first | refine de_dget2 (by assumption) ?_)
local macro_rules | `(tactic| kcf_look) => `(tactic| first | refine fld_v (by assumption) rfl ?_ | refine fld_x (by assumption) rfl ?_ | refine fld_c 0 rfl (by assumption) rfl ?_ | refine fld_c 1 rfl (by assumption) rfl ?_ | refine fld_c 2 rfl (by assumption) rfl ?_ | refine fld_c 3 rfl (by assumption) rfl ?_ | refine fld_c 4 rfl (by assumption) rfl ?_ | refine fld_c 5 rfl (by assumption) rfl ?_ | refine fld_c 6 rfl (by assumption) rfl ?_ | refine fld_c 7 rfl (by assumption) rfl ?_ | refine fld_c 8 rfl (by assumption) rfl ?_ | refine fld_h 0 rfl (by assumption) rfl ?_ | refine fld_h 1 rfl (by assumption) rfl ?_ | refine fld_h 2 rfl (by assumption) rfl ?_ | refine fld_h 3 rfl (by assumption) rfl ?_ | refine fld_h 4 rfl (by assumption) rfl ?_ | refine fld_p 0 rfl (by assumption) (by assumption) rfl ?_ | refine fld_p 1 rfl (by assumption) (by assumption) rfl ?_ | refine fld_p 2 rfl (by assumption) (by assumption) rfl ?_ | refine fld_p 3 rfl (by assumption) (by assumption) rfl ?_)
local macro_rules | `(tactic| kci_src) => `(tactic| first | refine mt_vS (by assumption) (by decide) (by kas_known) (by kat_eight) (by rfl) ?_ | refine mt_cS 0 rfl (by assumption) (by decide) (by kas_known) (by kat_eight) (by rfl) ?_ | refine mt_cS 1 rfl (by assumption) (by decide) (by kas_known) (by kat_eight) (by rfl) ?_ | refine mt_cS 2 rfl (by assumption) (by decide) (by kas_known) (by kat_eight) (by rfl) ?_ | refine mt_cS 3 rfl (by assumption) (by decide) (by kas_known) (by kat_eight) (by rfl) ?_ | refine mt_cS 4 rfl (by assumption) (by decide) (by kas_known) (by kat_eight) (by rfl) ?_ | refine mt_cS 5 rfl (by assumption) (by decide) (by kas_known) (by kat_eight) (by rfl) ?_ | refine mt_cS 6 rfl (by assumption) (by decide) (by kas_known) (by kat_eight) (by rfl) ?_ | refine mt_cS 7 rfl (by assumption) (by decide) (by kas_known) (by kat_eight) (by rfl) ?_ | refine mt_cS 8 rfl (by assumption) (by decide) (by kas_known) (by kat_eight) (by rfl) ?_ | refine mt_cS 9 rfl (by assumption) (by decide) (by kas_known) (by kat_eight) (by rfl) ?_ | refine mt_cS 10 rfl (by assumption) (by decide) (by kas_known) (by kat_eight) (by rfl) ?_ | refine mt_hS 0 rfl (by assumption) (by decide) (by kas_known) (by kat_eight) (by rfl) ?_ | refine mt_hS 1 rfl (by assumption) (by decide) (by kas_known) (by kat_eight) (by rfl) ?_ | refine mt_hS 2 rfl (by assumption) (by decide) (by kas_known) (by kat_eight) (by rfl) ?_ | refine mt_hS 3 rfl (by assumption) (by decide) (by kas_known) (by kat_eight) (by rfl) ?_ | refine mt_hS 4 rfl (by assumption) (by decide) (by kas_known) (by kat_eight) (by rfl) ?_ | refine mt_pS 0 rfl (by assumption) (by assumption) (by decide) (by kas_known) (by kat_eight) (by rfl) ?_ | refine mt_pS 1 rfl (by assumption) (by assumption) (by decide) (by kas_known) (by kat_eight) (by rfl) ?_ | refine mt_pS 2 rfl (by assumption) (by assumption) (by decide) (by kas_known) (by kat_eight) (by rfl) ?_ | refine mt_pS 3 rfl (by assumption) (by assumption) (by decide) (by kas_known) (by kat_eight) (by rfl) ?_)
local macro_rules | `(tactic| kcj_has) => `(tactic| first | refine ar_id rfl ?_ | refine ar_idM rfl ?_ | refine ar_idN rfl (fun _ => ?_) | refine ar_gM rfl rfl ?_ | refine ar_gN rfl rfl (fun _ => ?_) | refine ar_g rfl rfl ?_)
local macro_rules | `(tactic| kcp_comp) => `(tactic| exact eq_false (by decide))
local macro_rules | `(tactic| kct_comp) => `(tactic| first | refine sf_n0 0 rfl (by assumption) ?_ | refine sf_n1 0 rfl (by assumption) (by kcp_comp) ?_ | refine sf_n2 0 rfl (by assumption) (by kcp_comp) (by kcp_comp) ?_ | refine sf_n3 0 rfl (by assumption) (by kcp_comp) (by kcp_comp) (by kcp_comp) ?_ | refine sf_n4 0 rfl (by assumption) (by kcp_comp) (by kcp_comp) (by kcp_comp) (by kcp_comp) ?_ | refine sf_n5 0 rfl (by assumption) (by kcp_comp) (by kcp_comp) (by kcp_comp) (by kcp_comp) (by kcp_comp) ?_)
local macro_rules | `(tactic| kde_deep) => `(tactic| first | refine p10_1 ?_ | refine p10_2 ?_ | refine p10_3 ?_ | refine p10_4 ?_ | refine p10_5 ?_ | refine p10_6 ?_ | refine p10_7 ?_ | refine p10_8 ?_ | refine p10_9 ?_ | refine p10_10 ?_ | refine p10_11 ?_ | refine p10_12 ?_ | refine p10_13 ?_ | refine p10_14 ?_ | refine p10_15 ?_ | refine p10_16 ?_ | refine p10_17 ?_ | refine p10_18 ?_ | refine p10_19 ?_ | refine p10_20 ?_ | refine p10_21 ?_ | refine p10_22 ?_ | refine p10_23 ?_ | refine p10_24 ?_ | refine p10_25 ?_ | refine p10_26 ?_ | refine p10_27 ?_ | refine p10_28 ?_ | refine p10_29 ?_ | refine p10_30 ?_ | refine p10_31 ?_ | refine p10_32 ?_ | refine p10_33 ?_ | refine p10_34 ?_ | refine p10_35 ?_ | refine p10_36 ?_ | refine p10_37 ?_ | refine p10_38 ?_ | refine p10_39 ?_ | refine p10_40 ?_ | refine p10_41 ?_ | refine p10_42 ?_ | refine p10_43 ?_ | refine p10_44 ?_ | refine p10_45 ?_)
local macro_rules | `(tactic| kdf_acc) => `(tactic| (refine len_lt ?_; first | omega | (simp only [List.length_map, List.length_append, List.length_cons, List.length_nil, List.length_range, List.length_replicate]; omega)))
local macro_rules | `(tactic| kdn_look) => `(tactic| first | assumption | omega | (refine ⟨?_, ?_⟩ <;> first | assumption | omega) | (refine ⟨?_, ?_, ?_⟩ <;> first | assumption | omega))
local macro_rules | `(tactic| kdo_here) => `(tactic| first | assumption | omega | (intro hh; simp_all; done))
local macro_rules | `(tactic| kl_lit) => `(tactic| first | refine od_ixT rfl ?_ | refine od_ixTE (by kpr_look) (fun _ _ => ?_) | refine od_ixE (by kpr_look) (fun _ _ => ?_) | refine od_ixEC 0 rfl (by kpr_look) (fun _ _ => ?_) | refine od_ixEC 1 rfl (by kpr_look) (fun _ _ => ?_) | refine od_ixEC 2 rfl (by kpr_look) (fun _ _ => ?_) | refine od_ixEC 3 rfl (by kpr_look) (fun _ _ => ?_))
local macro_rules | `(tactic| kln_w) => `(tactic| first
  | refine isl_c 0 rfl ?_ | refine isl_c 1 rfl ?_ | refine isl_c 2 rfl ?_ | refine isl_c 3 rfl ?_ | refine isl_c 4 rfl ?_ | refine isl_c 5 rfl ?_ | ((with_reducible refine idSet ?_); first | refine sd_listE 0 rfl (by kpr_look) rfl ?_ | refine sd_listE 1 rfl (by kpr_look) rfl ?_ | refine sd_listE 2 rfl (by kpr_look) rfl ?_ | refine sd_listE 3 rfl (by kpr_look) rfl ?_ | refine sd_dictI 0 rfl (by kdf_acc) ?_ | refine sd_dictI 1 rfl (by kdf_acc) ?_ | refine sd_dictI 2 rfl (by kdf_acc) ?_ | refine sd_dictS 0 rfl (by kdf_acc) ?_ | refine sd_dictS 1 rfl (by kdf_acc) ?_ | refine sd_dictS 2 rfl (by kdf_acc) ?_) | refine isd_c 0 rfl ?_ | refine isd_c 1 rfl ?_ | refine isd_c 2 rfl ?_ | refine isd_c 3 rfl ?_ | refine dg_i 0 rfl ?_ | refine dg_i 1 rfl ?_ | refine dg_i 2 rfl ?_ | refine dg_i 3 rfl ?_ | refine dg_s 0 rfl ?_ | refine dg_s 1 rfl ?_ | refine dg_s 2 rfl ?_ | refine dg_s 3 rfl ?_
  | ((with_reducible refine idApp ?_); first | refine mt_app (j := 0) rfl (by kdf_acc) ?_ | refine mt_app (j := 1) rfl (by kdf_acc) ?_ | refine mt_app (j := 2) rfl (by kdf_acc) ?_ | refine mt_app (j := 3) rfl (by kdf_acc) ?_ | refine mt_app (j := 4) rfl (by kdf_acc) ?_ | refine mt_app (j := 5) rfl (by kdf_acc) ?_))
local macro_rules | `(tactic| kpc_text) => `(tactic| first | ((with_reducible refine idLk ?_); first | refine lkle ?_ | refine lklt ?_ | refine lk1le ?_ | refine lk1lt ?_ | refine lkgt ?_ | refine lkge ?_ | refine lk1gt ?_ | refine lk1ge ?_) | ((with_reducible refine idTC ?_); refine dt_chn ?_) | ((with_reducible refine idCmp ?_); refine de_chn ?_) | ((with_reducible refine idFld ?_); refine fld_o (by assumption) (by assumption) rfl ?_) | ((with_reducible refine idMt ?_); refine mt_oS (by assumption) (by assumption) (by decide) (by kas_known) (by kat_eight) (by rfl) ?_) | ((with_reducible refine idC ?_); first | refine cd_lenLM (.val _) ?_ | refine cd_lenLM (.cell 0 rfl) ?_ | refine cd_lenLM (.cell 1 rfl) ?_ | refine cd_lenLM (.cell 2 rfl) ?_) | kx_any | ((with_reducible refine idOx ?_); kl_lit) | kln_w)
local macro_rules | `(tactic| kpr_look) => `(tactic| first | exact ⟨by omega, by omega⟩ | exact ⟨by simp; omega, by simp; omega⟩)
local macro_rules | `(tactic| kri_at) => `(tactic| fail "no rule")
local macro_rules | `(tactic| krs_unr) => `(tactic| first
  | ((with_reducible refine idOx ?_); first | refine st_great ?_ | refine st_rest ?_ | refine st_turn ?_ | refine st_seed ?_ | refine st_cells ?_ | kri_at)
  | refine od_addI ?_ | refine od_sub ?_ | refine od_lt ?_ | refine od_le ?_ | refine od_gt ?_ | refine od_ge ?_ | refine od_eqI ?_ | refine od_neI ?_ | refine od_isN ?_ | refine od_isB ?_ | refine od_notB ?_ | refine od_notN ?_ | refine oi_addI ?_ | refine od_inS ?_ | refine od_notinS ?_ | refine od_inN (.val _) ?_ | refine od_notinN (.val _) ?_ | refine od_mod (by omega) ?_ | refine od_mulS (by omega) ?_ | refine od_divS (by omega) (by omega) ?_ | kde_deep | kri_at)
local macro_rules | `(tactic| ks_is) => `(tactic| first | refine se0 ?_ | refine se1 ?_ | refine se2 ?_ | refine se3 ?_ | refine se4 ?_ | refine se5 ?_ | refine se6 ?_ | refine se7 ?_ | refine se8 ?_ | refine se9 ?_ | refine se10 ?_ | refine se11 ?_ | refine se12 ?_ | refine se13 ?_ | refine se14 ?_ | refine se15 ?_ | refine se16 ?_ | refine se17 ?_ | refine se18 ?_ | refine se19 ?_ | refine se20 ?_ | refine se21 ?_ | refine se22 ?_ | refine se23 ?_ | refine se24 ?_ | refine se25 ?_ | refine se26 ?_ | refine se27 ?_ | refine se28 ?_ | refine se29 ?_ | refine se30 ?_ | refine se31 ?_ | refine se32 ?_ | refine se33 ?_ | refine se34 ?_ | refine se35 ?_)
local macro_rules | `(tactic| kts_sub) => `(tactic| first | refine Br.yes ?_ | refine Br.no ?_ | refine Br.decT (by omega) ?_ | refine Br.decF (by omega) ?_ | refine Br.ndecT (by omega) ?_ | refine Br.ndecF (by omega) ?_ | refine Br.dec (fun _ => ?_) (fun _ => ?_) | refine Br.ndec (fun _ => ?_) (fun _ => ?_) | refine Br.neg ?_ | refine Br.mk (fun _ => ?_) (fun _ => ?_))
local macro_rules | `(tactic| kx_any) => `(tactic| first
  | ((with_reducible refine idE ?_); kas_out)
  | ((with_reducible refine idO ?_); krs_unr)
  | ((with_reducible refine idA ?_); first | refine da_cons ?_ | refine da_nil ?_)
  | ((with_reducible refine idSs ?_); first | refine ds_cons ?_ | refine ds_nil ?_)
  | ((with_reducible refine idSl ?_); ks_is)
  | ((with_reducible refine idFld ?_); kcf_look)
  | ((with_reducible refine idUns ?_); first | refine ua0 ?_ | refine ua1 ?_ | refine ua2 ?_ | refine ua3 ?_ | refine ua4 ?_ | refine ua5 ?_ | refine ua6 ?_ | refine ua7 ?_ | refine ua8 ?_ | refine ua9 ?_ | refine ua10 ?_ | refine ua11 ?_ | refine ua12 ?_ | refine ua13 ?_ | refine ua14 ?_ | refine ua15 ?_ | refine ua16 ?_ | refine ua17 ?_ | refine ua18 ?_ | refine ua19 ?_ | refine ua20 ?_ | refine ua21 ?_ | refine ua22 ?_ | refine ua23 ?_)
  | ((with_reducible refine idMt ?_); kci_src)
  | ((with_reducible refine idStF ?_); first | kct_comp | kcj_rest)
  | ((with_reducible refine idDAK ?_); first | refine dak_en ?_ | refine dak_nn ?_ | refine dak_nk ?_ | refine dak_ek ?_)
  | ((with_reducible refine idS ?_); first
    | ((with_reducible refine idAsg ?_); first | refine ds_set (by assumption) (by assumption) ?_ | refine ds_setN (by assumption) (by assumption) ?_ | refine ds_fldU ?_ | refine ds_par2 (by assumption) (by assumption) (by assumption) (by decide) (kind_of (by assumption) (by decide +kernel)) (kind_of (by assumption) (by decide +kernel)) (blk_of (by assumption) (by decide +kernel)) (by decide) ?_ | refine ds_par3 (by assumption) (by assumption) (by assumption) (by assumption) (by decide) (by decide) (by decide) (kind_of (by assumption) (by decide +kernel)) (kind_of (by assumption) (by decide +kernel)) (kind_of (by assumption) (by decide +kernel)) (blk_of (by assumption) (by decide +kernel)) (by decide) (by decide) (by decide) ?_ | refine ds_asgC ?_ | refine ds_asg ?_)
    | ((with_reducible refine idRaise ?_); first | refine ds_raise (by assumption) (by assumption) (by assumption) (by assumption) ?_ | refine ds_raiseI (by assumption) (by decide) (by assumption) (by assumption) (by assumption) ?_ | refine ds_raise0 (by assumption) (by assumption) (by assumption) (by assumption) ?_)
    | refine ds_ret ?_ | refine ds_if ?_ | refine ds_expr ?_
    | refine ds_augAdd (by assumption) (by assumption) (by rfl) ?_ | refine ds_augSub (by assumption) (by assumption) (by rfl) ?_
    | refine ds_pass ?_ | refine ds_retN ?_ | refine ds_break ?_ | refine ds_continue ?_)
  | ((with_reducible refine idBr ?_); kts_sub)
  | ((with_reducible refine idTC ?_); first | refine dt_lt ?_ | refine dt_le ?_ | refine dt_gt ?_ | refine dt_ge ?_ | refine dt_eq (by assumption) ?_ | refine dt_ne (by assumption) ?_ | refine dt_isB ?_ | refine dt_is ?_ | refine dt_isnotB ?_ | refine dt_isnot ?_ | refine dt_in (by assumption) ?_ | refine dt_notin (by assumption) ?_ | refine dt_val ?_)
  | ((with_reducible refine idT ?_); first | refine dt_not ?_ | refine dt_and ?_ | refine dt_or ?_ | refine dt_val ?_)
  | ((with_reducible refine idW ?_); first | refine dw_and1 ?_ | refine dw_or1 ?_ | refine dw_and ?_ | refine dw_or ?_)
  | ((with_reducible refine idC ?_); first | refine cd_min2 ?_ | refine cd_min3 ?_ | refine cd_max2 ?_ | (refine CallD.inl (CallD.inl ?_); first | refine isi_ii ?_ | refine isi_ib ?_ | refine isi_bb ?_ | refine isi_bi ?_ | refine isi_ll ?_ | refine isi_tt ?_ | refine isi_ni ?_ | refine isi_nb ?_ | refine isi_nt ?_) | refine CallD.inl (isx_xP (by assumption) (by kc_free) (by assumption) ?_) | refine CallD.inl (isx_oP (.val _ _ _) (by assumption) (by kc_free) (by assumption) ?_) | refine CallD.inl (isx_bP rfl (by kc_free) (by assumption) ?_) | refine isx_t2P (by assumption) (by kc_free) (by kc_free) (by assumption) (by assumption) ?_ | refine cd_lenL (.val _) ?_ | refine cd_lenT ?_ | refine cd_lenX ?_ | kri_at)
  | ((with_reducible refine idG ?_); first | refine dg_name (by assumption) (by assumption) ?_ | refine dg_sub (by assumption) ?_ | refine dg_tup (by assumption) (by rfl) ?_)
  | ((with_reducible refine idGs ?_); first | refine dgs_cons ?_ | refine dgs_nil ?_)
  | ((with_reducible refine idK ?_); first | refine dk_cons ?_ | refine dk_nil ?_)
  | ((with_reducible refine idSet ?_); first | refine set_rest ?_ | refine set_turn ?_ | refine set_seed ?_ | kri_at)
  | (with_reducible refine toB.mk ?_)
  | refine endA ?_
  | refine exh_yesP (by assumption) (fun _ _ _ => ?_)
  | refine exh_noP (by assumption) ?_
  | kcj_has
  | refine toB.mk ?_
  | refine DPt.no ?_
  | refine DPt.so ?_
  | refine len_and (Nat.le_of_ble_eq_true rfl) ?_
  | refine len_andI rfl (Nat.le_of_ble_eq_true rfl) ?_
  | kll_here
  | refine ex_i ?_
  | refine ex_2 ?_
  | refine ex_3 ?_
  | refine ex_l ?_
  | refine ex_ii ?_
  | refine ex_t ?_
  | refine ex_s ?_
  | refine ex_x ?_)
section
variable {B : Bx} {X : Cx} {e c tg it : Expr} {s1 s2 sts : List Stmt} {δ : Env'} {M : Mem} {Ψ : DEnds} {p p' : Pos}
theorem stIf (h : DSs B X (.If c s1 s2 p :: sts) δ M Ψ) : DSs B X (.If c s1 s2 p :: sts) δ M Ψ := h
theorem stFor (h : DSs B X (.For tg it s1 s2 p :: sts) δ M Ψ) : DSs B X (.For tg it s1 s2 p :: sts) δ M Ψ := h
theorem stSet (x : Str) (h : DSs B X (.Assign [.Name x p'] e p :: sts) δ M Ψ) : DSs B X (.Assign [.Name x p'] e p :: sts) δ M Ψ := h
theorem stAug (x : Str) {op : Operator} (h : DSs B X (.AugAssign (.Name x p') op e p :: sts) δ M Ψ) : DSs B X (.AugAssign (.Name x p') op e p :: sts) δ M Ψ := h
theorem stRet {o : Option Expr} (h : DSs B X (.Return o p :: sts) δ M Ψ) : DSs B X (.Return o p :: sts) δ M Ψ := h
end
local macro_rules | `(tactic| kx_is) => `(tactic| repeat' first | exact UpO.nil | exact Ups.nil | exact Up.here | apply UpO.some | apply UpO.none | apply UpO.any | apply Up.tup | apply Ups.cons | exact Up.same _)
local macro_rules | `(tactic| krs_unr) => `(tactic| refine od_addT (Nat.le_of_ble_eq_true rfl) ?_)
local macro_rules | `(tactic| kbu_src) => `(tactic| first | refine de_join ?_ | refine de_count ?_ | refine de_index ?_ | refine de_clear ?_ | refine de_pop0 ?_)
local macro_rules | `(tactic| kll_open) => `(tactic| first | refine de_callL (by assumption) (by kat_pair) (by rfl) (by assumption) (by decide) (by kas_known) ?_ (by kat_eight) | refine de_max3 (by assumption) (by assumption) ?_ | refine de_exnS (by assumption) (by assumption) (by decide) (by decide) (by rfl) (by assumption) ?_ (by kat_eight) | refine de_exn0 (by assumption) (by assumption) ?_)
local macro_rules | `(tactic| kll_here) => `(tactic| refine cd_max3 ?_)
local macro_rules | `(tactic| kas_out) => `(tactic| first | refine de_joined ?_ | refine de_joined1 ?_ | refine de_fmt ?_ | refine DE.f (df_step2 ?_))
local macro_rules | `(tactic| kba_acc) => `(tactic| repeat' first | exact UpVO.nil | exact UpVs.nil | exact UpV.here | apply UpVO.some | apply UpVO.none | apply UpVO.any | apply UpV.tup | apply UpVs.cons | exact UpV.same _)
local macro_rules | `(tactic| kbt_pows) => `(tactic| first | exact List.mem_of_getElem? (i := 0) rfl | exact List.mem_of_getElem? (i := 1) rfl | exact List.mem_of_getElem? (i := 2) rfl | exact List.mem_of_getElem? (i := 3) rfl | exact List.mem_of_getElem? (i := 4) rfl | exact List.mem_of_getElem? (i := 5) rfl | exact List.mem_of_getElem? (i := 6) rfl | exact List.mem_of_getElem? (i := 7) rfl | exact List.mem_of_getElem? (i := 8) rfl | exact List.mem_of_getElem? (i := 9) rfl | (simp; done))
local macro_rules | `(tactic| kll_here) => `(tactic| first | refine c_take (by omega) (by omega) (by omega) (fun _ _ _ => ?_) | refine c_begun (by omega) (fun _ _ => ?_))
def n_law_take : List Str := ["_law_state", "_law_many", "_law_found", "_law_turn", "_law_cell", "_law_seed", "_law_mixed"]
theorem sc_law_take : FnScope n_law_take ["_law_state", "_law_many"] (defScope s_law_take) := ⟨rfl, rfl, rfl, by decide +kernel, rfl, by decide +kernel, by decide +kernel⟩
theorem d_law_take {P : Program} {w : World} {K : PySem.W.Frag} {mg : Str → Option Value} {base : Heap} {f : Addr} {fd : FuncData} (F : Fun K "_law_take" "_law_take" s_law_take f fd)
    (G_len : mg "len" = none) : FnOk P w K mg base CX0 1 f fd ["_law_state", "_law_many"] (lift pTake) := by
  refine fnok_of (N := n_law_take) (k := 0) F sc_law_take (fun ds M Φ h => by obtain ⟨s, g, b, n, M', rfl, rfl, hn, hn2, k⟩ := h; rfl) fun X B I ds M Φ h => ?_
  obtain ⟨s, g, b, n, M', rfl, rfl, hn, hn2, k⟩ := h
  obtain ⟨rfl, rfl, rfl, rfl, rfl, hN, hs, hf, z, xe⟩ := I
  have hp := passes_of xe
  have n0 : Lo X 0 "_law_state" := lo_of hN hs hf (by decide +kernel)
  have n1 : Lo X 1 "_law_many" := lo_of hN hs hf (by decide +kernel)
  have n2 : Lo X 2 "_law_found" := lo_of hN hs hf (by decide +kernel)
  have n3 : Lo X 3 "_law_turn" := lo_of hN hs hf (by decide +kernel)
  have n4 : Lo X 4 "_law_cell" := lo_of hN hs hf (by decide +kernel)
  have n5 : Lo X 5 "_law_seed" := lo_of hN hs hf (by decide +kernel)
  have n6 : Lo X 6 "_law_mixed" := lo_of hN hs hf (by decide +kernel)
  have g_len : Gn X "len" := gn_of hs (by decide +kernel) G_len
  clear F hf
  change DSs _ X (_ :: _) [_, _, _, _, _, _, _] _ _
  refine ws_stOpen fun gs r t e cs ok => ?_
  have hr := ok.hr
  have hn2 : n < 2 ^ 1000 := hn2
  have ht := ok.ht
  have htb := ok.htb
  have he := ok.he
  have he2 := ok.he2
  repeat' kx_any
  · -- rest is 0
    refine od_neNil (.cell 1 rfl) (okE_ints _) ?_
    repeat' kx_any
    · -- no great cells: a number mixed
      rw [List.length_map]
      have hc1 := ok.hc1
      have hc2 := ok.hc2
      repeat' kx_any
      obtain ⟨c, hc, ec⟩ := at_int (cs := cs) (i := t % (cs.length : Nat)) (Int.emod_nonneg _ (by omega)) (Int.emod_lt_of_pos _ (by omega))
      refine od_ixL ec ?_
      obtain ⟨hc0, hc3⟩ := ok.hcs c hc
      have m1 := Int.emod_nonneg (e * 48271 + c * (2 * t + 3) + t ^ (3 : Int).toNat) (show (2147483647 : Int) ≠ 0 by decide)
      have m2 := Int.emod_lt_of_pos (e * 48271 + c * (2 * t + 3) + t ^ (3 : Int).toNat) (show (0 : Int) < 2147483647 by decide)
      have m3 := Int.emod_nonneg (((e * 48271 + c * (2 * t + 3) + t ^ (3 : Int).toNat) % 2147483647) ^ (2 : Int).toNat) (show (2147483629 : Int) ≠ 0 by decide)
      have m4 := Int.emod_lt_of_pos (((e * 48271 + c * (2 * t + 3) + t ^ (3 : Int).toNat) % 2147483647) ^ (2 : Int).toNat) (show (0 : Int) < 2147483629 by decide)
      generalize hS : (e * 48271 + c * (2 * t + 3) + t ^ (3 : Int).toNat) % 2147483647 = S at m1 m2 m3 m4
      generalize hU : S ^ (2 : Int).toNat % 2147483629 = U at m3 m4
      repeat' kx_any
      refine od_pow ⟨by decide, by decide, by omega⟩ ?_
      repeat' kx_any
      rw [hS]
      repeat' kx_any
      refine od_pow ⟨by decide, by decide, by omega⟩ ?_
      repeat' kx_any
      rw [hU]
      repeat' kx_any
      refine od_pow ⟨by decide, by decide, by omega⟩ ?_
      repeat' kx_any
      refine ⟨_, _, .stc (b := b) ⟨ok.hgs, hr, by omega, by omega, m1, m2, ok.hcs, ok.hc1, ok.hc2⟩, k _ (Int.emod_nonneg _ (by omega)) (Int.emod_lt_of_pos _ (by omega))⟩
    · -- the next great cell
      rename_i hg
      cases gs with
      | nil => exact absurd hg (by decide)
      | cons g0 gs =>
        refine ⟨⟨_, .cell 1 rfl⟩, ?_⟩
        repeat' kx_any
        refine mt_popD (j := 1) (m := 0) (d := .int g0) (ds := .int g0 :: gs.map .int) rfl (by decide) (by decide) (seqIndex_of (by decide) (by simp)) rfl ?_
        have h0 : 0 < g0 := ok.hgs g0 List.mem_cons_self
        have ok1 : ∀ r', 0 ≤ r' → StOk b gs r' t e cs := fun r' hr' => ⟨fun x hx => ok.hgs x (List.mem_cons_of_mem _ hx), hr', ok.ht, by omega, ok.he, ok.he2, ok.hcs, ok.hc1, ok.hc2⟩
        repeat' kx_any
        exact ⟨_, _, .stc (ok1 _ (Int.ediv_nonneg (by omega) (by omega))), k _ (Int.emod_nonneg _ (by omega)) (Int.emod_lt_of_pos _ (by omega))⟩
  · exact ⟨_, _, .stc (b := b) ⟨ok.hgs, Int.ediv_nonneg (by omega) (by omega), ht, by omega, he, he2, ok.hcs, ok.hc1, ok.hc2⟩, k _ (Int.emod_nonneg _ (by omega)) (Int.emod_lt_of_pos _ (by omega))⟩
def n_law_begun : List Str := ["_law_script", "_law_cell"]
theorem sc_law_begun : FnScope n_law_begun ["_law_script"] (defScope s_law_begun) := ⟨rfl, rfl, rfl, by decide +kernel, rfl, by decide +kernel, by decide +kernel⟩
theorem d_law_begun {P : Program} {w : World} {K : PySem.W.Frag} {mg : Str → Option Value} {base : Heap} {f : Addr} {fd : FuncData} (F : Fun K "_law_begun" "_law_begun" s_law_begun f fd)
     : FnOk P w K mg base CX0 1 f fd ["_law_script"] (lift (pBegun K)) := by
  refine fnok_of (N := n_law_begun) (k := 0) F sc_law_begun (fun ds M Φ h => by obtain ⟨ns, rfl, hl, k⟩ := h; rfl) fun X B I ds M Φ h => ?_
  obtain ⟨ns, rfl, hl, k⟩ := h
  obtain ⟨rfl, rfl, rfl, rfl, rfl, hN, hs, hf, z, xe⟩ := I
  have hp := passes_of xe
  have n0 : Lo X 0 "_law_script" := lo_of hN hs hf (by decide +kernel)
  clear F hf
  change DSs _ X (_ :: _) [_, _] _ _
  refine ds_one (ds_ret (de_disp 0 rfl rfl rfl (by simp) (by decide) fun p => ?_))
  simp only [DPs]
  repeat' kx_any
  refine DE.own 1 (df_lc 0 z hN hs [("_law_cell", 1)] (.one 1) (by decide +kernel) (by decide) (fun X' bk => pg_one bk z (bk.lo hN hs (by decide +kernel))) ?_)
  refine di_scr ?_
  repeat' kx_any
  refine LcH.pure bigF (by rw [List.length_map]; exact Nat.le_trans hl (by decide)) (fun q acc x hx => ?_) ?_
  · obtain ⟨n, hn, rfl⟩ := List.mem_map.mp hx
    refine ⟨_, rfl, fun X' bk => ?_⟩
    have c0 : Lo X' 1 "_law_cell" := bk.lo hN hs (by decide +kernel)
    have z' := bk.z z
    repeat' kx_any
    · rename_i h
      intro X' bk
      have c0 : Lo X' 1 "_law_cell" := bk.lo hN hs (by decide +kernel)
      have z' := bk.z z
      repeat' kx_any
      exact ⟨(if_pos h).symm, rfl⟩
    · rename_i h
      exact ⟨(if_neg h).symm, rfl⟩
  intro g
  rw [big_map]
  repeat' kx_any
  refine DE.f (df_lc 0 z hN hs [("_law_cell", 1)] (.one 1) (by decide +kernel) (by decide) (fun X' bk => pg_one bk z (bk.lo hN hs (by decide +kernel))) ?_)
  refine di_scr ?_
  repeat' kx_any
  refine LcH.pure modF (by rw [List.length_map]; exact Nat.le_trans hl (by decide)) (fun q acc x hx => ?_) ?_
  · obtain ⟨n, hn, rfl⟩ := List.mem_map.mp hx
    refine ⟨_, rfl, fun X' bk => ?_⟩
    have c0 : Lo X' 1 "_law_cell" := bk.lo hN hs (by decide +kernel)
    have z' := bk.z z
    repeat' kx_any
    exact ⟨rfl, rfl⟩
  rw [rest_map]
  repeat' kx_any
  refine od_addL (by simp; exact Nat.le_trans (Nat.succ_le_succ hl) (by decide)) ?_
  refine ⟨0, [(.inr "great", .raw (.ref g)), (.inr "rest", .int 0), (.inr "turn", .int 0), (.inr "seed", .int 7), (.inr "cells", .lst (((ns.map fun n => n % 2147483629) ++ [77]).map .int))], rfl, by rw [List.map_append]; rfl, by show 5 ≤ 15; decide, ?_⟩
  exact ⟨_, _, .stc (begun_ok ns hl), k _ _⟩
def pWhole : DSp := fun ds M Φ => ∃ i, ds = [.int i] ∧ Φ (.bl true) M
def pFar : DSp := fun ds M Φ => ∃ s g b M', ds = [.raw (.ref s)] ∧ M = (s, .st g b) :: M' ∧ 3 ≤ b ∧ ∀ r, 0 ≤ r → r < 100000000000000000000000000000000000000 → Φ (.int r) ((s, .st g (b - 3)) :: M')
theorem c_whole {i : Int} {M : Mem} {Φ : D → Mem → Prop} (k : Φ (.bl true) M) : pWhole [.int i] M Φ := ⟨i, rfl, k⟩
theorem c_far {s g : Addr} {b : Nat} {M : Mem} {Φ : D → Mem → Prop} (h : 3 ≤ b) (k : ∀ r, 0 ≤ r → r < 100000000000000000000000000000000000000 → Φ (.int r) ((s, .st g (b - 3)) :: M)) : pFar [.raw (.ref s)] ((s, .st g b) :: M) Φ := ⟨s, g, b, M, rfl, rfl, h, k⟩
local macro_rules | `(tactic| kll_here) => `(tactic| first | refine c_take (by omega) (by omega) (by omega) (fun _ _ _ => ?_) | refine c_begun (by omega) (fun _ _ => ?_) | refine c_whole ?_ | refine c_far (by omega) (fun _ _ _ => ?_))
def n_law_whole : List Str := ["_law_thing"]
theorem sc_law_whole : FnScope n_law_whole ["_law_thing"] (defScope s_law_whole) := ⟨rfl, rfl, rfl, by decide +kernel, rfl, by decide +kernel, by decide +kernel⟩
theorem d_law_whole {P : Program} {w : World} {K : PySem.W.Frag} {mg : Str → Option Value} {base : Heap} {f : Addr} {fd : FuncData} (F : Fun K "_law_whole" "_law_whole" s_law_whole f fd)
    (G_isinstance : mg "isinstance" = none) (G_int : mg "int" = none) (G_bool : mg "bool" = none) : FnOk P w K mg base CX0 1 f fd ["_law_thing"] (lift pWhole) := by
  refine fnok_of (N := n_law_whole) (k := 0) F sc_law_whole (fun ds M Φ h => by obtain ⟨i, rfl, k⟩ := h; rfl) fun X B I ds M Φ h => ?_
  obtain ⟨i, rfl, k⟩ := h
  obtain ⟨rfl, rfl, rfl, rfl, rfl, hN, hs, hf, z, xe⟩ := I
  have hp := passes_of xe
  have n0 : Lo X 0 "_law_thing" := lo_of hN hs hf (by decide +kernel)
  have g_isinstance : Gn X "isinstance" := gn_of hs (by decide +kernel) G_isinstance
  have g_int : Gn X "int" := gn_of hs (by decide +kernel) G_int
  have g_bool : Gn X "bool" := gn_of hs (by decide +kernel) G_bool
  clear F hf
  change DSs _ X (_ :: _) [_] _ _
  repeat' kpc_text
  exact ⟨_, _, .refl, k⟩
structure J where
  size : Int
  rate : Int
  mouth : Int
structure JOk (j : J) : Prop where
  r1 : 1 ≤ j.rate
  rm : j.rate ≤ j.mouth
  ms : j.mouth ≤ j.size
  sz : j.size ≤ 1000000000
abbrev jNs : List Str := ["size", "rate", "mouth"]
abbrev fNs : List Str := ["jar", "marks"]
abbrev jD (c : Addr) (j : J) : D := .obj c jNs [.int j.size, .int j.rate, .int j.mouth]
abbrev fFs (c : Addr) (j : J) (m : Int) : List D := [jD c j, .int m]
abbrev fD (cF cJ : Addr) (j : J) (m : Int) : D := .obj cF fNs (fFs cJ j m)
def mayF (j : J) (m : Int) : Int := min j.mouth m
def comeF (j : J) (m n : Int) : Int := min j.size (m - n + j.rate)
def aheadF (j : J) (m t : Int) : Int := min j.size (m + j.rate * t)
def mostF (j : J) (m a t : Int) : Int := if t ≤ 0 then 0 else min (j.mouth * t) (aheadF j m a + j.rate * (t - 1))
def pJarI (cJ cX : Addr) : DSpE := fun ds M Φ Ξ => ∃ a s r m M', ds = [.raw (.ref a), .int s, .int r, .int m] ∧ M = (a, .obj cJ [] []) :: M' ∧ (JOk ⟨s, r, m⟩ → Φ .non ((a, .obj cJ jNs [.int s, .int r, .int m]) :: M')) ∧ (¬ JOk ⟨s, r, m⟩ → Ξ cX [] [] M')
def pTold (cJ : Addr) : DSpE := fun ds M Φ _ => ∃ j, ds = [jD cJ j] ∧ Φ (.tup [.int j.size, .int j.rate, .int j.mouth]) M
def marksOf (j : J) : D → Option Int
  | .non => some j.size
  | .int i => some i
  | _ => none
def pFlowI (cF cJ cX : Addr) : DSpE := fun ds M Φ Ξ => ∃ a j mv m M', ds = [.raw (.ref a), jD cJ j, mv] ∧ marksOf j mv = some m ∧ M = (a, .obj cF [] []) :: M' ∧ ((0 ≤ m ∧ m ≤ j.size) → Φ .non ((a, .obj cF fNs (fFs cJ j m)) :: M')) ∧ (¬ (0 ≤ m ∧ m ≤ j.size) → Ξ cX [] [] M')
def pMay (cF cJ : Addr) : DSpE := fun ds M Φ _ => ∃ x j m, ds = [x] ∧ IsO M x cF fNs (fFs cJ j m) ∧ Φ (.int (mayF j m)) M
def pAhead (cF cJ cX : Addr) : DSpE := fun ds M Φ Ξ => ∃ x j m t, ds = [x, .int t] ∧ IsO M x cF fNs (fFs cJ j m) ∧ JOk j ∧ (0 ≤ t → Φ (.int (aheadF j m t)) M) ∧ (t < 0 → Ξ cX [] [] M)
def pMost (cF cJ cX : Addr) : DSpE := fun ds M Φ Ξ => ∃ x j m a t, ds = [x, .int a, .int t] ∧ IsO M x cF fNs (fFs cJ j m) ∧ JOk j ∧ (0 ≤ a → Φ (.int (mostF j m a t)) M) ∧ (a < 0 → Ξ cX [] [] M)
theorem c_jar {cJ cX a : Addr} {s r m : Int} {M : Mem} {Φ : D → Mem → Prop} {Ξ : XPost} (h : JOk ⟨s, r, m⟩) (k : Φ (jD cJ ⟨s, r, m⟩) M) : pJarI cJ cX [.raw (.ref a), .int s, .int r, .int m] (insM 0 (a, .obj cJ [] []) M) (Made a Φ) Ξ := ⟨a, s, r, m, M, rfl, rfl, fun _ => .val 0 rfl k, fun z => absurd h z⟩
theorem c_flow {cF cJ cX a : Addr} {j : J} {m : Int} {mv : D} {M : Mem} {Φ : D → Mem → Prop} {Ξ : XPost} (e : marksOf j mv = some m) (h : 0 ≤ m ∧ m ≤ j.size) (k : Φ (fD cF cJ j m) M) : pFlowI cF cJ cX [.raw (.ref a), jD cJ j, mv] (insM 0 (a, .obj cF [] []) M) (Made a Φ) Ξ := ⟨a, j, mv, m, M, rfl, e, rfl, fun _ => .val 0 rfl k, fun z => absurd h z⟩
theorem c_told {cJ : Addr} {j : J} {M : Mem} {Φ : D → Mem → Prop} {Ξ : XPost} (k : Φ (.tup [.int j.size, .int j.rate, .int j.mouth]) M) : pTold cJ [jD cJ j] M Φ Ξ := ⟨j, rfl, k⟩
theorem c_may {cF cJ : Addr} {x : D} {j : J} {m : Int} {M : Mem} {Φ : D → Mem → Prop} {Ξ : XPost} (io : IsO M x cF fNs (fFs cJ j m)) (k : Φ (.int (mayF j m)) M) : pMay cF cJ [x] M Φ Ξ := ⟨x, j, m, rfl, io, k⟩
theorem c_mayV {cF cJ : Addr} {j : J} {m : Int} {M : Mem} {Φ : D → Mem → Prop} {Ξ : XPost} (k : Φ (.int (mayF j m)) M) : pMay cF cJ [fD cF cJ j m] M Φ Ξ := c_may (.val _ _ _) k
local macro_rules | `(tactic| kll_here) => `(tactic| first | refine c_told ?_ | refine c_mayV ?_ | refine c_may (by assumption) ?_)
def n_Jar__init : List Str := ["self", "size", "rate", "mouth"]
theorem sc_Jar__init : FnScope n_Jar__init ["self", "size", "rate", "mouth"] (defScope s_Jar__init) := ⟨rfl, rfl, rfl, by decide +kernel, rfl, by decide +kernel, by decide +kernel⟩
theorem d_Jar__init {P : Program} {w : World} {K : PySem.W.Frag} {mg : Str → Option Value} {base : Heap} {c_NoJar c_Jar : Addr} {f : Addr} {fd : FuncData} (F : FunG K "__init__" "Jar.__init__" s_Jar__init f fd)
    (C_MOST : ∃ t, mg "MOST" = some (.int 1000000000 t)) (X_NoJar : Ex0 K mg "NoJar" c_NoJar) (A_Jar_size : FldP K c_Jar "size") (A_Jar_rate : FldP K c_Jar "rate") (A_Jar_mouth : FldP K c_Jar "mouth") : FnOk P w K mg base (L2.CX P w) 1 f fd ["self", "size", "rate", "mouth"] (liftE (pJarI c_Jar c_NoJar)) := by
  refine fnokG_of (N := n_Jar__init) (k := 0) F sc_Jar__init (fun ds M Φ Ξ h => by obtain ⟨a, s, r, m, M', rfl, rfl, k, kx⟩ := h; rfl) fun X kp ds M Φ Ξ h I => ?_
  obtain ⟨a, s, r, m, M', rfl, rfl, k, kx⟩ := h
  obtain ⟨rfl, rfl, rfl, rfl, rfl, hN, hs, hf, z, hp, tk, hst, hfr⟩ := I
  have nd := z.nd
  have n0 : Lo X 0 "self" := lo_of hN hs hf (by decide +kernel)
  have n1 : Lo X 1 "size" := lo_of hN hs hf (by decide +kernel)
  have n2 : Lo X 2 "rate" := lo_of hN hs hf (by decide +kernel)
  have n3 : Lo X 3 "mouth" := lo_of hN hs hf (by decide +kernel)
  have c_MOST : Gc X "MOST" (.int 1000000000) := gc_int hs (by decide +kernel) C_MOST
  have l_NoJar : Gl X "NoJar" := gl_of hs (by decide +kernel)
  clear F hf
  change DSs _ X (_ :: _) [_, _, _, _] _ _
  repeat' kpc_text
  all_goals first
    | exact ⟨_, _, .sub (List.sublist_cons_self _ _), kx fun h => by have h1 := h.r1; have h2 := h.rm; have h3 := h.ms; have h4 := h.sz; dsimp only at h1 h2 h3 h4; omega⟩
    | exact ⟨_, _, .refl, k ⟨by dsimp only; omega, by dsimp only; omega, by dsimp only; omega, by dsimp only; omega⟩⟩
def n_Jar_told : List Str := ["self"]
theorem sc_Jar_told : FnScope n_Jar_told ["self"] (defScope s_Jar_told) := ⟨rfl, rfl, rfl, by decide +kernel, rfl, by decide +kernel, by decide +kernel⟩
theorem d_Jar_told {P : Program} {w : World} {K : PySem.W.Frag} {mg : Str → Option Value} {base : Heap} {c_Jar : Addr} {f : Addr} {fd : FuncData} (F : FunG K "told" "Jar.told" s_Jar_told f fd)
    (A_Jar_size : FldP K c_Jar "size") (A_Jar_rate : FldP K c_Jar "rate") (A_Jar_mouth : FldP K c_Jar "mouth") : FnOk P w K mg base (L2.CX P w) 1 f fd ["self"] (liftE (pTold c_Jar)) := by
  refine fnokG_of (N := n_Jar_told) (k := 0) F sc_Jar_told (fun ds M Φ Ξ h => by obtain ⟨j, rfl, k⟩ := h; rfl) fun X kp ds M Φ Ξ h I => ?_
  obtain ⟨j, rfl, k⟩ := h
  obtain ⟨rfl, rfl, rfl, rfl, rfl, hN, hs, hf, z, hp, tk, hst, hfr⟩ := I
  have nd := z.nd
  have n0 : Lo X 0 "self" := lo_of hN hs hf (by decide +kernel)
  clear F hf
  change DSs _ X (_ :: _) [_] _ _
  repeat' kpc_text
  exact ⟨_, _, .refl, k⟩
def n_Flow__init : List Str := ["self", "jar", "marks"]
theorem sc_Flow__init : FnScope n_Flow__init ["self", "jar", "marks"] (defScope s_Flow__init) := ⟨rfl, rfl, rfl, by decide +kernel, rfl, by decide +kernel, by decide +kernel⟩
theorem d_Flow__init {P : Program} {w : World} {K : PySem.W.Frag} {mg : Str → Option Value} {base : Heap} {c_Jar c_NoJar c_Flow : Addr} {f : Addr} {fd : FuncData} (F : FunG K "__init__" "Flow.__init__" s_Flow__init f fd)
    (A_Jar_size : FldP K c_Jar "size") (X_NoJar : Ex0 K mg "NoJar" c_NoJar) (A_Flow_jar : FldP K c_Flow "jar") (A_Flow_marks : FldP K c_Flow "marks") : FnOk P w K mg base (L2.CX P w) 1 f fd ["self", "jar", "marks"] (liftE (pFlowI c_Flow c_Jar c_NoJar)) := by
  refine fnokG_of (N := n_Flow__init) (k := 0) F sc_Flow__init (fun ds M Φ Ξ h => by obtain ⟨a, j, mv, m, M', rfl, em, rfl, k, kx⟩ := h; rfl) fun X kp ds M Φ Ξ h I => ?_
  obtain ⟨a, j, mv, m, M', rfl, em, rfl, k, kx⟩ := h
  obtain ⟨rfl, rfl, rfl, rfl, rfl, hN, hs, hf, z, hp, tk, hst, hfr⟩ := I
  have nd := z.nd
  have n0 : Lo X 0 "self" := lo_of hN hs hf (by decide +kernel)
  have n1 : Lo X 1 "jar" := lo_of hN hs hf (by decide +kernel)
  have n2 : Lo X 2 "marks" := lo_of hN hs hf (by decide +kernel)
  have l_NoJar : Gl X "NoJar" := gl_of hs (by decide +kernel)
  clear F hf
  change DSs _ X (_ :: _) [_, _, _] _ _
  repeat' ((fail_if_success refine stIf ?_); kpc_text)
  refine ds_cutC [2] (fun vs M1 => ([some (.int m)] = vs ∧ (a, .obj c_Flow [] []) :: M' = M1)) ?_ ?_
  · cases mv with
    | non =>
      cases em
      repeat' kpc_text
      exact ⟨[_], rfl, rfl, rfl⟩
    | int i =>
      cases em
      repeat' kpc_text
      exact ⟨[_], rfl, rfl, rfl⟩
    | _ => cases em
  · rintro vs δ M1 ⟨rfl, rfl⟩ hδ
    obtain rfl : δ = [_, _, _] := hδ
    repeat' kpc_text
    all_goals first
      | exact ⟨_, _, .sub (List.sublist_cons_self _ _), kx (by omega)⟩
      | exact ⟨_, _, .refl, k (by omega)⟩
def n_Flow_ahead : List Str := ["self", "ticks"]
theorem sc_Flow_ahead : FnScope n_Flow_ahead ["self", "ticks"] (defScope s_Flow_ahead) := ⟨rfl, rfl, rfl, by decide +kernel, rfl, by decide +kernel, by decide +kernel⟩
theorem d_Flow_ahead {P : Program} {w : World} {K : PySem.W.Frag} {mg : Str → Option Value} {base : Heap} {c_NoTick c_Jar c_Flow : Addr} {f : Addr} {fd : FuncData} (F : FunG K "ahead" "Flow.ahead" s_Flow_ahead f fd)
    (X_NoTick : Ex0 K mg "NoTick" c_NoTick) (G_min : mg "min" = none) (A_Jar_size : FldP K c_Jar "size") (A_Flow_jar : FldP K c_Flow "jar") (A_Flow_marks : FldP K c_Flow "marks") (A_Jar_rate : FldP K c_Jar "rate") : FnOk P w K mg base (L2.CX P w) 1 f fd ["self", "ticks"] (liftE (pAhead c_Flow c_Jar c_NoTick)) := by
  refine fnokG_of (N := n_Flow_ahead) (k := 0) F sc_Flow_ahead (fun ds M Φ Ξ h => by obtain ⟨x, j, m, t, rfl, io, hj, k, kx⟩ := h; rfl) fun X kp ds M Φ Ξ h I => ?_
  obtain ⟨x, j, m, t, rfl, io, hj, k, kx⟩ := h
  obtain ⟨rfl, rfl, rfl, rfl, rfl, hN, hs, hf, z, hp, tk, hst, hfr⟩ := I
  have nd := z.nd
  have n0 : Lo X 0 "self" := lo_of hN hs hf (by decide +kernel)
  have n1 : Lo X 1 "ticks" := lo_of hN hs hf (by decide +kernel)
  have l_NoTick : Gl X "NoTick" := gl_of hs (by decide +kernel)
  have g_min : Gn X "min" := gn_of hs (by decide +kernel) G_min
  clear F hf
  change DSs _ X (_ :: _) [_, _] _ _
  have hr1 := hj.r1
  have hrm := hj.rm
  have hms := hj.ms
  have hsz := hj.sz
  repeat' kpc_text
  · exact ⟨_, _, .refl, kx (by omega)⟩
  · exact ⟨_, _, .refl, k (by omega)⟩
def n_Flow_most : List Str := ["self", "after", "ticks", "marks"]
theorem sc_Flow_most : FnScope n_Flow_most ["self", "after", "ticks"] (defScope s_Flow_most) := ⟨rfl, rfl, rfl, by decide +kernel, rfl, by decide +kernel, by decide +kernel⟩
theorem d_Flow_most {P : Program} {w : World} {K : PySem.W.Frag} {mg : Str → Option Value} {base : Heap} {c_Flow c_Jar c_NoTick : Addr} {f : Addr} {fd : FuncData} (F : FunG K "most" "Flow.most" s_Flow_most f fd)
    (M_Flow_ahead_1 : MethE P w K mg base 1 c_Flow "ahead" 1 [] (selN 2) (pAhead c_Flow c_Jar c_NoTick)) (G_min : mg "min" = none) (A_Jar_mouth : FldP K c_Jar "mouth") (A_Flow_jar : FldP K c_Flow "jar") (A_Jar_rate : FldP K c_Jar "rate") : FnOk P w K mg base (L2.CX P w) 2 f fd ["self", "after", "ticks"] (liftE (pMost c_Flow c_Jar c_NoTick)) := by
  refine fnokG_of (N := n_Flow_most) (k := 1) F sc_Flow_most (fun ds M Φ Ξ h => by obtain ⟨x, j, m, a, t, rfl, io, hj, k, kx⟩ := h; rfl) fun X kp ds M Φ Ξ h I => ?_
  obtain ⟨x, j, m, a, t, rfl, io, hj, k, kx⟩ := h
  obtain ⟨rfl, rfl, rfl, rfl, rfl, hN, hs, hf, z, hp, tk, hst, hfr⟩ := I
  have nd := z.nd
  have n0 : Lo X 0 "self" := lo_of hN hs hf (by decide +kernel)
  have n1 : Lo X 1 "after" := lo_of hN hs hf (by decide +kernel)
  have n2 : Lo X 2 "ticks" := lo_of hN hs hf (by decide +kernel)
  have n3 : Lo X 3 "marks" := lo_of hN hs hf (by decide +kernel)
  have g_min : Gn X "min" := gn_of hs (by decide +kernel) G_min
  clear F hf
  change DSs _ X (_ :: _) [_, _, _, _] _ _
  have hr1 := hj.r1
  have hrm := hj.rm
  have hms := hj.ms
  have hsz := hj.sz
  repeat' kpc_text
  refine ⟨x, j, m, a, rfl, io, hj, fun ha => ?_, fun ha => ?_⟩
  · repeat' kpc_text
    · rename_i ht
      have := k ha
      rw [show mostF j m a t = 0 from if_pos ht] at this
      exact ⟨_, _, .refl, this⟩
    · rename_i ht
      have := k ha
      rw [show mostF j m a t = _ from if_neg ht] at this
      exact ⟨_, _, .refl, this⟩
  · exact ⟨_, _, .refl, kx ha⟩
abbrev R3 := Int × Int × Int
def joinStep (st : Int × List R3) (p : Int × Int) : Int × List R3 :=
  if 0 < p.1 ∧ 0 < p.2 then match st.2.getLast? with
    | some r => if r.2.2 = p.2 then (st.1 + p.1, st.2.dropLast ++ [(r.1, r.2.1 + p.1, p.2)]) else (st.1 + p.1, st.2 ++ [(st.1, p.1, p.2)])
    | none => (st.1 + p.1, st.2 ++ [(st.1, p.1, p.2)])
  else (st.1 + p.1, st.2)
def joinF (first : Int) (parts : List (Int × Int)) : List R3 := (parts.foldl joinStep (first, [])).2
def mouthF (j : J) (mk t : Int) : Int := if mk < j.mouth then 0 else if j.mouth = j.rate then t else min t ((mk - j.mouth) / (j.mouth - j.rate) + 1)
def burstsF (j : J) (m a t : Int) : List R3 := if t ≤ 0 then [] else if mouthF j (aheadF j m a) t = t then joinF a [(mouthF j (aheadF j m a) t, j.mouth)]
  else joinF a [(mouthF j (aheadF j m a) t, j.mouth), (1, aheadF j m a - mouthF j (aheadF j m a) t * (j.mouth - j.rate)), (t - mouthF j (aheadF j m a) t - 1, j.rate)]
def pJoined : DSpE := fun ds M Φ _ => ∃ f, ∃ ps : List (Int × Int), ds = [.int f, .lst (ps.map pD)] ∧ ps.length ≤ 100 ∧ Φ (.lst ((joinF f ps).map tD)) M
def pMouthfuls (cF cJ : Addr) : DSpE := fun ds M Φ _ => ∃ x j m mk t, ds = [x, .int mk, .int t] ∧ IsO M x cF fNs (fFs cJ j m) ∧ JOk j ∧ Φ (.int (mouthF j mk t)) M
def pBursts (cF cJ cX : Addr) : DSpE := fun ds M Φ Ξ => ∃ x j m a t, ds = [x, .int a, .int t] ∧ IsO M x cF fNs (fFs cJ j m) ∧ JOk j ∧ (0 ≤ a → Φ (.lst ((burstsF j m a t).map tD)) M) ∧ (a < 0 → Ξ cX [] [] M)
theorem join_len : ∀ {ps : List (Int × Int)} {st : Int × List R3}, (ps.foldl joinStep st).2.length ≤ st.2.length + ps.length
  | [], st => Nat.le_refl _
  | p :: ps, st => by
    rw [List.foldl_cons]
    have h := join_len (ps := ps) (st := joinStep st p)
    have h2 : (joinStep st p).2.length ≤ st.2.length + 1 := by
      unfold joinStep
      split
      · split
        · split
          · simp only [List.length_append, List.length_dropLast, List.length_cons, List.length_nil]; omega
          · simp
        · simp
      · simp
    simp only [List.length_cons]
    omega
theorem join_fst {ps : List (Int × Int)} {i : Nat} {p : Int × Int} (h : ps[i]? = some p) (st : Int × List R3) : (ps.take (i + 1)).foldl joinStep st = joinStep ((ps.take i).foldl joinStep st) p := by
  rw [List.take_add_one, h, List.foldl_append]; rfl
theorem atI_last {α : Type} {l : List α} {r : α} (h : l.getLast? = some r) : atI l (-1) = some r := by
  have hne : l ≠ [] := fun e => by rw [e] at h; cases h
  have hl : 0 < l.length := List.length_pos_iff.mpr hne
  unfold atI ixN
  rw [if_neg (by decide), if_pos (by omega)]
  rw [List.getLast?_eq_getElem?] at h
  show l[((l.length : Int) + -1).toNat]? = some r
  rw [show ((l.length : Int) + -1).toNat = l.length - 1 by omega]
  exact h
theorem ixN_last {n : Nat} (h : 0 < n) : ixN n (-1) = some (n - 1) := by
  unfold ixN
  rw [if_neg (by decide), if_pos (by omega)]
  congr 1
  omega
theorem set_last {α : Type} {l : List α} {x : α} (h : l ≠ []) : l.set (l.length - 1) x = l.dropLast ++ [x] := by
  conv => lhs; rw [← List.dropLast_concat_getLast h]
  have : (l.dropLast ++ [l.getLast h]).length - 1 = l.dropLast.length := by simp
  rw [this, List.set_append_right _ _ (by simp)]
  simp
def n_joined : List Str := ["first", "parts", "rows", "ticks", "many"]
theorem sc_joined : FnScope n_joined ["first", "parts"] (defScope s_joined) := ⟨rfl, rfl, rfl, by decide +kernel, rfl, by decide +kernel, by decide +kernel⟩
theorem d_joined {P : Program} {w : World} {K : PySem.W.Frag} {mg : Str → Option Value} {base : Heap} {f : Addr} {fd : FuncData} (F : FunG K "joined" "joined" s_joined f fd)
     : FnOk P w K mg base (L2.CX P w) 1 f fd ["first", "parts"] (liftE pJoined) := by
  refine fnokG_of (N := n_joined) (k := 0) F sc_joined (fun ds M Φ Ξ h => by obtain ⟨f, ps, rfl, hl, k⟩ := h; rfl) fun X kp ds M Φ Ξ h I => ?_
  obtain ⟨f, ps, rfl, hl, k⟩ := h
  obtain ⟨rfl, rfl, rfl, rfl, rfl, hN, hs, hf, z, hp, tk, hst, hfr⟩ := I
  have nd := z.nd
  have n0 : Lo X 0 "first" := lo_of hN hs hf (by decide +kernel)
  have n1 : Lo X 1 "parts" := lo_of hN hs hf (by decide +kernel)
  have n2 : Lo X 2 "rows" := lo_of hN hs hf (by decide +kernel)
  have n3 : Lo X 3 "ticks" := lo_of hN hs hf (by decide +kernel)
  have n4 : Lo X 4 "many" := lo_of hN hs hf (by decide +kernel)
  clear F hf
  change DSs _ X (_ :: _) [_, _, _, _, _] _ _
  repeat' ((fail_if_success refine (stSet "rows") ?_); kpc_text)
  first | refine ds_cons (ds_own 0 z n2 (df_lst (da_nil ⟨by decide, fun r => ?_⟩))) | refine ds_own 0 z n2 (df_lst (da_nil ⟨by decide, fun r => ?_⟩))
  kpc_text
  repeat' ((fail_if_success refine stFor ?_); kpc_text)
  first | refine ds_cons (ds_forC [0, 3, 4] z (by assumption) (di_list ?_)) | refine ds_forC [0, 3, 4] z (by assumption) (di_list ?_)
  repeat' kpc_text
  refine ⟨fun i vs M1 => (∃ (rows : List R3) (o3 o4 : Option D), [some (.int ((ps.take i).foldl joinStep (f, [])).1), o3, o4] = vs ∧ (r, .lst (rows.map tD)) :: M = M1 ∧ (rows = ((ps.take i).foldl joinStep (f, [])).2)), ⟨[], _, _, rfl, rfl, (by first | rfl | omega | (simp; done) | (simp; omega))⟩, ?_, ?_⟩
  · rintro i x vs δ M1 hx ⟨rows, o3, o4, rfl, rfl, hr⟩ hδ
    obtain rfl : δ = [_, _, _, o3, o4] := hδ
    obtain ⟨p, hp1, rfl⟩ := map_get hx
    have hi : i < ps.length := (List.getElem?_eq_some_iff.mp hp1).1
    have hln := join_len (ps := ps.take i) (st := (f, []))
    rw [← hr, List.length_take] at hln
    simp only [List.length_nil] at hln
    have hst := join_fst hp1 (f, [])
    generalize ((ps.take i).foldl joinStep (f, [])) = st at *
    obtain ⟨f1, rows⟩ := st
    dsimp only at hr
    subst hr
    have hsk : ¬ (0 < p.1 ∧ 0 < p.2) → joinStep (f1, rows) p = (f1 + p.1, rows) := fun h => by unfold joinStep; rw [if_neg h]
    repeat' kpc_text
    · rename_i h1 h2
      refine od_neNil (.cell 0 rfl) (okE_triples _) ?_
      cases hl : rows.getLast? with
      | none =>
        have : rows = [] := List.getLast?_eq_none_iff.mp hl
        subst this
        have e2 : joinStep (f1, []) p = (f1 + p.1, [(f1, p.1, p.2)]) := by unfold joinStep; rw [if_pos ⟨h1, h2⟩]; rfl
        rw [e2] at hst
        repeat' kpc_text
        exact ⟨[_, _, _], rfl, [(f1, p.1, p.2)], _, _, (by rw [hst]), rfl, (by rw [hst])⟩
      | some r0 =>
        have hne : rows ≠ [] := fun e => by rw [e] at hl; cases hl
        have hb : (!(rows.map tD).isEmpty) = true := by cases rows with | nil => exact absurd rfl hne | cons _ _ => rfl
        rw [hb]
        have hlen : 0 < rows.length := List.length_pos_iff.mpr hne
        have hat : atI (rows.map tD) (-1) = some (tD r0) := atI_last (by rw [List.getLast?_map, hl]; rfl)
        repeat' kpc_text
        refine od_ixC (j := 0) rfl hat ?_
        repeat' kpc_text
        · rename_i hq
          have e2 : joinStep (f1, rows) p = (f1 + p.1, rows.dropLast ++ [(r0.1, r0.2.1 + p.1, p.2)]) := by
            unfold joinStep
            rw [if_pos ⟨h1, h2⟩]
            show (match rows.getLast? with | some r => _ | none => _) = _
            rw [hl]
            exact if_pos hq
          rw [e2] at hst
          refine od_ixC (j := 0) rfl hat ?_
          repeat' kpc_text
          refine od_ixC (j := 0) rfl hat ?_
          repeat' kpc_text
          refine sd_list (j := 0) (m := rows.length - 1) (ds := rows.map tD) rfl (by rw [List.length_map]; exact ixN_last hlen) ?_
          repeat' kpc_text
          exact ⟨[_, _, _], rfl, rows.dropLast ++ [(r0.1, r0.2.1 + p.1, p.2)], _, _, (by rw [hst]), (by rw [← set_last hne, List.map_set]; rfl), (by rw [hst])⟩
        · rename_i hq
          have e2 : joinStep (f1, rows) p = (f1 + p.1, rows ++ [(f1, p.1, p.2)]) := by
            unfold joinStep
            rw [if_pos ⟨h1, h2⟩]
            show (match rows.getLast? with | some r => _ | none => _) = _
            rw [hl]
            exact if_neg hq
          rw [e2] at hst
          repeat' kpc_text
          exact ⟨[_, _, _], rfl, rows ++ [(f1, p.1, p.2)], _, _, (by rw [hst]), (by rw [List.map_append]; rfl), (by rw [hst])⟩
    · rename_i h1 h2
      rw [hsk (by omega)] at hst
      exact ⟨[_, _, _], rfl, rows, _, _, (by rw [hst]), rfl, (by rw [hst])⟩
    · rename_i h1
      rw [hsk (by omega)] at hst
      exact ⟨[_, _, _], rfl, rows, _, _, (by rw [hst]), rfl, (by rw [hst])⟩
  · rintro vs δ M1 ⟨rows, o3, o4, rfl, rfl, hr⟩ hδ
    obtain rfl : δ = [_, _, _, o3, o4] := hδ
    try simp only [range_len, List.length_map, enum_len] at hr
    rw [List.take_length] at hr
    repeat' kpc_text
    exact ⟨_, _, .frz 0 rfl, by rw [hr]; exact k⟩
def n_Flow_mouthfuls : List Str := ["self", "marks", "ticks"]
theorem sc_Flow_mouthfuls : FnScope n_Flow_mouthfuls ["self", "marks", "ticks"] (defScope s_Flow_mouthfuls) := ⟨rfl, rfl, rfl, by decide +kernel, rfl, by decide +kernel, by decide +kernel⟩
theorem d_Flow_mouthfuls {P : Program} {w : World} {K : PySem.W.Frag} {mg : Str → Option Value} {base : Heap} {c_Jar c_Flow : Addr} {f : Addr} {fd : FuncData} (F : FunG K "mouthfuls" "Flow.mouthfuls" s_Flow_mouthfuls f fd)
    (A_Jar_mouth : FldP K c_Jar "mouth") (A_Flow_jar : FldP K c_Flow "jar") (A_Jar_rate : FldP K c_Jar "rate") (G_min : mg "min" = none) : FnOk P w K mg base (L2.CX P w) 1 f fd ["self", "marks", "ticks"] (liftE (pMouthfuls c_Flow c_Jar)) := by
  refine fnokG_of (N := n_Flow_mouthfuls) (k := 0) F sc_Flow_mouthfuls (fun ds M Φ Ξ h => by obtain ⟨x, j, m, mk, t, rfl, io, hj, k⟩ := h; rfl) fun X kp ds M Φ Ξ h I => ?_
  obtain ⟨x, j, m, mk, t, rfl, io, hj, k⟩ := h
  obtain ⟨rfl, rfl, rfl, rfl, rfl, hN, hs, hf, z, hp, tk, hst, hfr⟩ := I
  have nd := z.nd
  have n0 : Lo X 0 "self" := lo_of hN hs hf (by decide +kernel)
  have n1 : Lo X 1 "marks" := lo_of hN hs hf (by decide +kernel)
  have n2 : Lo X 2 "ticks" := lo_of hN hs hf (by decide +kernel)
  have g_min : Gn X "min" := gn_of hs (by decide +kernel) G_min
  clear F hf
  change DSs _ X (_ :: _) [_, _, _] _ _
  have hr1 := hj.r1
  have hrm := hj.rm
  have hms := hj.ms
  have hsz := hj.sz
  unfold mouthF at k
  repeat' kpc_text
  · rename_i h
    rw [if_pos h] at k
    exact ⟨_, _, .refl, k⟩
  · rename_i h h2
    rw [if_neg h, if_pos h2] at k
    exact ⟨_, _, .refl, k⟩
  · rename_i h h2
    rw [if_neg h, if_neg h2] at k
    exact ⟨_, _, .refl, k⟩
def n_Flow_bursts : List Str := ["self", "after", "ticks", "marks", "rate", "mouth", "full", "left"]
theorem sc_Flow_bursts : FnScope n_Flow_bursts ["self", "after", "ticks"] (defScope s_Flow_bursts) := ⟨rfl, rfl, rfl, by decide +kernel, rfl, by decide +kernel, by decide +kernel⟩
theorem d_Flow_bursts {P : Program} {w : World} {K : PySem.W.Frag} {mg : Str → Option Value} {base : Heap} {c_Flow c_Jar c_NoTick : Addr} {f : Addr} {fd : FuncData} (F : FunG K "bursts" "Flow.bursts" s_Flow_bursts f fd)
    (M_Flow_ahead_1 : MethE P w K mg base 1 c_Flow "ahead" 1 [] (selN 2) (pAhead c_Flow c_Jar c_NoTick)) (A_Jar_rate : FldP K c_Jar "rate") (A_Flow_jar : FldP K c_Flow "jar") (A_Jar_mouth : FldP K c_Jar "mouth") (M_Flow_mouthfuls_2 : MethE P w K mg base 1 c_Flow "mouthfuls" 2 [] (selN 3) (pMouthfuls c_Flow c_Jar)) (E_joined_2 : DefE P w K mg base 1 "joined" 2 [] (selN 2) pJoined) : FnOk P w K mg base (L2.CX P w) 2 f fd ["self", "after", "ticks"] (liftE (pBursts c_Flow c_Jar c_NoTick)) := by
  refine fnokG_of (N := n_Flow_bursts) (k := 1) F sc_Flow_bursts (fun ds M Φ Ξ h => by obtain ⟨x, j, m, a, t, rfl, io, hj, k, kx⟩ := h; rfl) fun X kp ds M Φ Ξ h I => ?_
  obtain ⟨x, j, m, a, t, rfl, io, hj, k, kx⟩ := h
  obtain ⟨rfl, rfl, rfl, rfl, rfl, hN, hs, hf, z, hp, tk, hst, hfr⟩ := I
  have nd := z.nd
  have n0 : Lo X 0 "self" := lo_of hN hs hf (by decide +kernel)
  have n1 : Lo X 1 "after" := lo_of hN hs hf (by decide +kernel)
  have n2 : Lo X 2 "ticks" := lo_of hN hs hf (by decide +kernel)
  have n3 : Lo X 3 "marks" := lo_of hN hs hf (by decide +kernel)
  have n4 : Lo X 4 "rate" := lo_of hN hs hf (by decide +kernel)
  have n5 : Lo X 5 "mouth" := lo_of hN hs hf (by decide +kernel)
  have n6 : Lo X 6 "full" := lo_of hN hs hf (by decide +kernel)
  have n7 : Lo X 7 "left" := lo_of hN hs hf (by decide +kernel)
  have l_joined : Gl X "joined" := gl_of hs (by decide +kernel)
  clear F hf
  change DSs _ X (_ :: _) [_, _, _, _, _, _, _, _] _ _
  have hr1 := hj.r1
  have hrm := hj.rm
  have hms := hj.ms
  have hsz := hj.sz
  repeat' kpc_text
  refine ⟨x, j, m, a, rfl, io, hj, fun ha => ?_, fun ha => ?_⟩
  · have k := k ha
    unfold burstsF at k
    repeat' kpc_text
    · rename_i ht
      rw [if_pos ht] at k
      exact ⟨_, _, .refl, k⟩
    · rename_i ht
      rw [if_neg ht] at k
      refine ⟨x, j, m, _, t, rfl, io, hj, ?_⟩
      repeat' kpc_text
      · rename_i hf
        rw [if_pos hf] at k
        refine ⟨a, [(mouthF j (aheadF j m a) t, j.mouth)], rfl, by simp, ?_⟩
        exact ⟨_, _, .refl, k⟩
      · rename_i hf
        rw [if_neg hf] at k
        refine ⟨a, [(mouthF j (aheadF j m a) t, j.mouth), (1, aheadF j m a - mouthF j (aheadF j m a) t * (j.mouth - j.rate)), (t - mouthF j (aheadF j m a) t - 1, j.rate)], rfl, by simp, ?_⟩
        exact ⟨_, _, .refl, k⟩
  · exact ⟨_, _, .refl, kx ha⟩
def pPick : DSp := fun ds M Φ => ∃ s g b M' x, ds = [.raw (.ref s), x] ∧ M = (s, .st g b) :: M' ∧ 1 ≤ b ∧ ((∃ l : List D, x = .lst l ∧ 0 < l.length ∧ l.length ≤ 1000 ∧ ∀ d ∈ l, Φ d ((s, .st g (b - 1)) :: M')) ∨ (∃ t : Str, x = .str t ∧ 0 < t.length ∧ t.length ≤ 1000 ∧ ∀ c ∈ t.cps.toList, Φ (.str ⟨#[c]⟩) ((s, .st g (b - 1)) :: M')))
theorem c_pickI (ns : List Int) {s g : Addr} {b : Nat} {M : Mem} {Φ : D → Mem → Prop} (hb : 1 ≤ b) (h0 : 0 < ns.length) (h1 : ns.length ≤ 1000) (k : ∀ n ∈ ns, Φ (.int n) ((s, .st g (b - 1)) :: M)) : pPick [.raw (.ref s), .lst (ns.map .int)] ((s, .st g b) :: M) Φ :=
  ⟨s, g, b, M, _, rfl, rfl, hb, .inl ⟨_, rfl, by simpa using h0, by simpa using h1, fun d hd => by obtain ⟨n, hn, rfl⟩ := List.mem_map.mp hd; exact k n hn⟩⟩
def n_law_pick : List Str := ["_law_state", "_law_some"]
theorem sc_law_pick : FnScope n_law_pick ["_law_state", "_law_some"] (defScope s_law_pick) := ⟨rfl, rfl, rfl, by decide +kernel, rfl, by decide +kernel, by decide +kernel⟩
theorem d_law_pick {P : Program} {w : World} {K : PySem.W.Frag} {mg : Str → Option Value} {base : Heap} {f : Addr} {fd : FuncData} (F : Fun K "_law_pick" "_law_pick" s_law_pick f fd)
    (D_law_take : Def P w K mg base 1 "_law_take" ["_law_state", "_law_many"] pTake) (G_len : mg "len" = none) : FnOk P w K mg base CX0 2 f fd ["_law_state", "_law_some"] (lift pPick) := by
  refine fnok_of (N := n_law_pick) (k := 1) F sc_law_pick (fun ds M Φ h => by obtain ⟨s, g, b, M', x, rfl, rfl, hb, hx⟩ := h; rfl) fun X B I ds M Φ h => ?_
  obtain ⟨s, g, b, M', x, rfl, rfl, hb, hx⟩ := h
  obtain ⟨rfl, rfl, rfl, rfl, rfl, hN, hs, hf, z, xe⟩ := I
  have hp := passes_of xe
  have n0 : Lo X 0 "_law_state" := lo_of hN hs hf (by decide +kernel)
  have n1 : Lo X 1 "_law_some" := lo_of hN hs hf (by decide +kernel)
  have l_law_take : Gl X "_law_take" := gl_of hs (by decide +kernel)
  have g_len : Gn X "len" := gn_of hs (by decide +kernel) G_len
  clear F hf
  change DSs _ X (_ :: _) [_, _] _ _
  rcases hx with ⟨l, rfl, h0, h1, k⟩ | ⟨t, rfl, h0, h1, k⟩
  · repeat' kpc_text
    rename_i r hr0 hr1
    have hl : r.toNat < l.length := by omega
    refine od_ixL (d := l[r.toNat]) ?_ ?_
    · obtain ⟨n, rfl⟩ : ∃ n : Nat, r = (n : Int) := ⟨r.toNat, by omega⟩
      exact atI_nat (by simp)
    · exact ⟨_, _, .refl, k _ (List.getElem_mem hl)⟩
  · repeat' kpc_text
    refine cd_lenS (Nat.le_trans h1 (by decide)) ?_
    repeat' kpc_text
    rename_i r hr0 hr1
    obtain ⟨c, ec⟩ := at_sign (z := t) (i := r) hr0 hr1
    refine od_ixS (Nat.le_trans h1 (by decide)) ec ?_
    refine ⟨_, _, .refl, k c ?_⟩
    obtain ⟨n, rfl⟩ : ∃ n : Nat, r = (n : Int) := ⟨r.toNat, by omega⟩
    unfold atI at ec
    cases e : ixN t.cps.toList.length (n : Int) with
    | none => rw [e] at ec; cases ec
    | some m => rw [e] at ec; exact List.mem_of_getElem? ec
theorem od_addM {α : Type} {xs ys : List α} {f : α → D} {M : Mem} {Φ : D → Mem → Prop} (hl : xs.length + ys.length ≤ 1000) (k : Φ (.lst ((xs ++ ys).map f)) M) : OpD rAddU (.lst (xs.map f)) (.lst (ys.map f)) M Φ := od_addL (by rw [List.length_map, List.length_map]; exact Nat.le_trans hl (by decide)) (by rw [← List.map_append]; exact k)
def nextF (j : J) (m a : Int) (r : Int × Int × Int) : Int := min j.size (aheadF j m (r.1 - a) - (r.2.2 - j.rate) * r.2.1)
def badF (j : J) (m a : Int) (r : Int × Int × Int) : Prop := r.2.2 > j.mouth ∨ r.2.2 > aheadF j m (r.1 - a) - max 0 (r.2.2 - j.rate) * (r.2.1 - 1)
instance (j : J) (m a : Int) (r : Int × Int × Int) : Decidable (badF j m a r) := inferInstanceAs (Decidable (_ ∨ _))
/-- whether rows fit, as Flow.fits reckons -/
def fitsF (j : J) (m a : Int) : List (Int × Int × Int) → Bool
  | [] => true
  | r :: rs => if r.1 < a ∨ r.2.1 < 1 ∨ r.2.2 < 1 then false else if badF j m a r then false else fitsF j (nextF j m a r) (r.1 + r.2.1) rs
theorem fits_at {rows : List (Int × Int × Int)} {i : Nat} {r : Int × Int × Int} (e : rows[i]? = some r) (j : J) (m a : Int) : fitsF j m a (rows.drop i) = if r.1 < a ∨ r.2.1 < 1 ∨ r.2.2 < 1 then false else if badF j m a r then false else fitsF j (nextF j m a r) (r.1 + r.2.1) (rows.drop (i + 1)) := by
  obtain ⟨h, rfl⟩ := List.getElem?_eq_some_iff.mp e
  rw [List.drop_eq_getElem_cons h]; rfl
theorem fits_no1 {rows : List (Int × Int × Int)} {i : Nat} {r : Int × Int × Int} (e : rows[i]? = some r) {j : J} {m a : Int} (h : r.1 < a ∨ r.2.1 < 1 ∨ r.2.2 < 1) : fitsF j m a (rows.drop i) = false := by
  rw [fits_at e, if_pos h]
theorem fits_no2 {rows : List (Int × Int × Int)} {i : Nat} {r : Int × Int × Int} (e : rows[i]? = some r) {j : J} {m a : Int} (h : ¬ (r.1 < a ∨ r.2.1 < 1 ∨ r.2.2 < 1)) (h2 : badF j m a r) : fitsF j m a (rows.drop i) = false := by
  rw [fits_at e, if_neg h, if_pos h2]
theorem fits_go {rows : List (Int × Int × Int)} {i : Nat} {r : Int × Int × Int} (e : rows[i]? = some r) {j : J} {m a : Int} (h : ¬ (r.1 < a ∨ r.2.1 < 1 ∨ r.2.2 < 1)) (h2 : ¬ badF j m a r) : fitsF j m a (rows.drop i) = fitsF j (nextF j m a r) (r.1 + r.2.1) (rows.drop (i + 1)) := by
  rw [fits_at e, if_neg h, if_neg h2]
theorem ahead_zero {j : J} {m : Int} (h : m ≤ j.size) : aheadF j m 0 = m := by unfold aheadF; rw [Int.mul_zero]; omega
theorem ahead_succ {j : J} (hr : 0 ≤ j.rate) (m : Int) (k : Nat) : min j.size (aheadF j m k + j.rate) = aheadF j m ((k + 1 : Nat) : Int) := by
  unfold aheadF; push_cast; rw [Int.mul_add, Int.mul_one]; omega
theorem ahead_le (j : J) (m t : Int) : aheadF j m t ≤ j.size := by unfold aheadF; omega
theorem next_le (j : J) (m a : Int) (r : Int × Int × Int) : nextF j m a r ≤ j.size := by unfold nextF; omega
abbrev rowD (j : J) : D := .tup [.int j.size, .int j.rate, .int j.mouth]
def pFits (cF cJ : Addr) : DSpE := fun ds M Φ _ => ∃ x j m, ∃ rows : List (Int × Int × Int), ds = [x, .lst (rows.map tD)] ∧ IsO M x cF fNs (fFs cJ j m) ∧ JOk j ∧ m ≤ j.size ∧ (∀ r ∈ rows, -1000000000000000 ≤ r.2.2 ∧ r.2.2 ≤ 1000000000000000) ∧ Φ (.bl (fitsF j m 0 rows)) M
def n_Flow_fits : List Str := ["self", "rows", "size", "rate", "mouth", "marks", "at", "first", "ticks", "many", "loss"]
theorem sc_Flow_fits : FnScope n_Flow_fits ["self", "rows"] (defScope s_Flow_fits) := ⟨rfl, rfl, rfl, by decide +kernel, rfl, by decide +kernel, by decide +kernel⟩
theorem d_Flow_fits {P : Program} {w : World} {K : PySem.W.Frag} {mg : Str → Option Value} {base : Heap} {c_Jar c_Flow : Addr} {f : Addr} {fd : FuncData} (F : FunG K "fits" "Flow.fits" s_Flow_fits f fd)
    (M_Jar_told_0 : MethE P w K mg base 1 c_Jar "told" 0 [] (selN 1) (pTold c_Jar)) (A_Flow_jar : FldP K c_Flow "jar") (A_Flow_marks : FldP K c_Flow "marks") (G_min : mg "min" = none) (G_max : mg "max" = none) : FnOk P w K mg base (L2.CX P w) 2 f fd ["self", "rows"] (liftE (pFits c_Flow c_Jar)) := by
  refine fnokG_of (N := n_Flow_fits) (k := 1) F sc_Flow_fits (fun ds M Φ Ξ h => by obtain ⟨x, j, m, rows, rfl, io, hj, hm, hq, k⟩ := h; rfl) fun X kp ds M Φ Ξ h I => ?_
  obtain ⟨x, j, m, rows, rfl, io, hj, hm, hq, k⟩ := h
  obtain ⟨rfl, rfl, rfl, rfl, rfl, hN, hs, hf, z, hp, tk, hst, hfr⟩ := I
  have nd := z.nd
  have n0 : Lo X 0 "self" := lo_of hN hs hf (by decide +kernel)
  have n1 : Lo X 1 "rows" := lo_of hN hs hf (by decide +kernel)
  have n2 : Lo X 2 "size" := lo_of hN hs hf (by decide +kernel)
  have n3 : Lo X 3 "rate" := lo_of hN hs hf (by decide +kernel)
  have n4 : Lo X 4 "mouth" := lo_of hN hs hf (by decide +kernel)
  have n5 : Lo X 5 "marks" := lo_of hN hs hf (by decide +kernel)
  have n6 : Lo X 6 "at" := lo_of hN hs hf (by decide +kernel)
  have n7 : Lo X 7 "first" := lo_of hN hs hf (by decide +kernel)
  have n8 : Lo X 8 "ticks" := lo_of hN hs hf (by decide +kernel)
  have n9 : Lo X 9 "many" := lo_of hN hs hf (by decide +kernel)
  have n10 : Lo X 10 "loss" := lo_of hN hs hf (by decide +kernel)
  have g_min : Gn X "min" := gn_of hs (by decide +kernel) G_min
  have g_max : Gn X "max" := gn_of hs (by decide +kernel) G_max
  clear F hf
  change DSs _ X (_ :: _) [_, _, _, _, _, _, _, _, _, _, _] _ _
  have hr1 := hj.r1
  have hrm := hj.rm
  have hms := hj.ms
  have hsz := hj.sz
  repeat' ((fail_if_success refine stFor ?_); kpc_text)
  first | refine ds_cons (ds_forC [5, 6, 7, 8, 9, 10] z (by assumption) (di_list ?_)) | refine ds_forC [5, 6, 7, 8, 9, 10] z (by assumption) (di_list ?_)
  repeat' kpc_text
  refine ⟨fun i vs M1 => (∃ (mk a : Int) (o7 o8 o9 o10 : Option D), [some (.int mk), some (.int a), o7, o8, o9, o10] = vs ∧ M = M1 ∧ (fitsF j m 0 rows = fitsF j mk a (rows.drop i)) ∧ (mk ≤ j.size)), ⟨m, 0, _, _, _, _, rfl, rfl, (by first | rfl | omega | (simp; done) | (simp; omega)), (by first | rfl | omega | (simp; done) | (simp; omega))⟩, ?_, ?_⟩
  · rintro i x vs δ M1 hx ⟨mk, a, o7, o8, o9, o10, rfl, rfl, h1, h2⟩ hδ
    obtain rfl : δ = [_, _, _, _, _, _, _, o7, o8, o9, o10] := hδ
    obtain ⟨r, hr, rfl⟩ := map_get hx
    have hq1 := hq r (List.mem_of_getElem? hr)
    repeat' kpc_text
    all_goals first
      | exact ⟨_, _, .refl, by rw [h1, fits_no1 hr (by omega)] at k; exact k⟩
      | exact ⟨_, _, .refl, by rw [h1, fits_no2 hr (by omega) (by unfold badF aheadF; omega)] at k; exact k⟩
      | skip
    have hg := h1.trans (fits_go (j := j) (m := mk) (a := a) hr (by omega) (by unfold badF aheadF; omega))
    exact ⟨[_, _, _, _, _, _], rfl, _, _, _, _, _, _, rfl, rfl, (hg), (next_le j mk a r)⟩
  · rintro vs δ M1 ⟨mk, a, o7, o8, o9, o10, rfl, rfl, h1, h2⟩ hδ
    obtain rfl : δ = [_, _, _, _, _, _, _, o7, o8, o9, o10] := hδ
    try simp only [range_len, List.length_map, enum_len] at h1 h2
    repeat' kpc_text
    rw [h1, List.drop_length] at k
    exact ⟨_, _, .refl, k⟩
structure Ask where
  j : J
  m : Int
  a : Int
  w : Int
structure AskOk (x : Ask) : Prop where
  jo : JOk x.j
  m0 : 0 ≤ x.m
  m1 : x.m ≤ x.j.size
  a0 : 0 ≤ x.a
  w1 : 1 ≤ x.w
  a9 : x.a ≤ 3000000000
  w9 : x.w ≤ 1000000000
structure Pl where
  now : Int
  opens : Int
  ks : List (Int × Int × Int)
  as : List Ask
structure PlOk (p : Pl) : Prop where
  n0 : 0 ≤ p.now
  o0 : 0 ≤ p.opens
  kl : p.ks.length ≤ 100
  al : p.as.length ≤ 100
  ao : ∀ x ∈ p.as, AskOk x
  ko : ∀ r ∈ p.ks, p.now ≤ r.1 ∧ r.1 < r.2.1 ∧ 1 ≤ r.2.2
abbrev paD (x : Ask) : D := .tup [rowD x.j, .int x.m, .int x.a, .int x.w]
abbrev askD (cF cJ : Addr) (x : Ask) : D := .tup [fD cF cJ x.j x.m, .int x.a, .int x.w]
abbrev sNs : List Str := ["width", "now", "opens", "sure", "open_asks"]
abbrev sFs (cF cJ : Addr) (p : Pl) (w : Int) : List D := [.int w, .int p.now, .int p.opens, .lst (p.ks.map tD), .lst (p.as.map (askD cF cJ))]
abbrev sD (cS cF cJ : Addr) (p : Pl) (w : Int) : D := .obj cS sNs (sFs cF cJ p w)
def knF (ks : List (Int × Int × Int)) (f e : Int) : Int := (ks.filterMap fun a => if f ≤ a.1 ∧ a.2.1 ≤ e then some a.2.2 else none).sum
def askN (now f e : Int) (x : Ask) : Int := mostF x.j x.m (max now (f - x.a) - now) (e - x.a - x.w - max now (f - x.a) + 1)
def askS (p : Pl) (f e : Int) : Int := (p.as.map (askN p.now f e)).sum
def needF (p : Pl) (f e : Int) : Int := knF p.ks f e + askS p f e
def holdsF (p : Pl) (w f e : Int) : Int := w * max 0 (e - max f p.opens)
theorem sum_take {α : Type} {l : List α} {i : Nat} {x : α} (f : α → Int) (h : l[i]? = some x) : ((l.take (i + 1)).map f).sum = ((l.take i).map f).sum + f x := by
  rw [List.take_add_one, h]; simp
def pSceneI (cS cF cJ : Addr) : DSpE := fun ds M Φ _ => ∃ a p w M', ds = [.raw (.ref a), .int w, .int p.now, .lst (p.ks.map tD), .lst (p.as.map (askD cF cJ)), .int p.opens] ∧ M = (a, .obj cS [] []) :: M' ∧ PlOk p ∧ Φ .non ((a, .obj cS sNs (sFs cF cJ p w)) :: M')
def pWindow : DSpE := fun ds M Φ _ => ∃ n f l : Int, ds = [.int n, .int f, .int l] ∧ Φ (.tup [.int (max n f - n), .int (l - max n f + 1)]) M
def pHolds (cS cF cJ : Addr) : DSpE := fun ds M Φ _ => ∃ x p w f e, ds = [x, .int f, .int e] ∧ IsO M x cS sNs (sFs cF cJ p w) ∧ -1000000000000000 ≤ w ∧ w ≤ 1000000000000000 ∧ Φ (.int (holdsF p w f e)) M
def n_Scene__init : List Str := ["self", "width", "now", "knowns", "asks", "opens", "come", "hour", "many", "flow", "after", "wait"]
theorem sc_Scene__init : FnScope n_Scene__init ["self", "width", "now", "knowns", "asks", "opens"] (defScope s_Scene__init) := ⟨rfl, rfl, rfl, by decide +kernel, rfl, by decide +kernel, by decide +kernel⟩
theorem d_Scene__init {P : Program} {w : World} {K : PySem.W.Frag} {mg : Str → Option Value} {base : Heap} {c_Scene c_Flow c_Jar : Addr} {f : Addr} {fd : FuncData} (F : FunG K "__init__" "Scene.__init__" s_Scene__init f fd)
    (A_Scene_width : FldP K c_Scene "width") (A_Scene_now : FldP K c_Scene "now") (A_Scene_opens : FldP K c_Scene "opens") (A_Scene_sure : FldP K c_Scene "sure") (A_Scene_open_asks : FldP K c_Scene "open_asks") (N_Flow_2 : MakeE P w K mg base 1 "Flow" c_Flow 2 [] (selN 3) (pFlowI c_Flow c_Jar c_NoJar)) (A_Flow_jar : FldP K c_Flow "jar") (A_Flow_marks : FldP K c_Flow "marks") : FnOk P w K mg base (L2.CX P w) 3 f fd ["self", "width", "now", "knowns", "asks", "opens"] (liftE (pSceneI c_Scene c_Flow c_Jar)) := by
  refine fnokG_of (N := n_Scene__init) (k := 2) F sc_Scene__init (fun ds M Φ Ξ h => by obtain ⟨a, p, w, M', rfl, rfl, hok, k⟩ := h; rfl) fun X kp ds M Φ Ξ h I => ?_
  obtain ⟨a, p, w, M', rfl, rfl, hok, k⟩ := h
  obtain ⟨rfl, rfl, rfl, rfl, rfl, hN, hs, hf, z, hp, tk, hst, hfr⟩ := I
  have nd := z.nd
  have n0 : Lo X 0 "self" := lo_of hN hs hf (by decide +kernel)
  have n1 : Lo X 1 "width" := lo_of hN hs hf (by decide +kernel)
  have n2 : Lo X 2 "now" := lo_of hN hs hf (by decide +kernel)
  have n3 : Lo X 3 "knowns" := lo_of hN hs hf (by decide +kernel)
  have n4 : Lo X 4 "asks" := lo_of hN hs hf (by decide +kernel)
  have n5 : Lo X 5 "opens" := lo_of hN hs hf (by decide +kernel)
  clear F hf
  change DSs _ X (_ :: _) [_, _, _, _, _, _, _, _, _, _, _, _] _ _
  have hkl := hok.kl
  have hal := hok.al
  repeat' kpc_text
  refine DE.f (df_lc 1 z hN hs [("come", 6), ("hour", 7), ("many", 8)] (.tup [6, 7, 8]) (by decide +kernel) (by decide) (fun X' bk => pg_many bk z (pgs_1 (bk.z z).nd (bk.lo hN hs (by decide +kernel)) (pgs_1 (bk.z z).nd (bk.lo hN hs (by decide +kernel)) (pgs_1 (bk.z z).nd (bk.lo hN hs (by decide +kernel)) pgs_0)))) (di_list ?_))
  repeat' kpc_text
  refine LcH.mapT (p.ks) (tD) (fun r => r) (tD) (Nat.le_trans (show List.length _ ≤ 1000 by first | omega | (simp; done) | (simp; omega)) (by decide)) (fun q acc a ha => ?_) ?_
  · refine ⟨_, rfl, fun X' bk => ?_⟩
    have c6 : Lo X' 6 "come" := bk.lo hN hs (by decide +kernel)
    have c7 : Lo X' 7 "hour" := bk.lo hN hs (by decide +kernel)
    have c8 : Lo X' 8 "many" := bk.lo hN hs (by decide +kernel)
    have z' := bk.z z
    repeat' kpc_text
    exact ⟨rfl, rfl⟩
  rw [List.map_id']
  repeat' kpc_text
  refine DE.f (df_lc 1 z hN hs [("flow", 9), ("after", 10), ("wait", 11)] (.tup [9, 10, 11]) (by decide +kernel) (by decide) (fun X' bk => pg_many bk z (pgs_1 (bk.z z).nd (bk.lo hN hs (by decide +kernel)) (pgs_1 (bk.z z).nd (bk.lo hN hs (by decide +kernel)) (pgs_1 (bk.z z).nd (bk.lo hN hs (by decide +kernel)) pgs_0)))) (di_list ?_))
  repeat' kpc_text
  refine LcH.mapT (p.as) (askD c_Flow c_Jar) (fun x => x) (askD c_Flow c_Jar) (Nat.le_trans (show List.length _ ≤ 1000 by first | omega | (simp; done) | (simp; omega)) (by decide)) (fun q acc a ha => ?_) ?_
  · refine ⟨_, rfl, fun X' bk => ?_⟩
    have c9 : Lo X' 9 "flow" := bk.lo hN hs (by decide +kernel)
    have c10 : Lo X' 10 "after" := bk.lo hN hs (by decide +kernel)
    have c11 : Lo X' 11 "wait" := bk.lo hN hs (by decide +kernel)
    have z' := bk.z z
    have N_Flow_2' := bk.kE N_Flow_2
    have l_Flow' : Gl X' "Flow" := bk.gl hs (by decide +kernel)
    have A_Flow_jar' := bk.fld A_Flow_jar
    have A_Flow_marks' := bk.fld A_Flow_marks
    repeat' kpc_text
    have hx := hok.ao a ha
    refine c_flow (j := a.j) (m := a.m) rfl ⟨hx.m0, hx.m1⟩ ?_
    repeat' kpc_text
    exact ⟨rfl, rfl⟩
  rw [List.map_id']
  repeat' kpc_text
  exact ⟨_, _, .refl, k⟩
def n_window : List Str := ["now", "first", "last", "begin"]
theorem sc_window : FnScope n_window ["now", "first", "last"] (defScope s_window) := ⟨rfl, rfl, rfl, by decide +kernel, rfl, by decide +kernel, by decide +kernel⟩
theorem d_window {P : Program} {w : World} {K : PySem.W.Frag} {mg : Str → Option Value} {base : Heap} {f : Addr} {fd : FuncData} (F : FunG K "window" "window" s_window f fd)
    (G_max : mg "max" = none) : FnOk P w K mg base (L2.CX P w) 1 f fd ["now", "first", "last"] (liftE pWindow) := by
  refine fnokG_of (N := n_window) (k := 0) F sc_window (fun ds M Φ Ξ h => by obtain ⟨n, f, l, rfl, k⟩ := h; rfl) fun X kp ds M Φ Ξ h I => ?_
  obtain ⟨n, f, l, rfl, k⟩ := h
  obtain ⟨rfl, rfl, rfl, rfl, rfl, hN, hs, hf, z, hp, tk, hst, hfr⟩ := I
  have nd := z.nd
  have n0 : Lo X 0 "now" := lo_of hN hs hf (by decide +kernel)
  have n1 : Lo X 1 "first" := lo_of hN hs hf (by decide +kernel)
  have n2 : Lo X 2 "last" := lo_of hN hs hf (by decide +kernel)
  have n3 : Lo X 3 "begin" := lo_of hN hs hf (by decide +kernel)
  have g_max : Gn X "max" := gn_of hs (by decide +kernel) G_max
  clear F hf
  change DSs _ X (_ :: _) [_, _, _, _] _ _
  repeat' kpc_text
  exact ⟨_, _, .refl, k⟩
def n_Scene_holds : List Str := ["self", "first", "end"]
theorem sc_Scene_holds : FnScope n_Scene_holds ["self", "first", "end"] (defScope s_Scene_holds) := ⟨rfl, rfl, rfl, by decide +kernel, rfl, by decide +kernel, by decide +kernel⟩
theorem d_Scene_holds {P : Program} {w : World} {K : PySem.W.Frag} {mg : Str → Option Value} {base : Heap} {c_Scene c_Flow c_Jar : Addr} {f : Addr} {fd : FuncData} (F : FunG K "holds" "Scene.holds" s_Scene_holds f fd)
    (A_Scene_width : FldP K c_Scene "width") (G_max : mg "max" = none) (A_Scene_opens : FldP K c_Scene "opens") : FnOk P w K mg base (L2.CX P w) 1 f fd ["self", "first", "end"] (liftE (pHolds c_Scene c_Flow c_Jar)) := by
  refine fnokG_of (N := n_Scene_holds) (k := 0) F sc_Scene_holds (fun ds M Φ Ξ h => by obtain ⟨x, p, w, f, e, rfl, io, hw0, hw1, k⟩ := h; rfl) fun X kp ds M Φ Ξ h I => ?_
  obtain ⟨x, p, w, f, e, rfl, io, hw0, hw1, k⟩ := h
  obtain ⟨rfl, rfl, rfl, rfl, rfl, hN, hs, hf, z, hp, tk, hst, hfr⟩ := I
  have nd := z.nd
  have n0 : Lo X 0 "self" := lo_of hN hs hf (by decide +kernel)
  have n1 : Lo X 1 "first" := lo_of hN hs hf (by decide +kernel)
  have n2 : Lo X 2 "end" := lo_of hN hs hf (by decide +kernel)
  have g_max : Gn X "max" := gn_of hs (by decide +kernel) G_max
  clear F hf
  change DSs _ X (_ :: _) [_, _, _] _ _
  repeat' kpc_text
  exact ⟨_, _, .refl, k⟩
def pAskRows (cS cF cJ : Addr) : DSpE := fun ds M Φ _ => ∃ p w, ds = [sD cS cF cJ p w] ∧ PlOk p ∧ Φ (.lst (p.as.map (askD cF cJ))) M
def pKnownRows (cS cF cJ : Addr) : DSpE := fun ds M Φ _ => ∃ p w, ds = [sD cS cF cJ p w] ∧ Φ (.lst (p.ks.map tD)) M
def n_Scene_ask_rows : List Str := ["self", "flow", "after", "wait"]
theorem sc_Scene_ask_rows : FnScope n_Scene_ask_rows ["self"] (defScope s_Scene_ask_rows) := ⟨rfl, rfl, rfl, by decide +kernel, rfl, by decide +kernel, by decide +kernel⟩
theorem d_Scene_ask_rows {P : Program} {w : World} {K : PySem.W.Frag} {mg : Str → Option Value} {base : Heap} {c_Flow c_Scene c_Jar : Addr} {f : Addr} {fd : FuncData} (F : FunG K "ask_rows" "Scene.ask_rows" s_Scene_ask_rows f fd)
    (N_Flow_2 : MakeE P w K mg base 1 "Flow" c_Flow 2 [] (selN 3) (pFlowI c_Flow c_Jar c_NoJar)) (A_Flow_jar : FldP K c_Flow "jar") (A_Flow_marks : FldP K c_Flow "marks") (A_Scene_open_asks : FldP K c_Scene "open_asks") : FnOk P w K mg base (L2.CX P w) 3 f fd ["self"] (liftE (pAskRows c_Scene c_Flow c_Jar)) := by
  refine fnokG_of (N := n_Scene_ask_rows) (k := 2) F sc_Scene_ask_rows (fun ds M Φ Ξ h => by obtain ⟨p, w, rfl, hok, k⟩ := h; rfl) fun X kp ds M Φ Ξ h I => ?_
  obtain ⟨p, w, rfl, hok, k⟩ := h
  obtain ⟨rfl, rfl, rfl, rfl, rfl, hN, hs, hf, z, hp, tk, hst, hfr⟩ := I
  have nd := z.nd
  have n0 : Lo X 0 "self" := lo_of hN hs hf (by decide +kernel)
  clear F hf
  change DSs _ X (_ :: _) [_, _, _, _] _ _
  have hal := hok.al
  repeat' kpc_text
  refine DE.f (df_lc 0 z hN hs [("flow", 1), ("after", 2), ("wait", 3)] (.tup [1, 2, 3]) (by decide +kernel) (by decide) (fun X' bk => pg_many bk z (pgs_1 (bk.z z).nd (bk.lo hN hs (by decide +kernel)) (pgs_1 (bk.z z).nd (bk.lo hN hs (by decide +kernel)) (pgs_1 (bk.z z).nd (bk.lo hN hs (by decide +kernel)) pgs_0)))) (di_list ?_))
  repeat' kpc_text
  refine LcH.mapT (p.as) (askD c_Flow c_Jar) (fun x => x) (askD c_Flow c_Jar) (Nat.le_trans (show List.length _ ≤ 1000 by first | omega | (simp; done) | (simp; omega)) (by decide)) (fun q acc a ha => ?_) ?_
  · refine ⟨_, rfl, fun X' bk => ?_⟩
    have c1 : Lo X' 1 "flow" := bk.lo hN hs (by decide +kernel)
    have c2 : Lo X' 2 "after" := bk.lo hN hs (by decide +kernel)
    have c3 : Lo X' 3 "wait" := bk.lo hN hs (by decide +kernel)
    have z' := bk.z z
    have N_Flow_2' := bk.kE N_Flow_2
    have l_Flow' : Gl X' "Flow" := bk.gl hs (by decide +kernel)
    have A_Flow_jar' := bk.fld A_Flow_jar
    have A_Flow_marks' := bk.fld A_Flow_marks
    repeat' kpc_text
    have hx := hok.ao a ha
    refine c_flow (j := a.j) (m := a.m) rfl ⟨hx.m0, hx.m1⟩ ?_
    repeat' kpc_text
    exact ⟨rfl, rfl⟩
  rw [List.map_id']
  exact ⟨_, _, .refl, k⟩
def n_Scene_known_rows : List Str := ["self"]
theorem sc_Scene_known_rows : FnScope n_Scene_known_rows ["self"] (defScope s_Scene_known_rows) := ⟨rfl, rfl, rfl, by decide +kernel, rfl, by decide +kernel, by decide +kernel⟩
theorem d_Scene_known_rows {P : Program} {w : World} {K : PySem.W.Frag} {mg : Str → Option Value} {base : Heap} {c_Scene c_Flow c_Jar : Addr} {f : Addr} {fd : FuncData} (F : FunG K "known_rows" "Scene.known_rows" s_Scene_known_rows f fd)
    (G_list : mg "list" = none) (A_Scene_sure : FldP K c_Scene "sure") : FnOk P w K mg base (L2.CX P w) 1 f fd ["self"] (liftE (pKnownRows c_Scene c_Flow c_Jar)) := by
  refine fnokG_of (N := n_Scene_known_rows) (k := 0) F sc_Scene_known_rows (fun ds M Φ Ξ h => by obtain ⟨p, w, rfl, k⟩ := h; rfl) fun X kp ds M Φ Ξ h I => ?_
  obtain ⟨p, w, rfl, k⟩ := h
  obtain ⟨rfl, rfl, rfl, rfl, rfl, hN, hs, hf, z, hp, tk, hst, hfr⟩ := I
  have nd := z.nd
  have n0 : Lo X 0 "self" := lo_of hN hs hf (by decide +kernel)
  have g_list : Gn X "list" := gn_of hs (by decide +kernel) G_list
  clear F hf
  change DSs _ X (_ :: _) [_] _ _
  repeat' kpc_text
  refine ⟨_, .val _, ?_⟩
  exact ⟨_, _, .refl, k⟩
/-! ### the plain law of judging -/
def kn1 (f e : Int) (r : Int × Int × Int) : Int := if f ≤ r.1 ∧ r.2.1 ≤ e then r.2.2 else 0
theorem kn_sum (f e : Int) : ∀ ks : List (Int × Int × Int), knF ks f e = (ks.map (kn1 f e)).sum
  | [] => rfl
  | r :: ks => by
    have ih := kn_sum f e ks
    unfold knF at ih ⊢
    rw [List.filterMap_cons, List.map_cons, List.sum_cons, ← ih]
    by_cases h : f ≤ r.1 ∧ r.2.1 ≤ e
    · rw [if_pos h, show kn1 f e r = r.2.2 from if_pos h]; rfl
    · rw [if_neg h, show kn1 f e r = 0 from if_neg h, Int.zero_add]
theorem sum_le {α : Type} {f g : α → Int} : ∀ {l : List α}, (∀ x ∈ l, f x ≤ g x) → (l.map f).sum ≤ (l.map g).sum
  | [], _ => by simp
  | x :: l, h => by
    have h1 := h x List.mem_cons_self
    have h2 := sum_le (l := l) fun y hy => h y (List.mem_cons_of_mem _ hy)
    simp only [List.map_cons, List.sum_cons]; omega
theorem sum_conv {α : Type} {f g h : α → Int} : ∀ {l : List α}, (∀ x ∈ l, 2 * g x ≤ f x + h x) → 2 * (l.map g).sum ≤ (l.map f).sum + (l.map h).sum
  | [], _ => by simp
  | x :: l, k => by
    have h1 := k x List.mem_cons_self
    have h2 := sum_conv (l := l) fun y hy => k y (List.mem_cons_of_mem _ hy)
    simp only [List.map_cons, List.sum_cons]; omega
theorem sum_add {α : Type} {f g h : α → Int} : ∀ {l : List α}, (∀ x ∈ l, f x ≤ g x + h x) → (l.map f).sum ≤ (l.map g).sum + (l.map h).sum
  | [], _ => by simp
  | x :: l, k => by
    have h1 := k x List.mem_cons_self
    have h2 := sum_add (l := l) fun y hy => k y (List.mem_cons_of_mem _ hy)
    simp only [List.map_cons, List.sum_cons]; omega
theorem sum_nought {α : Type} {f : α → Int} : ∀ {l : List α}, (∀ x ∈ l, f x = 0) → (l.map f).sum = 0
  | [], _ => by simp
  | x :: l, k => by
    have h1 := k x List.mem_cons_self
    have h2 := sum_nought (l := l) fun y hy => k y (List.mem_cons_of_mem _ hy)
    simp only [List.map_cons, List.sum_cons]; omega
/-- the most of so many marks in t ticks -/
theorem most_lo {j : J} {m a t : Int} (ht : 1 ≤ t) (h : (j.mouth - j.rate) * (t - 1) ≤ aheadF j m a - j.mouth) : mostF j m a t = j.mouth * t := by
  unfold mostF
  rw [if_neg (by omega)]
  rw [Int.sub_mul, Int.mul_sub, Int.mul_sub] at h
  rw [Int.mul_sub]
  omega
theorem most_hi {j : J} {m a t : Int} (ht : 1 ≤ t) (h : aheadF j m a - j.mouth ≤ (j.mouth - j.rate) * (t - 1)) : mostF j m a t = aheadF j m a + j.rate * (t - 1) := by
  unfold mostF
  rw [if_neg (by omega)]
  rw [Int.sub_mul, Int.mul_sub, Int.mul_sub] at h
  rw [Int.mul_sub]
  omega
theorem most_0 {j : J} {m a t : Int} (ht : t ≤ 0) : mostF j m a t = 0 := if_pos ht
theorem ahead_nn {j : J} {m a : Int} (hj : JOk j) (hm : 0 ≤ m) (ha : 0 ≤ a) : 0 ≤ aheadF j m a := by
  have h1 := hj.r1; have h2 := hj.rm; have h3 := hj.ms
  have := Int.mul_nonneg (show 0 ≤ j.rate by omega) ha
  unfold aheadF; omega
theorem most_nn {j : J} {m a t : Int} (hj : JOk j) (hm : 0 ≤ m) (ha : 0 ≤ a) : 0 ≤ mostF j m a t := by
  have h1 := hj.r1; have h2 := hj.rm
  have h3 := ahead_nn hj hm ha
  unfold mostF
  split
  · omega
  · have := Int.mul_nonneg (show 0 ≤ j.rate by omega) (show 0 ≤ t - 1 by omega)
    have := Int.mul_nonneg (show 0 ≤ j.mouth by omega) (show 0 ≤ t by omega)
    omega
/-- the ends that an ask gives -/
def askA (now f : Int) (x : Ask) : Int := max now (f - x.a) - now
def oneF (now f : Int) (x : Ask) : Int := now + askA now f x + x.a + x.w
def bendF (now f : Int) (x : Ask) : Int := oneF now f x + (aheadF x.j x.m (askA now f x) - x.j.mouth) / (x.j.mouth - x.j.rate)
def endsA (now f : Int) (x : Ask) : List Int := oneF now f x :: if x.j.mouth ≤ aheadF x.j x.m (askA now f x) ∧ x.j.rate < x.j.mouth then [bendF now f x, bendF now f x + 1] else []
theorem bend_iff {c k t : Int} (hc : 0 < c) : c * t ≤ k ↔ t ≤ k / c := by
  rw [Int.le_ediv_iff_mul_le hc, Int.mul_comm]
theorem ask_conv {now f e : Int} {x : Ask} (hx : AskOk x) (hf : now ≤ f) (hn : e ∉ endsA now f x) : 2 * askN now f e x ≤ askN now f (e + 1) x + askN now f (e - 1) x := by
  have h1 := hx.jo.r1; have h2 := hx.jo.rm; have h3 := hx.m0
  have ha : 0 ≤ askA now f x := by unfold askA; omega
  have hM := ahead_nn hx.jo hx.m0 ha
  have e0 : ∀ d, askN now f d x = mostF x.j x.m (askA now f x) (d - oneF now f x + 1) := fun d => by
    unfold askN oneF askA; congr 1; omega
  rw [e0, e0, e0]
  have hne : e ≠ oneF now f x := fun z => hn (by rw [z]; exact List.mem_cons_self)
  have hb : x.j.mouth ≤ aheadF x.j x.m (askA now f x) ∧ x.j.rate < x.j.mouth → e ≠ bendF now f x ∧ e ≠ bendF now f x + 1 := fun z => by
    unfold endsA at hn
    rw [if_pos z] at hn
    simp at hn
    exact hn.2
  unfold bendF at hb
  generalize askA now f x = a at *
  generalize oneF now f x = o at *
  obtain ⟨t, rfl⟩ : ∃ t, e = o + t - 1 := ⟨e - o + 1, by omega⟩
  rw [show o + t - 1 - o + 1 = t by omega, show o + t - 1 + 1 - o + 1 = t + 1 by omega, show o + t - 1 - 1 - o + 1 = t - 1 by omega]
  rcases (by omega : t ≤ 0 ∨ 2 ≤ t) with ht | ht
  · rw [most_0 ht, most_0 (show t - 1 ≤ 0 by omega)]
    have := most_nn (t := t + 1) hx.jo hx.m0 ha
    omega
  · by_cases hc : x.j.mouth ≤ aheadF x.j x.m a ∧ x.j.rate < x.j.mouth
    · have hb := hb hc
      have bi := fun t => bend_iff (c := x.j.mouth - x.j.rate) (k := aheadF x.j x.m a - x.j.mouth) (t := t) (by omega)
      generalize hk : (aheadF x.j x.m a - x.j.mouth) / (x.j.mouth - x.j.rate) = k at *
      rcases (by omega : t ≤ k ∨ k + 3 ≤ t) with hk | hk
      · rw [most_lo (by omega) ((bi _).mpr (by omega)), most_lo (by omega) ((bi _).mpr (by omega)), most_lo (by omega) ((bi _).mpr (by omega))]
        rw [Int.mul_add, Int.mul_sub]; omega
      · have nb : ∀ s, k < s → aheadF x.j x.m a - x.j.mouth ≤ (x.j.mouth - x.j.rate) * s := fun s hs => by
          have := mt (bi s).mp (by omega); omega
        rw [most_hi (by omega) (nb _ (by omega)), most_hi (by omega) (nb _ (by omega)), most_hi (by omega) (nb _ (by omega))]
        simp only [Int.mul_add, Int.mul_sub]; omega
    · rcases (by omega : aheadF x.j x.m a < x.j.mouth ∨ (x.j.mouth ≤ aheadF x.j x.m a ∧ x.j.mouth - x.j.rate = 0)) with hl | ⟨hl, he⟩
      · have nb : ∀ s, 0 ≤ s → aheadF x.j x.m a - x.j.mouth ≤ (x.j.mouth - x.j.rate) * s := fun s hs => by
          have := Int.mul_nonneg (show 0 ≤ x.j.mouth - x.j.rate by omega) hs; omega
        rw [most_hi (by omega) (nb _ (by omega)), most_hi (by omega) (nb _ (by omega)), most_hi (by omega) (nb _ (by omega))]
        simp only [Int.mul_add, Int.mul_sub]; omega
      · have lb : ∀ s, (x.j.mouth - x.j.rate) * s ≤ aheadF x.j x.m a - x.j.mouth := fun s => by rw [he, Int.zero_mul]; omega
        rw [most_lo (by omega) (lb _), most_lo (by omega) (lb _), most_lo (by omega) (lb _)]
        simp only [Int.mul_add, Int.mul_sub]; omega
theorem ask_tail {now f e : Int} {x : Ask} (hx : AskOk x) (hf : now ≤ f) (hn : ∀ d ∈ endsA now f x, d ≤ e) : askN now f (e + 1) x ≤ askN now f e x + x.j.rate := by
  have h1 := hx.jo.r1; have h2 := hx.jo.rm; have h3 := hx.m0
  have ha : 0 ≤ askA now f x := by unfold askA; omega
  have hM := ahead_nn hx.jo hx.m0 ha
  have e0 : ∀ d, askN now f d x = mostF x.j x.m (askA now f x) (d - oneF now f x + 1) := fun d => by
    unfold askN oneF askA; congr 1; omega
  rw [e0, e0]
  have hne : oneF now f x ≤ e := hn _ List.mem_cons_self
  have hb : x.j.mouth ≤ aheadF x.j x.m (askA now f x) ∧ x.j.rate < x.j.mouth → bendF now f x + 1 ≤ e := fun z => by
    unfold endsA at hn
    rw [if_pos z] at hn
    exact hn _ (by simp)
  unfold bendF at hb
  generalize askA now f x = a at *
  generalize oneF now f x = o at *
  obtain ⟨t, rfl⟩ : ∃ t, e = o + t - 1 := ⟨e - o + 1, by omega⟩
  rw [show o + t - 1 - o + 1 = t by omega, show o + t - 1 + 1 - o + 1 = t + 1 by omega]
  by_cases hc : x.j.mouth ≤ aheadF x.j x.m a ∧ x.j.rate < x.j.mouth
  · have hb := hb hc
    have bi := fun t => bend_iff (c := x.j.mouth - x.j.rate) (k := aheadF x.j x.m a - x.j.mouth) (t := t) (by omega)
    generalize hk : (aheadF x.j x.m a - x.j.mouth) / (x.j.mouth - x.j.rate) = k at *
    have nb : ∀ s, k < s → aheadF x.j x.m a - x.j.mouth ≤ (x.j.mouth - x.j.rate) * s := fun s hs => by
      have := mt (bi s).mp (by omega); omega
    rw [most_hi (by omega) (nb _ (by omega)), most_hi (by omega) (nb _ (by omega))]
    simp only [Int.mul_add, Int.mul_sub]; omega
  · rcases (by omega : aheadF x.j x.m a < x.j.mouth ∨ (x.j.mouth ≤ aheadF x.j x.m a ∧ x.j.mouth - x.j.rate = 0)) with hl | ⟨hl, he⟩
    · have nb : ∀ s, 0 ≤ s → aheadF x.j x.m a - x.j.mouth ≤ (x.j.mouth - x.j.rate) * s := fun s hs => by
        have := Int.mul_nonneg (show 0 ≤ x.j.mouth - x.j.rate by omega) hs; omega
      rw [most_hi (by omega) (nb _ (by omega)), most_hi (by omega) (nb _ (by omega))]
      simp only [Int.mul_add, Int.mul_sub]; omega
    · have lb : ∀ s, (x.j.mouth - x.j.rate) * s ≤ aheadF x.j x.m a - x.j.mouth := fun s => by rw [he, Int.zero_mul]; omega
      rw [most_lo (by omega) (lb _), most_lo (by omega) (lb _)]
      simp only [Int.mul_add, Int.mul_sub]; omega
theorem ask_none {now f : Int} {x : Ask} (hx : AskOk x) : askN now f f x = 0 := by
  have := hx.w1
  exact most_0 (by omega)
theorem hold_conv {o w f e : Int} (h1 : f < e) (h2 : e ≠ o) : w * max 0 (e + 1 - max f o) + w * max 0 (e - 1 - max f o) = 2 * (w * max 0 (e - max f o)) := by
  have h0 : e < max f o ∨ max f o < e := by omega
  generalize max f o = q at *
  rcases h0 with h | h
  · rw [Int.max_eq_left (by omega), Int.max_eq_left (by omega), Int.max_eq_left (by omega)]; omega
  · rw [Int.max_eq_right (by omega), Int.max_eq_right (by omega), Int.max_eq_right (by omega)]
    simp only [Int.mul_add, Int.mul_sub]; omega
def endsL (p : Pl) (f : Int) : List Int := ([p.opens] ++ p.ks.map fun r => r.2.1) ++ p.as.flatMap (endsA p.now f)
def ratesF (p : Pl) : Int := (p.as.map fun x => x.j.rate).sum
theorem kn_nn {f e : Int} {ks : List (Int × Int × Int)} (h : ∀ r ∈ ks, 0 ≤ r.2.2) : 0 ≤ knF ks f e := by
  rw [kn_sum]
  have := sum_le (f := fun _ => 0) (g := kn1 f e) (l := ks) fun r hr => by have := h r hr; unfold kn1; split <;> omega
  have h0 := sum_nought (f := fun _ : Int × Int × Int => 0) (l := ks) fun _ _ => rfl
  omega
theorem exists_max : ∀ l : List Int, ∃ E, ∀ d ∈ l, d ≤ E
  | [] => ⟨0, fun _ h => nomatch h⟩
  | x :: l => let ⟨E, h⟩ := exists_max l; ⟨max x E, fun d hd => by
    rcases List.mem_cons.mp hd with rfl | hd
    · omega
    · have := h d hd; omega⟩
theorem ends_enough {p : Pl} {w f b : Int} (hb : 0 ≤ b) (hp : PlOk p) (hf : p.now ≤ f) (hr : ratesF p ≤ w) (h : ∀ e ∈ endsL p f, f < e → needF p f e ≤ holdsF p w f e + b) : ∀ e, f ≤ e → needF p f e ≤ holdsF p w f e + b := by
  have conv : ∀ e, f < e → e ∉ endsL p f → 2 * (needF p f e - holdsF p w f e) ≤ (needF p f (e + 1) - holdsF p w f (e + 1)) + (needF p f (e - 1) - holdsF p w f (e - 1)) := fun e he hn => by
    have hno : e ≠ p.opens := fun z => hn (by rw [z]; simp [endsL])
    have c1 := hold_conv (w := w) he hno
    have c2 : 2 * askS p f e ≤ askS p f (e + 1) + askS p f (e - 1) := sum_conv fun x hx => ask_conv (hp.ao x hx) hf fun z => hn (List.mem_append_right _ (List.mem_flatMap.mpr ⟨x, hx, z⟩))
    have c3 : 2 * knF p.ks f e ≤ knF p.ks f (e + 1) + knF p.ks f (e - 1) := by
      rw [kn_sum, kn_sum, kn_sum]
      refine sum_conv fun r hr => ?_
      have hne : e ≠ r.2.1 := fun z => hn (List.mem_append_left _ (List.mem_append_right _ (List.mem_map.mpr ⟨r, hr, z.symm⟩)))
      have h3 := (hp.ko r hr).2.2
      unfold kn1
      split <;> split <;> split <;> omega
    unfold needF holdsF; omega
  have zero : needF p f f - holdsF p w f f = 0 := by
    have c2 : askS p f f = 0 := sum_nought fun x hx => ask_none (hp.ao x hx)
    have c3 : knF p.ks f f = 0 := by
      rw [kn_sum]
      refine sum_nought fun r hr => ?_
      have h3 := (hp.ko r hr).2.1
      unfold kn1
      rw [if_neg (by omega)]
    unfold needF holdsF
    rw [c2, c3, Int.max_eq_left (by omega)]; simp
  obtain ⟨E, hE⟩ := exists_max (endsL p f)
  have tail : ∀ e, f ≤ e → E ≤ e → needF p f (e + 1) - holdsF p w f (e + 1) ≤ needF p f e - holdsF p w f e := fun e he hEe => by
    have ho : p.opens ≤ E := hE _ (by simp [endsL])
    have c1 : holdsF p w f (e + 1) = holdsF p w f e + w := by
      unfold holdsF
      have h0 : max f p.opens ≤ e := by omega
      generalize max f p.opens = q at *
      rw [Int.max_eq_right (by omega), Int.max_eq_right (by omega)]
      simp only [Int.mul_add, Int.mul_sub]; omega
    have c2 : askS p f (e + 1) ≤ askS p f e + ratesF p := sum_add fun x hx => ask_tail (hp.ao x hx) hf fun d hd => Int.le_trans (hE d (List.mem_append_right _ (List.mem_flatMap.mpr ⟨x, hx, hd⟩))) hEe
    have c3 : knF p.ks f (e + 1) ≤ knF p.ks f e := by
      rw [kn_sum, kn_sum]
      refine sum_le fun r hr => ?_
      have hne : r.2.1 ≤ e := Int.le_trans (hE _ (List.mem_append_left _ (List.mem_append_right _ (List.mem_map.mpr ⟨r, hr, rfl⟩)))) hEe
      have h3 := (hp.ko r hr).2.2
      unfold kn1
      split <;> split <;> omega
    unfold needF at *; omega
  generalize hx : (fun e => needF p f e - holdsF p w f e) = ex at *
  have hx' : ∀ e, needF p f e - holdsF p w f e = ex e := fun e => by rw [← hx]
  simp only [hx'] at conv zero tail
  have key : ∀ n : Nat, ex (f + n) ≤ b := fun n => by
    induction n with
    | zero => simp only [Int.natCast_zero, Int.add_zero]; omega
    | succ n ih =>
      refine Int.not_lt.mp fun hpos => ?_
      have grow : ∀ k : Nat, b < ex (f + n + 1 + k) ∧ ex (f + n + k) < ex (f + n + 1 + k) := fun k => by
        induction k with
        | zero => simp only [Int.natCast_zero, Int.add_zero]; push_cast at hpos; rw [← Int.add_assoc] at hpos; omega
        | succ k ihk =>
          have hc : f + n + 1 + k ∉ endsL p f := fun z => by
            have := h _ z (by omega)
            have := hx' (f + n + 1 + k)
            omega
          have := conv (f + n + 1 + k) (by omega) hc
          rw [show f + n + 1 + (k : Int) - 1 = f + n + k by omega] at this
          rw [show f + n + 1 + ((k + 1 : Nat) : Int) = f + n + 1 + k + 1 by omega, show f + n + ((k + 1 : Nat) : Int) = f + n + 1 + k by omega]
          omega
      have g := (grow (max 0 (E - f)).toNat).2
      have t := tail (f + n + ((max 0 (E - f)).toNat : Int)) (by omega) (by omega)
      rw [show f + n + 1 + ((max 0 (E - f)).toNat : Int) = f + n + ((max 0 (E - f)).toNat : Int) + 1 by omega] at g
      omega
  intro e he
  have := key (e - f).toNat
  rw [show f + ((e - f).toNat : Int) = e by omega] at this
  have := hx' e
  omega
/-! the first ticks -/
def quietK (q : Int) (ks : List (Int × Int × Int)) : Int := ks.foldl (fun f r => max f (r.1 + 1)) q
def fullA (now : Int) (x : Ask) : Int := now + x.a + (x.j.size - x.m + x.j.rate - 1) / x.j.rate
def quietA (now q : Int) (as : List Ask) : Int := as.foldl (fun f x => max f (fullA now x)) q
def quietF (p : Pl) : Int := quietA p.now (quietK (max p.now p.opens) p.ks) p.as
theorem fold_max {α : Type} (g : α → Int) : ∀ (l : List α) (q : Int), q ≤ l.foldl (fun f x => max f (g x)) q ∧ ∀ x ∈ l, g x ≤ l.foldl (fun f x => max f (g x)) q
  | [], q => ⟨Int.le_refl _, fun _ h => nomatch h⟩
  | y :: l, q => by
    have ih := fold_max g l (max q (g y))
    simp only [List.foldl_cons]
    refine ⟨by omega, fun x hx => ?_⟩
    rcases List.mem_cons.mp hx with rfl | hx
    · omega
    · exact ih.2 x hx
structure QuietOk (p : Pl) (q : Int) : Prop where
  n : p.now ≤ q
  o : p.opens ≤ q
  k : ∀ r ∈ p.ks, r.1 < q
  a : ∀ x ∈ p.as, fullA p.now x ≤ q
theorem quiet_ok (p : Pl) : QuietOk p (quietF p) := by
  have h1 := fold_max (fun r : Int × Int × Int => r.1 + 1) p.ks (max p.now p.opens)
  have h2 := fold_max (fullA p.now) p.as (quietK (max p.now p.opens) p.ks)
  have e1 : quietK (max p.now p.opens) p.ks ≤ quietF p := h2.1
  have e2 : max p.now p.opens ≤ quietK (max p.now p.opens) p.ks := h1.1
  exact ⟨by omega, by omega, fun r hr => by have : r.1 + 1 ≤ quietK (max p.now p.opens) p.ks := h1.2 r hr; omega, h2.2⟩
theorem most_mono_a {j : J} {m a b t : Int} (hj : JOk j) (h : a ≤ b) : mostF j m a t ≤ mostF j m b t := by
  have h1 := hj.r1
  have : j.rate * a ≤ j.rate * b := Int.mul_le_mul_of_nonneg_left h (by omega)
  unfold mostF aheadF
  split <;> omega
theorem most_mono_t {j : J} {m a t s : Int} (hj : JOk j) (hm : 0 ≤ m) (ha : 0 ≤ a) (h : t ≤ s) : mostF j m a t ≤ mostF j m a s := by
  have h1 := hj.r1; have h2 := hj.rm
  by_cases ht : t ≤ 0
  · rw [most_0 ht]; exact most_nn hj hm ha
  · have : j.rate * (t - 1) ≤ j.rate * (s - 1) := Int.mul_le_mul_of_nonneg_left (by omega) (by omega)
    have : j.mouth * t ≤ j.mouth * s := Int.mul_le_mul_of_nonneg_left h (by omega)
    unfold mostF
    rw [if_neg ht, if_neg (by omega)]; omega
theorem most_slide {j : J} {m a t d : Int} (hj : JOk j) (hm : 0 ≤ m) (ha : 0 ≤ a) (hd : 0 ≤ d) : mostF j m (a + d) t ≤ mostF j m a (t + d) := by
  have h1 := hj.r1; have h2 := hj.rm
  by_cases ht : t ≤ 0
  · rw [most_0 ht]; exact most_nn hj hm ha
  · unfold mostF aheadF
    rw [if_neg ht, if_neg (by omega)]
    have := Int.mul_nonneg (show 0 ≤ j.rate by omega) hd
    have := Int.mul_nonneg (show 0 ≤ j.mouth by omega) hd
    simp only [Int.mul_add, Int.mul_sub]; omega
theorem firsts_enough {p : Pl} {w q b : Int} (hp : PlOk p) (hq : QuietOk p q) (hn : ∀ e, p.now ≤ e → needF p p.now e ≤ holdsF p w p.now e + b) (hqq : ∀ e, q ≤ e → needF p q e ≤ holdsF p w q e + b) (hk : ∀ r ∈ p.ks, ∀ e, r.1 ≤ e → needF p r.1 e ≤ holdsF p w r.1 e + b) : ∀ f e, p.now ≤ f → f ≤ e → needF p f e ≤ holdsF p w f e + b := by
  have hw : ∀ r ∈ p.ks, 0 ≤ r.2.2 := fun r hr => by have := (hp.ko r hr).2.2; omega
  have caseB : ∀ n : Nat, ∀ f e, p.now ≤ f → p.opens ≤ f → f ≤ e → f + n = q → needF p f e ≤ holdsF p w f e + b := fun n => by
    induction n with
    | zero => intro f e h1 h2 h3 h4; simp at h4; subst h4; exact hqq e h3
    | succ n ih =>
      intro f e h1 h2 h3 h4
      by_cases hc : ∃ r ∈ p.ks, r.1 = f
      · obtain ⟨r, hr, rfl⟩ := hc; exact hk r hr e h3
      · have := ih (f + 1) (e + 1) (by omega) (by omega) (by omega) (by omega)
        have c1 : holdsF p w (f + 1) (e + 1) = holdsF p w f e := by unfold holdsF; congr 1; omega
        have c2 : knF p.ks f e ≤ knF p.ks (f + 1) (e + 1) := by
          rw [kn_sum, kn_sum]
          refine sum_le fun r hr => ?_
          have hne : r.1 ≠ f := fun z => hc ⟨r, hr, z⟩
          have := hw r hr
          unfold kn1
          split <;> split <;> omega
        have c3 : askS p f e ≤ askS p (f + 1) (e + 1) := sum_le fun x hx => by
          have hx := hp.ao x hx
          unfold askN
          rcases (by omega : max p.now (f + 1 - x.a) = max p.now (f - x.a) ∨ max p.now (f + 1 - x.a) = max p.now (f - x.a) + 1) with z | z
          · rw [z]; exact most_mono_t hx.jo hx.m0 (by omega) (by omega)
          · rw [z, show e + 1 - x.a - x.w - (max p.now (f - x.a) + 1) + 1 = e - x.a - x.w - max p.now (f - x.a) + 1 by omega]
            exact most_mono_a hx.jo (by omega)
        unfold needF at *; omega
  intro f e h1 h2
  rcases (by omega : f < p.opens ∨ (p.opens ≤ f ∧ f ≤ q) ∨ q < f) with h | ⟨h, h'⟩ | h
  · have := hn e (by omega)
    have c1 : holdsF p w p.now e = holdsF p w f e := by unfold holdsF; congr 1; omega
    have c2 : knF p.ks f e ≤ knF p.ks p.now e := by
      rw [kn_sum, kn_sum]
      refine sum_le fun r hr => ?_
      have := hw r hr
      unfold kn1
      split <;> split <;> omega
    have c3 : askS p f e ≤ askS p p.now e := sum_le fun x hx => by
      have hx := hp.ao x hx
      have h0 := hx.a0
      unfold askN
      have := most_slide (m := x.m) (a := 0) (t := e - x.a - x.w - max p.now (f - x.a) + 1) (d := max p.now (f - x.a) - p.now) hx.jo hx.m0 (by omega) (by omega)
      rw [show max p.now (p.now - x.a) = p.now by omega, show p.now - p.now = 0 by omega]
      rw [Int.zero_add, show e - x.a - x.w - max p.now (f - x.a) + 1 + (max p.now (f - x.a) - p.now) = e - x.a - x.w - p.now + 1 by omega] at this
      exact this
    unfold needF at *; omega
  · exact caseB (q - f).toNat f e h1 h h2 (by omega)
  · have := hqq (e - (f - q)) (by omega)
    have ho := hq.o
    have c1 : holdsF p w q (e - (f - q)) = holdsF p w f e := by unfold holdsF; congr 1; omega
    have c2 : knF p.ks f e ≤ 0 := by
      rw [kn_sum]
      refine Int.le_of_eq (sum_nought fun r hr => ?_)
      have := hq.k r hr
      unfold kn1
      rw [if_neg (by omega)]
    have c2' := kn_nn (f := q) (e := e - (f - q)) hw
    have c3 : askS p f e ≤ askS p q (e - (f - q)) := sum_le fun x hx => by
      have hfu := hq.a x hx
      have hx := hp.ao x hx
      have h0 := hx.a0
      have hr := hx.jo.r1
      unfold fullA at hfu
      have hd : 0 ≤ (x.j.size - x.m + x.j.rate - 1) / x.j.rate := Int.ediv_nonneg (by have := hx.m1; omega) (by omega)
      have hm := Int.lt_ediv_add_one_mul_self (x.j.size - x.m + x.j.rate - 1) (show 0 < x.j.rate by omega)
      rw [Int.add_mul, Int.one_mul] at hm
      generalize (x.j.size - x.m + x.j.rate - 1) / x.j.rate = dd at *
      rw [Int.mul_comm] at hm
      unfold askN
      rw [show max p.now (f - x.a) = f - x.a by omega, show max p.now (q - x.a) = q - x.a by omega, show e - (f - q) - x.a - x.w - (q - x.a) + 1 = e - x.a - x.w - (f - x.a) + 1 by omega]
      have a1 : aheadF x.j x.m (q - x.a - p.now) = x.j.size := by
        have : x.j.rate * dd ≤ x.j.rate * (q - x.a - p.now) := Int.mul_le_mul_of_nonneg_left (by omega) (by omega)
        unfold aheadF; omega
      have a2 : aheadF x.j x.m (f - x.a - p.now) ≤ x.j.size := by unfold aheadF; omega
      unfold mostF
      rw [a1]
      split <;> omega
    unfold needF at *; omega
/-- the stretches that the judge looks at are enough -/
theorem judged {p : Pl} {w b : Int} (hb : 0 ≤ b) (hp : PlOk p) (hr : ratesF p ≤ w) (h : ∀ f, (f = p.now ∨ f = quietF p ∨ ∃ r ∈ p.ks, r.1 = f) → ∀ e ∈ endsL p f, f < e → needF p f e ≤ holdsF p w f e + b) : ∀ f e, p.now ≤ f → f ≤ e → needF p f e ≤ holdsF p w f e + b := by
  have hq := quiet_ok p
  refine firsts_enough hp hq (ends_enough hb hp (Int.le_refl _) hr (h _ (.inl rfl))) (ends_enough hb hp hq.n hr (h _ (.inr (.inl rfl)))) fun r hr' => ends_enough hb hp (hp.ko r hr').1 hr (h _ (.inr (.inr ⟨r, hr', rfl⟩)))
theorem fold_take {α : Type} {l : List α} {i : Nat} {x : α} (g : Int → α → Int) (q : Int) (h : l[i]? = some x) : (l.take (i + 1)).foldl g q = g ((l.take i).foldl g q) x := by
  rw [List.take_add_one, h]; simp
theorem flat_take {α β : Type} {l : List α} {i : Nat} {x : α} (g : α → List β) (h : l[i]? = some x) : (l.take (i + 1)).flatMap g = (l.take i).flatMap g ++ g x := by
  rw [List.take_add_one, h]; simp
def pQuiet (cS cF cJ : Addr) : DSpE := fun ds M Φ _ => ∃ p w, ds = [sD cS cF cJ p w] ∧ PlOk p ∧ Φ (.int (quietF p)) M
local macro_rules | `(tactic| kbu_src) => `(tactic| first | refine de_dget2 (by assumption) ?_ | refine de_extend ?_)
/-! ### rooms: comings as needs of pieces that are due at once -/
def roomA (x : Ask) : Ask := ⟨x.j, x.m, x.a, 1⟩
def roomP (p : Pl) : Pl := ⟨p.now, p.opens, p.ks.map fun r => (r.1, r.1 + 1, r.2.2), p.as.map roomA⟩
theorem room_rates (p : Pl) : ratesF (roomP p) = ratesF p := by unfold ratesF roomP; rw [List.map_map]; rfl
theorem foldl_map' {α β : Type} (g : α → β) (f : Int → β → Int) : ∀ (l : List α) (q : Int), (l.map g).foldl f q = l.foldl (fun a x => f a (g x)) q
  | [], _ => rfl
  | x :: l, q => by rw [List.map_cons, List.foldl_cons, List.foldl_cons, foldl_map' g f l]
theorem room_quiet (p : Pl) : quietF (roomP p) = quietF p := by
  unfold quietF quietA quietK roomP
  dsimp only
  rw [foldl_map', foldl_map']; rfl
def lastsA (now f : Int) (x : Ask) : List Int := (now + askA now f x + x.a) :: if x.j.mouth ≤ aheadF x.j x.m (askA now f x) ∧ x.j.rate < x.j.mouth then [now + askA now f x + x.a + (aheadF x.j x.m (askA now f x) - x.j.mouth) / (x.j.mouth - x.j.rate), now + askA now f x + x.a + (aheadF x.j x.m (askA now f x) - x.j.mouth) / (x.j.mouth - x.j.rate) + 1] else []
def lastsL (p : Pl) (f : Int) : List Int := ([p.opens - 1] ++ p.ks.map fun r => r.1) ++ p.as.flatMap (lastsA p.now f)
theorem lastsA_end (now f : Int) (x : Ask) (k : Int) : k ∈ endsA now f (roomA x) ↔ k - 1 ∈ lastsA now f x := by
  have e1 : oneF now f (roomA x) = now + askA now f x + x.a + 1 := rfl
  have e2 : askA now f (roomA x) = askA now f x := rfl
  unfold endsA lastsA bendF
  rw [e1, e2]
  show k ∈ (now + askA now f x + x.a + 1) :: (if x.j.mouth ≤ aheadF x.j x.m (askA now f x) ∧ x.j.rate < x.j.mouth then [now + askA now f x + x.a + 1 + (aheadF x.j x.m (askA now f x) - x.j.mouth) / (x.j.mouth - x.j.rate), now + askA now f x + x.a + 1 + (aheadF x.j x.m (askA now f x) - x.j.mouth) / (x.j.mouth - x.j.rate) + 1] else []) ↔ _
  generalize (aheadF x.j x.m (askA now f x) - x.j.mouth) / (x.j.mouth - x.j.rate) = d
  split
  · simp only [List.mem_cons, List.not_mem_nil, or_false]; omega
  · simp only [List.mem_cons, List.not_mem_nil, or_false]; omega
theorem lasts_end (p : Pl) (f k : Int) : k ∈ endsL (roomP p) f ↔ k - 1 ∈ lastsL p f := by
  unfold endsL lastsL
  simp only [List.mem_append, List.mem_map, List.mem_flatMap, roomP, List.mem_cons, List.not_mem_nil, or_false]
  constructor
  · rintro ((h | ⟨a, ⟨r, hr, rfl⟩, h⟩) | ⟨a, ⟨x, hx, rfl⟩, h⟩)
    · exact .inl (.inl (by omega))
    · exact .inl (.inr ⟨r, hr, by dsimp only at h; omega⟩)
    · exact .inr ⟨x, hx, (lastsA_end _ _ _ _).mp h⟩
  · rintro ((h | ⟨r, hr, h⟩) | ⟨x, hx, h⟩)
    · exact .inl (.inl (by omega))
    · exact .inl (.inr ⟨_, ⟨r, hr, rfl⟩, by dsimp only; omega⟩)
    · exact .inr ⟨_, ⟨x, hx, rfl⟩, (lastsA_end _ _ _ _).mpr h⟩
/-- what can come in a window -/
def comesK (ks : List (Int × Int × Int)) (f l : Int) : Int := (ks.filterMap fun a => if f ≤ a.1 ∧ a.1 ≤ l then some a.2.2 else none).sum
def comesA (now f l : Int) (x : Ask) : Int := mostF x.j x.m (max now (f - x.a) - now) (l - x.a - max now (f - x.a) + 1)
def comesF (p : Pl) (f l : Int) : Int := comesK p.ks f l + (p.as.map (comesA p.now f l)).sum
theorem comes_need (p : Pl) (f l : Int) : comesF p f l = needF (roomP p) f (l + 1) := by
  have h1 : comesK p.ks f l = knF (roomP p).ks f (l + 1) := by
    unfold comesK knF roomP
    dsimp only
    rw [List.filterMap_map]
    congr 1
    congr 1
    funext r
    by_cases h : f ≤ r.1 ∧ r.1 ≤ l
    · simp only [Function.comp]; rw [if_pos h, if_pos (by omega)]
    · simp only [Function.comp]; rw [if_neg h, if_neg (by omega)]
  have h2 : (p.as.map (comesA p.now f l)).sum = askS (roomP p) f (l + 1) := by
    unfold askS roomP
    dsimp only
    rw [List.map_map]
    congr 1
    refine List.map_congr_left fun x _ => ?_
    unfold comesA Function.comp askN roomA
    dsimp only
    congr 1; omega
  unfold comesF needF; rw [h1, h2]
theorem roomA_ok {x : Ask} (h : AskOk x) : AskOk (roomA x) := ⟨h.jo, h.m0, h.m1, h.a0, Int.le_refl _, h.a9, by show (1 : Int) ≤ 1000000000; decide⟩
theorem room_ok {p : Pl} (hp : PlOk p) : PlOk (roomP p) := ⟨hp.n0, hp.o0, by unfold roomP; dsimp only; rw [List.length_map]; exact hp.kl, by unfold roomP; dsimp only; rw [List.length_map]; exact hp.al, fun y hy => by
    obtain ⟨x, hx, rfl⟩ := List.mem_map.mp hy
    have h := hp.ao x hx
    exact roomA_ok h, fun y hy => by
    obtain ⟨r, hr, rfl⟩ := List.mem_map.mp hy
    have h := hp.ko r hr
    have e : (roomP p).now = p.now := rfl
    rw [e]; dsimp only; omega⟩
/-- the windows looked at are enough -/
theorem roomed {p : Pl} {w m : Int} (hm : 0 ≤ m) (hp : PlOk p) (hr : ratesF p ≤ w) (h : ∀ f, (f = p.now ∨ f = quietF p ∨ ∃ r ∈ p.ks, r.1 = f) → ∀ l ∈ lastsL p f, f ≤ l → comesF p f l ≤ holdsF p w f (l + 1) + m) : ∀ f l, p.now ≤ f → f ≤ l + 1 → comesF p f l ≤ holdsF p w f (l + 1) + m := by
  have := judged (p := roomP p) (w := w) (b := m) hm (room_ok hp) (by rw [room_rates]; exact hr) fun f hf e he hfe => by
    have hf' : f = p.now ∨ f = quietF p ∨ ∃ r ∈ p.ks, r.1 = f := by
      rcases hf with h | h | ⟨r, hr, h⟩
      · exact .inl h
      · rw [room_quiet] at h; exact .inr (.inl h)
      · obtain ⟨r', hr', rfl⟩ := List.mem_map.mp hr
        exact .inr (.inr ⟨r', hr', h⟩)
    have h1 := h f hf' (e - 1) ((lasts_end p f e).mp he) (by omega)
    rw [comes_need, show e - 1 + 1 = e by omega] at h1
    exact h1
  intro f l h1 h2
  rw [comes_need]
  exact this f (l + 1) h1 h2
/-! ### sorted, each once -/
def insU (x : Int) : List Int → List Int
  | [] => [x]
  | y :: l => if x < y then x :: y :: l else if x = y then y :: l else y :: insU x l
def sortU : List Int → List Int
  | [] => []
  | x :: l => insU x (sortU l)
theorem insU_mem {x k : Int} : ∀ {l : List Int}, k ∈ insU x l ↔ k = x ∨ k ∈ l
  | [] => by simp [insU]
  | y :: l => by
    unfold insU
    split
    · simp
    · split
      · rename_i h; subst h; simp
      · rw [List.mem_cons, insU_mem (l := l), List.mem_cons]
        constructor
        · rintro (h | h | h) <;> simp [h]
        · rintro (h | h | h) <;> simp [h]
theorem insU_pw {x : Int} : ∀ {l : List Int}, l.Pairwise (· < ·) → (insU x l).Pairwise (· < ·)
  | [], _ => by simp [insU]
  | y :: l, h => by
    obtain ⟨h1, h2⟩ := List.pairwise_cons.mp h
    unfold insU
    split
    · rename_i hx
      refine List.pairwise_cons.mpr ⟨fun z hz => ?_, h⟩
      rcases List.mem_cons.mp hz with rfl | hz
      · exact hx
      · have := h1 z hz; omega
    · split
      · exact h
      · refine List.pairwise_cons.mpr ⟨fun z hz => ?_, insU_pw h2⟩
        rcases insU_mem.mp hz with rfl | hz
        · omega
        · exact h1 z hz
theorem sortU_mem {k : Int} : ∀ {l : List Int}, k ∈ sortU l ↔ k ∈ l
  | [] => by simp [sortU]
  | x :: l => by unfold sortU; rw [insU_mem, sortU_mem (l := l), List.mem_cons]
theorem sortU_pw : ∀ l : List Int, (sortU l).Pairwise (· < ·)
  | [] => .nil
  | x :: l => by unfold sortU; exact insU_pw (sortU_pw l)
theorem pw_ext : ∀ {l m : List Int}, l.Pairwise (· < ·) → m.Pairwise (· < ·) → (∀ k, k ∈ l ↔ k ∈ m) → l = m
  | [], [], _, _, _ => rfl
  | [], y :: m, _, _, h => absurd ((h y).mpr List.mem_cons_self) (by simp)
  | x :: l, [], _, _, h => absurd ((h x).mp List.mem_cons_self) (by simp)
  | x :: l, y :: m, hl, hm, h => by
    obtain ⟨l1, l2⟩ := List.pairwise_cons.mp hl
    obtain ⟨m1, m2⟩ := List.pairwise_cons.mp hm
    have e : x = y := by
      rcases List.mem_cons.mp ((h x).mp List.mem_cons_self) with e | e
      · exact e
      · rcases List.mem_cons.mp ((h y).mpr List.mem_cons_self) with e' | e'
        · exact e'.symm
        · have := m1 x e; have := l1 y e'; omega
    subst e
    have : l = m := pw_ext l2 m2 fun k => by
      constructor
      · intro hk
        rcases List.mem_cons.mp ((h k).mp (List.mem_cons_of_mem _ hk)) with e | e
        · have := l1 k hk; omega
        · exact e
      · intro hk
        rcases List.mem_cons.mp ((h k).mpr (List.mem_cons_of_mem _ hk)) with e | e
        · have := m1 k hk; omega
        · exact e
    rw [this]
theorem sortU_is {ms l : List Int} (h1 : ms.Pairwise (· < ·)) (h2 : ∀ k, k ∈ ms ↔ k ∈ l) : ms = sortU l := pw_ext h1 (sortU_pw l) fun k => by rw [h2 k, sortU_mem]
/-! ### the room told -/
def startsL (p : Pl) : List Int := sortU ([p.now, quietF p] ++ p.ks.map fun r => r.1)
def lastsS (p : Pl) (f : Int) : List Int := (sortU (lastsL p f)).filterMap fun a => if f ≤ a then some a else none
def bestF (p : Pl) (w f : Int) (b : Int × Int × Int) (l : Int) : Int × Int × Int := if b.1 < comesF p f l - holdsF p w f (l + 1) then (comesF p f l - holdsF p w f (l + 1), f, l) else b
def roomF (p : Pl) (w : Int) : Int × Int × Int := (startsL p).foldl (fun b f => (lastsS p f).foldl (bestF p w f) b) (0, p.now, p.now)
structure RoomB (p : Pl) (w : Int) (b : Int × Int × Int) : Prop where
  m0 : 0 ≤ b.1
  f0 : p.now ≤ b.2.1
  fl : b.2.1 ≤ b.2.2
  z : b.1 = 0 → b = (0, p.now, p.now)
  is : 0 < b.1 → comesF p b.2.1 b.2.2 = holdsF p w b.2.1 (b.2.2 + 1) + b.1
theorem best_ok {p : Pl} {w f l : Int} {b : Int × Int × Int} (h : RoomB p w b) (hf : p.now ≤ f) (hl : f ≤ l) : RoomB p w (bestF p w f b l) ∧ b.1 ≤ (bestF p w f b l).1 ∧ comesF p f l ≤ holdsF p w f (l + 1) + (bestF p w f b l).1 := by
  unfold bestF
  have := h.m0
  split
  · rename_i hc
    exact ⟨⟨by dsimp only; omega, hf, hl, fun z => by dsimp only at z; omega, fun _ => by dsimp only; omega⟩, by dsimp only; omega, by dsimp only; omega⟩
  · exact ⟨h, Int.le_refl _, by omega⟩
theorem bests_ok {p : Pl} {w f : Int} (hf : p.now ≤ f) : ∀ (ls : List Int) (b : Int × Int × Int), (∀ l ∈ ls, f ≤ l) → RoomB p w b → RoomB p w (ls.foldl (bestF p w f) b) ∧ b.1 ≤ (ls.foldl (bestF p w f) b).1 ∧ ∀ l ∈ ls, comesF p f l ≤ holdsF p w f (l + 1) + (ls.foldl (bestF p w f) b).1
  | [], b, _, h => ⟨h, Int.le_refl _, fun _ hl => nomatch hl⟩
  | l :: ls, b, hls, h => by
    obtain ⟨h1, h2, h3⟩ := best_ok h hf (hls l List.mem_cons_self)
    obtain ⟨g1, g2, g3⟩ := bests_ok hf ls _ (fun x hx => hls x (List.mem_cons_of_mem _ hx)) h1
    refine ⟨g1, Int.le_trans h2 g2, fun x hx => ?_⟩
    rcases List.mem_cons.mp hx with rfl | hx
    · show _ ≤ _ + (ls.foldl (bestF p w f) (bestF p w f b x)).1; omega
    · exact g3 x hx
theorem rooms_ok {p : Pl} {w : Int} : ∀ (fs : List Int) (b : Int × Int × Int), (∀ f ∈ fs, p.now ≤ f) → RoomB p w b → RoomB p w (fs.foldl (fun b f => (lastsS p f).foldl (bestF p w f) b) b) ∧ b.1 ≤ (fs.foldl (fun b f => (lastsS p f).foldl (bestF p w f) b) b).1 ∧ ∀ f ∈ fs, ∀ l ∈ lastsS p f, comesF p f l ≤ holdsF p w f (l + 1) + (fs.foldl (fun b f => (lastsS p f).foldl (bestF p w f) b) b).1
  | [], b, _, h => ⟨h, Int.le_refl _, fun _ hl => nomatch hl⟩
  | f :: fs, b, hfs, h => by
    have hl : ∀ l ∈ lastsS p f, f ≤ l := fun l hl => by
      obtain ⟨a, _, e⟩ := List.mem_filterMap.mp hl
      split at e
      · cases e; assumption
      · cases e
    obtain ⟨h1, h2, h3⟩ := bests_ok (hfs f List.mem_cons_self) (lastsS p f) b hl h
    obtain ⟨g1, g2, g3⟩ := rooms_ok fs _ (fun x hx => hfs x (List.mem_cons_of_mem _ hx)) h1
    refine ⟨g1, Int.le_trans h2 g2, fun x hx l hl9 => ?_⟩
    rcases List.mem_cons.mp hx with rfl | hx
    · have := h3 l hl9
      show _ ≤ _ + (fs.foldl (fun b f => (lastsS p f).foldl (bestF p w f) b) ((lastsS p x).foldl (bestF p w x) b)).1; omega
    · exact g3 x hx l hl9
structure RoomOk (p : Pl) (w : Int) (b : Int × Int × Int) : Prop extends RoomB p w b where
  all : ∀ f l, p.now ≤ f → f ≤ l + 1 → comesF p f l ≤ holdsF p w f (l + 1) + b.1
theorem room_is {p : Pl} {w : Int} (hp : PlOk p) (hr : ratesF p ≤ w) : RoomOk p w (roomF p w) := by
  have hst : ∀ f, f ∈ startsL p ↔ (f = p.now ∨ f = quietF p ∨ ∃ r ∈ p.ks, r.1 = f) := fun f => by
    unfold startsL
    rw [sortU_mem]
    simp [List.mem_map, or_assoc]
  obtain ⟨h1, h2, h3⟩ := rooms_ok (p := p) (w := w) (startsL p) (0, p.now, p.now) (fun f hf => by
    rcases (hst f).mp hf with h | h | ⟨r, hr, h⟩
    · omega
    · have := (quiet_ok p).n; omega
    · have := (hp.ko r hr).1; omega) ⟨by simp, Int.le_refl _, Int.le_refl _, fun _ => rfl, fun h => by simp at h⟩
  refine ⟨h1, roomed h1.m0 hp hr fun f hf l hl hfl => h3 f ((hst f).mpr hf) l ?_⟩
  exact List.mem_filterMap.mpr ⟨l, sortU_mem.mpr hl, if_pos hfl⟩
theorem lastsA_len (now f : Int) (x : Ask) : (lastsA now f x).length ≤ 3 := by unfold lastsA; split <;> simp
theorem flat_lenL (now f : Int) : ∀ as : List Ask, (as.flatMap (lastsA now f)).length ≤ 3 * as.length
  | [] => by simp
  | x :: as => by
    have h1 := flat_lenL now f as
    have h2 := lastsA_len now f x
    simp only [List.flatMap_cons, List.length_append, List.length_cons]; omega
/-- few unlike ticks, of rooms too -/
def SmallR (p : Pl) : Prop := ∃ T : List Int, (∀ r ∈ p.ks, r.1 ∈ T) ∧ T.length + 3 * p.as.length < 60
def pStartsR (cS cF cJ : Addr) : DSpE := fun ds M Φ _ => ∃ p w, ds = [sD cS cF cJ p w] ∧ PlOk p ∧ SmallR p ∧ Φ (.lst ((startsL p).map .int)) M
def pComesIn (cS cF cJ : Addr) : DSpE := fun ds M Φ _ => ∃ p w f l, ds = [sD cS cF cJ p w, .int f, .int l] ∧ PlOk p ∧ Φ (.int (comesF p f l)) M
def pLasts (cS cF cJ : Addr) : DSpE := fun ds M Φ _ => ∃ p w f, ds = [sD cS cF cJ p w, .int f] ∧ PlOk p ∧ SmallR p ∧ p.now ≤ f ∧ Φ (.lst ((lastsS p f).map .int)) M
def pRoom (cS cF cJ : Addr) : DSpE := fun ds M Φ _ => ∃ p w, ds = [sD cS cF cJ p w] ∧ PlOk p ∧ SmallR p ∧ 0 ≤ w ∧ w ≤ 1000000000000 ∧ (w < ratesF p → Φ .non M) ∧ (ratesF p ≤ w → Φ (tD (roomF p w)) M)
def n_quiet : List Str := ["scene", "found", "come", "hour", "many", "flow", "after", "wait", "lacking"]
theorem sc_quiet : FnScope n_quiet ["scene"] (defScope s_quiet) := ⟨rfl, rfl, rfl, by decide +kernel, rfl, by decide +kernel, by decide +kernel⟩
theorem d_quiet {P : Program} {w : World} {K : PySem.W.Frag} {mg : Str → Option Value} {base : Heap} {c_Scene c_Jar c_Flow : Addr} {f : Addr} {fd : FuncData} (F : FunG K "quiet" "quiet" s_quiet f fd)
    (G_max : mg "max" = none) (A_Scene_now : FldP K c_Scene "now") (A_Scene_opens : FldP K c_Scene "opens") (M_Scene_known_rows_0 : MethE P w K mg base 1 c_Scene "known_rows" 0 [] (selN 1) (pKnownRows c_Scene c_Flow c_Jar)) (M_Scene_ask_rows_0 : MethE P w K mg base 3 c_Scene "ask_rows" 0 [] (selN 1) (pAskRows c_Scene c_Flow c_Jar)) (A_Jar_size : FldP K c_Jar "size") (A_Flow_jar : FldP K c_Flow "jar") (A_Flow_marks : FldP K c_Flow "marks") (A_Jar_rate : FldP K c_Jar "rate") : FnOk P w K mg base (L2.CX P w) 4 f fd ["scene"] (liftE (pQuiet c_Scene c_Flow c_Jar)) := by
  refine fnokG_of (N := n_quiet) (k := 3) F sc_quiet (fun ds M Φ Ξ h => by obtain ⟨p, w, rfl, hok, k⟩ := h; rfl) fun X kp ds M Φ Ξ h I => ?_
  obtain ⟨p, w, rfl, hok, k⟩ := h
  obtain ⟨rfl, rfl, rfl, rfl, rfl, hN, hs, hf, z, hp, tk, hst, hfr⟩ := I
  have nd := z.nd
  have n0 : Lo X 0 "scene" := lo_of hN hs hf (by decide +kernel)
  have n1 : Lo X 1 "found" := lo_of hN hs hf (by decide +kernel)
  have n2 : Lo X 2 "come" := lo_of hN hs hf (by decide +kernel)
  have n3 : Lo X 3 "hour" := lo_of hN hs hf (by decide +kernel)
  have n4 : Lo X 4 "many" := lo_of hN hs hf (by decide +kernel)
  have n5 : Lo X 5 "flow" := lo_of hN hs hf (by decide +kernel)
  have n6 : Lo X 6 "after" := lo_of hN hs hf (by decide +kernel)
  have n7 : Lo X 7 "wait" := lo_of hN hs hf (by decide +kernel)
  have n8 : Lo X 8 "lacking" := lo_of hN hs hf (by decide +kernel)
  have g_max : Gn X "max" := gn_of hs (by decide +kernel) G_max
  clear F hf
  change DSs _ X (_ :: _) [_, _, _, _, _, _, _, _, _] _ _
  repeat' ((fail_if_success refine stFor ?_); kpc_text)
  first | refine ds_cons (ds_forC [1, 2, 3, 4] z (by assumption) (di_list ?_)) | refine ds_forC [1, 2, 3, 4] z (by assumption) (di_list ?_)
  repeat' kpc_text
  refine ⟨p, w, rfl, ?_⟩
  repeat' kpc_text
  refine ⟨fun i vs M1 => (∃  (o2 o3 o4 : Option D), [some (.int (quietK (max p.now p.opens) (p.ks.take i))), o2, o3, o4] = vs ∧ M = M1), ⟨_, _, _, rfl, rfl⟩, ?_, ?_⟩
  · rintro i x vs δ M1 hx ⟨o2, o3, o4, rfl, rfl⟩ hδ
    obtain rfl : δ = [_, _, o2, o3, o4, _, _, _, _] := hδ
    obtain ⟨r, hr, rfl⟩ := map_get hx
    repeat' kpc_text
    exact ⟨[_, _, _, _], rfl, _, _, _, (by unfold quietK; rw [fold_take _ _ hr] <;> rfl), rfl⟩
  · rintro vs δ M1 ⟨o2, o3, o4, rfl, rfl⟩ hδ
    obtain rfl : δ = [_, _, o2, o3, o4, _, _, _, _] := hδ
    rw [List.length_map, List.take_length]
    repeat' ((fail_if_success refine stFor ?_); kpc_text)
    first | refine ds_cons (ds_forC [1, 5, 6, 7, 8] z (by assumption) (di_list ?_)) | refine ds_forC [1, 5, 6, 7, 8] z (by assumption) (di_list ?_)
    repeat' kpc_text
    refine ⟨p, w, rfl, hok, ?_⟩
    repeat' kpc_text
    refine ⟨fun i vs M1 => (∃  (o5 o6 o7 o8 : Option D), [some (.int (quietA p.now (quietK (max p.now p.opens) p.ks) (p.as.take i))), o5, o6, o7, o8] = vs ∧ M = M1), ⟨_, _, _, _, rfl, rfl⟩, ?_, ?_⟩
    · rintro i x vs δ M1 hx ⟨o5, o6, o7, o8, rfl, rfl⟩ hδ
      obtain rfl : δ = [_, _, _, _, _, o5, o6, o7, o8] := hδ
      obtain ⟨y, hy, rfl⟩ := map_get hx
      have hyo := hok.ao y (List.mem_of_getElem? hy)
      have hr1 := hyo.jo.r1
      have hr2 := hyo.jo.rm
      have hr3 := hyo.jo.ms
      have hr4 := hyo.jo.sz
      repeat' kpc_text
      exact ⟨[_, _, _, _, _], rfl, _, _, _, _, (by unfold quietA; rw [fold_take _ _ hy] <;> rfl), rfl⟩
    · rintro vs δ M1 ⟨o5, o6, o7, o8, rfl, rfl⟩ hδ
      obtain rfl : δ = [_, _, _, _, _, o5, o6, o7, o8] := hδ
      rw [List.length_map, List.take_length]
      repeat' kpc_text
      exact ⟨_, _, .refl, k⟩
def n_starts : List Str := ["scene", "come", "hour", "many"]
theorem sc_starts : FnScope n_starts ["scene"] (defScope s_starts) := ⟨rfl, rfl, rfl, by decide +kernel, rfl, by decide +kernel, by decide +kernel⟩
theorem d_starts {P : Program} {w : World} {K : PySem.W.Frag} {mg : Str → Option Value} {base : Heap} {c_Scene c_Flow c_Jar : Addr} {f : Addr} {fd : FuncData} (F : FunG K "starts" "starts" s_starts f fd)
    (G_sorted : mg "sorted" = none) (G_set : mg "set" = none) (A_Scene_now : FldP K c_Scene "now") (E_quiet_1 : DefE P w K mg base 4 "quiet" 1 [] (selN 1) (pQuiet c_Scene c_Flow c_Jar)) (M_Scene_known_rows_0 : MethE P w K mg base 1 c_Scene "known_rows" 0 [] (selN 1) (pKnownRows c_Scene c_Flow c_Jar)) : FnOk P w K mg base (L2.CX P w) 5 f fd ["scene"] (liftE (pStartsR c_Scene c_Flow c_Jar)) := by
  refine fnokG_of (N := n_starts) (k := 4) F sc_starts (fun ds M Φ Ξ h => by obtain ⟨p, w, rfl, hok, hsm, k⟩ := h; rfl) fun X kp ds M Φ Ξ h I => ?_
  obtain ⟨p, w, rfl, hok, hsm, k⟩ := h
  obtain ⟨rfl, rfl, rfl, rfl, rfl, hN, hs, hf, z, hp, tk, hst, hfr⟩ := I
  have nd := z.nd
  have n0 : Lo X 0 "scene" := lo_of hN hs hf (by decide +kernel)
  have g_sorted : Gn X "sorted" := gn_of hs (by decide +kernel) G_sorted
  have g_set : Gn X "set" := gn_of hs (by decide +kernel) G_set
  have l_quiet : Gl X "quiet" := gl_of hs (by decide +kernel)
  clear F hf
  change DSs _ X (_ :: _) [_, _, _, _] _ _
  obtain ⟨T, hT, hT2⟩ := hsm
  have hkl := hok.kl
  repeat' kpc_text
  refine de_sortedSetC z g_sorted g_set ?_
  repeat' kpc_text
  refine ⟨p, w, rfl, hok, ?_⟩
  repeat' kpc_text
  refine DE.f (df_lc 0 z hN hs [("come", 1), ("hour", 2), ("many", 3)] (.tup [1, 2, 3]) (by decide +kernel) (by decide) (fun X' bk => pg_many bk z (pgs_1 (bk.z z).nd (bk.lo hN hs (by decide +kernel)) (pgs_1 (bk.z z).nd (bk.lo hN hs (by decide +kernel)) (pgs_1 (bk.z z).nd (bk.lo hN hs (by decide +kernel)) pgs_0)))) (di_list ?_))
  repeat' kpc_text
  refine ⟨p, w, rfl, ?_⟩
  repeat' kpc_text
  refine LcH.mapT (p.ks) (tD) (fun r => r.1) (.int) (Nat.le_trans (show List.length _ ≤ 1000 by first | omega | (simp; done) | (simp; omega)) (by decide)) (fun q acc a ha => ?_) ?_
  · refine ⟨_, rfl, fun X' bk => ?_⟩
    have c1 : Lo X' 1 "come" := bk.lo hN hs (by decide +kernel)
    have c2 : Lo X' 2 "hour" := bk.lo hN hs (by decide +kernel)
    have c3 : Lo X' 3 "many" := bk.lo hN hs (by decide +kernel)
    have z' := bk.z z
    repeat' kpc_text
    exact ⟨rfl, rfl⟩
  refine od_addM (xs := [p.now, quietF p]) (f := .int) (by simp; omega) ?_
  refine ⟨_, [p.now, quietF p] ++ T, .val _, by simp; omega, fun kk hk => ?_, by simp; omega, fun ms h1 h2 => ?_⟩
  · rcases List.mem_append.mp hk with h | h
    · exact List.mem_append_left _ h
    · obtain ⟨r, hr, rfl⟩ := List.mem_map.mp h; exact List.mem_append_right _ (hT r hr)
  rw [sortU_is h1 h2]
  exact ⟨_, _, .refl, k⟩
def n_lasts : List Str := ["scene", "first", "found", "flow", "after", "wait", "ahead", "ticks", "marks", "jar", "one", "bend", "come", "hour", "many", "last"]
theorem sc_lasts : FnScope n_lasts ["scene", "first"] (defScope s_lasts) := ⟨rfl, rfl, rfl, by decide +kernel, rfl, by decide +kernel, by decide +kernel⟩
theorem d_lasts {P : Program} {w : World} {K : PySem.W.Frag} {mg : Str → Option Value} {base : Heap} {c_Scene c_Flow c_Jar : Addr} {f : Addr} {fd : FuncData} (F : FunG K "lasts" "lasts" s_lasts f fd)
    (A_Scene_opens : FldP K c_Scene "opens") (M_Scene_known_rows_0 : MethE P w K mg base 1 c_Scene "known_rows" 0 [] (selN 1) (pKnownRows c_Scene c_Flow c_Jar)) (M_Scene_ask_rows_0 : MethE P w K mg base 3 c_Scene "ask_rows" 0 [] (selN 1) (pAskRows c_Scene c_Flow c_Jar)) (E_window_3 : DefE P w K mg base 1 "window" 3 [] (selN 3) pWindow) (A_Scene_now : FldP K c_Scene "now") (M_Flow_ahead_1 : MethE P w K mg base 1 c_Flow "ahead" 1 [] (selN 2) (pAhead c_Flow c_Jar c_NoTick)) (A_Flow_jar : FldP K c_Flow "jar") (A_Jar_mouth : FldP K c_Jar "mouth") (A_Jar_rate : FldP K c_Jar "rate") (G_sorted : mg "sorted" = none) (G_set : mg "set" = none) : FnOk P w K mg base (L2.CX P w) 4 f fd ["scene", "first"] (liftE (pLasts c_Scene c_Flow c_Jar)) := by
  refine fnokG_of (N := n_lasts) (k := 3) F sc_lasts (fun ds M Φ Ξ h => by obtain ⟨p, w, f, rfl, hok, hsm, hnf, k⟩ := h; rfl) fun X kp ds M Φ Ξ h I => ?_
  obtain ⟨p, w, f, rfl, hok, hsm, hnf, k⟩ := h
  obtain ⟨rfl, rfl, rfl, rfl, rfl, hN, hs, hf, z, hp, tk, hst, hfr⟩ := I
  have nd := z.nd
  have n0 : Lo X 0 "scene" := lo_of hN hs hf (by decide +kernel)
  have n1 : Lo X 1 "first" := lo_of hN hs hf (by decide +kernel)
  have n2 : Lo X 2 "found" := lo_of hN hs hf (by decide +kernel)
  have n3 : Lo X 3 "flow" := lo_of hN hs hf (by decide +kernel)
  have n4 : Lo X 4 "after" := lo_of hN hs hf (by decide +kernel)
  have n5 : Lo X 5 "wait" := lo_of hN hs hf (by decide +kernel)
  have n6 : Lo X 6 "ahead" := lo_of hN hs hf (by decide +kernel)
  have n7 : Lo X 7 "ticks" := lo_of hN hs hf (by decide +kernel)
  have n8 : Lo X 8 "marks" := lo_of hN hs hf (by decide +kernel)
  have n9 : Lo X 9 "jar" := lo_of hN hs hf (by decide +kernel)
  have n10 : Lo X 10 "one" := lo_of hN hs hf (by decide +kernel)
  have n11 : Lo X 11 "bend" := lo_of hN hs hf (by decide +kernel)
  have l_window : Gl X "window" := gl_of hs (by decide +kernel)
  have g_sorted : Gn X "sorted" := gn_of hs (by decide +kernel) G_sorted
  have g_set : Gn X "set" := gn_of hs (by decide +kernel) G_set
  clear F hf
  change DSs _ X (_ :: _) [_, _, _, _, _, _, _, _, _, _, _, _, _, _, _, _] _ _
  obtain ⟨T, hT, hT2⟩ := hsm
  have hkl := hok.kl
  have hal := hok.al
  repeat' ((fail_if_success refine (stSet "found") ?_); kpc_text)
  refine ds_cons (ds_own 0 z n2 (df_add ?_))
  repeat' kpc_text
  refine DE.f (df_lc 0 z hN hs [("come", 12), ("hour", 13), ("many", 14)] (.tup [12, 13, 14]) (by decide +kernel) (by decide) (fun X' bk => pg_many bk z (pgs_1 (bk.z z).nd (bk.lo hN hs (by decide +kernel)) (pgs_1 (bk.z z).nd (bk.lo hN hs (by decide +kernel)) (pgs_1 (bk.z z).nd (bk.lo hN hs (by decide +kernel)) pgs_0)))) (di_list ?_))
  repeat' kpc_text
  refine ⟨p, w, rfl, ?_⟩
  repeat' kpc_text
  refine LcH.mapT (p.ks) (tD) (fun r => r.1) (.int) (Nat.le_trans (show List.length _ ≤ 1000 by first | omega | (simp; done) | (simp; omega)) (by decide)) (fun q acc a ha => ?_) ?_
  · refine ⟨_, rfl, fun X' bk => ?_⟩
    have c12 : Lo X' 12 "come" := bk.lo hN hs (by decide +kernel)
    have c13 : Lo X' 13 "hour" := bk.lo hN hs (by decide +kernel)
    have c14 : Lo X' 14 "many" := bk.lo hN hs (by decide +kernel)
    have z' := bk.z z
    repeat' kpc_text
    exact ⟨rfl, rfl⟩
  refine ⟨[.int (p.opens - 1)], (p.ks.map fun r => r.1).map .int, .val _, .val _, Nat.le_trans (show _ ≤ 1000 by simp; omega) (by decide), fun q => ?_⟩
  repeat' kpc_text
  repeat' ((fail_if_success refine stFor ?_); kpc_text)
  first | refine ds_cons (ds_forC [3, 4, 5, 6, 7, 8, 9, 10, 11] z (by assumption) (di_list ?_)) | refine ds_forC [3, 4, 5, 6, 7, 8, 9, 10, 11] z (by assumption) (di_list ?_)
  repeat' kpc_text
  refine ⟨p, w, rfl, hok, ?_⟩
  repeat' kpc_text
  refine ⟨fun i vs M1 => (∃ (fl : List Int) (o3 o4 o5 o6 o7 o8 o9 o10 o11 : Option D), [o3, o4, o5, o6, o7, o8, o9, o10, o11] = vs ∧ (q, .lst (fl.map .int)) :: M = M1 ∧ (fl = ([p.opens - 1] ++ p.ks.map fun r => r.1) ++ (p.as.take i).flatMap (lastsA p.now f)) ∧ (fl.length ≤ 1 + p.ks.length + 3 * i)), ⟨[p.opens - 1] ++ p.ks.map fun r => r.1, _, _, _, _, _, _, _, _, _, rfl, rfl, (by simp), (by simp; omega)⟩, ?_, ?_⟩
  · rintro i x vs δ M1 hx ⟨fl, o3, o4, o5, o6, o7, o8, o9, o10, o11, rfl, rfl, hfl, hll⟩ hδ
    obtain rfl : δ = [_, _, _, o3, o4, o5, o6, o7, o8, o9, o10, o11, _, _, _, _] := hδ
    obtain ⟨y, hy, rfl⟩ := map_get hx
    have hil : i < p.as.length := (List.getElem?_eq_some_iff.mp hy).1
    have hyo := hok.ao y (List.mem_of_getElem? hy)
    have hr1 := hyo.jo.r1
    have hr2 := hyo.jo.rm
    have hr3 := hyo.jo.ms
    have hr4 := hyo.jo.sz
    repeat' kpc_text
    refine ⟨_, _, _, rfl, ?_⟩
    repeat' kpc_text
    refine ⟨_, y.j, y.m, _, rfl, .val _ _ _, hyo.jo, fun _ => ?_, fun h => by omega⟩
    have hnx : ∀ es, lastsA p.now f y = es → fl ++ es = ([p.opens - 1] ++ p.ks.map fun r => r.1) ++ (p.as.take (i + 1)).flatMap (lastsA p.now f) := fun es he => by
      rw [hfl, flat_take _ hy, he, List.append_assoc]
    repeat' kpc_text
    · rename_i hc1 hc2
      refine mt_ext (j := 0) rfl (.val _) (Nat.le_trans (show _ ≤ 1000 by simp; omega) (by decide)) ?_
      repeat' kpc_text
      have hn := hnx _ (show lastsA p.now f y = _ by unfold lastsA; rw [if_pos ⟨hc1, hc2⟩])
      exact ⟨[_, _, _, _, _, _, _, _, _], rfl, fl ++ [p.now + askA p.now f y + y.a, p.now + askA p.now f y + y.a + (aheadF y.j y.m (askA p.now f y) - y.j.mouth) / (y.j.mouth - y.j.rate), p.now + askA p.now f y + y.a + (aheadF y.j y.m (askA p.now f y) - y.j.mouth) / (y.j.mouth - y.j.rate) + 1], _, _, _, _, _, _, _, _, _, rfl, (by simp [askA]), (hn), (by simp; omega)⟩
    · rename_i hc1 hc2
      have hn := hnx _ (show lastsA p.now f y = _ by unfold lastsA; rw [if_neg fun z => hc2 z.2])
      exact ⟨[_, _, _, _, _, _, _, _, _], rfl, fl ++ [p.now + askA p.now f y + y.a], _, _, _, _, _, _, _, _, _, rfl, (by simp [askA]), (hn), (by simp; omega)⟩
    · rename_i hc1
      have hn := hnx _ (show lastsA p.now f y = _ by unfold lastsA; rw [if_neg fun z => hc1 z.1])
      exact ⟨[_, _, _, _, _, _, _, _, _], rfl, fl ++ [p.now + askA p.now f y + y.a], _, _, _, _, _, _, _, _, _, rfl, (by simp [askA]), (hn), (by simp; omega)⟩
  · rintro vs δ M1 ⟨fl, o3, o4, o5, o6, o7, o8, o9, o10, o11, rfl, rfl, hfl, hll⟩ hδ
    obtain rfl : δ = [_, _, _, o3, o4, o5, o6, o7, o8, o9, o10, o11, _, _, _, _] := hδ
    try simp only [range_len, List.length_map, enum_len] at hfl hll
    rw [List.take_length] at hfl
    repeat' kpc_text
    refine DE.f (df_lc 0 z hN hs [("last", 15)] (.one 15) (by decide +kernel) (by decide) (fun X' bk => pg_one bk z (bk.lo hN hs (by decide +kernel))) (di_list (de_sortedSetC z g_sorted g_set ?_)))
    repeat' kpc_text
    refine ⟨fl, ([p.opens - 1] ++ T) ++ p.as.flatMap (lastsA p.now f), .cell 0 rfl, by omega, fun kk hk => ?_, by have := flat_lenL p.now f p.as; simp only [List.length_append, List.length_cons, List.length_nil]; omega, fun ms h1 h2 => ?_⟩
    · rw [hfl] at hk
      rcases List.mem_append.mp hk with h | h
      · rcases List.mem_append.mp h with h | h
        · exact List.mem_append_left _ (List.mem_append_left _ h)
        · obtain ⟨r, hr, rfl⟩ := List.mem_map.mp h; exact List.mem_append_left _ (List.mem_append_right _ (hT r hr))
      · exact List.mem_append_right _ h
    have hml : ms.length ≤ 1000 := by
      have hnd : ms.Nodup := h1.imp fun h => Int.ne_of_lt h
      have hsub : ms ⊆ fl := fun x hx => (h2 x).mp hx
      have := nodup_len hnd hsub
      omega
    repeat' kpc_text
    refine LcH.pureT (ms) (.int) (fun a => if f ≤ a then some (a) else none) (.int) (Nat.le_trans (show List.length _ ≤ 1000 by first | omega | (simp; done) | (simp; omega)) (by decide)) (fun q acc a ha => ?_) ?_
    · refine ⟨_, rfl, fun X' bk => ?_⟩
      have c15 : Lo X' 15 "last" := bk.lo hN hs (by decide +kernel)
      have c1 : Nm X' 1 "first" := bk.nm hN hs (by decide +kernel)
      have z' := bk.z z
      repeat' kpc_text
      all_goals first
        | (intro X' bk; (have c15 : Lo X' 15 "last" := bk.lo hN hs (by decide +kernel)); (have c1 : Nm X' 1 "first" := bk.nm hN hs (by decide +kernel)); (have z' := bk.z z); (repeat' kpc_text); exact ⟨by rw [if_pos (by kdn_look)]; rfl, rfl⟩)
        | exact ⟨by rw [if_neg (by kdo_here)]; rfl, rfl⟩
    have hms : ms = sortU (lastsL p f) := sortU_is h1 fun x => by rw [h2 x, hfl]; rfl
    refine ⟨_, _, .sub (List.sublist_cons_self _ _), ?_⟩
    rw [hms]
    exact k
def n_comes_in : List Str := ["scene", "first", "last", "found", "flow", "after", "wait", "ahead", "ticks", "come", "hour", "many"]
theorem sc_comes_in : FnScope n_comes_in ["scene", "first", "last"] (defScope s_comes_in) := ⟨rfl, rfl, rfl, by decide +kernel, rfl, by decide +kernel, by decide +kernel⟩
theorem d_comes_in {P : Program} {w : World} {K : PySem.W.Frag} {mg : Str → Option Value} {base : Heap} {c_Scene c_Flow c_Jar : Addr} {f : Addr} {fd : FuncData} (F : FunG K "comes_in" "comes_in" s_comes_in f fd)
    (G_sum : mg "sum" = none) (M_Scene_known_rows_0 : MethE P w K mg base 1 c_Scene "known_rows" 0 [] (selN 1) (pKnownRows c_Scene c_Flow c_Jar)) (M_Scene_ask_rows_0 : MethE P w K mg base 3 c_Scene "ask_rows" 0 [] (selN 1) (pAskRows c_Scene c_Flow c_Jar)) (E_window_3 : DefE P w K mg base 1 "window" 3 [] (selN 3) pWindow) (A_Scene_now : FldP K c_Scene "now") (M_Flow_most_2 : MethE P w K mg base 2 c_Flow "most" 2 [] (selN 3) (pMost c_Flow c_Jar c_NoTick)) : FnOk P w K mg base (L2.CX P w) 4 f fd ["scene", "first", "last"] (liftE (pComesIn c_Scene c_Flow c_Jar)) := by
  refine fnokG_of (N := n_comes_in) (k := 3) F sc_comes_in (fun ds M Φ Ξ h => by obtain ⟨p, w, f, l, rfl, hok, k⟩ := h; rfl) fun X kp ds M Φ Ξ h I => ?_
  obtain ⟨p, w, f, l, rfl, hok, k⟩ := h
  obtain ⟨rfl, rfl, rfl, rfl, rfl, hN, hs, hf, z, hp, tk, hst, hfr⟩ := I
  have nd := z.nd
  have n0 : Lo X 0 "scene" := lo_of hN hs hf (by decide +kernel)
  have n1 : Lo X 1 "first" := lo_of hN hs hf (by decide +kernel)
  have n2 : Lo X 2 "last" := lo_of hN hs hf (by decide +kernel)
  have n3 : Lo X 3 "found" := lo_of hN hs hf (by decide +kernel)
  have n4 : Lo X 4 "flow" := lo_of hN hs hf (by decide +kernel)
  have n5 : Lo X 5 "after" := lo_of hN hs hf (by decide +kernel)
  have n6 : Lo X 6 "wait" := lo_of hN hs hf (by decide +kernel)
  have n7 : Lo X 7 "ahead" := lo_of hN hs hf (by decide +kernel)
  have n8 : Lo X 8 "ticks" := lo_of hN hs hf (by decide +kernel)
  have g_sum : Gn X "sum" := gn_of hs (by decide +kernel) G_sum
  have l_window : Gl X "window" := gl_of hs (by decide +kernel)
  clear F hf
  change DSs _ X (_ :: _) [_, _, _, _, _, _, _, _, _, _, _, _] _ _
  have hkl := hok.kl
  have hal := hok.al
  repeat' kpc_text
  refine DE.f (df_lc 0 z hN hs [("come", 9), ("hour", 10), ("many", 11)] (.tup [9, 10, 11]) (by decide +kernel) (by decide) (fun X' bk => pg_many bk z (pgs_1 (bk.z z).nd (bk.lo hN hs (by decide +kernel)) (pgs_1 (bk.z z).nd (bk.lo hN hs (by decide +kernel)) (pgs_1 (bk.z z).nd (bk.lo hN hs (by decide +kernel)) pgs_0)))) (di_list ?_))
  repeat' kpc_text
  refine ⟨p, w, rfl, ?_⟩
  repeat' kpc_text
  refine LcH.pureT (p.ks) (tD) (fun a => if f ≤ a.1 ∧ a.1 ≤ l then some (a.2.2) else none) (.int) (Nat.le_trans (show List.length _ ≤ 1000 by first | omega | (simp; done) | (simp; omega)) (by decide)) (fun q acc a ha => ?_) ?_
  · refine ⟨_, rfl, fun X' bk => ?_⟩
    have c9 : Lo X' 9 "come" := bk.lo hN hs (by decide +kernel)
    have c10 : Lo X' 10 "hour" := bk.lo hN hs (by decide +kernel)
    have c11 : Lo X' 11 "many" := bk.lo hN hs (by decide +kernel)
    have c1 : Nm X' 1 "first" := bk.nm hN hs (by decide +kernel)
    have c2 : Nm X' 2 "last" := bk.nm hN hs (by decide +kernel)
    have z' := bk.z z
    repeat' kpc_text
    all_goals first
      | (intro X' bk; (have c9 : Lo X' 9 "come" := bk.lo hN hs (by decide +kernel)); (have c10 : Lo X' 10 "hour" := bk.lo hN hs (by decide +kernel)); (have c11 : Lo X' 11 "many" := bk.lo hN hs (by decide +kernel)); (have c1 : Nm X' 1 "first" := bk.nm hN hs (by decide +kernel)); (have c2 : Nm X' 2 "last" := bk.nm hN hs (by decide +kernel)); (have z' := bk.z z); (repeat' kpc_text); exact ⟨by rw [if_pos (by kdn_look)]; rfl, rfl⟩)
      | exact ⟨by rw [if_neg (by kdo_here)]; rfl, rfl⟩
  repeat' kpc_text
  refine cd_sum (.val _) ?_
  repeat' ((fail_if_success refine stFor ?_); kpc_text)
  first | refine ds_cons (ds_forC [3, 4, 5, 6, 7, 8] z (by assumption) (di_list ?_)) | refine ds_forC [3, 4, 5, 6, 7, 8] z (by assumption) (di_list ?_)
  repeat' kpc_text
  refine ⟨p, w, rfl, hok, ?_⟩
  repeat' kpc_text
  refine ⟨fun i vs M1 => (∃ (fd : Int) (o4 o5 o6 o7 o8 : Option D), [some (.int fd), o4, o5, o6, o7, o8] = vs ∧ M = M1 ∧ (fd = comesK p.ks f l + ((p.as.take i).map (comesA p.now f l)).sum)), ⟨_, _, _, _, _, _, rfl, rfl, (by simp [comesK])⟩, ?_, ?_⟩
  · rintro i x vs δ M1 hx ⟨fd, o4, o5, o6, o7, o8, rfl, rfl, hfd⟩ hδ
    obtain rfl : δ = [_, _, _, _, o4, o5, o6, o7, o8, _, _, _] := hδ
    obtain ⟨y, hy, rfl⟩ := map_get hx
    have hyo := hok.ao y (List.mem_of_getElem? hy)
    repeat' kpc_text
    refine ⟨_, _, _, rfl, ?_⟩
    repeat' kpc_text
    refine ⟨_, y.j, y.m, _, _, rfl, .val _ _ _, hyo.jo, fun _ => ?_, fun h => by omega⟩
    repeat' kpc_text
    have hnx : fd + mostF y.j y.m (max p.now (f - y.a) - p.now) (l - y.a - max p.now (f - y.a) + 1) = comesK p.ks f l + ((p.as.take (i + 1)).map (comesA p.now f l)).sum := by
      rw [sum_take _ hy, hfd]; unfold comesA; omega
    exact ⟨[_, _, _, _, _, _], rfl, _, _, _, _, _, _, rfl, rfl, (hnx)⟩
  · rintro vs δ M1 ⟨fd, o4, o5, o6, o7, o8, rfl, rfl, hfd⟩ hδ
    obtain rfl : δ = [_, _, _, _, o4, o5, o6, o7, o8, _, _, _] := hδ
    try simp only [range_len, List.length_map, enum_len] at hfd
    repeat' kpc_text
    rw [List.take_length] at hfd
    exact ⟨_, _, .refl, by rw [hfd]; exact k⟩
def n_room : List Str := ["scene", "best", "first", "last", "many", "flow", "after", "wait"]
theorem sc_room : FnScope n_room ["scene"] (defScope s_room) := ⟨rfl, rfl, rfl, by decide +kernel, rfl, by decide +kernel, by decide +kernel⟩
theorem d_room {P : Program} {w : World} {K : PySem.W.Frag} {mg : Str → Option Value} {base : Heap} {c_Jar c_Flow c_Scene : Addr} {f : Addr} {fd : FuncData} (F : FunG K "room" "room" s_room f fd)
    (G_sum : mg "sum" = none) (A_Jar_rate : FldP K c_Jar "rate") (A_Flow_jar : FldP K c_Flow "jar") (M_Scene_ask_rows_0 : MethE P w K mg base 3 c_Scene "ask_rows" 0 [] (selN 1) (pAskRows c_Scene c_Flow c_Jar)) (A_Scene_width : FldP K c_Scene "width") (A_Scene_now : FldP K c_Scene "now") (E_starts_1 : DefE P w K mg base 5 "starts" 1 [] (selN 1) (pStartsR c_Scene c_Flow c_Jar)) (E_lasts_2 : DefE P w K mg base 4 "lasts" 2 [] (selN 2) (pLasts c_Scene c_Flow c_Jar)) (E_comes_in_3 : DefE P w K mg base 4 "comes_in" 3 [] (selN 3) (pComesIn c_Scene c_Flow c_Jar)) (M_Scene_holds_2 : MethE P w K mg base 1 c_Scene "holds" 2 [] (selN 3) (pHolds c_Scene c_Flow c_Jar)) : FnOk P w K mg base (L2.CX P w) 6 f fd ["scene"] (liftE (pRoom c_Scene c_Flow c_Jar)) := by
  refine fnokG_of (N := n_room) (k := 5) F sc_room (fun ds M Φ Ξ h => by obtain ⟨p, w, rfl, hok, hsm, hw0, hw1, kn, ky⟩ := h; rfl) fun X kp ds M Φ Ξ h I => ?_
  obtain ⟨p, w, rfl, hok, hsm, hw0, hw1, kn, ky⟩ := h
  obtain ⟨rfl, rfl, rfl, rfl, rfl, hN, hs, hf, z, hp, tk, hst, hfr⟩ := I
  have nd := z.nd
  have n0 : Lo X 0 "scene" := lo_of hN hs hf (by decide +kernel)
  have n1 : Lo X 1 "best" := lo_of hN hs hf (by decide +kernel)
  have n2 : Lo X 2 "first" := lo_of hN hs hf (by decide +kernel)
  have n3 : Lo X 3 "last" := lo_of hN hs hf (by decide +kernel)
  have n4 : Lo X 4 "many" := lo_of hN hs hf (by decide +kernel)
  have g_sum : Gn X "sum" := gn_of hs (by decide +kernel) G_sum
  have l_starts : Gl X "starts" := gl_of hs (by decide +kernel)
  have l_lasts : Gl X "lasts" := gl_of hs (by decide +kernel)
  have l_comes_in : Gl X "comes_in" := gl_of hs (by decide +kernel)
  clear F hf
  change DSs _ X (_ :: _) [_, _, _, _, _, _, _, _] _ _
  have hal := hok.al
  repeat' kpc_text
  refine DE.f (df_lc 0 z hN hs [("flow", 5), ("after", 6), ("wait", 7)] (.tup [5, 6, 7]) (by decide +kernel) (by decide) (fun X' bk => pg_many bk z (pgs_1 (bk.z z).nd (bk.lo hN hs (by decide +kernel)) (pgs_1 (bk.z z).nd (bk.lo hN hs (by decide +kernel)) (pgs_1 (bk.z z).nd (bk.lo hN hs (by decide +kernel)) pgs_0)))) (di_list ?_))
  repeat' kpc_text
  refine ⟨p, w, rfl, hok, ?_⟩
  repeat' kpc_text
  refine LcH.mapT (p.as) (askD c_Flow c_Jar) (fun x => x.j.rate) (.int) (Nat.le_trans (show List.length _ ≤ 1000 by first | omega | (simp; done) | (simp; omega)) (by decide)) (fun q acc a ha => ?_) ?_
  · refine ⟨_, rfl, fun X' bk => ?_⟩
    have c5 : Lo X' 5 "flow" := bk.lo hN hs (by decide +kernel)
    have c6 : Lo X' 6 "after" := bk.lo hN hs (by decide +kernel)
    have c7 : Lo X' 7 "wait" := bk.lo hN hs (by decide +kernel)
    have z' := bk.z z
    have A_Jar_rate' := bk.fld A_Jar_rate
    have A_Flow_jar' := bk.fld A_Flow_jar
    repeat' kpc_text
    exact ⟨rfl, rfl⟩
  repeat' kpc_text
  refine cd_sum (.val _) ?_
  repeat' kpc_text
  · rename_i hlt
    exact ⟨_, _, .refl, kn hlt⟩
  · rename_i hge
    have hge : ratesF p ≤ w := by unfold ratesF; omega
    repeat' ((fail_if_success refine stFor ?_); kpc_text)
    first | refine ds_cons (ds_forC [1, 2, 3, 4] z (by assumption) (di_list ?_)) | refine ds_forC [1, 2, 3, 4] z (by assumption) (di_list ?_)
    repeat' kpc_text
    refine ⟨p, w, rfl, hok, hsm, ?_⟩
    repeat' kpc_text
    refine ⟨fun i vs M1 => (∃ (bb : Int × Int × Int) (o2 o3 o4 : Option D), [some (tD bb), o2, o3, o4] = vs ∧ M = M1 ∧ (bb = ((startsL p).take i).foldl (fun b f => (lastsS p f).foldl (bestF p w f) b) (0, p.now, p.now))), ⟨(0, p.now, p.now), _, _, _, rfl, rfl, (rfl)⟩, ?_, ?_⟩
    · rintro i x vs δ M1 hx ⟨bb, o2, o3, o4, rfl, rfl, hbb⟩ hδ
      obtain rfl : δ = [_, _, o2, o3, o4, _, _, _] := hδ
      obtain ⟨fs, hfs, rfl⟩ := map_get hx
      have hfn : p.now ≤ fs := by
        have h := List.mem_of_getElem? hfs
        unfold startsL at h
        rw [sortU_mem] at h
        rcases List.mem_append.mp h with h | h
        · have := (quiet_ok p).n; simp at h; omega
        · obtain ⟨r, hr, rfl⟩ := List.mem_map.mp h; exact (hok.ko r hr).1
      repeat' ((fail_if_success refine stFor ?_); kpc_text)
      first | refine ds_cons (ds_forC [1, 3, 4] z (by assumption) (di_list ?_)) | refine ds_forC [1, 3, 4] z (by assumption) (di_list ?_)
      repeat' kpc_text
      refine ⟨p, w, fs, rfl, hok, hsm, hfn, ?_⟩
      repeat' kpc_text
      refine ⟨fun j vs M1 => (∃ (bc : Int × Int × Int) (o3 o4 : Option D), [some (tD bc), o3, o4] = vs ∧ M = M1 ∧ (bc = ((lastsS p fs).take j).foldl (bestF p w fs) bb)), ⟨bb, _, _, rfl, rfl, (rfl)⟩, ?_, ?_⟩
      · rintro j x vs δ M1 hx ⟨bc, o3, o4, rfl, rfl, hbc⟩ hδ
        obtain rfl : δ = [_, _, _, o3, o4, _, _, _] := hδ
        obtain ⟨ls, hls, rfl⟩ := map_get hx
        have hst : ((lastsS p fs).take (j + 1)).foldl (bestF p w fs) bb = bestF p w fs bc ls := by
          rw [List.take_add_one, hls, List.foldl_append, ← hbc]; rfl
        repeat' kpc_text
        refine ⟨p, w, _, _, rfl, hok, ?_⟩
        repeat' kpc_text
        refine ⟨_, p, w, _, _, rfl, .val _ _ _, by omega, by omega, ?_⟩
        repeat' kpc_text
        · rename_i hgt
          have e1 : bestF p w fs bc ls = (comesF p fs ls - holdsF p w fs (ls + 1), fs, ls) := if_pos hgt
          exact ⟨[_, _, _], rfl, (comesF p fs ls - holdsF p w fs (ls + 1), fs, ls), _, _, rfl, rfl, (by rw [hst, e1])⟩
        · rename_i hgt
          have e1 : bestF p w fs bc ls = bc := if_neg hgt
          exact ⟨[_, _, _], rfl, bc, _, _, rfl, rfl, (by rw [hst, e1])⟩
      · rintro vs δ M1 ⟨bc, o3, o4, rfl, rfl, hbc⟩ hδ
        obtain rfl : δ = [_, _, _, o3, o4, _, _, _] := hδ
        try simp only [range_len, List.length_map, enum_len] at hbc
        rw [List.take_length] at hbc
        repeat' kpc_text
        have hn1 : bc = ((startsL p).take (i + 1)).foldl (fun b f => (lastsS p f).foldl (bestF p w f) b) (0, p.now, p.now) := by
          rw [List.take_add_one, hfs, List.foldl_append, ← hbb, hbc]; rfl
        exact ⟨[_, _, _, _], rfl, bc, _, _, _, rfl, rfl, (hn1)⟩
    · rintro vs δ M1 ⟨bb, o2, o3, o4, rfl, rfl, hbb⟩ hδ
      obtain rfl : δ = [_, _, o2, o3, o4, _, _, _] := hδ
      try simp only [range_len, List.length_map, enum_len] at hbb
      rw [List.take_length] at hbb
      repeat' kpc_text
      rw [hbb]
      exact ⟨_, _, .refl, ky hge⟩
/-- how the mouthfuls end -/
theorem mouth_cases {j : J} (hj : JOk j) {s t : Int} (ht : 1 ≤ t) :
    (s < j.mouth ∧ mouthF j s t = 0) ∨ (j.mouth ≤ s ∧ mouthF j s t = t ∧ j.mouth ≤ s - (t - 1) * (j.mouth - j.rate)) ∨
    (j.mouth ≤ s ∧ 1 ≤ mouthF j s t ∧ mouthF j s t < t ∧ j.rate ≤ s - mouthF j s t * (j.mouth - j.rate) ∧ s - mouthF j s t * (j.mouth - j.rate) < j.mouth) := by
  have := hj.r1; have := hj.rm
  unfold mouthF
  by_cases h1 : s < j.mouth
  · exact .inl ⟨h1, if_pos h1⟩
  · rw [if_neg h1]
    by_cases h2 : j.mouth = j.rate
    · rw [if_pos h2]
      refine .inr (.inl ⟨by omega, rfl, ?_⟩)
      rw [show j.mouth - j.rate = 0 by omega, Int.mul_zero]; omega
    · rw [if_neg h2]
      have hd : 0 < j.mouth - j.rate := by omega
      have e1 := Int.mul_ediv_add_emod (s - j.mouth) (j.mouth - j.rate)
      have e2 := Int.emod_nonneg (s - j.mouth) (Int.ne_of_gt hd)
      have e3 := Int.emod_lt_of_pos (s - j.mouth) hd
      have e4 : 0 ≤ (s - j.mouth) / (j.mouth - j.rate) := Int.ediv_nonneg (by omega) (by omega)
      generalize (s - j.mouth) / (j.mouth - j.rate) = q at *
      generalize (s - j.mouth) % (j.mouth - j.rate) = r at *
      rw [Int.mul_comm] at e1
      by_cases h3 : t ≤ q + 1
      · rw [Int.min_eq_left h3]
        refine .inr (.inl ⟨by omega, rfl, ?_⟩)
        have := Int.mul_le_mul_of_nonneg_right (show t - 1 ≤ q by omega) (show 0 ≤ j.mouth - j.rate by omega)
        omega
      · rw [Int.min_eq_right (by omega)]
        refine .inr (.inr ⟨by omega, by omega, by omega, ?_⟩)
        have e5 : (q + 1) * (j.mouth - j.rate) = q * (j.mouth - j.rate) + (j.mouth - j.rate) := by rw [Int.add_mul, Int.one_mul]
        rw [e5]
        omega
theorem join1 {a n q : Int} (h1 : 0 < n) (h2 : 0 < q) : joinF a [(n, q)] = [(a, n, q)] := by
  simp [joinF, joinStep, h1, h2]
theorem join_late {a M T R : Int} (h1 : 0 < T) (h2 : 0 < R) : joinF a [(0, M), (1, 0), (T, R)] = [(a + 1, T, R)] := by
  simp [joinF, joinStep, h1, h2]
theorem join_one {a M L R : Int} (h1 : 0 < L) : joinF a [(0, M), (1, L), (0, R)] = [(a, 1, L)] := by
  simp [joinF, joinStep, h1]
theorem join_same {a M T R : Int} (h1 : 0 < T) (h2 : 0 < R) : joinF a [(0, M), (1, R), (T, R)] = [(a, 1 + T, R)] := by
  simp [joinF, joinStep, h1, h2]
theorem join_two {a M L T R : Int} (h1 : 0 < T) (h2 : 0 < R) (h3 : 0 < L) (h4 : ¬ L = R) : joinF a [(0, M), (1, L), (T, R)] = [(a, 1, L), (a + 1, T, R)] := by
  simp [joinF, joinStep, h1, h2, h3, h4]
theorem join_left {a F M L R : Int} (h0 : 0 < F) (h1 : 0 < M) (h3 : 0 < L) (h4 : ¬ M = L) : joinF a [(F, M), (1, L), (0, R)] = [(a, F, M), (a + F, 1, L)] := by
  simp [joinF, joinStep, h0, h1, h3, h4]
theorem join_full {a F M T R : Int} (h0 : 0 < F) (h1 : 0 < M) (h2 : 0 < T) (h3 : 0 < R) (h4 : ¬ M = R) : joinF a [(F, M), (1, R), (T, R)] = [(a, F, M), (a + F, 1 + T, R)] := by
  simp [joinF, joinStep, h0, h1, h2, h3, h4]
theorem join_three {a F M L T R : Int} (h0 : 0 < F) (h1 : 0 < M) (h2 : 0 < T) (h3 : 0 < R) (h5 : 0 < L) (h4 : ¬ M = L) (h6 : ¬ L = R) : joinF a [(F, M), (1, L), (T, R)] = [(a, F, M), (a + F, 1, L), (a + F + 1, T, R)] := by
  simp [joinF, joinStep, h0, h1, h2, h3, h4, h5, h6]
/-- the rows of a window, case by case -/
inductive Bursts (j : J) (s a t : Int) : List R3 → Prop
  | all : j.mouth ≤ s - (t - 1) * (j.mouth - j.rate) → j.mouth ≤ s → Bursts j s a t [(a, t, j.mouth)]
  | none : s = 0 → t = 1 → Bursts j s a t []
  | late : s = 0 → 1 < t → Bursts j s a t [(a + 1, t - 1, j.rate)]
  | rate : s = j.rate → s < j.mouth → Bursts j s a t [(a, t, j.rate)]
  | one : 0 < s → s < j.mouth → s ≠ j.rate → t = 1 → Bursts j s a t [(a, 1, s)]
  | two : 0 < s → s < j.mouth → s ≠ j.rate → 1 < t → Bursts j s a t [(a, 1, s), (a + 1, t - 1, j.rate)]
  | full (f : Int) : 1 ≤ f → f < t → j.rate < j.mouth → s - f * (j.mouth - j.rate) = j.rate → Bursts j s a t [(a, f, j.mouth), (a + f, t - f, j.rate)]
  | left (f : Int) : 1 ≤ f → f + 1 = t → j.rate < s - f * (j.mouth - j.rate) → s - f * (j.mouth - j.rate) < j.mouth → Bursts j s a t [(a, f, j.mouth), (a + f, 1, s - f * (j.mouth - j.rate))]
  | three (f : Int) : 1 ≤ f → f + 1 < t → j.rate < s - f * (j.mouth - j.rate) → s - f * (j.mouth - j.rate) < j.mouth → Bursts j s a t [(a, f, j.mouth), (a + f, 1, s - f * (j.mouth - j.rate)), (a + f + 1, t - f - 1, j.rate)]
theorem bursts_of {j : J} (hj : JOk j) {m a t : Int} (ht : 1 ≤ t) (hs : 0 ≤ aheadF j m a) : Bursts j (aheadF j m a) a t (burstsF j m a t) := by
  have h1 := hj.r1; have h2 := hj.rm
  unfold burstsF
  rw [if_neg (by omega)]
  generalize aheadF j m a = s at *
  rcases mouth_cases hj (s := s) ht with ⟨c1, c2⟩ | ⟨c1, c2, c3⟩ | ⟨c1, c2, c3, c4, c5⟩
  · rw [c2, if_neg (by omega)]
    rw [show s - 0 * (j.mouth - j.rate) = s by rw [Int.zero_mul]; omega, show t - 0 - 1 = t - 1 by omega]
    by_cases z0 : s = 0
    · subst z0
      by_cases z1 : t = 1
      · subst z1; simpa [joinF, joinStep] using Bursts.none rfl rfl
      · rw [join_late (by omega) (by omega)]; exact .late rfl (by omega)
    · by_cases z4 : t = 1
      · rw [show t - 1 = 0 by omega, join_one (by omega)]
        by_cases z1 : s = j.rate
        · rw [show (a, (1 : Int), s) = (a, t, j.rate) by rw [z1, z4]]; exact .rate z1 c1
        · exact .one (by omega) c1 z1 z4
      · by_cases z1 : s = j.rate
        · rw [z1, join_same (by omega) (by omega), show 1 + (t - 1) = t by omega]; exact .rate rfl (by omega)
        · rw [join_two (by omega) (by omega) (by omega) z1]; exact .two (by omega) c1 z1 (by omega)
  · rw [c2, if_pos rfl, join1 (by omega) (by omega)]
    exact .all c3 c1
  · rw [if_neg (by omega)]
    generalize mouthF j s t = f at *
    by_cases z4 : t - f - 1 = 0
    · rw [z4, join_left (by omega) (by omega) (by omega) (by omega)]
      by_cases z1 : s - f * (j.mouth - j.rate) = j.rate
      · rw [z1, show (a + f, (1 : Int), j.rate) = (a + f, t - f, j.rate) by rw [show t - f = 1 by omega]]
        exact .full f (by omega) (by omega) (by omega) z1
      · exact .left f (by omega) (by omega) (by omega) (by omega)
    · by_cases z1 : s - f * (j.mouth - j.rate) = j.rate
      · rw [z1, join_full (by omega) (by omega) (by omega) (by omega) (by omega), show 1 + (t - f - 1) = t - f by omega]
        exact .full f (by omega) (by omega) (by omega) z1
      · rw [join_three (by omega) (by omega) (by omega) (by omega) (by omega) (by omega) z1]
        exact .three f (by omega) (by omega) (by omega) (by omega)
abbrev R4 := Int × Int × Int × Int
abbrev qD (r : R4) : D := .tup [.int r.1, .int r.2.1, .int r.2.2.1, .int r.2.2.2]
def futOne (now f e : Int) (k : Nat) (x : Ask) : List R4 := (burstsF x.j x.m (max now (f - x.a) - now) (e - x.a - x.w - max now (f - x.a) + 1)).map fun r => ((k : Int), now + r.1, r.2.1, r.2.2)
def futF (now f e : Int) : Nat → List Ask → List R4
  | _, [] => []
  | k, x :: xs => futOne now f e k x ++ futF now f e (k + 1) xs
theorem futF_snoc (now f e : Int) : ∀ (xs : List Ask) (k : Nat) (x : Ask), futF now f e k (xs ++ [x]) = futF now f e k xs ++ futOne now f e (k + xs.length) x
  | [], k, x => by simp [futF]
  | y :: xs, k, x => by
    show futOne now f e k y ++ futF now f e (k + 1) (xs ++ [x]) = futOne now f e k y ++ futF now f e (k + 1) xs ++ _
    rw [futF_snoc now f e xs (k + 1) x, List.append_assoc, show k + 1 + xs.length = k + (y :: xs).length by simp; omega]
theorem fut_take {l : List Ask} {i : Nat} {x : Ask} (h : l[i]? = some x) (now f e : Int) : futF now f e 0 (l.take (i + 1)) = futF now f e 0 (l.take i) ++ futOne now f e i x := by
  have hi : i < l.length := (List.getElem?_eq_some_iff.mp h).1
  rw [List.take_add_one, h]
  show futF now f e 0 (l.take i ++ [x]) = _
  rw [futF_snoc, List.length_take, Nat.min_eq_left (by omega), Nat.zero_add]
theorem bursts_len (j : J) (m a t : Int) : (burstsF j m a t).length ≤ 10 := by
  have h : ∀ f ps, ps.length ≤ 10 → (joinF f ps).length ≤ 10 := fun f ps hp => Nat.le_trans join_len (by simpa using hp)
  unfold burstsF
  split
  · simp
  · split
    · exact h _ _ (by simp)
    · exact h _ _ (by simp)
theorem fut_len (now f e : Int) : ∀ (xs : List Ask) (k : Nat), (futF now f e k xs).length ≤ 10 * xs.length
  | [], _ => by simp [futF]
  | x :: xs, k => by
    have h1 := fut_len now f e xs (k + 1)
    have h2 := bursts_len x.j x.m (max now (f - x.a) - now) (e - x.a - x.w - max now (f - x.a) + 1)
    simp only [futF, futOne, List.length_append, List.length_map, List.length_cons]
    omega
theorem swell_take {l : List Ask} {i : Nat} {x : Ask} (h : l[i]? = some x) (now f e : Int) : futF now f (e + 1) 0 ((l.take (i + 1)).map roomA) = futF now f (e + 1) 0 ((l.take i).map roomA) ++ (burstsF x.j x.m (max now (f - x.a) - now) (e - x.a - max now (f - x.a) + 1)).map (fun r => ((i : Int), now + r.1, r.2.1, r.2.2)) := by
  have hi : i < l.length := (List.getElem?_eq_some_iff.mp h).1
  have h2 : (l.map roomA)[i]? = some (roomA x) := by rw [List.getElem?_map, h]; rfl
  rw [List.map_take, List.map_take, fut_take h2]
  congr 1
  show (burstsF x.j x.m (max now (f - x.a) - now) (e + 1 - x.a - 1 - max now (f - x.a) + 1)).map _ = _
  rw [show e + 1 - x.a - 1 - max now (f - x.a) + 1 = e - x.a - max now (f - x.a) + 1 by omega]
def pSwell (cS cF cJ : Addr) : DSpE := fun ds M Φ _ => ∃ p w f l, ds = [sD cS cF cJ p w, .int f, .int l] ∧ PlOk p ∧ ∀ q, Φ (.raw (.ref q)) ((q, .lst ((futF p.now f (l + 1) 0 (p.as.map roomA)).map qD)) :: M)
def n_swell : List Str := ["scene", "first", "last", "found", "place", "flow", "after", "wait", "ahead", "ticks", "begin", "turns", "many"]
theorem sc_swell : FnScope n_swell ["scene", "first", "last"] (defScope s_swell) := ⟨rfl, rfl, rfl, by decide +kernel, rfl, by decide +kernel, by decide +kernel⟩
theorem d_swell {P : Program} {w : World} {K : PySem.W.Frag} {mg : Str → Option Value} {base : Heap} {c_Scene c_Flow c_Jar : Addr} {f : Addr} {fd : FuncData} (F : FunG K "swell" "swell" s_swell f fd)
    (G_enumerate : mg "enumerate" = none) (M_Scene_ask_rows_0 : MethE P w K mg base 3 c_Scene "ask_rows" 0 [] (selN 1) (pAskRows c_Scene c_Flow c_Jar)) (E_window_3 : DefE P w K mg base 1 "window" 3 [] (selN 3) pWindow) (A_Scene_now : FldP K c_Scene "now") (M_Flow_bursts_2 : MethE P w K mg base 2 c_Flow "bursts" 2 [] (selN 3) (pBursts c_Flow c_Jar c_NoTick)) : FnOk P w K mg base (L2.CX P w) 4 f fd ["scene", "first", "last"] (liftE (pSwell c_Scene c_Flow c_Jar)) := by
  refine fnokG_of (N := n_swell) (k := 3) F sc_swell (fun ds M Φ Ξ h => by obtain ⟨p, w, f, l, rfl, hok, k⟩ := h; rfl) fun X kp ds M Φ Ξ h I => ?_
  obtain ⟨p, w, f, l, rfl, hok, k⟩ := h
  obtain ⟨rfl, rfl, rfl, rfl, rfl, hN, hs, hf, z, hp, tk, hst, hfr⟩ := I
  have nd := z.nd
  have n0 : Lo X 0 "scene" := lo_of hN hs hf (by decide +kernel)
  have n1 : Lo X 1 "first" := lo_of hN hs hf (by decide +kernel)
  have n2 : Lo X 2 "last" := lo_of hN hs hf (by decide +kernel)
  have n3 : Lo X 3 "found" := lo_of hN hs hf (by decide +kernel)
  have n4 : Lo X 4 "place" := lo_of hN hs hf (by decide +kernel)
  have n5 : Lo X 5 "flow" := lo_of hN hs hf (by decide +kernel)
  have n6 : Lo X 6 "after" := lo_of hN hs hf (by decide +kernel)
  have n7 : Lo X 7 "wait" := lo_of hN hs hf (by decide +kernel)
  have n8 : Lo X 8 "ahead" := lo_of hN hs hf (by decide +kernel)
  have n9 : Lo X 9 "ticks" := lo_of hN hs hf (by decide +kernel)
  have n10 : Lo X 10 "begin" := lo_of hN hs hf (by decide +kernel)
  have n11 : Lo X 11 "turns" := lo_of hN hs hf (by decide +kernel)
  have n12 : Lo X 12 "many" := lo_of hN hs hf (by decide +kernel)
  have g_enumerate : Gn X "enumerate" := gn_of hs (by decide +kernel) G_enumerate
  have l_window : Gl X "window" := gl_of hs (by decide +kernel)
  clear F hf
  change DSs _ X (_ :: _) [_, _, _, _, _, _, _, _, _, _, _, _, _] _ _
  have hal := hok.al
  repeat' ((fail_if_success refine (stSet "found") ?_); kpc_text)
  first | refine ds_cons (ds_own 0 z n3 (df_lst (da_nil ⟨by decide, fun q => ?_⟩))) | refine ds_own 0 z n3 (df_lst (da_nil ⟨by decide, fun q => ?_⟩))
  kpc_text
  repeat' ((fail_if_success refine stFor ?_); kpc_text)
  first | refine ds_cons (ds_forC [4, 5, 6, 7, 8, 9, 10, 11, 12] z (by assumption) (di_enum (by assumption) ?_)) | refine ds_forC [4, 5, 6, 7, 8, 9, 10, 11, 12] z (by assumption) (di_enum (by assumption) ?_)
  repeat' kpc_text
  refine ⟨p, w, rfl, hok, ?_⟩
  repeat' kpc_text
  refine ⟨fun i vs M1 => (∃  (o4 o5 o6 o7 o8 o9 o10 o11 o12 : Option D), [o4, o5, o6, o7, o8, o9, o10, o11, o12] = vs ∧ (q, .lst ((futF p.now f (l + 1) 0 ((p.as.take i).map roomA)).map qD)) :: M = M1), ⟨_, _, _, _, _, _, _, _, _, rfl, rfl⟩, ?_, ?_⟩
  · rintro i x vs δ M1 hx ⟨o4, o5, o6, o7, o8, o9, o10, o11, o12, rfl, rfl⟩ hδ
    obtain rfl : δ = [_, _, _, _, o4, o5, o6, o7, o8, o9, o10, o11, o12] := hδ
    obtain ⟨y0, hy0, rfl⟩ := enum_get hx
    obtain ⟨y, hy, rfl⟩ := map_get hy0
    have hyo := hok.ao y (List.mem_of_getElem? hy)
    have hil : i < p.as.length := (List.getElem?_eq_some_iff.mp hy).1
    have hfl := fut_len p.now f (l + 1) ((p.as.take i).map roomA) 0
    rw [List.length_map, List.length_take, Nat.min_eq_left (by omega)] at hfl
    have hbl := bursts_len y.j y.m (max p.now (f - y.a) - p.now) (l - y.a - max p.now (f - y.a) + 1)
    repeat' kpc_text
    refine ⟨_, _, _, rfl, ?_⟩
    repeat' ((fail_if_success refine stFor ?_); kpc_text)
    first | refine ds_cons (ds_forC [10, 11, 12] z (by assumption) (di_list ?_)) | refine ds_forC [10, 11, 12] z (by assumption) (di_list ?_)
    repeat' kpc_text
    refine ⟨_, y.j, y.m, _, _, rfl, .val _ _ _, hyo.jo, fun _ => ?_, fun h => by omega⟩
    repeat' kpc_text
    refine ⟨fun e2 vs M1 => (∃ (fl : List R4) (o10 o11 o12 : Option D), [o10, o11, o12] = vs ∧ (q, .lst (fl.map qD)) :: M = M1 ∧ (fl = futF p.now f (l + 1) 0 ((p.as.take i).map roomA) ++ ((burstsF y.j y.m (max p.now (f - y.a) - p.now) (l - y.a - max p.now (f - y.a) + 1)).take e2).map (fun r => ((i : Int), p.now + r.1, r.2.1, r.2.2)))), ⟨futF p.now f (l + 1) 0 ((p.as.take i).map roomA), _, _, _, rfl, rfl, (by simp)⟩, ?_, ?_⟩
    · rintro e2 x vs δ M1 hx ⟨fl, o10, o11, o12, rfl, rfl, hfl2⟩ hδ
      obtain rfl : δ = [_, _, _, _, _, _, _, _, _, _, o10, o11, o12] := hδ
      obtain ⟨r, hr, rfl⟩ := map_get hx
      have hl2 : fl.length ≤ 1200 := by rw [hfl2, List.length_append, List.length_map, List.length_take]; omega
      have hnx : fl ++ [((i : Int), p.now + r.1, r.2.1, r.2.2)] = futF p.now f (l + 1) 0 ((p.as.take i).map roomA) ++ ((burstsF y.j y.m (max p.now (f - y.a) - p.now) (l - y.a - max p.now (f - y.a) + 1)).take (e2 + 1)).map (fun r => ((i : Int), p.now + r.1, r.2.1, r.2.2)) := by
        rw [hfl2, List.append_assoc, List.take_add_one, hr]; simp
      repeat' kpc_text
      exact ⟨[_, _, _], rfl, fl ++ [((i : Int), p.now + r.1, r.2.1, r.2.2)], _, _, _, rfl, (by rw [List.map_append]; rfl), (hnx)⟩
    · rintro vs δ M1 ⟨fl, o10, o11, o12, rfl, rfl, hfl2⟩ hδ
      obtain rfl : δ = [_, _, _, _, _, _, _, _, _, _, o10, o11, o12] := hδ
      try simp only [range_len, List.length_map, enum_len] at hfl2
      rw [List.take_length] at hfl2
      repeat' kpc_text
      exact ⟨[_, _, _, _, _, _, _, _, _], rfl, _, _, _, _, _, _, _, _, _, rfl, (by rw [hfl2, swell_take hy])⟩
  · rintro vs δ M1 ⟨o4, o5, o6, o7, o8, o9, o10, o11, o12, rfl, rfl⟩ hδ
    obtain rfl : δ = [_, _, _, _, o4, o5, o6, o7, o8, o9, o10, o11, o12] := hδ
    rw [enum_len, List.length_map, List.take_length]
    repeat' kpc_text
    exact ⟨_, _, .refl, k q⟩
def withinF (r : Int × Int × Int) (lo hi : Int) : Int := r.2.2 * max 0 (min (r.1 + r.2.1 - 1) hi - max r.1 lo + 1)
def ownF (now k : Int) (rows : List R4) : List (Int × Int × Int) := rows.filterMap fun r => if r.1 = k then some (r.2.1 - now, r.2.2.1, r.2.2.2) else none
def ownS (p : Pl) (f e : Int) (rows : List R4) (k : Int) (x : Ask) : Int := ((ownF p.now k rows).map fun r => withinF r (f - x.a - p.now) (e - x.a - x.w - p.now)).sum
def toOwn (now : Int) (r : R4) : Int × Int × Int := (r.2.1 - now, r.2.2.1, r.2.2.2)
theorem own_app (now k : Int) (l l' : List R4) : ownF now k (l ++ l') = ownF now k l ++ ownF now k l' := by unfold ownF; rw [List.filterMap_append]
theorem own_same (now k : Int) (r : R4) (h : r.1 = k) : ownF now k [r] = [toOwn now r] := by
  unfold ownF; rw [List.filterMap_cons, if_pos h]; rfl
theorem own_other (now k : Int) (r : R4) (h : r.1 ≠ k) : ownF now k [r] = [] := by
  unfold ownF; rw [List.filterMap_cons, if_neg h]; rfl
/-- what the law counts of a row -/
def cntR (f e : Int) (x : Ask) (r : R4) : Int := r.2.2.2 * max 0 (min (r.2.1 + r.2.2.1 - 1) (e - x.a - x.w) - max r.2.1 (f - x.a) + 1)
theorem cnt_within (now f e : Int) (x : Ask) (r : R4) : withinF (toOwn now r) (f - x.a - now) (e - x.a - x.w - now) = cntR f e x r := by
  unfold withinF cntR toOwn; dsimp only; congr 1; omega
def ownT (p : Pl) (f e : Int) (rows : List R4) : Nat → List Ask → Int
  | _, [] => 0
  | k, x :: xs => ownS p f e rows k x + ownT p f e rows (k + 1) xs
theorem ownS_cons (p : Pl) (f e : Int) (r : R4) (rows : List R4) (k : Int) (x : Ask) : ownS p f e (r :: rows) k x = (if r.1 = k then cntR f e x r else 0) + ownS p f e rows k x := by
  unfold ownS
  rw [show r :: rows = [r] ++ rows from rfl, own_app, List.map_append, List.sum_append]
  by_cases h : r.1 = k
  · rw [own_same _ _ _ h, if_pos h]; simp only [List.map_cons, List.map_nil, List.sum_cons, List.sum_nil]; rw [cnt_within]; omega
  · rw [own_other _ _ _ h, if_neg h]; simp
theorem ownT_cons (p : Pl) (f e : Int) (r : R4) (rows : List R4) : ∀ (as : List Ask) (k : Nat), ownT p f e (r :: rows) k as = (if (k : Int) ≤ r.1 then (match as[(r.1 - k).toNat]? with | some x => cntR f e x r | none => 0) else 0) + ownT p f e rows k as
  | [], k => by simp [ownT]
  | x :: xs, k => by
    unfold ownT
    rw [ownS_cons, ownT_cons p f e r rows xs (k + 1)]
    by_cases h1 : r.1 = k
    · rw [if_pos h1, if_neg (by omega), if_pos (by omega), show (r.1 - k).toNat = 0 by omega]; simp; omega
    · rw [if_neg h1]
      by_cases h2 : (k : Int) ≤ r.1
      · rw [if_pos (by omega), if_pos h2, show (r.1 - k).toNat = (r.1 - (k + 1 : Nat)).toNat + 1 by omega, List.getElem?_cons_succ]; omega
      · rw [if_neg (by omega), if_neg h2]; omega
theorem ownT_nil (p : Pl) (f e : Int) : ∀ (as : List Ask) (k : Nat), ownT p f e [] k as = 0
  | [], _ => rfl
  | x :: xs, k => by unfold ownT; rw [ownT_nil p f e xs]; rfl
def cntP (p : Pl) (f e : Int) (r : R4) : Int := match p.as[r.1.toNat]? with | some x => cntR f e x r | none => 0
theorem ownT_sum (p : Pl) (f e : Int) : ∀ rows : List R4, (∀ r ∈ rows, 0 ≤ r.1) → ownT p f e rows 0 p.as = (rows.map (cntP p f e)).sum
  | [], _ => by rw [ownT_nil]; rfl
  | r :: rows, h => by
    rw [ownT_cons, if_pos (by have := h r List.mem_cons_self; simpa using this), ownT_sum p f e rows fun x hx => h x (List.mem_cons_of_mem _ hx)]
    rw [List.map_cons, List.sum_cons]; unfold cntP; simp
def WalkOk (j : J) (A T : Int) : Int → Int → Int → Int → List R3 → Prop
  | _, a, tot, _, [] => a = A ∧ tot = T
  | mk, a, tot, last, r :: rs => (r.1 = a ∧ 1 ≤ r.2.1 ∧ 1 ≤ r.2.2 ∧ r.2.2 ≠ last ∧ r.2.2 = min j.mouth mk ∧ r.2.2 = min j.mouth (mk - (r.2.1 - 1) * (r.2.2 - j.rate))) ∧ WalkOk j A T (mk - (r.2.1 - 1) * (r.2.2 - j.rate) - r.2.2 + j.rate) (r.1 + r.2.1) (tot + r.2.2 * r.2.1) r.2.2 rs
theorem mulx (t : Int) (j : J) : (t - 1) * (j.mouth - j.rate) = j.mouth * t - j.rate * t - j.mouth + j.rate := by
  rw [Int.sub_mul, Int.one_mul, Int.mul_sub, Int.mul_comm t, Int.mul_comm t]; omega
theorem muly (t : Int) (j : J) : t * (j.mouth - j.rate) = j.mouth * t - j.rate * t := by
  rw [Int.mul_sub, Int.mul_comm t, Int.mul_comm t]
theorem mulz (r t : Int) : r * (t - 1) = r * t - r := by rw [Int.mul_sub, Int.mul_one]
theorem bursts_walk {j : J} (hj : JOk j) {s a t : Int} {rows : List R3} (ht : 1 ≤ t) (h : Bursts j s a t rows) : WalkOk j (a + t) (min (j.mouth * t) (s + j.rate * (t - 1))) (if s = 0 then j.rate else s) (if s = 0 then a + 1 else a) 0 0 rows := by
  have h1 := hj.r1; have h2 := hj.rm
  have hle : ∀ x : Int, 0 ≤ x → j.rate * x ≤ j.mouth * x := fun x hx => Int.mul_le_mul_of_nonneg_right h2 hx
  have hlt := hle t (by omega)
  have hlt1 := hle (t - 1) (by omega)
  rw [mulz j.rate t] at *
  rw [mulz j.mouth t] at *
  cases h with
  | all c1 c2 =>
    rw [if_neg (by omega), if_neg (by omega)]
    rw [mulx] at c1
    refine ⟨⟨rfl, by dsimp only; omega, by dsimp only; omega, by dsimp only; omega, by dsimp only; omega, by dsimp only; rw [mulx]; omega⟩, rfl, ?_⟩
    dsimp only; omega
  | none c1 c2 =>
    subst c1 c2
    exact ⟨rfl, by omega⟩
  | late c1 c2 =>
    subst c1
    refine ⟨⟨rfl, by dsimp only; omega, by dsimp only; omega, by dsimp only; omega, by dsimp only; rw [if_pos rfl]; omega, by dsimp only; rw [if_pos rfl, Int.sub_self, Int.mul_zero]; omega⟩, ?_, ?_⟩
    · dsimp only; omega
    · dsimp only; rw [mulz]; omega
  | rate c1 c2 =>
    rw [if_neg (by omega), if_neg (by omega)]
    refine ⟨⟨rfl, by dsimp only; omega, by dsimp only; omega, by dsimp only; omega, by dsimp only; omega, by dsimp only; rw [Int.sub_self, Int.mul_zero]; omega⟩, rfl, ?_⟩
    dsimp only; omega
  | one c1 c2 c3 c4 =>
    subst c4
    rw [if_neg (by omega), if_neg (by omega)]
    refine ⟨⟨rfl, by dsimp only; omega, by dsimp only; omega, by dsimp only; omega, by dsimp only; omega, by dsimp only; omega⟩, rfl, ?_⟩
    dsimp only; omega
  | two c1 c2 c3 c4 =>
    rw [if_neg (by omega), if_neg (by omega)]
    refine ⟨⟨rfl, by dsimp only; omega, by dsimp only; omega, by dsimp only; omega, by dsimp only; omega, by dsimp only; omega⟩, ⟨rfl, by dsimp only; omega, by dsimp only; omega, by dsimp only; omega, by dsimp only; omega, by dsimp only; rw [show j.rate - j.rate = 0 by omega, Int.mul_zero]; omega⟩, ?_, ?_⟩
    · dsimp only; omega
    · dsimp only; rw [mulz]; omega
  | full f c1 c2 c3 c4 =>
    rw [muly] at c4
    have hlf := hle (t - f) (by omega)
    have hp := hle f (by omega)
    have hpp : j.mouth * 1 ≤ j.mouth * f := Int.mul_le_mul_of_nonneg_left c1 (by omega)
    have hq : (j.mouth - j.rate) * 1 ≤ (j.mouth - j.rate) * f := Int.mul_le_mul_of_nonneg_left c1 (by omega)
    rw [Int.mul_comm _ f, muly] at hq
    rw [Int.mul_sub, Int.mul_sub] at hlf
    rw [if_neg (by omega), if_neg (by omega)]
    refine ⟨⟨rfl, by dsimp only; omega, by dsimp only; omega, by dsimp only; omega, by dsimp only; omega, by dsimp only; rw [mulx]; omega⟩, ⟨rfl, by dsimp only; omega, by dsimp only; omega, by dsimp only; omega, by dsimp only; rw [mulx]; omega, by dsimp only; rw [Int.sub_self, Int.mul_zero, mulx]; omega⟩, ?_, ?_⟩
    · dsimp only; omega
    · dsimp only; rw [Int.mul_sub]; omega
  | left f c1 c2 c3 c4 =>
    have hq : (j.mouth - j.rate) * 1 ≤ (j.mouth - j.rate) * f := Int.mul_le_mul_of_nonneg_left c1 (by omega)
    rw [Int.mul_comm _ f, muly] at hq
    rw [muly] at *
    have hp := hle f (by omega)
    subst c2
    rw [Int.mul_add, Int.mul_add, Int.mul_one, Int.mul_one] at *
    rw [if_neg (by omega), if_neg (by omega)]
    refine ⟨⟨rfl, by dsimp only; omega, by dsimp only; omega, by dsimp only; omega, by dsimp only; omega, by dsimp only; rw [mulx]; omega⟩, ⟨rfl, by dsimp only; omega, by dsimp only; omega, by dsimp only; omega, by dsimp only; rw [mulx]; omega, by dsimp only; rw [Int.sub_self, Int.zero_mul, mulx]; omega⟩, ?_, ?_⟩
    · dsimp only; omega
    · dsimp only; omega
  | three f c1 c2 c3 c4 =>
    have hq : (j.mouth - j.rate) * 1 ≤ (j.mouth - j.rate) * f := Int.mul_le_mul_of_nonneg_left c1 (by omega)
    rw [Int.mul_comm _ f, muly] at hq
    rw [muly] at *
    have hp := hle f (by omega)
    have hlf := hle (t - f - 1) (by omega)
    rw [Int.mul_sub, Int.mul_sub, Int.mul_sub, Int.mul_sub, Int.mul_one, Int.mul_one] at hlf
    rw [if_neg (by omega), if_neg (by omega)]
    refine ⟨⟨rfl, by dsimp only; omega, by dsimp only; omega, by dsimp only; omega, by dsimp only; omega, by dsimp only; rw [mulx]; omega⟩, ⟨rfl, by dsimp only; omega, by dsimp only; omega, by dsimp only; omega, by dsimp only; rw [mulx]; omega, by dsimp only; rw [Int.sub_self, Int.zero_mul, mulx]; omega⟩, ⟨rfl, by dsimp only; omega, by dsimp only; omega, by dsimp only; omega, by dsimp only; rw [Int.sub_self, Int.zero_mul, mulx]; omega, by dsimp only; rw [Int.sub_self, Int.zero_mul, mulx, Int.sub_self, Int.mul_zero]; omega⟩, ?_, ?_⟩
    · dsimp only; omega
    · dsimp only; rw [Int.mul_sub, Int.mul_sub, Int.mul_one]; omega
theorem fits_cons1 {j : J} {m a : Int} {r : R3} {rs : List R3} (h : ¬ (r.1 < a ∨ r.2.1 < 1 ∨ r.2.2 < 1)) (h2 : ¬ badF j m a r) : fitsF j m a (r :: rs) = fitsF j (nextF j m a r) (r.1 + r.2.1) rs := by
  show (if _ then _ else _) = _
  rw [if_neg h, if_neg h2]
/-- rows that begin just behind -/
theorem fits_here {j : J} {m a n q : Int} {rs : List R3} (hm : m ≤ j.size) (h0 : 1 ≤ n) (h1 : 1 ≤ q) (h2 : q ≤ j.mouth) (h3 : q ≤ m - max 0 (q - j.rate) * (n - 1)) : fitsF j m a ((a, n, q) :: rs) = fitsF j (min j.size (m - (q - j.rate) * n)) (a + n) rs := by
  rw [fits_cons1 (by dsimp only; omega) (by unfold badF; dsimp only; rw [Int.sub_self, ahead_zero hm]; omega)]
  unfold nextF; dsimp only; rw [Int.sub_self, ahead_zero hm]
theorem fits_first {j : J} {m b n q : Int} {rs : List R3} (hb : 0 ≤ b) : fitsF j m 0 ((b, n, q) :: rs) = fitsF j (aheadF j m b) b ((b, n, q) :: rs) := by
  have hle := ahead_le j m b
  have e1 : badF j m 0 (b, n, q) ↔ badF j (aheadF j m b) b (b, n, q) := by unfold badF; dsimp only; rw [Int.sub_self, ahead_zero hle, Int.sub_zero]
  have e2 : nextF j m 0 (b, n, q) = nextF j (aheadF j m b) b (b, n, q) := by unfold nextF; dsimp only; rw [Int.sub_self, ahead_zero hle, Int.sub_zero]
  show (if _ then _ else if _ then _ else fitsF j _ _ rs) = (if _ then _ else if _ then _ else fitsF j _ _ rs)
  by_cases h : n < 1 ∨ q < 1
  · rw [if_pos (.inr h), if_pos (.inr h)]
  · rw [if_neg (show ¬ ((b, n, q).1 < 0 ∨ (b, n, q).2.1 < 1 ∨ (b, n, q).2.2 < 1) by dsimp only; omega), if_neg (show ¬ ((b, n, q).1 < b ∨ (b, n, q).2.1 < 1 ∨ (b, n, q).2.2 < 1) by dsimp only; omega), e2]
    by_cases hb2 : badF j m 0 (b, n, q)
    · rw [if_pos hb2, if_pos (e1.mp hb2)]
    · rw [if_neg hb2, if_neg fun h => hb2 (e1.mpr h)]
theorem ahead_one {j : J} {m a : Int} (hr : 0 ≤ j.rate) : aheadF j m (a + 1) = min j.size (aheadF j m a + j.rate) := by
  unfold aheadF; rw [Int.mul_add, Int.mul_one]; omega
theorem bursts_fit {j : J} (hj : JOk j) {m a t : Int} {rows : List R3} (ha : 0 ≤ a) (ht : 1 ≤ t) (h : Bursts j (aheadF j m a) a t rows) : fitsF j m 0 rows = true := by
  have h1 := hj.r1; have h2 := hj.rm; have h3 := hj.ms
  have hle := ahead_le j m a
  have hmx : max 0 (j.mouth - j.rate) = j.mouth - j.rate := by omega
  have hmr : max 0 (j.rate - j.rate) = 0 := by omega
  cases h with
  | all c1 c2 =>
    rw [fits_first ha, fits_here hle ht (by omega) (by omega) (by rw [hmx, Int.mul_comm]; exact c1)]; rfl
  | none c1 c2 => rfl
  | late c1 c2 =>
    rw [fits_first (by omega), ahead_one (by omega), c1, fits_here (by omega) (by omega) h1 h2 (by rw [hmr, Int.zero_mul]; omega)]; rfl
  | rate c1 c2 =>
    rw [fits_first ha, fits_here hle ht h1 h2 (by rw [hmr, Int.zero_mul]; omega)]; rfl
  | one c1 c2 c3 c4 =>
    rw [fits_first ha, fits_here hle (by omega) (by omega) (by omega) (by omega)]; rfl
  | two c1 c2 c3 c4 =>
    rw [fits_first ha, fits_here hle (by omega) (by omega) (by omega) (by omega), fits_here (by omega) (by omega) h1 h2 (by rw [hmr, Int.zero_mul]; omega)]; rfl
  | full f c1 c2 c3 c4 =>
    have e1 : (j.mouth - j.rate) * (f - 1) = f * (j.mouth - j.rate) - (j.mouth - j.rate) := by rw [Int.mul_sub, Int.mul_one, Int.mul_comm]
    rw [fits_first ha, fits_here hle (by omega) (by omega) (by omega) (by rw [hmx, e1]; omega), fits_here (by omega) (by omega) h1 h2 (by rw [hmr, Int.zero_mul, Int.mul_comm (j.mouth - j.rate) f]; omega)]; rfl
  | left f c1 c2 c3 c4 =>
    have e1 : (j.mouth - j.rate) * (f - 1) = f * (j.mouth - j.rate) - (j.mouth - j.rate) := by rw [Int.mul_sub, Int.mul_one, Int.mul_comm]
    rw [fits_first ha, fits_here hle (by omega) (by omega) (by omega) (by rw [hmx, e1]; omega), Int.mul_comm (j.mouth - j.rate) f, fits_here (by omega) (by omega) (by omega) (by omega) (by omega)]; rfl
  | three f c1 c2 c3 c4 =>
    have e1 : (j.mouth - j.rate) * (f - 1) = f * (j.mouth - j.rate) - (j.mouth - j.rate) := by rw [Int.mul_sub, Int.mul_one, Int.mul_comm]
    rw [fits_first ha, fits_here hle (by omega) (by omega) (by omega) (by rw [hmx, e1]; omega), Int.mul_comm (j.mouth - j.rate) f, fits_here (by omega) (by omega) (by omega) (by omega) (by omega), fits_here (by omega) (by omega) h1 h2 (by rw [hmr, Int.zero_mul]; omega)]; rfl
/-- any way of coming, ahead of the window and in it -/
def Way (j : J) (m : Int) (b i : Nat) (mk tot : Int) : Prop := 0 ≤ mk ∧ mk ≤ j.size ∧ (i ≤ b → mk ≤ aheadF j m i ∧ tot = 0) ∧ (b ≤ i → tot ≤ j.mouth * ((i - b : Nat) : Int) ∧ tot + mk ≤ aheadF j m b + j.rate * ((i - b : Nat) : Int)) ∧ (b < i → tot ≤ aheadF j m b + j.rate * ((i - b : Nat) : Int) - j.rate)
theorem way_zero {j : J} {m : Int} (h0 : 0 ≤ m) (h1 : m ≤ j.size) (b : Nat) : Way j m b 0 m 0 := by
  have e := ahead_zero h1
  refine ⟨h0, h1, fun _ => ⟨by rw [show ((0 : Nat) : Int) = 0 from rfl, e]; omega, rfl⟩, fun h => ?_, fun h => by omega⟩
  obtain rfl : b = 0 := by omega
  rw [show ((0 : Nat) : Int) = 0 from rfl, e]; simp
theorem way_step {j : J} (hj : JOk j) {m : Int} {b i : Nat} {mk tot c : Int} (h : Way j m b i mk tot) (h0 : 0 ≤ c) (h1 : c ≤ mayF j mk) : Way j m b (i + 1) (comeF j mk c) (if b ≤ i then tot + c else tot) := by
  have := hj.r1; have := hj.rm; have := hj.ms
  obtain ⟨w0, w1, w2, w3, w4⟩ := h
  have hr := ahead_succ (j := j) (by omega) m i
  unfold mayF at h1
  unfold comeF
  refine ⟨by omega, by omega, fun h => ?_, fun h => ?_, fun h => ?_⟩
  · obtain ⟨x1, x2⟩ := w2 (by omega)
    rw [if_neg (by omega), ← hr]; omega
  · by_cases hb : b ≤ i
    · obtain ⟨x1, x2⟩ := w3 hb
      rw [if_pos hb, show i + 1 - b = (i - b) + 1 by omega]
      push_cast
      rw [Int.mul_add, Int.mul_add, Int.mul_one, Int.mul_one]
      omega
    · obtain rfl : b = i + 1 := by omega
      obtain ⟨x1, x2⟩ := w2 (by omega)
      rw [if_neg (by omega), Nat.sub_self, ← hr]
      simp only [Int.natCast_zero, Int.mul_zero]
      omega
  · have hb : b ≤ i := by omega
    obtain ⟨x1, x2⟩ := w3 hb
    rw [if_pos hb, show i + 1 - b = (i - b) + 1 by omega]
    push_cast
    rw [Int.mul_add, Int.mul_one]
    omega
theorem way_end {j : J} {m : Int} {b t : Nat} {mk tot : Int} (h : Way j m b (b + t) mk tot) : tot ≤ mostF j m b t := by
  obtain ⟨w0, w1, w2, w3, w4⟩ := h
  unfold mostF
  cases t with
  | zero => obtain ⟨x1, x2⟩ := w2 (by omega); rw [if_pos (by omega)]; omega
  | succ t =>
    obtain ⟨x1, x2⟩ := w3 (by omega)
    have x3 := w4 (by omega)
    rw [if_neg (by omega), mulz]
    rw [show b + (t + 1) - b = t + 1 by omega] at *
    omega
theorem walk_sum {j : J} {A T : Int} : ∀ {rows : List R3} {mk a tot last : Int}, WalkOk j A T mk a tot last rows → tot + (rows.map fun r => r.2.1 * r.2.2).sum = T
  | [], _, _, _, _, h => by rw [← h.2]; simp
  | r :: rows, mk, a, tot, last, h => by
    have := walk_sum h.2
    rw [List.map_cons, List.sum_cons, ← this, Int.mul_comm r.2.1]
    omega
theorem fut_low (now f e : Int) : ∀ (as : List Ask) (s k : Nat), k < s → (futF now f e s as).filterMap (fun r => if r.1 = (k : Int) then some r.2 else none) = []
  | [], _, _, _ => rfl
  | x :: as, s, k, h => by
    show (futOne now f e s x ++ futF now f e (s + 1) as).filterMap _ = []
    rw [List.filterMap_append, fut_low now f e as (s + 1) k (by omega), List.append_nil, List.filterMap_eq_nil_iff]
    intro r hr
    obtain ⟨b, _, rfl⟩ := List.mem_map.mp hr
    rw [if_neg (by dsimp only; omega)]
theorem fut_pick (now f e : Int) : ∀ (as : List Ask) (s k : Nat) (x : Ask), as[k]? = some x → (futF now f e s as).filterMap (fun r => if r.1 = ((s + k : Nat) : Int) then some r.2 else none) = (burstsF x.j x.m (max now (f - x.a) - now) (e - x.a - x.w - max now (f - x.a) + 1)).map fun r => (now + r.1, r.2.1, r.2.2)
  | y :: as, s, 0, x, h => by
    simp only [List.getElem?_cons_zero, Option.some.injEq] at h
    subst h
    show (futOne now f e s y ++ futF now f e (s + 1) as).filterMap _ = _
    rw [List.filterMap_append, Nat.add_zero, fut_low now f e as (s + 1) s (by omega), List.append_nil]
    unfold futOne
    generalize burstsF y.j y.m (max now (f - y.a) - now) (e - y.a - y.w - max now (f - y.a) + 1) = bs
    induction bs with
    | nil => rfl
    | cons b bs ih =>
      rw [List.map_cons, List.filterMap_cons, if_pos rfl, List.map_cons]
      dsimp only
      rw [ih]
  | y :: as, s, k + 1, x, h => by
    have ih := fut_pick now f e as (s + 1) k x (by simpa using h)
    show (futOne now f e s y ++ futF now f e (s + 1) as).filterMap _ = _
    rw [List.filterMap_append, show s + (k + 1) = s + 1 + k by omega, ih]
    have : (futOne now f e s y).filterMap (fun r => if r.1 = ((s + 1 + k : Nat) : Int) then some r.2 else none) = [] := by
      rw [List.filterMap_eq_nil_iff]
      intro r hr
      obtain ⟨b, _, rfl⟩ := List.mem_map.mp hr
      rw [if_neg (by dsimp only; omega)]
    rw [this, List.nil_append]
theorem fut_place (now f e : Int) : ∀ (as : List Ask) (s : Nat), (∀ r ∈ futF now f e s as, (s : Int) ≤ r.1 ∧ r.1 < s + as.length) ∧ ((futF now f e s as).map (·.1)).Pairwise (· ≤ ·)
  | [], s => ⟨(fun r hr => nomatch hr), List.Pairwise.nil⟩
  | x :: as, s => by
    obtain ⟨h1, h2⟩ := fut_place now f e as (s + 1)
    have h3 : ∀ r ∈ futOne now f e s x, r.1 = (s : Int) := fun r hr => by
      obtain ⟨b, _, rfl⟩ := List.mem_map.mp hr; rfl
    refine ⟨fun r hr => ?_, ?_⟩
    · rcases List.mem_append.mp hr with hr | hr
      · have := h3 r hr; simp only [List.length_cons]; omega
      · have := h1 r hr; simp only [List.length_cons]; omega
    · show ((futOne now f e s x ++ futF now f e (s + 1) as).map (·.1)).Pairwise _
      rw [List.map_append, List.pairwise_append]
      refine ⟨?_, h2, ?_⟩
      · rw [List.pairwise_map]
        refine List.Pairwise.imp_of_mem (R := fun _ _ => True) (fun {a b} ha hb _ => ?_) (List.pairwise_of_forall (fun _ _ => trivial))
        rw [h3 a ha, h3 b hb]; exact Int.le_refl _
      · intro a ha b hb
        obtain ⟨r, hr, rfl⟩ := List.mem_map.mp ha
        obtain ⟨r2, hr2, rfl⟩ := List.mem_map.mp hb
        have := h3 r hr
        have := h1 r2 hr2
        omega
theorem walk_many {j : J} {A T : Int} : ∀ {rows : List R3} {mk a tot last : Int}, WalkOk j A T mk a tot last rows → ∀ r ∈ rows, 1 ≤ r.2.2 ∧ r.2.2 ≤ j.mouth
  | [], _, _, _, _, _, r, hr => nomatch hr
  | x :: rows, mk, a, tot, last, h, r, hr => by
    obtain ⟨⟨_, _, h1, _, h2, _⟩, h3⟩ := h
    rcases List.mem_cons.mp hr with rfl | hr
    · exact ⟨h1, by omega⟩
    · exact walk_many h3 r hr
theorem walk_in {j : J} {A T : Int} : ∀ {rows : List R3} {mk a tot last : Int}, WalkOk j A T mk a tot last rows → a ≤ A ∧ ∀ r ∈ rows, a ≤ r.1 ∧ 1 ≤ r.2.1 ∧ r.1 + r.2.1 ≤ A
  | [], _, _, _, _, h => ⟨by rw [h.1]; exact Int.le_refl _, fun r hr => nomatch hr⟩
  | x :: rows, mk, a, tot, last, h => by
    obtain ⟨⟨h1, h2, _⟩, h3⟩ := h
    obtain ⟨i1, i2⟩ := walk_in h3
    refine ⟨by omega, fun r hr => ?_⟩
    rcases List.mem_cons.mp hr with rfl | hr
    · exact ⟨by omega, h2, i1⟩
    · obtain ⟨z1, z2, z3⟩ := i2 r hr
      exact ⟨by omega, z2, z3⟩
/-- what an ask's rows come to -/
theorem ask_rows {x : Ask} (hx : AskOk x) (now f e : Int) : fitsF x.j x.m 0 (burstsF x.j x.m (max now (f - x.a) - now) (e - x.a - x.w - max now (f - x.a) + 1)) = true ∧
    (∀ r ∈ burstsF x.j x.m (max now (f - x.a) - now) (e - x.a - x.w - max now (f - x.a) + 1), max now (f - x.a) - now ≤ r.1 ∧ 1 ≤ r.2.1 ∧ r.1 + r.2.1 ≤ e - x.a - x.w - now + 1 ∧ 1 ≤ r.2.2 ∧ r.2.2 ≤ x.j.mouth) ∧
    ((burstsF x.j x.m (max now (f - x.a) - now) (e - x.a - x.w - max now (f - x.a) + 1)).map fun r => r.2.1 * r.2.2).sum = askN now f e x := by
  unfold askN
  have hbg : max now (f - x.a) = now + (max now (f - x.a) - now) := by omega
  have h0 : 0 ≤ max now (f - x.a) - now := by omega
  have hA : e - x.a - x.w - now + 1 = (max now (f - x.a) - now) + (e - x.a - x.w - max now (f - x.a) + 1) := by omega
  rw [hA]
  generalize e - x.a - x.w - max now (f - x.a) + 1 = t at *
  generalize max now (f - x.a) - now = a at *
  have hr1 := hx.jo.r1
  have hah : 0 ≤ aheadF x.j x.m a := by unfold aheadF; have := Int.mul_nonneg (show 0 ≤ x.j.rate by omega) h0; have := hx.m0; have := hx.jo.rm; have := hx.jo.ms; omega
  by_cases ht : t ≤ 0
  · have e1 : burstsF x.j x.m a t = [] := if_pos ht
    have e2 : mostF x.j x.m a t = 0 := if_pos ht
    rw [e1, e2]
    exact ⟨rfl, (fun r hr => nomatch hr), rfl⟩
  · have hb := bursts_of hx.jo (m := x.m) (a := a) (t := t) (by omega) hah
    have hw := bursts_walk hx.jo (by omega) hb
    have e2 : mostF x.j x.m a t = min (x.j.mouth * t) (aheadF x.j x.m a + x.j.rate * (t - 1)) := if_neg ht
    refine ⟨bursts_fit hx.jo h0 (by omega) hb, fun r hr => ?_, ?_⟩
    · obtain ⟨_, w2⟩ := walk_in hw
      obtain ⟨z1, z2, z3⟩ := w2 r hr
      have z4 := walk_many hw r hr
      refine ⟨?_, z2, z3, z4.1, z4.2⟩
      split at z1 <;> omega
    · have := walk_sum hw
      rw [e2, ← this]; omega
theorem own_fut {as : List Ask} {k : Nat} {x : Ask} (h : as[k]? = some x) (now f e : Int) : ownF now k (futF now f e 0 as) = burstsF x.j x.m (max now (f - x.a) - now) (e - x.a - x.w - max now (f - x.a) + 1) := by
  have hp := fut_pick now f e as 0 k x h
  rw [Nat.zero_add] at hp
  have e1 : ownF now k (futF now f e 0 as) = ((futF now f e 0 as).filterMap (fun r => if r.1 = (k : Int) then some r.2 else none)).map fun r => (r.1 - now, r.2.1, r.2.2) := by
    unfold ownF
    rw [List.map_filterMap]
    congr 1
    funext r
    split <;> rfl
  rw [e1, hp, List.map_map]
  have : ((fun r : R3 => (r.1 - now, r.2.1, r.2.2)) ∘ fun r : R3 => (now + r.1, r.2.1, r.2.2)) = fun r => r := by
    funext r
    show (now + r.1 - now, r.2.1, r.2.2) = r
    rw [show now + r.1 - now = r.1 by omega]
  rw [this, List.map_id']
theorem ownS_fut {p : Pl} (hok : PlOk p) {k : Nat} {x : Ask} (h : p.as[k]? = some x) (f e : Int) : ownS p f e (futF p.now f e 0 p.as) k x = askN p.now f e x := by
  have hx := hok.ao x (List.mem_of_getElem? h)
  obtain ⟨_, h2, h3⟩ := ask_rows hx p.now f e
  unfold ownS
  rw [own_fut h, ← h3]
  congr 1
  apply List.map_congr_left
  intro r hr
  obtain ⟨z1, z2, z3, _⟩ := h2 r hr
  unfold withinF
  rw [show max 0 (min (r.1 + r.2.1 - 1) (e - x.a - x.w - p.now) - max r.1 (f - x.a - p.now) + 1) = r.2.1 by omega, Int.mul_comm]
theorem fut_many {p : Pl} (hok : PlOk p) (f e : Int) : ∀ (as : List Ask) (k : Nat), (∀ x ∈ as, AskOk x) → ∀ r ∈ futF p.now f e k as, 1 ≤ r.2.2.2 ∧ r.2.2.2 ≤ 1000000000
  | [], _, _, r, hr => nomatch hr
  | x :: as, k, h, r, hr => by
    rcases List.mem_append.mp hr with hr | hr
    · have hx := h x List.mem_cons_self
      obtain ⟨_, h2, _⟩ := ask_rows hx p.now f e
      obtain ⟨b, hb, rfl⟩ := List.mem_map.mp hr
      obtain ⟨_, _, _, z1, z2⟩ := h2 b hb
      have := hx.jo.ms; have := hx.jo.sz
      exact ⟨z1, by dsimp only; omega⟩
    · exact fut_many hok f e as (k + 1) (fun y hy => h y (List.mem_cons_of_mem _ hy)) r hr
theorem ownT_fut {p : Pl} {f e : Int} {R : List R4} : ∀ (as : List Ask) (k : Nat), (∀ i x, as[i]? = some x → ownS p f e R ((k + i : Nat) : Int) x = askN p.now f e x) → ownT p f e R k as = (as.map (askN p.now f e)).sum
  | [], _, _ => rfl
  | x :: xs, k, h => by
    have h0 : ownS p f e R (k : Int) x = askN p.now f e x := by simpa using h 0 x rfl
    unfold ownT
    rw [h0, ownT_fut xs (k + 1) fun i y hy => by have := h (i + 1) y (by simpa using hy); rw [show k + 1 + i = k + (i + 1) by omega]; exact this]
    rfl
theorem fut_count {p : Pl} (hok : PlOk p) (f e : Int) : ((futF p.now f e 0 p.as).map (cntP p f e)).sum = askS p f e := by
  rw [← ownT_sum p f e _ fun r hr => by have := (fut_place p.now f e p.as 0).1 r hr; omega]
  exact ownT_fut p.as 0 fun i x hx => by rw [Nat.zero_add]; exact ownS_fut hok hx f e
theorem fut_fit {p : Pl} (hok : PlOk p) (f e : Int) (i : Nat) (x : Ask) (hx : p.as[i]? = some x) : fitsF x.j x.m 0 (ownF p.now (i : Int) (futF p.now f e 0 p.as)) = true := by
  rw [own_fut hx]; exact (ask_rows (hok.ao x (List.mem_of_getElem? hx)) p.now f e).1
/-! ### rows that fit bring no more in any window than can come -/
def winR (b t : Int) (r : Int × Int × Int) : Int := r.2.2 * max 0 (min (r.1 + r.2.1) (b + t) - max r.1 b)
theorem win_none {b t a : Int} {j : J} : ∀ {rows : List (Int × Int × Int)} {m : Int}, fitsF j m a rows = true → b + t ≤ a → (rows.map (winR b t)).sum = 0
  | [], _, _, _ => rfl
  | r :: rs, m, h, hb => by
    simp only [fitsF] at h
    split at h
    · cases h
    · rename_i h1
      split at h
      · cases h
      · have ih := win_none (b := b) (t := t) h (by omega)
        rw [List.map_cons, List.sum_cons, ih]
        unfold winR
        rw [show max 0 (min (r.1 + r.2.1) (b + t) - max r.1 b) = 0 by omega, Int.mul_zero]; rfl
theorem ahead_add {j : J} {m x y : Int} (hr : 0 ≤ j.rate) (hx : 0 ≤ x) (hy : 0 ≤ y) : aheadF j m (x + y) = aheadF j (aheadF j m x) y := by
  have h1 := Int.mul_nonneg hr hx
  have h2 := Int.mul_nonneg hr hy
  unfold aheadF
  rw [Int.mul_add]; omega
theorem ahead_le_add {j : J} {x y : Int} : aheadF j x y ≤ x + j.rate * y := by unfold aheadF; omega
theorem fits_from {j : J} : ∀ {rows : List (Int × Int × Int)} {m a : Int}, fitsF j m a rows = true → ∀ r ∈ rows, a ≤ r.1
  | [], _, _, _, _, hr => nomatch hr
  | x :: rs, m, a, h, r, hr => by
    simp only [fitsF] at h
    split at h
    · cases h
    · rename_i h1
      split at h
      · cases h
      · rcases List.mem_cons.mp hr with rfl | hr
        · omega
        · have := fits_from h r hr; omega
theorem fits_most {j : J} (hj : JOk j) : ∀ {rows : List (Int × Int × Int)} {m a b t : Int}, fitsF j m a rows = true → 0 ≤ m → m ≤ j.size → a ≤ b → 0 ≤ t → (rows.map (winR b t)).sum ≤ mostF j m (b - a) t
  | [], m, a, b, t, _, h0, _, hab, ht => by
    show (0 : Int) ≤ _
    exact most_nn hj h0 (by omega)
  | r :: rs, m, a, b, t, h, h0, hm, hab, ht => by
    have hr1 := hj.r1; have hrm := hj.rm; have hms := hj.ms
    obtain ⟨s, n, q⟩ := r
    simp only [fitsF] at h
    split at h
    · cases h
    · rename_i h1
      split at h
      · cases h
      · rename_i h2
        unfold badF at h2
        unfold nextF at h
        dsimp only at h h1 h2
        have hA : aheadF j m (s - a) ≤ j.size := by unfold aheadF; omega
        have hA0 : 0 ≤ aheadF j m (s - a) := ahead_nn hj h0 (by omega)
        generalize hk1 : aheadF j m (s - a) = k1 at *
        have hq1 : 1 ≤ q := by omega
        have hn1 : 1 ≤ n := by omega
        have hqm : q ≤ j.mouth := by omega
        have hql : q ≤ k1 - max 0 (q - j.rate) * (n - 1) := by omega
        have hd0 : (q - j.rate) * (n - 1) ≤ max 0 (q - j.rate) * (n - 1) := Int.mul_le_mul_of_nonneg_right (by omega) (by omega)
        have e0 : (q - j.rate) * n = (q - j.rate) * (n - 1) + (q - j.rate) := by rw [Int.mul_sub, Int.mul_one]; omega
        have hk20 : 0 ≤ min j.size (k1 - (q - j.rate) * n) := by omega
        rw [List.map_cons, List.sum_cons]
        by_cases ht0 : t = 0
        · subst ht0
          have ih := fits_most hj (b := max b (s + n)) (t := 0) h hk20 (by omega) (by omega) (by omega)
          rw [most_0 (by omega)]
          rw [most_0 (by omega)] at ih
          have z : ∀ l : List (Int × Int × Int), (l.map (winR b 0)).sum = 0 := fun l => by
            induction l with
            | nil => rfl
            | cons x l ihl =>
              rw [List.map_cons, List.sum_cons, ihl]
              unfold winR
              rw [show max 0 (min (x.1 + x.2.1) (b + 0) - max x.1 b) = 0 by omega, Int.mul_zero]; rfl
          rw [z]
          unfold winR
          dsimp only
          rw [show max 0 (min (s + n) (b + 0) - max s b) = 0 by omega, Int.mul_zero]; omega
        · have ht1 : 1 ≤ t := by omega
          by_cases c1 : s + n ≤ b
          · -- the row is ahead of the window
            have ih := fits_most hj (b := b) (t := t) h hk20 (by omega) (by omega) (by omega)
            have hw : winR b t (s, n, q) = 0 := by unfold winR; dsimp only; rw [show max 0 (min (s + n) (b + t) - max s b) = 0 by omega, Int.mul_zero]
            rw [hw, Int.zero_add]
            refine Int.le_trans ih ?_
            have e1 : aheadF j m (b - a) = aheadF j k1 (b - s) := by rw [show b - a = (s - a) + (b - s) by omega, ahead_add (by omega) (by omega) (by omega), hk1]
            have e2 : j.rate * (b - s) = j.rate * (b - (s + n)) + j.rate * n := by rw [← Int.mul_add]; congr 1; omega
            have e3 : (q - j.rate) * n = q * n - j.rate * n := Int.sub_mul _ _ _
            have e4 := Int.mul_nonneg (show 0 ≤ q by omega) (show 0 ≤ n by omega)
            have e5 := Int.mul_nonneg (show 0 ≤ j.rate by omega) (show 0 ≤ b - (s + n) by omega)
            have e6 : aheadF j (min j.size (k1 - (q - j.rate) * n)) (b - (s + n)) ≤ aheadF j m (b - a) := by
              rw [e1]; unfold aheadF; omega
            unfold mostF
            rw [if_neg (by omega), if_neg (by omega)]
            omega
          · have hbs : ∀ x, 0 ≤ x → 0 ≤ j.rate * x := fun x hx => Int.mul_nonneg (by omega) hx
            have hup : ∀ u, 1 ≤ u → u ≤ n → q * u ≤ k1 + j.rate * (u - 1) := fun u hu1 hu2 => by
              have f1 : max 0 (q - j.rate) * (u - 1) ≤ max 0 (q - j.rate) * (n - 1) := Int.mul_le_mul_of_nonneg_left (by omega) (by omega)
              have f2 : (q - j.rate) * (u - 1) ≤ max 0 (q - j.rate) * (u - 1) := Int.mul_le_mul_of_nonneg_right (by omega) (by omega)
              have f3 : (q - j.rate) * (u - 1) = q * u - q - j.rate * (u - 1) := by rw [Int.sub_mul, Int.mul_sub q, Int.mul_one]
              omega
            have hmou : ∀ u, 0 ≤ u → u ≤ t → q * u ≤ j.mouth * t := fun u hu0 hut => by
              have f1 : q * u ≤ j.mouth * u := Int.mul_le_mul_of_nonneg_right hqm hu0
              have f2 : j.mouth * u ≤ j.mouth * t := Int.mul_le_mul_of_nonneg_left hut (by omega)
              omega
            -- marks at the window's begin
            have hlow : b ≤ s → k1 ≤ aheadF j m (b - a) + j.rate * (s - b) := fun hb => by
              have e1 : k1 = aheadF j (aheadF j m (b - a)) (s - b) := by rw [← hk1, show s - a = (b - a) + (s - b) by omega, ahead_add (by omega) (by omega) (by omega)]
              rw [e1]; exact ahead_le_add
            have hhi : s ≤ b → aheadF j m (b - a) = min j.size (k1 + j.rate * (b - s)) := fun hb => by
              rw [show b - a = (s - a) + (b - s) by omega, ahead_add (by omega) (by omega) (by omega), hk1]; rfl
            by_cases c2 : b + t ≤ s + n
            · -- nothing behind the row in the window
              rw [win_none h c2, Int.add_zero]
              unfold mostF
              rw [if_neg (by omega)]
              unfold winR
              dsimp only
              by_cases c3 : b + t ≤ s
              · rw [show max 0 (min (s + n) (b + t) - max s b) = 0 by omega, Int.mul_zero]
                have := hbs (t - 1) (by omega)
                have := ahead_nn (a := b - a) hj h0 (by omega)
                have := Int.mul_nonneg (show 0 ≤ j.mouth by omega) ht
                omega
              · by_cases c4 : b ≤ s
                · rw [show max 0 (min (s + n) (b + t) - max s b) = b + t - s by omega]
                  have g1 := hup (b + t - s) (by omega) (by omega)
                  have g2 := hmou (b + t - s) (by omega) (by omega)
                  have g3 := hlow c4
                  have g4 : j.rate * (t - 1) = j.rate * (s - b) + j.rate * (b + t - s - 1) := by rw [← Int.mul_add]; congr 1; omega
                  omega
                · rw [show max 0 (min (s + n) (b + t) - max s b) = t by omega]
                  have g1 := hup t (by omega) (by omega)
                  have g2 := hmou t (by omega) (by omega)
                  have g3 := hhi (by omega)
                  have g4 := hbs (b - s) (by omega)
                  omega
            · -- the window goes on behind the row
              have ih := fits_most hj (b := s + n) (t := b + t - (s + n)) h hk20 (by omega) (by omega) (by omega)
              have hcut : (rs.map (winR b t)).sum = (rs.map (winR (s + n) (b + t - (s + n)))).sum := by
                congr 1
                refine List.map_congr_left fun r hr => ?_
                have := fits_from h r hr
                unfold winR
                congr 1
                omega
              rw [hcut]
              rw [show s + n - (s + n) = 0 by omega] at ih
              have ih2 : mostF j (min j.size (k1 - (q - j.rate) * n)) 0 (b + t - (s + n)) = min (j.mouth * (b + t - (s + n))) (min j.size (k1 - (q - j.rate) * n) + j.rate * (b + t - (s + n) - 1)) := by
                unfold mostF aheadF
                rw [if_neg (by omega), Int.mul_zero]; omega
              rw [ih2] at ih
              generalize (rs.map (winR (s + n) (b + t - (s + n)))).sum = R at ih
              unfold mostF
              rw [if_neg (by omega)]
              unfold winR
              dsimp only
              by_cases c4 : b ≤ s
              · rw [show max 0 (min (s + n) (b + t) - max s b) = n by omega]
                have g3 := hlow c4
                have g4 : j.rate * (t - 1) = j.rate * (s - b) + j.rate * n + j.rate * (b + t - (s + n) - 1) := by rw [← Int.mul_add, ← Int.mul_add]; congr 1; omega
                have g5 : (q - j.rate) * n = q * n - j.rate * n := Int.sub_mul _ _ _
                have g6 : q * n ≤ j.mouth * n := Int.mul_le_mul_of_nonneg_right hqm (by omega)
                have g7 : j.mouth * t = j.mouth * (s - b) + j.mouth * n + j.mouth * (b + t - (s + n)) := by rw [← Int.mul_add, ← Int.mul_add]; congr 1; omega
                have g8 := Int.mul_nonneg (show 0 ≤ j.mouth by omega) (show 0 ≤ s - b by omega)
                omega
              · rw [show max 0 (min (s + n) (b + t) - max s b) = s + n - b by omega]
                have g3 := hhi (by omega)
                have g4 : j.rate * (t - 1) = j.rate * (s + n - b) + j.rate * (b + t - (s + n) - 1) := by rw [← Int.mul_add]; congr 1; omega
                have g5 : (q - j.rate) * n = (q - j.rate) * (s + n - b) + (q - j.rate) * (b - s) := by rw [← Int.mul_add]; congr 1; omega
                have g9 : (q - j.rate) * (s + n - b) = q * (s + n - b) - j.rate * (s + n - b) := Int.sub_mul _ _ _
                have g10 : (q - j.rate) * (b - s) = q * (b - s) - j.rate * (b - s) := Int.sub_mul _ _ _
                have g6 : q * (s + n - b) ≤ j.mouth * (s + n - b) := Int.mul_le_mul_of_nonneg_right hqm (by omega)
                have g7 : j.mouth * t = j.mouth * (s + n - b) + j.mouth * (b + t - (s + n)) := by rw [← Int.mul_add]; congr 1; omega
                have g11 := Int.mul_nonneg (show 0 ≤ q by omega) (show 0 ≤ b - s by omega)
                rcases Int.le_total j.rate q with hq | hq
                · have g12 := Int.mul_nonneg (show 0 ≤ q - j.rate by omega) (show 0 ≤ b - s by omega)
                  have g13 := hbs (b - s) (by omega)
                  omega
                · have g12 : q * (s + n - b) ≤ j.rate * (s + n - b) := Int.mul_le_mul_of_nonneg_right hq (by omega)
                  omega
abbrev farD (p : Pl) (w : Int) : D := .tup [.int w, .int p.now, .lst (p.ks.map tD), .lst (p.as.map paD), .int p.opens]
def pMadeF (cS cF cJ : Addr) : DSpE := fun ds M Φ _ => ∃ p w, ds = [farD p w] ∧ PlOk p ∧ Φ (sD cS cF cJ p w) M
def n_law_made : List Str := ["_law_parts", "_law_width", "_law_now", "_law_knowns", "_law_asks", "_law_opens", "_law_streams", "_law_row", "_law_marks", "_law_after", "_law_wait"]
theorem sc_law_made : FnScope n_law_made ["_law_parts"] (defScope s_law_made) := ⟨rfl, rfl, rfl, by decide +kernel, rfl, by decide +kernel, by decide +kernel⟩
theorem d_law_made {P : Program} {w : World} {K : PySem.W.Frag} {mg : Str → Option Value} {base : Heap} {c_Flow c_Jar c_Scene : Addr} {f : Addr} {fd : FuncData} (F : FunG K "_law_made" "_law_made" s_law_made f fd)
    (N_Flow_2 : MakeE P w K mg base 1 "Flow" c_Flow 2 [] (selN 3) (pFlowI c_Flow c_Jar c_NoJar)) (N_Jar_3 : MakeE P w K mg base 1 "Jar" c_Jar 3 [] (selN 4) (pJarI c_Jar c_NoJar)) (N_Scene_5 : MakeE P w K mg base 3 "Scene" c_Scene 5 [] (selN 6) (pSceneI c_Scene c_Flow c_Jar)) (G_list : mg "list" = none) : FnOk P w K mg base (L2.CX P w) 5 f fd ["_law_parts"] (liftE (pMadeF c_Scene c_Flow c_Jar)) := by
  refine fnokG_of (N := n_law_made) (k := 4) F sc_law_made (fun ds M Φ Ξ h => by obtain ⟨p, w, rfl, hok, k⟩ := h; rfl) fun X kp ds M Φ Ξ h I => ?_
  obtain ⟨p, w, rfl, hok, k⟩ := h
  obtain ⟨rfl, rfl, rfl, rfl, rfl, hN, hs, hf, z, hp, tk, hst, hfr⟩ := I
  have nd := z.nd
  have n0 : Lo X 0 "_law_parts" := lo_of hN hs hf (by decide +kernel)
  have n1 : Lo X 1 "_law_width" := lo_of hN hs hf (by decide +kernel)
  have n2 : Lo X 2 "_law_now" := lo_of hN hs hf (by decide +kernel)
  have n3 : Lo X 3 "_law_knowns" := lo_of hN hs hf (by decide +kernel)
  have n4 : Lo X 4 "_law_asks" := lo_of hN hs hf (by decide +kernel)
  have n5 : Lo X 5 "_law_opens" := lo_of hN hs hf (by decide +kernel)
  have n6 : Lo X 6 "_law_streams" := lo_of hN hs hf (by decide +kernel)
  have l_Scene : Gl X "Scene" := gl_of hs (by decide +kernel)
  have g_list : Gn X "list" := gn_of hs (by decide +kernel) G_list
  clear F hf
  change DSs _ X (_ :: _) [_, _, _, _, _, _, _, _, _, _, _] _ _
  have hkl := hok.kl
  have hal := hok.al
  repeat' kpc_text
  repeat' ((fail_if_success refine (stSet "_law_streams") ?_); kpc_text)
  first | refine ds_cons (ds_lc 0 z n6 hN hs [("_law_row", 7), ("_law_marks", 8), ("_law_after", 9), ("_law_wait", 10)] (.tup [7, 8, 9, 10]) (by decide +kernel) (by decide) (fun X' bk => pg_many bk z (pgs_1 (bk.z z).nd (bk.lo hN hs (by decide +kernel)) (pgs_1 (bk.z z).nd (bk.lo hN hs (by decide +kernel)) (pgs_1 (bk.z z).nd (bk.lo hN hs (by decide +kernel)) (pgs_1 (bk.z z).nd (bk.lo hN hs (by decide +kernel)) pgs_0))))) (by decide +kernel) (by decide +kernel) (by decide +kernel) (by decide +kernel) (di_list ?_)) | refine ds_lc 0 z n6 hN hs [("_law_row", 7), ("_law_marks", 8), ("_law_after", 9), ("_law_wait", 10)] (.tup [7, 8, 9, 10]) (by decide +kernel) (by decide) (fun X' bk => pg_many bk z (pgs_1 (bk.z z).nd (bk.lo hN hs (by decide +kernel)) (pgs_1 (bk.z z).nd (bk.lo hN hs (by decide +kernel)) (pgs_1 (bk.z z).nd (bk.lo hN hs (by decide +kernel)) (pgs_1 (bk.z z).nd (bk.lo hN hs (by decide +kernel)) pgs_0))))) (by decide +kernel) (by decide +kernel) (by decide +kernel) (by decide +kernel) (di_list ?_)
  repeat' kpc_text
  refine LcH.mapT (p.as) (paD) (fun x => x) (askD c_Flow c_Jar) (Nat.le_trans (show List.length _ ≤ 1000 by first | omega | (simp; done) | (simp; omega)) (by decide)) (fun q acc a ha => ?_) ?_
  · refine ⟨_, rfl, fun X' bk => ?_⟩
    have c7 : Lo X' 7 "_law_row" := bk.lo hN hs (by decide +kernel)
    have c8 : Lo X' 8 "_law_marks" := bk.lo hN hs (by decide +kernel)
    have c9 : Lo X' 9 "_law_after" := bk.lo hN hs (by decide +kernel)
    have c10 : Lo X' 10 "_law_wait" := bk.lo hN hs (by decide +kernel)
    have z' := bk.z z
    have N_Flow_2' := bk.kE N_Flow_2
    have l_Flow' : Gl X' "Flow" := bk.gl hs (by decide +kernel)
    have N_Jar_3' := bk.kE N_Jar_3
    have l_Jar' : Gl X' "Jar" := bk.gl hs (by decide +kernel)
    repeat' kpc_text
    have hx := hok.ao a ha
    refine c_jar hx.jo ?_
    repeat' kpc_text
    refine c_flow (j := a.j) (m := a.m) rfl ⟨hx.m0, hx.m1⟩ ?_
    repeat' kpc_text
    exact ⟨rfl, rfl⟩
  rw [List.map_id']
  repeat' kpc_text
  refine ⟨_, .val _, ?_⟩
  repeat' kpc_text
  refine ⟨_, p, w, M, rfl, rfl, hok, .val 0 rfl ?_⟩
  exact ⟨_, _, .refl, k⟩
def pIsRoom : DSp := fun ds M Φ => ∃ (b : Int × Int × Int) (n : Int), ds = [tD b, .int n] ∧ 0 ≤ b.1 ∧ n ≤ b.2.1 ∧ b.2.1 ≤ b.2.2 ∧ (b.1 = 0 → b = (0, n, n)) ∧ Φ (.bl true) M
def n_law_is_room : List Str := ["_law_told", "_law_now", "_law_one"]
theorem sc_law_is_room : FnScope n_law_is_room ["_law_told", "_law_now"] (defScope s_law_is_room) := ⟨rfl, rfl, rfl, by decide +kernel, rfl, by decide +kernel, by decide +kernel⟩
theorem d_law_is_room {P : Program} {w : World} {K : PySem.W.Frag} {mg : Str → Option Value} {base : Heap} {f : Addr} {fd : FuncData} (F : Fun K "_law_is_room" "_law_is_room" s_law_is_room f fd)
    (G_isinstance : mg "isinstance" = none) (G_tuple : mg "tuple" = none) (G_len : mg "len" = none) (G_all : mg "all" = none) (D_law_whole : Def P w K mg base 1 "_law_whole" ["_law_thing"] pWhole) : FnOk P w K mg base CX0 2 f fd ["_law_told", "_law_now"] (lift pIsRoom) := by
  refine fnok_of (N := n_law_is_room) (k := 1) F sc_law_is_room (fun ds M Φ h => by obtain ⟨b, n, rfl, h0, h1, h2, h3, k⟩ := h; rfl) fun X B I ds M Φ h => ?_
  obtain ⟨b, n, rfl, h0, h1, h2, h3, k⟩ := h
  obtain ⟨rfl, rfl, rfl, rfl, rfl, hN, hs, hf, z, xe⟩ := I
  have hp := passes_of xe
  have n0 : Lo X 0 "_law_told" := lo_of hN hs hf (by decide +kernel)
  have n1 : Lo X 1 "_law_now" := lo_of hN hs hf (by decide +kernel)
  have g_isinstance : Gn X "isinstance" := gn_of hs (by decide +kernel) G_isinstance
  have g_tuple : Gn X "tuple" := gn_of hs (by decide +kernel) G_tuple
  have g_len : Gn X "len" := gn_of hs (by decide +kernel) G_len
  have g_all : Gn X "all" := gn_of hs (by decide +kernel) G_all
  clear F hf
  change DSs _ X (_ :: _) [_, _, _] _ _
  repeat' kpc_text
  refine DE.f (df_lc 0 z hN hs [("_law_one", 2)] (.one 2) (by decide +kernel) (by decide) (fun X' bk => pg_one bk z (bk.lo hN hs (by decide +kernel))) (di_tup ?_))
  repeat' kpc_text
  refine LcH.mapT ([b.1, b.2.1, b.2.2]) (.int) (fun _ => true) (.bl) (Nat.le_trans (show List.length _ ≤ 1000 by first | omega | (simp; done) | (simp; omega)) (by decide)) (fun q acc a ha => ?_) ?_
  · refine ⟨_, rfl, fun X' bk => ?_⟩
    have c2 : Lo X' 2 "_law_one" := bk.lo hN hs (by decide +kernel)
    have z' := bk.z z
    have D_law_whole' := bk.df D_law_whole
    have l_law_whole' : Gl X' "_law_whole" := bk.gl hs (by decide +kernel)
    repeat' kpc_text
    exact ⟨rfl, rfl⟩
  repeat' kpc_text
  refine cd_all (.val _) ?_
  repeat' kpc_text
  all_goals first
    | exact ⟨_, _, .refl, k⟩
    | skip
  have hb := h3 (by omega)
  rw [hb]
  refine od_eqSame (.val _) (.val _) rfl ?_
  exact ⟨_, _, .refl, k⟩
/-- what the law counts of a row in a window -/
def cntL (f l : Int) (x : Ask) (r : R4) : Int := r.2.2.2 * max 0 (min l (r.2.1 + r.2.2.1 - 1 + x.a) - max f (r.2.1 + x.a) + 1)
def cntLP (p : Pl) (f l : Int) (r : R4) : Int := match p.as[r.1.toNat]? with | some x => cntL f l x r | none => 0
def metF (p : Pl) (w : Int) (rows : List R4) (f l : Int) : Int := comesK p.ks f l + (rows.map (cntLP p f l)).sum - w * max 0 (l + 1 - max f p.opens)
def RowsIn (p : Pl) (rows : List R4) : Prop := ∀ r ∈ rows, (0 ≤ r.1 ∧ r.1 < p.as.length) ∧ 1 ≤ r.2.2.2 ∧ r.2.2.2 ≤ 1000000000
def pMetR : DSp := fun ds M Φ => ∃ (p : Pl) (w : Int) (rows : List R4) (f l : Int), ds = [farD p w, .lst (rows.map qD), .int f, .int l] ∧ PlOk p ∧ 0 ≤ w ∧ w ≤ 1000000000 ∧ RowsIn p rows ∧ Φ (.int (metF p w rows f l)) M
def n_law_met : List Str := ["_law_parts", "_law_rows", "_law_first", "_law_last", "_law_width", "_law_now", "_law_knowns", "_law_asks", "_law_opens", "_law_total", "_law_place", "_law_tick", "_law_turns", "_law_many", "_law_begin", "_law_end", "_law_come", "_law_hour"]
theorem sc_law_met : FnScope n_law_met ["_law_parts", "_law_rows", "_law_first", "_law_last"] (defScope s_law_met) := ⟨rfl, rfl, rfl, by decide +kernel, rfl, by decide +kernel, by decide +kernel⟩
theorem d_law_met {P : Program} {w : World} {K : PySem.W.Frag} {mg : Str → Option Value} {base : Heap} {f : Addr} {fd : FuncData} (F : Fun K "_law_met" "_law_met" s_law_met f fd)
    (G_sum : mg "sum" = none) (G_max : mg "max" = none) (G_min : mg "min" = none) : FnOk P w K mg base CX0 1 f fd ["_law_parts", "_law_rows", "_law_first", "_law_last"] (lift pMetR) := by
  refine fnok_of (N := n_law_met) (k := 0) F sc_law_met (fun ds M Φ h => by obtain ⟨p, w, rows, f, l, rfl, hok, hw0, hw1, hrw, k⟩ := h; rfl) fun X B I ds M Φ h => ?_
  obtain ⟨p, w, rows, f, l, rfl, hok, hw0, hw1, hrw, k⟩ := h
  obtain ⟨rfl, rfl, rfl, rfl, rfl, hN, hs, hf, z, xe⟩ := I
  have hp := passes_of xe
  have n0 : Lo X 0 "_law_parts" := lo_of hN hs hf (by decide +kernel)
  have n1 : Lo X 1 "_law_rows" := lo_of hN hs hf (by decide +kernel)
  have n2 : Lo X 2 "_law_first" := lo_of hN hs hf (by decide +kernel)
  have n3 : Lo X 3 "_law_last" := lo_of hN hs hf (by decide +kernel)
  have n4 : Lo X 4 "_law_width" := lo_of hN hs hf (by decide +kernel)
  have n5 : Lo X 5 "_law_now" := lo_of hN hs hf (by decide +kernel)
  have n6 : Lo X 6 "_law_knowns" := lo_of hN hs hf (by decide +kernel)
  have n7 : Lo X 7 "_law_asks" := lo_of hN hs hf (by decide +kernel)
  have n8 : Lo X 8 "_law_opens" := lo_of hN hs hf (by decide +kernel)
  have n9 : Lo X 9 "_law_total" := lo_of hN hs hf (by decide +kernel)
  have n10 : Lo X 10 "_law_place" := lo_of hN hs hf (by decide +kernel)
  have n11 : Lo X 11 "_law_tick" := lo_of hN hs hf (by decide +kernel)
  have n12 : Lo X 12 "_law_turns" := lo_of hN hs hf (by decide +kernel)
  have n13 : Lo X 13 "_law_many" := lo_of hN hs hf (by decide +kernel)
  have n14 : Lo X 14 "_law_begin" := lo_of hN hs hf (by decide +kernel)
  have n15 : Lo X 15 "_law_end" := lo_of hN hs hf (by decide +kernel)
  have g_sum : Gn X "sum" := gn_of hs (by decide +kernel) G_sum
  have g_max : Gn X "max" := gn_of hs (by decide +kernel) G_max
  have g_min : Gn X "min" := gn_of hs (by decide +kernel) G_min
  clear F hf
  change DSs _ X (_ :: _) [_, _, _, _, _, _, _, _, _, _, _, _, _, _, _, _, _, _] _ _
  have hkl := hok.kl
  have hal := hok.al
  repeat' kpc_text
  refine DE.f (df_lc 0 z hN hs [("_law_come", 16), ("_law_hour", 17), ("_law_many", 13)] (.tup [16, 17, 13]) (by decide +kernel) (by decide) (fun X' bk => pg_many bk z (pgs_1 (bk.z z).nd (bk.lo hN hs (by decide +kernel)) (pgs_1 (bk.z z).nd (bk.lo hN hs (by decide +kernel)) (pgs_1 (bk.z z).nd (bk.lo hN hs (by decide +kernel)) pgs_0)))) (di_list ?_))
  repeat' kpc_text
  refine LcH.pureT (p.ks) (tD) (fun a => if f ≤ a.1 ∧ a.1 ≤ l then some (a.2.2) else none) (.int) (Nat.le_trans (show List.length _ ≤ 1000 by first | omega | (simp; done) | (simp; omega)) (by decide)) (fun q acc a ha => ?_) ?_
  · refine ⟨_, rfl, fun X' bk => ?_⟩
    have c16 : Lo X' 16 "_law_come" := bk.lo hN hs (by decide +kernel)
    have c17 : Lo X' 17 "_law_hour" := bk.lo hN hs (by decide +kernel)
    have c13 : Lo X' 13 "_law_many" := bk.lo hN hs (by decide +kernel)
    have c2 : Nm X' 2 "_law_first" := bk.nm hN hs (by decide +kernel)
    have c3 : Nm X' 3 "_law_last" := bk.nm hN hs (by decide +kernel)
    have z' := bk.z z
    repeat' kpc_text
    all_goals first
      | (intro X' bk; (have c16 : Lo X' 16 "_law_come" := bk.lo hN hs (by decide +kernel)); (have c17 : Lo X' 17 "_law_hour" := bk.lo hN hs (by decide +kernel)); (have c13 : Lo X' 13 "_law_many" := bk.lo hN hs (by decide +kernel)); (have c2 : Nm X' 2 "_law_first" := bk.nm hN hs (by decide +kernel)); (have c3 : Nm X' 3 "_law_last" := bk.nm hN hs (by decide +kernel)); (have z' := bk.z z); (repeat' kpc_text); exact ⟨by rw [if_pos (by kdn_look)]; rfl, rfl⟩)
      | exact ⟨by rw [if_neg (by kdo_here)]; rfl, rfl⟩
  repeat' kpc_text
  refine cd_sum (.val _) ?_
  repeat' ((fail_if_success refine stFor ?_); kpc_text)
  first | refine ds_cons (ds_forC [9, 10, 11, 12, 13, 14, 15] z (by assumption) (di_list ?_)) | refine ds_forC [9, 10, 11, 12, 13, 14, 15] z (by assumption) (di_list ?_)
  repeat' kpc_text
  refine ⟨fun i vs M1 => (∃ (fd : Int) (o10 o11 o12 o13 o14 o15 : Option D), [some (.int fd), o10, o11, o12, o13, o14, o15] = vs ∧ M = M1 ∧ (fd = comesK p.ks f l + ((rows.take i).map (cntLP p f l)).sum)), ⟨_, _, _, _, _, _, _, rfl, rfl, (by simp [comesK])⟩, ?_, ?_⟩
  · rintro i x vs δ M1 hx ⟨fd, o10, o11, o12, o13, o14, o15, rfl, rfl, hfd⟩ hδ
    obtain rfl : δ = [_, _, _, _, _, _, _, _, _, _, o10, o11, o12, o13, o14, o15, _, _] := hδ
    obtain ⟨r, hr, rfl⟩ := map_get hx
    have hr1 := hrw r (List.mem_of_getElem? hr)
    repeat' kpc_text
    rename_i y1 hy1 y2 hy2
    rw [hy1] at hy2
    cases hy2
    have hnx : fd + r.2.2.2 * max 0 (min l (r.2.1 + r.2.2.1 - 1 + y1.a) - max f (r.2.1 + y1.a) + 1) = comesK p.ks f l + ((rows.take (i + 1)).map (cntLP p f l)).sum := by
      rw [sum_take _ hr, hfd]
      have : cntLP p f l r = cntL f l y1 r := by unfold cntLP; rw [hy1]
      rw [this]; unfold cntL; omega
    exact ⟨[_, _, _, _, _, _, _], rfl, _, _, _, _, _, _, _, rfl, rfl, (hnx)⟩
  · rintro vs δ M1 ⟨fd, o10, o11, o12, o13, o14, o15, rfl, rfl, hfd⟩ hδ
    obtain rfl : δ = [_, _, _, _, _, _, _, _, _, _, o10, o11, o12, o13, o14, o15, _, _] := hδ
    try simp only [range_len, List.length_map, enum_len] at hfd
    repeat' kpc_text
    rw [List.take_length] at hfd
    exact ⟨_, _, .refl, by rw [hfd]; exact k⟩
def rowEnds (p : Pl) (r : R4) : List Int := match p.as[r.1.toNat]? with | some x => [r.2.1 + x.a, r.2.1 + x.a + r.2.2.1] | none => []
def firstsA (p : Pl) (rows : List R4) : List Int := ([p.now, p.opens] ++ (p.ks.map fun (r : Int × Int × Int) => r.1) ++ ((p.ks.map fun (r : Int × Int × Int) => r.1).map fun c => c + 1)) ++ rows.flatMap (rowEnds p)
def firstsL (p : Pl) (rows : List R4) (l : Int) : List Int := (firstsA p rows).filterMap fun a => if p.now ≤ a ∧ a ≤ l then some a else none
def pStood : DSp := fun ds M Φ => ∃ (p : Pl) (w : Int) (rows : List R4) (l : Int), ds = [farD p w, .lst (rows.map qD), .int l] ∧ PlOk p ∧ 0 ≤ w ∧ w ≤ 1000000000 ∧ RowsIn p rows ∧ rows.length ≤ 200 ∧ ∀ v, (v = 0 ∨ ∃ f ∈ firstsL p rows l, v = metF p w rows f l) → 0 ≤ v → (∀ f ∈ firstsL p rows l, metF p w rows f l ≤ v) → Φ (.int v) M
def n_law_stood : List Str := ["_law_parts", "_law_rows", "_law_last", "_law_comes", "_law_firsts", "_law_place", "_law_tick", "_law_turns", "_law_many", "_law_begin", "_law_come", "_law_hour", "_law_first"]
theorem sc_law_stood : FnScope n_law_stood ["_law_parts", "_law_rows", "_law_last"] (defScope s_law_stood) := ⟨rfl, rfl, rfl, by decide +kernel, rfl, by decide +kernel, by decide +kernel⟩
theorem d_law_stood {P : Program} {w : World} {K : PySem.W.Frag} {mg : Str → Option Value} {base : Heap} {f : Addr} {fd : FuncData} (F : Fun K "_law_stood" "_law_stood" s_law_stood f fd)
    (G_max : mg "max" = none) (D_law_met : Def P w K mg base 1 "_law_met" ["_law_parts", "_law_rows", "_law_first", "_law_last"] pMetR) : FnOk P w K mg base CX0 2 f fd ["_law_parts", "_law_rows", "_law_last"] (lift pStood) := by
  refine fnok_of (N := n_law_stood) (k := 1) F sc_law_stood (fun ds M Φ h => by obtain ⟨p, w, rows, l, rfl, hok, hw0, hw1, hrw, hrl, k⟩ := h; rfl) fun X B I ds M Φ h => ?_
  obtain ⟨p, w, rows, l, rfl, hok, hw0, hw1, hrw, hrl, k⟩ := h
  obtain ⟨rfl, rfl, rfl, rfl, rfl, hN, hs, hf, z, xe⟩ := I
  have hp := passes_of xe
  have n0 : Lo X 0 "_law_parts" := lo_of hN hs hf (by decide +kernel)
  have n1 : Lo X 1 "_law_rows" := lo_of hN hs hf (by decide +kernel)
  have n2 : Lo X 2 "_law_last" := lo_of hN hs hf (by decide +kernel)
  have n3 : Lo X 3 "_law_comes" := lo_of hN hs hf (by decide +kernel)
  have n4 : Lo X 4 "_law_firsts" := lo_of hN hs hf (by decide +kernel)
  have n5 : Lo X 5 "_law_place" := lo_of hN hs hf (by decide +kernel)
  have n6 : Lo X 6 "_law_tick" := lo_of hN hs hf (by decide +kernel)
  have n7 : Lo X 7 "_law_turns" := lo_of hN hs hf (by decide +kernel)
  have n8 : Lo X 8 "_law_many" := lo_of hN hs hf (by decide +kernel)
  have n9 : Lo X 9 "_law_begin" := lo_of hN hs hf (by decide +kernel)
  have g_max : Gn X "max" := gn_of hs (by decide +kernel) G_max
  clear F hf
  change DSs _ X (_ :: _) [_, _, _, _, _, _, _, _, _, _, _, _, _] _ _
  have hkl := hok.kl
  have hal := hok.al
  repeat' ((fail_if_success refine (stSet "_law_comes") ?_); kpc_text)
  first | refine ds_cons (ds_lc 0 z n3 hN hs [("_law_come", 10), ("_law_hour", 11), ("_law_many", 8)] (.tup [10, 11, 8]) (by decide +kernel) (by decide) (fun X' bk => pg_many bk z (pgs_1 (bk.z z).nd (bk.lo hN hs (by decide +kernel)) (pgs_1 (bk.z z).nd (bk.lo hN hs (by decide +kernel)) (pgs_1 (bk.z z).nd (bk.lo hN hs (by decide +kernel)) pgs_0)))) (by decide +kernel) (by decide +kernel) (by decide +kernel) (by decide +kernel) (di_list ?_)) | refine ds_lc 0 z n3 hN hs [("_law_come", 10), ("_law_hour", 11), ("_law_many", 8)] (.tup [10, 11, 8]) (by decide +kernel) (by decide) (fun X' bk => pg_many bk z (pgs_1 (bk.z z).nd (bk.lo hN hs (by decide +kernel)) (pgs_1 (bk.z z).nd (bk.lo hN hs (by decide +kernel)) (pgs_1 (bk.z z).nd (bk.lo hN hs (by decide +kernel)) pgs_0)))) (by decide +kernel) (by decide +kernel) (by decide +kernel) (by decide +kernel) (di_list ?_)
  repeat' kpc_text
  refine LcH.mapT (p.ks) (tD) (fun r => r.1) (.int) (Nat.le_trans (show List.length _ ≤ 1000 by first | omega | (simp; done) | (simp; omega)) (by decide)) (fun q acc a ha => ?_) ?_
  · refine ⟨_, rfl, fun X' bk => ?_⟩
    have c10 : Lo X' 10 "_law_come" := bk.lo hN hs (by decide +kernel)
    have c11 : Lo X' 11 "_law_hour" := bk.lo hN hs (by decide +kernel)
    have c8 : Lo X' 8 "_law_many" := bk.lo hN hs (by decide +kernel)
    have z' := bk.z z
    repeat' kpc_text
    exact ⟨rfl, rfl⟩
  repeat' ((fail_if_success refine (stSet "_law_firsts") ?_); kpc_text)
  first | refine ds_cons (ds_own 0 z n4 (df_add ?_)) | refine ds_own 0 z n4 (df_add ?_)
  repeat' kpc_text
  refine od_addM (xs := [p.now, p.opens]) (f := .int) (by simp; omega) ?_
  repeat' kpc_text
  refine DE.f (df_lc 0 z hN hs [("_law_come", 10)] (.one 10) (by decide +kernel) (by decide) (fun X' bk => pg_one bk z (bk.lo hN hs (by decide +kernel))) (di_list ?_))
  repeat' kpc_text
  refine LcH.mapT ((p.ks.map fun (r : Int × Int × Int) => r.1)) (.int) (fun c => c + 1) (.int) (Nat.le_trans (show List.length _ ≤ 1000 by first | omega | (simp; done) | (simp; omega)) (by decide)) (fun q acc a ha => ?_) ?_
  · refine ⟨_, rfl, fun X' bk => ?_⟩
    have c10 : Lo X' 10 "_law_come" := bk.lo hN hs (by decide +kernel)
    have z' := bk.z z
    repeat' kpc_text
    exact ⟨rfl, rfl⟩
  refine ⟨_, _, .val _, .val _, Nat.le_trans (show _ ≤ 1000 by simp; omega) (by decide), fun q => ?_⟩
  rw [← List.map_append]
  repeat' ((fail_if_success refine stFor ?_); kpc_text)
  first | refine ds_cons (ds_forC [4, 5, 6, 7, 8, 9] z (by assumption) (di_list ?_)) | refine ds_forC [4, 5, 6, 7, 8, 9] z (by assumption) (di_list ?_)
  repeat' kpc_text
  refine ⟨fun i vs M1 => (∃ (fl : List Int) (o5 o6 o7 o8 o9 : Option D), [some (.raw (.ref q)), o5, o6, o7, o8, o9] = vs ∧ (q, .lst (fl.map .int)) :: M = M1 ∧ (fl = ([p.now, p.opens] ++ (p.ks.map fun (r : Int × Int × Int) => r.1) ++ ((p.ks.map fun (r : Int × Int × Int) => r.1).map fun c => c + 1)) ++ (rows.take i).flatMap (rowEnds p)) ∧ (fl.length ≤ 2 + 2 * p.ks.length + 2 * i)), ⟨[p.now, p.opens] ++ (p.ks.map fun (r : Int × Int × Int) => r.1) ++ ((p.ks.map fun (r : Int × Int × Int) => r.1).map fun c => c + 1), _, _, _, _, _, rfl, rfl, (by simp), (by simp; omega)⟩, ?_, ?_⟩
  · rintro i x vs δ M1 hx ⟨fl, o5, o6, o7, o8, o9, rfl, rfl, hfl, hll⟩ hδ
    obtain rfl : δ = [_, _, _, _, _, o5, o6, o7, o8, o9, _, _, _] := hδ
    obtain ⟨r, hr, rfl⟩ := map_get hx
    have hil : i < rows.length := (List.getElem?_eq_some_iff.mp hr).1
    have hr1 := hrw r (List.mem_of_getElem? hr)
    repeat' ((fail_if_success refine (stAug "_law_firsts") ?_); kpc_text)
    refine ds_cons ?_
    refine ds_augL z n4 (by rfl) ?_
    repeat' kpc_text
    rename_i y hy
    refine oi_ext (j := 0) rfl (.val _) (Nat.le_trans (show _ ≤ 1000 by simp; omega) (by decide)) ?_
    repeat' kpc_text
    have hre : rowEnds p r = [r.2.1 + y.a, r.2.1 + y.a + r.2.2.1] := by unfold rowEnds; rw [hy]
    have hnx : fl ++ [r.2.1 + y.a, r.2.1 + y.a + r.2.2.1] = ([p.now, p.opens] ++ (p.ks.map fun (r : Int × Int × Int) => r.1) ++ ((p.ks.map fun (r : Int × Int × Int) => r.1).map fun c => c + 1)) ++ (rows.take (i + 1)).flatMap (rowEnds p) := by
      rw [hfl, flat_take _ hr, hre, List.append_assoc]
    exact ⟨[_, _, _, _, _, _], rfl, fl ++ [r.2.1 + y.a, r.2.1 + y.a + r.2.2.1], _, _, _, _, _, rfl, (by rw [List.map_append]; rfl), (hnx), (by simp; omega)⟩
  · rintro vs δ M1 ⟨fl, o5, o6, o7, o8, o9, rfl, rfl, hfl, hll⟩ hδ
    obtain rfl : δ = [_, _, _, _, _, o5, o6, o7, o8, o9, _, _, _] := hδ
    try simp only [range_len, List.length_map, enum_len] at hfl hll
    rw [List.take_length] at hfl
    repeat' ((fail_if_success refine (stSet "_law_firsts") ?_); kpc_text)
    refine ws_upE 0 rfl ?_
    apply Exists.intro
    refine ⟨?_, ?_⟩
    · kx_is
    repeat' ((fail_if_success refine (stSet "_law_firsts") ?_); kpc_text)
    first | refine ds_cons (ds_lc 0 z n4 hN hs [("_law_first", 12)] (.one 12) (by decide +kernel) (by decide) (fun X' bk => pg_one bk z (bk.lo hN hs (by decide +kernel))) (by decide +kernel) (by decide +kernel) (by decide +kernel) (by decide +kernel) (di_list ?_)) | refine ds_lc 0 z n4 hN hs [("_law_first", 12)] (.one 12) (by decide +kernel) (by decide) (fun X' bk => pg_one bk z (bk.lo hN hs (by decide +kernel))) (by decide +kernel) (by decide +kernel) (by decide +kernel) (by decide +kernel) (di_list ?_)
    repeat' kpc_text
    refine LcH.pureT (fl) (.int) (fun a => if p.now ≤ a ∧ a ≤ l then some (a) else none) (.int) (Nat.le_trans (show List.length _ ≤ 1000 by first | omega | (simp; done) | (simp; omega)) (by decide)) (fun q acc a ha => ?_) ?_
    · refine ⟨_, rfl, fun X' bk => ?_⟩
      have c12 : Lo X' 12 "_law_first" := bk.lo hN hs (by decide +kernel)
      have c0 : Nm X' 0 "_law_parts" := bk.nm hN hs (by decide +kernel)
      have c2 : Nm X' 2 "_law_last" := bk.nm hN hs (by decide +kernel)
      have z' := bk.z z
      repeat' kpc_text
      all_goals first
        | (intro X' bk; (have c12 : Lo X' 12 "_law_first" := bk.lo hN hs (by decide +kernel)); (have c0 : Nm X' 0 "_law_parts" := bk.nm hN hs (by decide +kernel)); (have c2 : Nm X' 2 "_law_last" := bk.nm hN hs (by decide +kernel)); (have z' := bk.z z); (repeat' kpc_text); exact ⟨by rw [if_pos (by kdn_look)]; rfl, rfl⟩)
        | exact ⟨by rw [if_neg (by kdo_here)]; rfl, rfl⟩
    have hfs : fl.filterMap (fun a => if p.now ≤ a ∧ a ≤ l then some a else none) = firstsL p rows l := by rw [hfl]; rfl
    have hfsl : (firstsL p rows l).length ≤ 900 := by rw [← hfs]; exact Nat.le_trans (List.length_filterMap_le _ _) (by omega)
    rw [hfs]
    repeat' kpc_text
    refine DE.f (df_lc 0 z hN hs [("_law_first", 12)] (.one 12) (by decide +kernel) (by decide) (fun X' bk => pg_one bk z (bk.lo hN hs (by decide +kernel))) (di_list ?_))
    repeat' kpc_text
    refine LcH.mapT (firstsL p rows l) (.int) (fun f => metF p w rows f l) (.int) (Nat.le_trans (show List.length _ ≤ 1000 by first | omega | (simp; done) | (simp; omega)) (by decide)) (fun q acc a ha => ?_) ?_
    · refine ⟨_, rfl, fun X' bk => ?_⟩
      have c12 : Lo X' 12 "_law_first" := bk.lo hN hs (by decide +kernel)
      have c0 : Nm X' 0 "_law_parts" := bk.nm hN hs (by decide +kernel)
      have c1 : Nm X' 1 "_law_rows" := bk.nm hN hs (by decide +kernel)
      have c2 : Nm X' 2 "_law_last" := bk.nm hN hs (by decide +kernel)
      have z' := bk.z z
      have D_law_met' := bk.df D_law_met
      have l_law_met' : Gl X' "_law_met" := bk.gl hs (by decide +kernel)
      repeat' kpc_text
      refine ⟨p, w, rows, a, l, rfl, hok, hw0, hw1, hrw, ?_⟩
      exact ⟨rfl, rfl⟩
    refine od_addM (xs := [0]) (f := .int) (by simp; omega) ?_
    repeat' kpc_text
    refine cd_maxL (.val _) (by simp) fun m hm1 hm2 => ?_
    refine ⟨_, _, .refl, k m ?_ (hm2 0 (by simp)) fun f hf => hm2 _ (by simp; exact .inr ⟨f, hf, rfl⟩)⟩
    rcases List.mem_append.mp hm1 with h | h
    · exact .inl (by simpa using h)
    · obtain ⟨f, hf, rfl⟩ := List.mem_map.mp h; exact .inr ⟨f, hf, rfl⟩
theorem sorted_uniqueL : ∀ {l m : List Int}, l.Perm m → l.Pairwise (· ≤ ·) → m.Pairwise (· ≤ ·) → l = m
  | [], m, h, _, _ => (List.nil_perm.mp h).symm
  | x :: l, [], h, _, _ => absurd (List.perm_nil.mp h) (by simp)
  | x :: l, y :: m, h, hl, hm => by
    obtain ⟨l1, l2⟩ := List.pairwise_cons.mp hl
    obtain ⟨m1, m2⟩ := List.pairwise_cons.mp hm
    have e : x = y := by
      have hx : x ∈ y :: m := h.mem_iff.mp List.mem_cons_self
      have hy : y ∈ x :: l := h.mem_iff.mpr List.mem_cons_self
      rcases List.mem_cons.mp hx with e | e
      · exact e
      · rcases List.mem_cons.mp hy with e' | e'
        · exact e'.symm
        · have := l1 y e'; have := m1 x e; omega
    subst e
    rw [sorted_uniqueL (List.Perm.cons_inv h) l2 m2]
def pFitR : DSpE := fun ds M Φ _ => ∃ (p : Pl) (w : Int) (rows : List R4), ds = [farD p w, .lst (rows.map qD)] ∧ PlOk p ∧ rows.length ≤ 200 ∧ RowsIn p rows ∧ (rows.map fun r => r.1).Pairwise (· ≤ ·) ∧ (∀ (i : Nat) (x : Ask), p.as[i]? = some x → fitsF x.j x.m 0 ((rows.filterMap fun r => if r.1 = (i : Int) then some (r.2.1 - p.now, r.2.2.1, r.2.2.2) else none)) = true) ∧ Φ (.bl true) M
def n_law_fit : List Str := ["_law_parts", "_law_rows", "_law_row", "_law_places", "_law_place", "_law_marks", "_law_after", "_law_wait", "_law_own", "_law_one", "_law_at", "_law_tick", "_law_turns", "_law_many"]
theorem sc_law_fit : FnScope n_law_fit ["_law_parts", "_law_rows"] (defScope s_law_fit) := ⟨rfl, rfl, rfl, by decide +kernel, rfl, by decide +kernel, by decide +kernel⟩
theorem d_law_fit {P : Program} {w : World} {K : PySem.W.Frag} {mg : Str → Option Value} {base : Heap} {c_Flow c_Jar : Addr} {f : Addr} {fd : FuncData} (F : FunG K "_law_fit" "_law_fit" s_law_fit f fd)
    (G_isinstance : mg "isinstance" = none) (G_list : mg "list" = none) (G_tuple : mg "tuple" = none) (G_len : mg "len" = none) (G_all : mg "all" = none) (D_law_whole : Def P w K mg base 1 "_law_whole" ["_law_thing"] pWhole) (G_sorted : mg "sorted" = none) (G_enumerate : mg "enumerate" = none) (M_Flow_fits_1 : MethE P w K mg base 2 c_Flow "fits" 1 [] (selN 2) (pFits c_Flow c_Jar)) (N_Flow_2 : MakeE P w K mg base 1 "Flow" c_Flow 2 [] (selN 3) (pFlowI c_Flow c_Jar c_NoJar)) (N_Jar_3 : MakeE P w K mg base 1 "Jar" c_Jar 3 [] (selN 4) (pJarI c_Jar c_NoJar)) : FnOk P w K mg base (L2.CX P w) 3 f fd ["_law_parts", "_law_rows"] (liftE pFitR) := by
  refine fnokG_of (N := n_law_fit) (k := 2) F sc_law_fit (fun ds M Φ Ξ h => by obtain ⟨p, w, rows, rfl, hok, hrl, hrw, hpw, hfit, k⟩ := h; rfl) fun X kp ds M Φ Ξ h I => ?_
  obtain ⟨p, w, rows, rfl, hok, hrl, hrw, hpw, hfit, k⟩ := h
  obtain ⟨rfl, rfl, rfl, rfl, rfl, hN, hs, hf, z, hp, tk, hst, hfr⟩ := I
  have nd := z.nd
  have n0 : Lo X 0 "_law_parts" := lo_of hN hs hf (by decide +kernel)
  have n1 : Lo X 1 "_law_rows" := lo_of hN hs hf (by decide +kernel)
  have n2 : Lo X 2 "_law_row" := lo_of hN hs hf (by decide +kernel)
  have n3 : Lo X 3 "_law_places" := lo_of hN hs hf (by decide +kernel)
  have n4 : Lo X 4 "_law_place" := lo_of hN hs hf (by decide +kernel)
  have n5 : Lo X 5 "_law_marks" := lo_of hN hs hf (by decide +kernel)
  have n6 : Lo X 6 "_law_after" := lo_of hN hs hf (by decide +kernel)
  have n7 : Lo X 7 "_law_wait" := lo_of hN hs hf (by decide +kernel)
  have n8 : Lo X 8 "_law_own" := lo_of hN hs hf (by decide +kernel)
  have g_isinstance : Gn X "isinstance" := gn_of hs (by decide +kernel) G_isinstance
  have g_list : Gn X "list" := gn_of hs (by decide +kernel) G_list
  have g_tuple : Gn X "tuple" := gn_of hs (by decide +kernel) G_tuple
  have g_len : Gn X "len" := gn_of hs (by decide +kernel) G_len
  have g_all : Gn X "all" := gn_of hs (by decide +kernel) G_all
  have g_sorted : Gn X "sorted" := gn_of hs (by decide +kernel) G_sorted
  have g_enumerate : Gn X "enumerate" := gn_of hs (by decide +kernel) G_enumerate
  have l_Flow : Gl X "Flow" := gl_of hs (by decide +kernel)
  have l_Jar : Gl X "Jar" := gl_of hs (by decide +kernel)
  clear F hf
  change DSs _ X (_ :: _) [_, _, _, _, _, _, _, _, _, _, _, _, _, _] _ _
  have hal := hok.al
  repeat' ((fail_if_success refine stFor ?_); kpc_text)
  first | refine ds_cons (ds_forC [2] z (by assumption) (di_list ?_)) | refine ds_forC [2] z (by assumption) (di_list ?_)
  repeat' kpc_text
  refine ⟨fun i vs M1 => (∃  (o2 : Option D), [o2] = vs ∧ M = M1), ⟨_, rfl, rfl⟩, ?_, ?_⟩
  · rintro i x vs δ M1 hx ⟨o2, rfl, rfl⟩ hδ
    obtain rfl : δ = [_, _, o2, _, _, _, _, _, _, _, _, _, _, _] := hδ
    obtain ⟨r, hr, rfl⟩ := map_get hx
    repeat' kpc_text
    refine DE.f (df_lc 0 z hN hs [("_law_one", 9)] (.one 9) (by decide +kernel) (by decide) (fun X' bk => pg_one bk z (bk.lo hN hs (by decide +kernel))) (di_tup ?_))
    repeat' kpc_text
    refine LcH.mapT ([r.1, r.2.1, r.2.2.1, r.2.2.2]) (.int) (fun _ => true) (.bl) (Nat.le_trans (show List.length _ ≤ 1000 by first | omega | (simp; done) | (simp; omega)) (by decide)) (fun q acc a ha => ?_) ?_
    · refine ⟨_, rfl, fun X' bk => ?_⟩
      have c9 : Lo X' 9 "_law_one" := bk.lo hN hs (by decide +kernel)
      have z' := bk.z z
      have D_law_whole' := bk.df D_law_whole
      have l_law_whole' : Gl X' "_law_whole" := bk.gl hs (by decide +kernel)
      repeat' kpc_text
      exact ⟨rfl, rfl⟩
    repeat' kpc_text
    refine cd_all (.val _) ?_
    repeat' kpc_text
    exact ⟨[_], rfl, _, rfl, rfl⟩
  · rintro vs δ M1 ⟨o2, rfl, rfl⟩ hδ
    obtain rfl : δ = [_, _, o2, _, _, _, _, _, _, _, _, _, _, _] := hδ
    repeat' ((fail_if_success refine (stSet "_law_places") ?_); kpc_text)
    first | refine ds_cons (ds_lc 0 z n3 hN hs [("_law_row", 2)] (.one 2) (by decide +kernel) (by decide) (fun X' bk => pg_one bk z (bk.lo hN hs (by decide +kernel))) (by decide +kernel) (by decide +kernel) (by decide +kernel) (by decide +kernel) (di_list ?_)) | refine ds_lc 0 z n3 hN hs [("_law_row", 2)] (.one 2) (by decide +kernel) (by decide) (fun X' bk => pg_one bk z (bk.lo hN hs (by decide +kernel))) (by decide +kernel) (by decide +kernel) (by decide +kernel) (by decide +kernel) (di_list ?_)
    repeat' kpc_text
    refine LcH.mapT (rows) (qD) (fun r => r.1) (.int) (Nat.le_trans (show List.length _ ≤ 1000 by first | omega | (simp; done) | (simp; omega)) (by decide)) (fun q acc a ha => ?_) ?_
    · refine ⟨_, rfl, fun X' bk => ?_⟩
      have c2 : Lo X' 2 "_law_row" := bk.lo hN hs (by decide +kernel)
      have z' := bk.z z
      repeat' kpc_text
      exact ⟨rfl, rfl⟩
    repeat' kpc_text
    refine de_sortedI g_sorted ?_
    repeat' kpc_text
    refine cd_sortedI (.val _) fun ms hm1 hm2 => ?_
    rw [sorted_uniqueL hm1 hm2 hpw]
    refine od_neSame (.val _) (.val _) (okE_ints _) ?_
    repeat' kpc_text
    refine DE.f (df_lc 0 z hN hs [("_law_place", 4)] (.one 4) (by decide +kernel) (by decide) (fun X' bk => pg_one bk z (bk.lo hN hs (by decide +kernel))) (di_list ?_))
    repeat' kpc_text
    refine LcH.mapT (rows.map fun r => r.1) .int (fun _ => true) .bl (Nat.le_trans (show List.length _ ≤ 1000 by simp; omega) (by decide)) (fun q acc a ha => ?_) ?_
    · obtain ⟨r, hr, rfl⟩ := List.mem_map.mp ha
      have hr1 := hrw r hr
      refine ⟨_, rfl, fun X' bk => ?_⟩
      have c4 : Lo X' 4 "_law_place" := bk.lo hN hs (by decide +kernel)
      have c0 : Nm X' 0 "_law_parts" := bk.nm hN hs (by decide +kernel)
      have z' := bk.z z
      have g_len' : Gn X' "len" := bk.gn hs (by decide +kernel) G_len
      repeat' kpc_text
      exact ⟨by rw [decide_eq_true hr1.1.2], rfl⟩
    repeat' kpc_text
    refine cd_all (.val _) ?_
    rw [show (((rows.map fun r => r.1).map fun _ => true).all id) = true by simp]
    repeat' ((fail_if_success refine stFor ?_); kpc_text)
    first | refine ds_cons (ds_forC [2, 4, 5, 6, 7, 8] z (by assumption) (di_enum (by assumption) ?_)) | refine ds_forC [2, 4, 5, 6, 7, 8] z (by assumption) (di_enum (by assumption) ?_)
    repeat' kpc_text
    refine ⟨fun i vs M1 => (∃  (o2 o4 o5 o6 o7 o8 : Option D), [o2, o4, o5, o6, o7, o8] = vs ∧ M = M1), ⟨_, _, _, _, _, _, rfl, rfl⟩, ?_, ?_⟩
    · rintro i x vs δ M1 hx ⟨o2, o4, o5, o6, o7, o8, rfl, rfl⟩ hδ
      obtain rfl : δ = [_, _, o2, _, o4, o5, o6, o7, o8, _, _, _, _, _] := hδ
      obtain ⟨y0, hy0, rfl⟩ := enum_get hx
      obtain ⟨y, hy, rfl⟩ := map_get hy0
      have hyo := hok.ao y (List.mem_of_getElem? hy)
      repeat' ((fail_if_success refine (stSet "_law_own") ?_); kpc_text)
      first | refine ds_cons (ds_lc 0 z n8 hN hs [("_law_at", 10), ("_law_tick", 11), ("_law_turns", 12), ("_law_many", 13)] (.tup [10, 11, 12, 13]) (by decide +kernel) (by decide) (fun X' bk => pg_many bk z (pgs_1 (bk.z z).nd (bk.lo hN hs (by decide +kernel)) (pgs_1 (bk.z z).nd (bk.lo hN hs (by decide +kernel)) (pgs_1 (bk.z z).nd (bk.lo hN hs (by decide +kernel)) (pgs_1 (bk.z z).nd (bk.lo hN hs (by decide +kernel)) pgs_0))))) (by decide +kernel) (by decide +kernel) (by decide +kernel) (by decide +kernel) (di_list ?_)) | refine ds_lc 0 z n8 hN hs [("_law_at", 10), ("_law_tick", 11), ("_law_turns", 12), ("_law_many", 13)] (.tup [10, 11, 12, 13]) (by decide +kernel) (by decide) (fun X' bk => pg_many bk z (pgs_1 (bk.z z).nd (bk.lo hN hs (by decide +kernel)) (pgs_1 (bk.z z).nd (bk.lo hN hs (by decide +kernel)) (pgs_1 (bk.z z).nd (bk.lo hN hs (by decide +kernel)) (pgs_1 (bk.z z).nd (bk.lo hN hs (by decide +kernel)) pgs_0))))) (by decide +kernel) (by decide +kernel) (by decide +kernel) (by decide +kernel) (di_list ?_)
      repeat' kpc_text
      refine LcH.pureT (rows) (qD) (fun a => if a.1 = (i : Int) then some ((a.2.1 - p.now, a.2.2.1, a.2.2.2)) else none) (tD) (Nat.le_trans (show List.length _ ≤ 1000 by first | omega | (simp; done) | (simp; omega)) (by decide)) (fun q acc a ha => ?_) ?_
      · refine ⟨_, rfl, fun X' bk => ?_⟩
        have c10 : Lo X' 10 "_law_at" := bk.lo hN hs (by decide +kernel)
        have c11 : Lo X' 11 "_law_tick" := bk.lo hN hs (by decide +kernel)
        have c12 : Lo X' 12 "_law_turns" := bk.lo hN hs (by decide +kernel)
        have c13 : Lo X' 13 "_law_many" := bk.lo hN hs (by decide +kernel)
        have c0 : Nm X' 0 "_law_parts" := bk.nm hN hs (by decide +kernel)
        have c4 : Nm X' 4 "_law_place" := bk.nm hN hs (by decide +kernel)
        have z' := bk.z z
        repeat' kpc_text
        all_goals first
          | (intro X' bk; (have c10 : Lo X' 10 "_law_at" := bk.lo hN hs (by decide +kernel)); (have c11 : Lo X' 11 "_law_tick" := bk.lo hN hs (by decide +kernel)); (have c12 : Lo X' 12 "_law_turns" := bk.lo hN hs (by decide +kernel)); (have c13 : Lo X' 13 "_law_many" := bk.lo hN hs (by decide +kernel)); (have c0 : Nm X' 0 "_law_parts" := bk.nm hN hs (by decide +kernel)); (have c4 : Nm X' 4 "_law_place" := bk.nm hN hs (by decide +kernel)); (have z' := bk.z z); (repeat' kpc_text); exact ⟨by rw [if_pos (by kdn_look)]; rfl, rfl⟩)
          | exact ⟨by rw [if_neg (by kdo_here)]; rfl, rfl⟩
      repeat' kpc_text
      refine c_jar hyo.jo ?_
      repeat' kpc_text
      refine c_flow (j := y.j) (m := y.m) rfl ⟨hyo.m0, hyo.m1⟩ ?_
      repeat' kpc_text
      have hob : ∀ r ∈ rows.filterMap (fun a => if a.1 = (i : Int) then some (a.2.1 - p.now, a.2.2.1, a.2.2.2) else none), -1000000000000000 ≤ r.2.2 ∧ r.2.2 ≤ 1000000000000000 := fun r hr => by
        obtain ⟨r4, h4, e4⟩ := List.mem_filterMap.mp hr
        have := hrw r4 h4
        split at e4
        · cases e4; dsimp only; omega
        · cases e4
      refine ⟨_, y.j, y.m, _, rfl, .val _ _ _, hyo.jo, hyo.m1, hob, ?_⟩
      rw [hfit i y hy]
      repeat' kpc_text
      exact ⟨[_, _, _, _, _, _], rfl, _, _, _, _, _, _, rfl, rfl⟩
    · rintro vs δ M1 ⟨o2, o4, o5, o6, o7, o8, rfl, rfl⟩ hδ
      obtain rfl : δ = [_, _, o2, _, o4, o5, o6, o7, o8, _, _, _, _, _] := hδ
      repeat' kpc_text
      exact ⟨_, _, .refl, k⟩
/-! ### the swell is the room -/
theorem bests_first {p : Pl} {w f : Int} : ∀ (ls : List Int) (b : Int × Int × Int), (ls.foldl (bestF p w f) b).2.1 = f ∨ ls.foldl (bestF p w f) b = b
  | [], _ => .inr rfl
  | l :: ls, b => by
    rw [List.foldl_cons]
    rcases bests_first ls (bestF p w f b l) with h | h
    · exact .inl h
    · rw [h]; unfold bestF; split
      · exact .inl rfl
      · exact .inr rfl
theorem rooms_first {p : Pl} {w : Int} : ∀ (fs : List Int) (b : Int × Int × Int), (fs.foldl (fun b f => (lastsS p f).foldl (bestF p w f) b) b).2.1 ∈ fs ∨ fs.foldl (fun b f => (lastsS p f).foldl (bestF p w f) b) b = b
  | [], _ => .inr rfl
  | f :: fs, b => by
    rw [List.foldl_cons]
    rcases rooms_first fs ((lastsS p f).foldl (bestF p w f) b) with h | h
    · exact .inl (List.mem_cons_of_mem _ h)
    · rw [h]
      rcases bests_first (p := p) (w := w) (f := f) (lastsS p f) b with h | h
      · left; rw [h]; exact List.mem_cons_self
      · exact .inr h
theorem room_first (p : Pl) (w : Int) : (roomF p w).2.1 = p.now ∨ (roomF p w).2.1 = quietF p ∨ ∃ r ∈ p.ks, r.1 = (roomF p w).2.1 := by
  unfold roomF
  rcases rooms_first (p := p) (w := w) (startsL p) (0, p.now, p.now) with h | h
  · generalize (List.foldl (fun b f => List.foldl (bestF p w f) b (lastsS p f)) (0, p.now, p.now) (startsL p)).2.1 = q at *
    unfold startsL at h
    rw [sortU_mem] at h
    simpa [List.mem_map, or_assoc] using h
  · rw [h]; exact .inl rfl
theorem own_le {p : Pl} {f e : Int} {R : List R4} {k : Int} {x : Ask} (hx : AskOk x) (hf : fitsF x.j x.m 0 (ownF p.now k R) = true) : ownS p f e R k x ≤ askN p.now f e x := by
  have h0 := fits_from hf
  have hm := fits_most hx.jo (b := max 0 (f - x.a - p.now)) (t := max 0 (e - x.a - x.w - p.now - max 0 (f - x.a - p.now) + 1)) hf hx.m0 hx.m1 (by omega) (by omega)
  unfold ownS
  have e1 : (ownF p.now k R).map (fun r => withinF r (f - x.a - p.now) (e - x.a - x.w - p.now)) = (ownF p.now k R).map (winR (max 0 (f - x.a - p.now)) (max 0 (e - x.a - x.w - p.now - max 0 (f - x.a - p.now) + 1))) := by
    apply List.map_congr_left
    intro r hr
    have := h0 r hr
    unfold withinF winR
    congr 1; omega
  rw [e1]
  refine Int.le_trans hm ?_
  unfold askN
  rw [Int.sub_zero, show max 0 (f - x.a - p.now) = max p.now (f - x.a) - p.now by omega]
  by_cases ht : e - x.a - x.w - max p.now (f - x.a) + 1 ≤ 0
  · rw [show max 0 (e - x.a - x.w - p.now - (max p.now (f - x.a) - p.now) + 1) = 0 by omega]
    unfold mostF; rw [if_pos (Int.le_refl 0), if_pos ht]; exact Int.le_refl 0
  · rw [show max 0 (e - x.a - x.w - p.now - (max p.now (f - x.a) - p.now) + 1) = e - x.a - x.w - max p.now (f - x.a) + 1 by omega]; exact Int.le_refl _
theorem ownT_le {p : Pl} {f e : Int} {R : List R4} : ∀ (as : List Ask) (k : Nat), (∀ i x, as[i]? = some x → ownS p f e R ((k + i : Nat) : Int) x ≤ askN p.now f e x) → ownT p f e R k as ≤ (as.map (askN p.now f e)).sum
  | [], _, _ => Int.le_refl _
  | x :: xs, k, h => by
    have h0 : ownS p f e R (k : Int) x ≤ askN p.now f e x := by simpa using h 0 x rfl
    have h1 := ownT_le (p := p) (f := f) (e := e) (R := R) xs (k + 1) fun i y hy => by have := h (i + 1) y (by simpa using hy); rw [show k + 1 + i = k + (i + 1) by omega]; exact this
    unfold ownT
    rw [List.map_cons, List.sum_cons]
    omega
theorem comes_ask (p : Pl) (f l : Int) : (p.as.map (comesA p.now f l)).sum = askS (roomP p) f (l + 1) := by
  unfold askS roomP
  dsimp only
  rw [List.map_map]
  congr 1
  refine List.map_congr_left fun x _ => ?_
  unfold comesA Function.comp askN roomA
  dsimp only
  congr 1; omega
theorem cnt_room (p : Pl) (f l : Int) (r : R4) : cntLP p f l r = cntP (roomP p) f (l + 1) r := by
  unfold cntLP cntP roomP
  dsimp only
  rw [List.getElem?_map]
  cases p.as[r.1.toNat]? with
  | none => rfl
  | some x => unfold cntL cntR roomA; show _ * _ = _ * _; dsimp only; congr 1; omega
theorem met_is (p : Pl) (w : Int) (rows : List R4) (f l : Int) : metF p w rows f l = comesK p.ks f l + (rows.map (cntP (roomP p) f (l + 1))).sum - holdsF p w f (l + 1) := by
  unfold metF holdsF
  rw [show cntLP p f l = cntP (roomP p) f (l + 1) from funext fun r => cnt_room p f l r]
theorem met_le {p : Pl} {w : Int} {rows : List R4} {b : Int × Int × Int} {f l : Int} (hok : PlOk p) (hb : RoomOk p w b) (hr : ∀ r ∈ rows, 0 ≤ r.1) (hfit : ∀ (i : Nat) (x : Ask), p.as[i]? = some x → fitsF x.j x.m 0 (ownF p.now (i : Int) rows) = true) (h1 : p.now ≤ f) (h2 : f ≤ l) : metF p w rows f l ≤ b.1 := by
  have h := hb.all f l h1 (by omega)
  rw [met_is, ← ownT_sum (roomP p) f (l + 1) rows hr]
  have hT := ownT_le (p := roomP p) (f := f) (e := l + 1) (R := rows) (roomP p).as 0 fun i x hx => by
    rw [Nat.zero_add]
    have hxo := (room_ok hok).ao x (List.mem_of_getElem? hx)
    refine own_le hxo ?_
    have hx' : (p.as.map roomA)[i]? = some x := hx
    rw [List.getElem?_map] at hx'
    cases hy : p.as[i]? with
    | none => rw [hy] at hx'; cases hx'
    | some y => rw [hy] at hx'; cases hx'; exact hfit i y hy
  have hc := comes_ask p f l
  unfold askS at hc
  unfold comesF at h
  omega
theorem met_eq {p : Pl} {w : Int} {b : Int × Int × Int} (hok : PlOk p) (hb : RoomB p w b) (h : 0 < b.1) : metF p w (futF p.now b.2.1 (b.2.2 + 1) 0 (p.as.map roomA)) b.2.1 b.2.2 = b.1 := by
  have hi := hb.is h
  have hc := fut_count (room_ok hok) b.2.1 (b.2.2 + 1)
  rw [met_is]
  have e : (roomP p).as = p.as.map roomA := rfl
  have e2 : (roomP p).now = p.now := rfl
  rw [e, e2] at hc
  rw [hc]
  have := comes_ask p b.2.1 b.2.2
  unfold comesF at hi
  omega
theorem fold_maxm {α : Type} (g : α → Int) : ∀ (l : List α) (q : Int), l.foldl (fun f x => max f (g x)) q = q ∨ ∃ x ∈ l, g x = l.foldl (fun f x => max f (g x)) q
  | [], _ => .inl rfl
  | x :: l, q => by
    rw [List.foldl_cons]
    rcases fold_maxm g l (max q (g x)) with h | ⟨y, hy, h⟩
    · rw [h]
      by_cases hq : g x ≤ q
      · exact .inl (by omega)
      · exact .inr ⟨x, List.mem_cons_self, by omega⟩
    · exact .inr ⟨y, List.mem_cons_of_mem _ hy, h⟩
theorem quiet_one (p : Pl) : quietF p = p.now ∨ quietF p = p.opens ∨ (∃ r ∈ p.ks, r.1 + 1 = quietF p) ∨ ∃ x ∈ p.as, fullA p.now x = quietF p := by
  unfold quietF quietA
  rcases fold_maxm (fullA p.now) p.as (quietK (max p.now p.opens) p.ks) with h | h
  · rw [h]
    unfold quietK
    rcases fold_maxm (fun r : Int × Int × Int => r.1 + 1) p.ks (max p.now p.opens) with h | h
    · rw [h]; omega
    · exact .inr (.inr (.inl h))
  · exact .inr (.inr (.inr h))
theorem bursts_head {j : J} (hj : JOk j) {m a t : Int} (ht : 1 ≤ t) (hs : j.mouth ≤ aheadF j m a) : ∃ n q rs, burstsF j m a t = (a, n, q) :: rs := by
  have h1 := hj.r1; have h2 := hj.rm
  have := bursts_of hj ht (m := m) (a := a) (by omega)
  generalize burstsF j m a t = rows at *
  cases this <;> first | exact ⟨_, _, _, rfl⟩ | omega
theorem full_ahead {x : Ask} (hx : AskOk x) (now : Int) : 0 ≤ fullA now x - now - x.a ∧ aheadF x.j x.m (fullA now x - now - x.a) = x.j.size := by
  have h1 := hx.jo.r1; have h2 := hx.m1
  unfold fullA
  have hd := Int.mul_ediv_add_emod (x.j.size - x.m + x.j.rate - 1) x.j.rate
  have hm := Int.emod_lt_of_pos (x.j.size - x.m + x.j.rate - 1) (show 0 < x.j.rate by omega)
  have hm0 := Int.emod_nonneg (x.j.size - x.m + x.j.rate - 1) (show x.j.rate ≠ 0 by omega)
  have hq : 0 ≤ (x.j.size - x.m + x.j.rate - 1) / x.j.rate := Int.ediv_nonneg (by omega) (by omega)
  rw [show now + x.a + (x.j.size - x.m + x.j.rate - 1) / x.j.rate - now - x.a = (x.j.size - x.m + x.j.rate - 1) / x.j.rate by omega]
  refine ⟨hq, ?_⟩
  unfold aheadF
  generalize x.j.rate * ((x.j.size - x.m + x.j.rate - 1) / x.j.rate) = z at *
  omega
theorem first_in {p : Pl} {w : Int} (hok : PlOk p) (hb : RoomB p w (roomF p w)) : (roomF p w).2.1 ∈ firstsL p (futF p.now (roomF p w).2.1 ((roomF p w).2.2 + 1) 0 (p.as.map roomA)) (roomF p w).2.2 := by
  have h0 := hb.f0; have hl := hb.fl
  have hf := room_first p w
  generalize roomF p w = b at *
  unfold firstsL
  refine List.mem_filterMap.mpr ⟨b.2.1, ?_, if_pos ⟨h0, hl⟩⟩
  unfold firstsA
  simp only [List.mem_append, List.mem_map, List.mem_cons, List.not_mem_nil, or_false, List.mem_flatMap]
  rcases hf with h | h | h
  · exact .inl (.inl (.inl (.inl h)))
  · rcases quiet_one p with e | e | ⟨r, hr, e⟩ | ⟨x, hx, e⟩
    · exact .inl (.inl (.inl (.inl (by omega))))
    · exact .inl (.inl (.inl (.inr (by omega))))
    · exact .inl (.inr ⟨_, ⟨r, hr, rfl⟩, by omega⟩)
    · right
      obtain ⟨i, hi⟩ := List.getElem?_of_mem hx
      have hxo := hok.ao x hx
      obtain ⟨g1, g2⟩ := full_ahead hxo p.now
      have ha : max p.now (b.2.1 - x.a) - p.now = fullA p.now x - p.now - x.a := by omega
      have hi2 : (p.as.map roomA)[i]? = some (roomA x) := by rw [List.getElem?_map, hi]; rfl
      obtain ⟨n, q, rs, hbh⟩ := bursts_head hxo.jo (m := x.m) (a := fullA p.now x - p.now - x.a) (t := b.2.2 + 1 - x.a - 1 - max p.now (b.2.1 - x.a) + 1) (by omega) (by rw [g2]; exact hxo.jo.ms)
      have hpk := fut_pick p.now b.2.1 (b.2.2 + 1) (p.as.map roomA) 0 i (roomA x) hi2
      have e5 : burstsF (roomA x).j (roomA x).m (max p.now (b.2.1 - (roomA x).a) - p.now) (b.2.2 + 1 - (roomA x).a - (roomA x).w - max p.now (b.2.1 - (roomA x).a) + 1) = (fullA p.now x - p.now - x.a, n, q) :: rs := by
        rw [← hbh]
        show burstsF x.j x.m (max p.now (b.2.1 - x.a) - p.now) (b.2.2 + 1 - x.a - 1 - max p.now (b.2.1 - x.a) + 1) = _
        rw [ha]
      rw [e5, List.map_cons] at hpk
      have hmem : (p.now + (fullA p.now x - p.now - x.a), n, q) ∈ (futF p.now b.2.1 (b.2.2 + 1) 0 (p.as.map roomA)).filterMap (fun r => if r.1 = ((0 + i : Nat) : Int) then some r.2 else none) := by rw [hpk]; exact List.mem_cons_self
      obtain ⟨r4, h4, e4⟩ := List.mem_filterMap.mp hmem
      split at e4
      · rename_i hri
        have e6 := Option.some.inj e4
        have e7 : r4.2.1 = p.now + (fullA p.now x - p.now - x.a) := by rw [e6]
        refine ⟨_, h4, ?_⟩
        unfold rowEnds
        rw [show r4.1.toNat = i by omega, hi]
        simp only [List.mem_cons, List.not_mem_nil, or_false]
        omega
      · cases e4
  · obtain ⟨r, hr, e⟩ := h
    exact .inl (.inl (.inr ⟨r, hr, e⟩))
theorem swaps_cell {X : Cx} {elt : Expr} {gens : List Comprehension} {scope sc : Scope} {p pos' : Pos} {x : Str} {line : Nat} (hs : X.env.scope = sc) (h : (sc.names.lookup x == some NameKind.local) = false) : swapsWith (.ListComp elt gens scope p) (some (.Name x pos')) line X.env = pure false := by
  have e : (X.env.kindOf x == some NameKind.local) = false := by unfold Env.kindOf; rw [hs]; exact h
  unfold swapsWith
  simp only [e, Bool.and_false, Bool.false_and]
/-! ### what stands at a lane, tick by tick, with any comings -/
def atC (cs : List Int) (v : Int) : Int := if 0 ≤ v then cs.getD v.toNat 0 else 0
def lnA (as : List Ask) (css : List (List Int)) (u : Int) : Int := ((as.zip css).map fun q => atC q.2 (u - q.1.a)).sum
def lnK (p : Pl) (u : Int) : Int := comesK p.ks (p.now + u) (p.now + u)
def lnF (p : Pl) (css : List (List Int)) (u : Int) : Int := lnK p u + lnA p.as css u
/-- the sum over n ticks from s on -/
def tl (g : Int → Int) (s : Nat) : Nat → Int
  | 0 => 0
  | n + 1 => tl g s n + g ((s + n : Nat) : Int)
def runM (j : J) (m : Int) (cs : List Int) : Int := cs.foldl (fun mk c => comeF j mk c) m
/-- comings within the jar -/
inductive OkW (j : J) (m : Int) : List Int → Prop
  | nil : OkW j m []
  | snoc {cs : List Int} {c : Int} : OkW j m cs → 0 ≤ c → c ≤ mayF j (runM j m cs) → OkW j m (cs ++ [c])
theorem run_snoc {j : J} {m : Int} {cs : List Int} {c : Int} : runM j m (cs ++ [c]) = comeF j (runM j m cs) c := by unfold runM; rw [List.foldl_append]; rfl
theorem okW_way {j : J} (hj : JOk j) {m : Int} (h0 : 0 ≤ m) (h1 : m ≤ j.size) {cs : List Int} (h : OkW j m cs) (b : Nat) : Way j m b cs.length (runM j m cs) (cs.drop b).sum := by
  induction h with
  | nil => rw [List.drop_nil]; exact way_zero h0 h1 b
  | @snoc cs c hw c0 c1 ih =>
    have := way_step hj ih c0 c1
    rw [List.length_append, run_snoc]
    refine cast (congrArg (Way j m b (cs.length + 1) (comeF j (runM j m cs) c)) ?_) this
    by_cases hb : b ≤ cs.length
    · rw [if_pos hb, List.drop_append_of_le_length hb, List.sum_append]; simp
    · have e1 : (cs ++ [c]).drop b = [] := List.drop_eq_nil_of_le (by rw [List.length_append]; simp only [List.length_cons, List.length_nil]; omega)
      have e2 : cs.drop b = [] := List.drop_eq_nil_of_le (by omega)
      rw [if_neg hb, e1, e2]
theorem okW_take {j : J} {m : Int} {cs : List Int} (h : OkW j m cs) (n : Nat) : OkW j m (cs.take n) := by
  induction h with
  | nil => rw [List.take_nil]; exact .nil
  | @snoc cs c hw c0 c1 ih =>
    by_cases hn : n ≤ cs.length
    · rw [List.take_append_of_le_length hn]; exact ih
    · rw [List.take_of_length_le (by simp; omega)]; exact .snoc hw c0 c1
theorem run_bd {j : J} (hj : JOk j) {m : Int} (h0 : 0 ≤ m) (h1 : m ≤ j.size) {cs : List Int} (h : OkW j m cs) : 0 ≤ runM j m cs ∧ runM j m cs ≤ j.size := ⟨(okW_way hj h0 h1 h 0).1, (okW_way hj h0 h1 h 0).2.1⟩
theorem okW_most {j : J} (hj : JOk j) {m : Int} (h0 : 0 ≤ m) (h1 : m ≤ j.size) {cs : List Int} (h : OkW j m cs) (b t : Nat) (hl : b + t ≤ cs.length) : ((cs.take (b + t)).drop b).sum ≤ mostF j m b t := by
  have := okW_way hj h0 h1 (okW_take h (b + t)) b
  rw [List.length_take, Nat.min_eq_left hl] at this
  exact way_end this
theorem at_snoc {cs : List Int} {c v : Int} (h : v < cs.length) : atC (cs ++ [c]) v = atC cs v := by
  unfold atC
  by_cases h0 : 0 ≤ v
  · rw [if_pos h0, if_pos h0]
    have : v.toNat < cs.length := by omega
    simp [List.getD, List.getElem?_append_left this]
  · rw [if_neg h0, if_neg h0]
theorem at_out {cs : List Int} {v : Int} (h : (cs.length : Int) ≤ v) : atC cs v = 0 := by
  unfold atC
  by_cases h0 : 0 ≤ v
  · rw [if_pos h0]; simp [List.getD, List.getElem?_eq_none (show cs.length ≤ v.toNat by omega)]
  · rw [if_neg h0]
theorem at_last {cs : List Int} {c : Int} : atC (cs ++ [c]) (cs.length : Int) = c := by
  unfold atC
  rw [if_pos (by omega)]
  simp [List.getD]
theorem tl_le {g h : Int → Int} {s : Nat} : ∀ {n : Nat}, (∀ u : Nat, s ≤ u → u < s + n → g u ≤ h u) → tl g s n ≤ tl h s n
  | 0, _ => Int.le_refl _
  | n + 1, k => by
    have h1 := tl_le (g := g) (h := h) (s := s) (n := n) fun u h1 h2 => k u h1 (by omega)
    have h2 := k (s + n) (by omega) (by omega)
    unfold tl; omega
theorem tl_eq {g h : Int → Int} {s n : Nat} (k : ∀ u : Nat, s ≤ u → u < s + n → g u = h u) : tl g s n = tl h s n :=
  Int.le_antisymm (tl_le fun u h1 h2 => Int.le_of_eq (k u h1 h2)) (tl_le fun u h1 h2 => Int.le_of_eq (k u h1 h2).symm)
theorem tl_add {g h : Int → Int} {s : Nat} : ∀ n : Nat, tl (fun u => g u + h u) s n = tl g s n + tl h s n
  | 0 => rfl
  | n + 1 => by unfold tl; rw [tl_add n]; omega
theorem sum_fm_add {α : Type} (f g : α → Int) : ∀ l : List α, (l.map fun x => f x + g x).sum = (l.map f).sum + (l.map g).sum
  | [] => rfl
  | x :: l => by simp only [List.map_cons, List.sum_cons]; rw [sum_fm_add f g l]; omega
theorem sum_fm_le {α : Type} (f g : α → Int) : ∀ l : List α, (∀ x ∈ l, f x ≤ g x) → (l.map f).sum ≤ (l.map g).sum
  | [], _ => Int.le_refl _
  | x :: l, h => by
    have h1 := sum_fm_le f g l fun y hy => h y (List.mem_cons_of_mem _ hy)
    have h2 := h x List.mem_cons_self
    simp only [List.map_cons, List.sum_cons]; omega
theorem tl_sum {α : Type} (f : α → Int → Int) (l : List α) (s : Nat) : ∀ n : Nat, tl (fun u => (l.map fun x => f x u).sum) s n = (l.map fun x => tl (f x) s n).sum
  | 0 => by
    have : ∀ l : List α, (l.map fun _ => (0 : Int)).sum = 0 := fun l => by
      induction l with
      | nil => rfl
      | cons x l ih => rw [List.map_cons, List.sum_cons, ih]; rfl
    exact (this l).symm
  | n + 1 => by
    show tl _ s n + _ = (l.map fun x => tl (f x) s n + f x ((s + n : Nat) : Int)).sum
    rw [tl_sum f l s n, sum_fm_add]
/-- the known ones of a window -/
theorem tl_kn (ks : List (Int × Int × Int)) (now : Int) (s : Nat) : ∀ n : Nat, tl (fun u => comesK ks (now + u) (now + u)) s n = comesK ks (now + s) (now + s + n - 1)
  | 0 => by
    show (0 : Int) = _
    unfold comesK
    rw [List.filterMap_eq_nil_iff.mpr fun a _ => if_neg (by push_cast; omega)]; rfl
  | n + 1 => by
    show tl _ s n + comesK ks (now + ((s + n : Nat) : Int)) (now + ((s + n : Nat) : Int)) = _
    rw [tl_kn ks now s n]
    unfold comesK
    push_cast
    induction ks with
    | nil => rfl
    | cons a ks ih =>
      simp only [List.filterMap_cons]
      by_cases h1 : now + s ≤ a.1 ∧ a.1 ≤ now + s + n - 1
      · rw [if_pos h1, if_neg (show ¬ (now + (s + n) ≤ a.1 ∧ a.1 ≤ now + (s + n)) by omega), if_pos (show now + s ≤ a.1 ∧ a.1 ≤ now + s + (n + 1) - 1 by omega)]
        simp only [List.sum_cons]; omega
      · by_cases h2 : now + (s + n) ≤ a.1 ∧ a.1 ≤ now + (s + n)
        · rw [if_neg h1, if_pos h2, if_pos (show now + s ≤ a.1 ∧ a.1 ≤ now + s + (n + 1) - 1 by omega)]
          simp only [List.sum_cons]; omega
        · rw [if_neg h1, if_neg h2, if_neg (show ¬ (now + s ≤ a.1 ∧ a.1 ≤ now + s + (n + 1) - 1) by omega)]
          exact ih
/-- the comings of a window -/
theorem tl_at {cs : List Int} {a : Nat} (s : Nat) : ∀ n : Nat, tl (fun u => atC cs (u - a)) s n = ((cs.take (s + n - a)).drop (s - a)).sum
  | 0 => by
    show (0 : Int) = _
    rw [List.drop_eq_nil_of_le (by rw [List.length_take]; omega)]; rfl
  | n + 1 => by
    show tl _ s n + atC cs (((s + n : Nat) : Int) - a) = _
    rw [tl_at s n]
    by_cases h : s + n < a
    · rw [show s + (n + 1) - a = s + n - a by omega]
      unfold atC
      rw [if_neg (by push_cast; omega)]; omega
    · obtain ⟨v, hv⟩ : ∃ v : Nat, s + n = v + a := ⟨s + n - a, by omega⟩
      rw [show s + n - a = v by omega, show s + (n + 1) - a = v + 1 by omega, show ((s + n : Nat) : Int) - a = (v : Int) by omega]
      unfold atC
      rw [if_pos (by omega), Int.toNat_natCast, List.take_add_one]
      cases e : cs[v]? with
      | none => simp [List.getD, e]
      | some c =>
        have hl : v < cs.length := (List.getElem?_eq_some_iff.mp e).1
        have : (cs.take v).length = v := by rw [List.length_take]; omega
        rw [List.drop_append_of_le_length (by omega), List.sum_append]
        simp [List.getD, e]
structure HiOk (p : Pl) (i k : Nat) (css : List (List Int)) (ms : List Int) : Prop where
  len : css.length = p.as.length
  ml : ms.length = p.as.length
  at_ : ∀ (q : Nat) (x : Ask) (cs : List Int), p.as[q]? = some x → css[q]? = some cs → cs.length = (if q < k then i + 1 else i) ∧ OkW x.j x.m cs ∧ ms[q]? = some (runM x.j x.m cs)
/-- what stands is what some window up to now leaves -/
def Stood (p : Pl) (w : Int) (css : List (List Int)) (i : Nat) (S : Int) : Prop := 0 ≤ S ∧ ∃ s, s ≤ i ∧ S ≤ tl (lnF p css) s (i - s) - holdsF p w (p.now + s) (p.now + i)
theorem as_nn {p : Pl} (hok : PlOk p) {x : Ask} (hx : x ∈ p.as) : ∃ a : Nat, x.a = (a : Int) := by
  have := (hok.ao x hx).a0
  exact ⟨x.a.toNat, by omega⟩
theorem win_le {p : Pl} {w : Int} {css : List (List Int)} {ms : List Int} {i : Nat} {b : Int × Int × Int} (hok : PlOk p) (hb : RoomOk p w b) (h : HiOk p i p.as.length css ms) (hi : HiOk p i p.as.length css ms) {s : Nat} (hs : s ≤ i + 1) :
    tl (lnF p css) s (i + 1 - s) - holdsF p w (p.now + s) (p.now + (i + 1 : Nat)) ≤ b.1 := by
  have h1 := hb.all (p.now + s) (p.now + i) (by omega) (by omega)
  have e0 : tl (lnF p css) s (i + 1 - s) = comesK p.ks (p.now + s) (p.now + i) + tl (lnA p.as css) s (i + 1 - s) := by
    rw [show lnF p css = fun u => lnK p u + lnA p.as css u from rfl, tl_add]
    show tl (fun u => comesK p.ks (p.now + u) (p.now + u)) s (i + 1 - s) + _ = _
    rw [tl_kn, show p.now + (s : Int) + ((i + 1 - s : Nat) : Int) - 1 = p.now + i by omega]
  have e1 : tl (lnA p.as css) s (i + 1 - s) ≤ (p.as.map (comesA p.now (p.now + s) (p.now + i))).sum := by
    rw [show lnA p.as css = fun u => ((p.as.zip css).map fun q => atC q.2 (u - q.1.a)).sum from rfl, tl_sum (fun q : Ask × List Int => fun u => atC q.2 (u - q.1.a))]
    have e2 : (p.as.map (comesA p.now (p.now + s) (p.now + i))).sum = ((p.as.zip css).map fun q => comesA p.now (p.now + s) (p.now + i) q.1).sum := by
      have : (p.as.zip css).map (fun q => comesA p.now (p.now + s) (p.now + i) q.1) = ((p.as.zip css).map (·.1)).map (comesA p.now (p.now + s) (p.now + i)) := by rw [List.map_map]; rfl
      rw [this, List.map_fst_zip (by rw [h.len]; exact Nat.le_refl _)]
    rw [e2]
    refine sum_fm_le _ _ _ fun q hq => ?_
    obtain ⟨ix, hix⟩ := List.mem_iff_getElem?.mp hq
    rw [List.getElem?_zip_eq_some] at hix
    obtain ⟨g1, g2⟩ := hix
    obtain ⟨g3, g4, _⟩ := h.at_ ix q.1 q.2 g1 g2
    rw [if_pos (List.getElem?_eq_some_iff.mp g1).1] at g3
    have hx := hok.ao q.1 (List.mem_of_getElem? g1)
    obtain ⟨a, ha⟩ := as_nn hok (List.mem_of_getElem? g1)
    show tl (fun u => atC q.2 (u - q.1.a)) s (i + 1 - s) ≤ _
    rw [ha, tl_at, show s + (i + 1 - s) - a = i + 1 - a by omega]
    unfold comesA
    rw [ha]
    by_cases hc : s - a ≤ i + 1 - a
    · have := okW_most hx.jo hx.m0 hx.m1 g4 (s - a) (i + 1 - a - (s - a)) (by omega)
      rw [show s - a + (i + 1 - a - (s - a)) = i + 1 - a by omega] at this
      rw [show max p.now (p.now + (s : Int) - (a : Int)) - p.now = ((s - a : Nat) : Int) by omega]
      by_cases hz : i + 1 ≤ a
      · rw [show i + 1 - a - (s - a) = 0 by omega] at this
        have h0 : mostF q.1.j q.1.m ((s - a : Nat) : Int) ((0 : Nat) : Int) = 0 := most_0 (by omega)
        have h2 := most_0 (j := q.1.j) (m := q.1.m) (a := ((s - a : Nat) : Int)) (t := p.now + (i : Int) - (a : Int) - max p.now (p.now + (s : Int) - (a : Int)) + 1) (by omega)
        rw [h2, ← h0]; exact this
      · rw [show p.now + (i : Int) - (a : Int) - max p.now (p.now + (s : Int) - (a : Int)) + 1 = ((i + 1 - a - (s - a) : Nat) : Int) by omega]
        exact this
    · omega
  unfold comesF at h1
  rw [show p.now + ((i + 1 : Nat) : Int) = p.now + i + 1 by omega]
  omega
theorem stood_le {p : Pl} {w : Int} {css : List (List Int)} {ms : List Int} {i : Nat} {b : Int × Int × Int} {S : Int} (hok : PlOk p) (hb : RoomOk p w b) (h : HiOk p i p.as.length css ms) (hs : Stood p w css (i + 1) S) : S ≤ b.1 := by
  obtain ⟨_, s, h1, h2⟩ := hs
  have := win_le hok hb h h h1
  omega
theorem stood_step {p : Pl} {w : Int} {css : List (List Int)} {i : Nat} {S : Int} (hw : 0 ≤ w) (hl : 0 ≤ lnF p css i) (h : Stood p w css i S) : Stood p w css (i + 1) (if p.now + i ≥ p.opens then max 0 (S + lnF p css i - w) else S + lnF p css i) := by
  obtain ⟨h0, s, h1, h2⟩ := h
  have e1 : tl (lnF p css) s (i + 1 - s) = tl (lnF p css) s (i - s) + lnF p css i := by
    rw [show i + 1 - s = (i - s) + 1 by omega]
    show _ + lnF p css ((s + (i - s) : Nat) : Int) = _
    rw [show s + (i - s) = i by omega]
  by_cases ho : p.now + i ≥ p.opens
  · rw [if_pos ho]
    refine ⟨by omega, ?_⟩
    by_cases hz : S + lnF p css i - w ≤ 0
    · refine ⟨i + 1, Nat.le_refl _, ?_⟩
      rw [Nat.sub_self]
      show _ ≤ (0 : Int) - _
      unfold holdsF
      rw [show max 0 (p.now + ((i + 1 : Nat) : Int) - max (p.now + ((i + 1 : Nat) : Int)) p.opens) = 0 by omega, Int.mul_zero]
      omega
    · refine ⟨s, by omega, ?_⟩
      rw [e1]
      have : holdsF p w (p.now + s) (p.now + ((i + 1 : Nat) : Int)) = holdsF p w (p.now + s) (p.now + i) + w := by
        unfold holdsF
        rw [show max 0 (p.now + ((i + 1 : Nat) : Int) - max (p.now + (s : Int)) p.opens) = max 0 (p.now + (i : Int) - max (p.now + (s : Int)) p.opens) + 1 by omega, Int.mul_add, Int.mul_one]
      omega
  · rw [if_neg ho]
    refine ⟨by omega, s, by omega, ?_⟩
    rw [e1]
    have : holdsF p w (p.now + s) (p.now + ((i + 1 : Nat) : Int)) = holdsF p w (p.now + s) (p.now + i) := by
      unfold holdsF
      rw [show max 0 (p.now + ((i + 1 : Nat) : Int) - max (p.now + (s : Int)) p.opens) = 0 by omega, show max 0 (p.now + (i : Int) - max (p.now + (s : Int)) p.opens) = 0 by omega]
    omega
theorem at_add {cs : List Int} {c v : Int} : atC (cs ++ [c]) v = atC cs v + (if v = (cs.length : Int) then c else 0) := by
  by_cases h : v < cs.length
  · rw [at_snoc h, if_neg (by omega)]; omega
  · by_cases h2 : v = cs.length
    · subst h2; rw [at_last, if_pos rfl, at_out (Int.le_refl _)]; omega
    · rw [if_neg h2, at_out (by simp; omega), at_out (by omega)]; rfl
theorem zip_set {α β : Type} {f : α × β → Int} : ∀ {as : List α} {bs : List β} {k : Nat} {x : α} {y z : β}, as[k]? = some x → bs[k]? = some y → ((as.zip (bs.set k z)).map f).sum = ((as.zip bs).map f).sum - f (x, y) + f (x, z)
  | [], _, _, _, _, _, h, _ => by simp at h
  | _ :: _, [], _, _, _, _, _, h => by simp at h
  | a :: as, b :: bs, 0, x, y, z, h1, h2 => by
    simp at h1 h2
    subst h1; subst h2
    simp only [List.set_cons_zero, List.zip_cons_cons, List.map_cons, List.sum_cons]; omega
  | a :: as, b :: bs, k + 1, x, y, z, h1, h2 => by
    have := zip_set (f := f) (z := z) (show as[k]? = some x by simpa using h1) (show bs[k]? = some y by simpa using h2)
    simp only [List.set_cons_succ, List.zip_cons_cons, List.map_cons, List.sum_cons]; omega
theorem ln_set {p : Pl} {css : List (List Int)} {k : Nat} {x : Ask} {cs : List Int} {c : Int} (hx : p.as[k]? = some x) (hc : css[k]? = some cs) (u : Int) : lnF p (css.set k (cs ++ [c])) u = lnF p css u + (if u = (cs.length : Int) + x.a then c else 0) := by
  unfold lnF lnA
  rw [zip_set hx hc]
  dsimp only
  rw [at_add]
  by_cases h : u = (cs.length : Int) + x.a
  · rw [if_pos h, if_pos (by omega)]; omega
  · rw [if_neg h, if_neg (by omega)]; omega
def laneL (p : Pl) (css : List (List Int)) : List Int := (List.range 38).map fun u : Nat => lnF p css u
theorem lane_len (p : Pl) (css : List (List Int)) : (laneL p css).length = 38 := by unfold laneL; rw [List.length_map, List.length_range]
theorem lane_get (p : Pl) (css : List (List Int)) {v : Nat} (h : v < 38) : (laneL p css)[v]? = some (lnF p css v) := by unfold laneL; rw [List.getElem?_map, List.getElem?_range h]; rfl
theorem lane_set {p : Pl} {css : List (List Int)} {k : Nat} {x : Ask} {cs : List Int} {c : Int} (hx : p.as[k]? = some x) (hc : css[k]? = some cs) {v : Nat} (hv : (v : Int) = (cs.length : Int) + x.a) : (laneL p css).set v (lnF p css v + c) = laneL p (css.set k (cs ++ [c])) := by
  refine List.ext_getElem? fun i => ?_
  unfold laneL
  rw [List.getElem?_set, List.getElem?_map, List.getElem?_map, List.length_map, List.length_range]
  by_cases hi : i < 38
  · rw [List.getElem?_range hi]
    simp only [Option.map_some]
    rw [ln_set hx hc]
    by_cases e : v = i
    · subst e
      rw [if_pos rfl, if_pos hi, if_pos hv]
    · rw [if_neg e, if_neg (by omega), Int.add_zero]
  · rw [List.getElem?_eq_none (by rw [List.length_range]; omega)]
    by_cases e : v = i
    · rw [if_pos e, if_neg (by omega)]; rfl
    · rw [if_neg e]; rfl
theorem hi_step {p : Pl} {i k : Nat} {css : List (List Int)} {ms : List Int} {x : Ask} {cs : List Int} {c : Int} (h : HiOk p i k css ms) (hx : p.as[k]? = some x) (hc : css[k]? = some cs) (c0 : 0 ≤ c) (c1 : c ≤ mayF x.j (runM x.j x.m cs)) : HiOk p i (k + 1) (css.set k (cs ++ [c])) (ms.set k (comeF x.j (runM x.j x.m cs) c)) := by
  obtain ⟨g1, g2, g3⟩ := h.at_ k x cs hx hc
  rw [if_neg (Nat.lt_irrefl k)] at g1
  have hkc : k < css.length := (List.getElem?_eq_some_iff.mp hc).1
  have hkm : k < ms.length := (List.getElem?_eq_some_iff.mp g3).1
  refine ⟨by rw [List.length_set]; exact h.len, by rw [List.length_set]; exact h.ml, fun q y ds hy hd => ?_⟩
  by_cases e : k = q
  · subst e
    rw [hx] at hy; cases hy
    rw [List.getElem?_set_self hkc] at hd; cases hd
    rw [List.getElem?_set_self hkm, if_pos (by omega), run_snoc]
    exact ⟨by simp [g1], .snoc g2 c0 c1, rfl⟩
  · rw [List.getElem?_set_ne e] at hd
    rw [List.getElem?_set_ne e]
    obtain ⟨l1, l2, l3⟩ := h.at_ q y ds hy hd
    refine ⟨?_, l2, l3⟩
    rw [l1]
    by_cases hq : q < k
    · rw [if_pos hq, if_pos (by omega)]
    · rw [if_neg hq, if_neg (by omega)]
theorem hi_next {p : Pl} {i : Nat} {css : List (List Int)} {ms : List Int} (h : HiOk p i p.as.length css ms) : HiOk p (i + 1) 0 css ms := ⟨h.len, h.ml, fun q x cs hx hc => by
  obtain ⟨l1, l2, l3⟩ := h.at_ q x cs hx hc
  rw [if_pos (List.getElem?_eq_some_iff.mp hx).1] at l1
  exact ⟨by rw [if_neg (Nat.not_lt_zero q)]; exact l1, l2, l3⟩⟩
theorem hi_zero (p : Pl) : HiOk p 0 0 (p.as.map fun _ => []) (p.as.map fun x => x.m) := ⟨by rw [List.length_map], by rw [List.length_map], fun q x cs hx hc => by
  rw [List.getElem?_map, hx] at hc
  cases hc
  rw [List.getElem?_map, hx, if_neg (Nat.not_lt_zero q)]
  exact ⟨rfl, .nil, rfl⟩⟩
theorem stood_set {p : Pl} {w : Int} {css : List (List Int)} {i k : Nat} {S : Int} {x : Ask} {cs : List Int} {c : Int} (hx : p.as[k]? = some x) (hc : css[k]? = some cs) (hl : cs.length = i) (ha : 0 ≤ x.a) (h : Stood p w css i S) : Stood p w (css.set k (cs ++ [c])) i S := by
  obtain ⟨h0, s, h1, h2⟩ := h
  refine ⟨h0, s, h1, ?_⟩
  rw [tl_eq (g := lnF p (css.set k (cs ++ [c]))) (h := lnF p css) fun u u1 u2 => by rw [ln_set hx hc, if_neg (by omega), Int.add_zero]]
  exact h2
theorem okW_nn {j : J} {m : Int} {cs : List Int} (h : OkW j m cs) (v : Int) : 0 ≤ atC cs v := by
  induction h with
  | nil => unfold atC; split <;> simp
  | @snoc cs c hw c0 c1 ih => rw [at_add]; split <;> omega
theorem sum_nn {α : Type} {f : α → Int} : ∀ l : List α, (∀ x ∈ l, 0 ≤ f x) → 0 ≤ (l.map f).sum
  | [], _ => Int.le_refl _
  | x :: l, h => by
    have h1 := sum_nn l fun y hy => h y (List.mem_cons_of_mem _ hy)
    have h2 := h x List.mem_cons_self
    rw [List.map_cons, List.sum_cons]; omega
theorem ln_nn {p : Pl} {i k : Nat} {css : List (List Int)} {ms : List Int} (hok : PlOk p) (h : HiOk p i k css ms) (u : Int) : 0 ≤ lnF p css u := by
  have h1 : 0 ≤ lnA p.as css u := sum_nn _ fun q hq => by
    obtain ⟨ix, hix⟩ := List.mem_iff_getElem?.mp hq
    rw [List.getElem?_zip_eq_some] at hix
    exact okW_nn (h.at_ ix q.1 q.2 hix.1 hix.2).2.1 _
  have h2 : ∀ (ks : List (Int × Int × Int)), (∀ r ∈ ks, 1 ≤ r.2.2) → ∀ f l, 0 ≤ comesK ks f l := fun ks => by
    induction ks with
    | nil => intro _ f l; exact Int.le_refl _
    | cons a ks ih =>
      intro hk f l
      have g1 := ih (fun r hr => hk r (List.mem_cons_of_mem _ hr)) f l
      have g2 := hk a List.mem_cons_self
      unfold comesK at g1 ⊢
      rw [List.filterMap_cons]
      split
      · exact g1
      · rename_i e
        split at e
        · cases e; rw [List.sum_cons]; omega
        · cases e
  have := h2 p.ks (fun r hr => (hok.ko r hr).2.2) (p.now + u) (p.now + u)
  unfold lnF lnK; omega
/-- the lane with the known ones alone -/
def laneK (now : Int) (ks : List (Int × Int × Int)) : List Int := (List.range 38).map fun u : Nat => comesK ks (now + u) (now + u)
theorem laneK_all (p : Pl) : laneK p.now p.ks = laneL p (p.as.map fun _ => []) := by
  unfold laneK laneL
  refine List.map_congr_left fun u _ => ?_
  unfold lnF lnA lnK
  have : ∀ as : List Ask, ((as.zip (as.map fun _ => ([] : List Int))).map fun q => atC q.2 ((u : Int) - q.1.a)).sum = 0 := fun as => by
    induction as with
    | nil => rfl
    | cons x as ih =>
      rw [List.map_cons, List.zip_cons_cons, List.map_cons, List.sum_cons, ih]
      unfold atC; split <;> simp
  rw [this]; omega
theorem laneK_len (now : Int) (ks : List (Int × Int × Int)) : (laneK now ks).length = 38 := by unfold laneK; rw [List.length_map, List.length_range]
theorem laneK_get (now : Int) (ks : List (Int × Int × Int)) {v : Nat} (h : v < 38) : (laneK now ks)[v]? = some (comesK ks (now + v) (now + v)) := by unfold laneK; rw [List.getElem?_map, List.getElem?_range h]; rfl
theorem comesK_app (ks : List (Int × Int × Int)) (r : Int × Int × Int) (f l : Int) : comesK (ks ++ [r]) f l = comesK ks f l + (if f ≤ r.1 ∧ r.1 ≤ l then r.2.2 else 0) := by
  unfold comesK
  rw [List.filterMap_append, List.sum_append]
  congr 1
  by_cases h : f ≤ r.1 ∧ r.1 ≤ l
  · rw [if_pos h]; simp [h]
  · rw [if_neg h]; simp [h]
theorem laneK_set {now : Int} {ks : List (Int × Int × Int)} {r : Int × Int × Int} {v : Nat} (hv : (v : Int) = r.1 - now) : (laneK now ks).set v (comesK ks (now + v) (now + v) + r.2.2) = laneK now (ks ++ [r]) := by
  refine List.ext_getElem? fun i => ?_
  unfold laneK
  rw [List.getElem?_set, List.getElem?_map, List.getElem?_map, List.length_map, List.length_range]
  by_cases hi : i < 38
  · rw [List.getElem?_range hi]
    simp only [Option.map_some]
    rw [comesK_app]
    by_cases e : v = i
    · subst e
      rw [if_pos rfl, if_pos hi, if_pos (by omega)]
    · rw [if_neg e, if_neg (by omega), Int.add_zero]
  · rw [List.getElem?_eq_none (by rw [List.length_range]; omega)]
    by_cases e : v = i
    · rw [if_pos e, if_neg (by omega)]; rfl
    · rw [if_neg e]; rfl
theorem stood_zero (p : Pl) (w : Int) (css : List (List Int)) : Stood p w css 0 0 := by
  refine ⟨Int.le_refl _, 0, Nat.le_refl _, ?_⟩
  show (0 : Int) ≤ (0 : Int) - holdsF p w (p.now + ((0 : Nat) : Int)) (p.now + ((0 : Nat) : Int))
  unfold holdsF
  rw [show max 0 (p.now + ((0 : Nat) : Int) - max (p.now + ((0 : Nat) : Int)) p.opens) = 0 by omega, Int.mul_zero]
  omega
structure SmOk (p : Pl) (w : Int) : Prop where
  w1 : 1 ≤ w
  w9 : w ≤ 1000
  kl : p.ks.length ≤ 4
  al : p.as.length ≤ 6
  n9 : p.now ≤ 10 ^ 13
  kb : ∀ r ∈ p.ks, r.1 ≤ p.now + 8 ∧ r.2.2 ≤ 2010
  ab : ∀ x ∈ p.as, x.a ≤ 5 ∧ x.j.size ≤ 30
theorem rate_sum : ∀ (as : List Ask), (∀ x ∈ as, x.j.rate ≤ 2) → (as.map fun x => x.j.rate).sum ≤ 2 * (as.length : Nat)
  | [], _ => by simp
  | x :: as, h => by
    have h1 := rate_sum as fun y hy => h y (List.mem_cons_of_mem _ hy)
    have h2 := h x List.mem_cons_self
    rw [List.map_cons, List.sum_cons, List.length_cons]; omega
def pSmall : DSp := fun ds M Φ => ∃ s g b M', ds = [.raw (.ref s)] ∧ M = (s, .st g b) :: M' ∧ 200 ≤ b ∧ ∀ p w b', PlOk p → SmOk p w → b ≤ b' + 200 → Φ (farD p w) ((s, .st g b') :: M')
def n_law_small_scene : List Str := ["_law_state", "_law_spare", "_law_many", "_law_sure", "_law_now", "_law_shut", "_law_asks", "_law_turn", "_law_pace", "_law_gulp", "_law_full", "_law_rates", "_law_width", "_law_knowns", "_law_come", "_law_row", "_law_marks", "_law_after", "_law_wait"]
theorem sc_law_small_scene : FnScope n_law_small_scene ["_law_state"] (defScope s_law_small_scene) := ⟨rfl, rfl, rfl, by decide +kernel, rfl, by decide +kernel, by decide +kernel⟩
theorem d_law_small_scene {P : Program} {w : World} {K : PySem.W.Frag} {mg : Str → Option Value} {base : Heap} {f : Addr} {fd : FuncData} (F : Fun K "_law_small_scene" "_law_small_scene" s_law_small_scene f fd)
    (D_law_take : Def P w K mg base 1 "_law_take" ["_law_state", "_law_many"] pTake) (D_law_pick : Def P w K mg base 2 "_law_pick" ["_law_state", "_law_some"] pPick) (G_range : mg "range" = none) (G_sum : mg "sum" = none) (G_max : mg "max" = none) : FnOk P w K mg base CX0 3 f fd ["_law_state"] (lift pSmall) := by
  refine fnok_of (N := n_law_small_scene) (k := 2) F sc_law_small_scene (fun ds M Φ h => by obtain ⟨s, g, b, M', rfl, rfl, hb, k⟩ := h; rfl) fun X B I ds M Φ h => ?_
  obtain ⟨s, g, b, M', rfl, rfl, hb, k⟩ := h
  obtain ⟨rfl, rfl, rfl, rfl, rfl, hN, hs, hf, z, xe⟩ := I
  have hp := passes_of xe
  have n0 : Lo X 0 "_law_state" := lo_of hN hs hf (by decide +kernel)
  have n1 : Lo X 1 "_law_spare" := lo_of hN hs hf (by decide +kernel)
  have n2 : Lo X 2 "_law_many" := lo_of hN hs hf (by decide +kernel)
  have n3 : Lo X 3 "_law_sure" := lo_of hN hs hf (by decide +kernel)
  have n4 : Lo X 4 "_law_now" := lo_of hN hs hf (by decide +kernel)
  have n5 : Lo X 5 "_law_shut" := lo_of hN hs hf (by decide +kernel)
  have n6 : Lo X 6 "_law_asks" := lo_of hN hs hf (by decide +kernel)
  have n7 : Lo X 7 "_law_turn" := lo_of hN hs hf (by decide +kernel)
  have n8 : Lo X 8 "_law_pace" := lo_of hN hs hf (by decide +kernel)
  have n9 : Lo X 9 "_law_gulp" := lo_of hN hs hf (by decide +kernel)
  have n10 : Lo X 10 "_law_full" := lo_of hN hs hf (by decide +kernel)
  have n11 : Lo X 11 "_law_rates" := lo_of hN hs hf (by decide +kernel)
  have n12 : Lo X 12 "_law_width" := lo_of hN hs hf (by decide +kernel)
  have n13 : Lo X 13 "_law_knowns" := lo_of hN hs hf (by decide +kernel)
  have n14 : Lo X 14 "_law_come" := lo_of hN hs hf (by decide +kernel)
  have l_law_take : Gl X "_law_take" := gl_of hs (by decide +kernel)
  have l_law_pick : Gl X "_law_pick" := gl_of hs (by decide +kernel)
  have g_range : Gn X "range" := gn_of hs (by decide +kernel) G_range
  have g_sum : Gn X "sum" := gn_of hs (by decide +kernel) G_sum
  have g_max : Gn X "max" := gn_of hs (by decide +kernel) G_max
  clear F hf
  change DSs _ X (_ :: _) [_, _, _, _, _, _, _, _, _, _, _, _, _, _, _, _, _, _, _] _ _
  repeat' kpc_text
  rename_i spare hsp0 hsp1 many hmy0 hmy1 sure hsu0 hsu1
  refine c_pickI [0, 3, 1000000000000] (by omega) (by decide) (by decide) fun now hnow => ?_
  have hnow1 : 0 ≤ now ∧ now ≤ 10 ^ 12 := by simp at hnow; omega
  repeat' ((fail_if_success refine (stSet "_law_asks") ?_); kpc_text)
  first | refine ds_cons (ds_own 1 z n6 (df_lst (da_nil ⟨by decide, fun qa => ?_⟩))) | refine ds_own 1 z n6 (df_lst (da_nil ⟨by decide, fun qa => ?_⟩))
  kpc_text
  rename_i shut hsh0 hsh1
  repeat' ((fail_if_success refine stFor ?_); kpc_text)
  first | refine ds_cons (ds_forC [7, 8, 9, 10] z (by assumption) (di_range1 (by assumption) ?_)) | refine ds_forC [7, 8, 9, 10] z (by assumption) (di_range1 (by assumption) ?_)
  repeat' kpc_text
  refine od_ixE (l := [0, 1, 1, 2, 2, 3, 3, 6]) (f := .int) ⟨by omega, by show _ < (8 : Int); omega⟩ fun cnt hcnt => ?_
  have hcnt1 : 0 ≤ cnt ∧ cnt ≤ 6 := by have := List.mem_of_getElem? hcnt; simp at this; omega
  repeat' kpc_text
  refine ⟨by omega, by omega, ?_⟩
  refine ⟨fun i vs M1 => (∃ (as : List Ask) (b1 : Nat) (o7 o8 o9 o10 : Option D), [o7, o8, o9, o10] = vs ∧ (s, .st g b1) :: (qa, .lst (as.map paD)) :: M' = M1 ∧ (∀ x ∈ as, AskOk x ∧ x.a ≤ 5 ∧ x.j.size ≤ 30 ∧ x.j.rate ≤ 2) ∧ (as.length ≤ i) ∧ (b ≤ b1 + 10 * i + 5)), ⟨[], _, _, _, _, _, rfl, rfl, (by simp), (by simp), (by omega)⟩, ?_, ?_⟩
  · rintro i x vs δ M1 hx ⟨as, b1, o7, o8, o9, o10, rfl, rfl, hao, hal, hb1⟩ hδ
    obtain rfl : δ = [_, _, _, _, _, _, _, o7, o8, o9, o10, _, _, _, _, _, _, _, _] := hδ
    obtain ⟨hi, rfl⟩ := range_get hx
    repeat' kpc_text
    rename_i pc hp0 hp1 gl hg0 hg1 fu hu0 hu1 mx hx0 hx1
    refine c_pickI [1 + pc + gl + fu, 0, mx] (by omega) (Nat.zero_lt_succ _) (by show 3 ≤ 1000; decide) fun mk hmk => ?_
    have hmk1 : 0 ≤ mk ∧ mk ≤ 1 + pc + gl + fu := by simp at hmk; omega
    repeat' kpc_text
    rename_i af haf0 haf1 wt hw0 hw1
    have hao' : ∀ x ∈ as ++ [⟨⟨1 + pc + gl + fu, 1 + pc, 1 + pc + gl⟩, mk, af, 1 + wt⟩], AskOk x ∧ x.a ≤ 5 ∧ x.j.size ≤ 30 ∧ x.j.rate ≤ 2 := fun x hx => by
      rcases List.mem_append.mp hx with h | h
      · exact hao x h
      · rw [List.mem_singleton.mp h]
        exact ⟨⟨⟨by dsimp only; omega, by dsimp only; omega, by dsimp only; omega, by dsimp only; omega⟩, by dsimp only; omega, by dsimp only; omega, by dsimp only; omega, by dsimp only; omega, by dsimp only; omega, by dsimp only; omega⟩, by dsimp only; omega, by dsimp only; omega, by dsimp only; omega⟩
    exact ⟨[_, _, _, _], rfl, as ++ [⟨⟨1 + pc + gl + fu, 1 + pc, 1 + pc + gl⟩, mk, af, 1 + wt⟩], _, _, _, _, _, rfl, (by rw [List.map_append]; rfl), (hao'), (by simp; omega), (by omega)⟩
  · rintro vs δ M1 ⟨as, b1, o7, o8, o9, o10, rfl, rfl, hao, hal, hb1⟩ hδ
    obtain rfl : δ = [_, _, _, _, _, _, _, o7, o8, o9, o10, _, _, _, _, _, _, _, _] := hδ
    try simp only [range_len, List.length_map, enum_len] at hao hal hb1
    repeat' ((fail_if_success refine (stSet "_law_rates") ?_); kpc_text)
    refine ws_upE 1 rfl ?_
    apply Exists.intro
    refine ⟨?_, ?_⟩
    · kx_is
    repeat' kpc_text
    refine DE.f (df_lc 0 z hN hs [("_law_row", 15), ("_law_marks", 16), ("_law_after", 17), ("_law_wait", 18)] (.tup [15, 16, 17, 18]) (by decide +kernel) (by decide) (fun X' bk => pg_many bk z (pgs_1 (bk.z z).nd (bk.lo hN hs (by decide +kernel)) (pgs_1 (bk.z z).nd (bk.lo hN hs (by decide +kernel)) (pgs_1 (bk.z z).nd (bk.lo hN hs (by decide +kernel)) (pgs_1 (bk.z z).nd (bk.lo hN hs (by decide +kernel)) pgs_0))))) (di_list ?_))
    repeat' kpc_text
    refine LcH.mapT (as) (paD) (fun x => x.j.rate) (.int) (Nat.le_trans (show List.length _ ≤ 1000 by first | omega | (simp; done) | (simp; omega)) (by decide)) (fun q acc a ha => ?_) ?_
    · refine ⟨_, rfl, fun X' bk => ?_⟩
      have c15 : Lo X' 15 "_law_row" := bk.lo hN hs (by decide +kernel)
      have c16 : Lo X' 16 "_law_marks" := bk.lo hN hs (by decide +kernel)
      have c17 : Lo X' 17 "_law_after" := bk.lo hN hs (by decide +kernel)
      have c18 : Lo X' 18 "_law_wait" := bk.lo hN hs (by decide +kernel)
      have z' := bk.z z
      repeat' kpc_text
      exact ⟨rfl, rfl⟩
    repeat' kpc_text
    refine cd_sum (.val _) ?_
    have hrt : (as.map fun x => x.j.rate).sum ≤ 2 * (as.length : Nat) := rate_sum as fun x hx => (hao x hx).2.2.2
    generalize (as.map fun x => x.j.rate).sum = rts at *
    repeat' kpc_text
    refine od_ixE (l := [0, 0, 0, 1, 2, 4, -1]) (f := .int) ⟨by omega, by show _ < (7 : Int); omega⟩ fun sv hsv => ?_
    have hsv1 : -1 ≤ sv ∧ sv ≤ 4 := by have := List.mem_of_getElem? hsv; simp at this; omega
    repeat' ((fail_if_success refine (stSet "_law_knowns") ?_); kpc_text)
    first | refine ds_cons (ds_own 1 z n13 (df_lst (da_nil ⟨by decide, fun qk => ?_⟩))) | refine ds_own 1 z n13 (df_lst (da_nil ⟨by decide, fun qk => ?_⟩))
    kpc_text
    have hwd1 : 1 ≤ max 1 (rts + sv) := by omega
    have hwd9 : max 1 (rts + sv) ≤ 1000 := by omega
    generalize max 1 (rts + sv) = wd at *
    repeat' ((fail_if_success refine stFor ?_); kpc_text)
    first | refine ds_cons (ds_forC [7, 14] z (by assumption) (di_range1 (by assumption) ?_)) | refine ds_forC [7, 14] z (by assumption) (di_range1 (by assumption) ?_)
    repeat' kpc_text
    refine ⟨by omega, by omega, fun i vs M1 => (∃ (ks : List (Int × Int × Int)) (b2 : Nat) (o7 o14 : Option D), [o7, o14] = vs ∧ (s, .st g b2) :: (qk, .lst (ks.map tD)) :: M' = M1 ∧ (∀ r ∈ ks, (now ≤ r.1 ∧ r.1 < r.2.1 ∧ 1 ≤ r.2.2) ∧ (r.1 ≤ now + 8 ∧ r.2.2 ≤ 2010)) ∧ (ks.length ≤ i) ∧ (b1 ≤ b2 + 6 * i + 5)), ⟨[], _, _, _, rfl, rfl, (by simp), (by simp), (by omega)⟩, ?_, ?_⟩
    · rintro i x vs δ M1 hx ⟨ks, b2, o7, o14, rfl, rfl, hko, hkl, hb2⟩ hδ
      obtain rfl : δ = [_, _, _, _, _, _, _, o7, _, _, _, _, _, _, o14, _, _, _, _] := hδ
      obtain ⟨hi, rfl⟩ := range_get hx
      repeat' kpc_text
      rename_i af haf0 haf1 u1 hu10 hu11 u2 hu20 hu21
      have hko' : ∀ r ∈ ks ++ [(now + af, now + af + 1 + u1, 1 + u2)], (now ≤ r.1 ∧ r.1 < r.2.1 ∧ 1 ≤ r.2.2) ∧ (r.1 ≤ now + 8 ∧ r.2.2 ≤ 2010) := fun r hr => by
        rcases List.mem_append.mp hr with h | h
        · exact hko r h
        · rw [List.mem_singleton.mp h]; dsimp only; omega
      exact ⟨[_, _], rfl, ks ++ [(now + af, now + af + 1 + u1, 1 + u2)], _, _, _, rfl, (by rw [List.map_append]; rfl), (hko'), (by simp; omega), (by omega)⟩
    · rintro vs δ M1 ⟨ks, b2, o7, o14, rfl, rfl, hko, hkl, hb2⟩ hδ
      obtain rfl : δ = [_, _, _, _, _, _, _, o7, _, _, _, _, _, _, o14, _, _, _, _] := hδ
      try simp only [range_len, List.length_map, enum_len] at hko hkl hb2
      repeat' ((fail_if_success refine stRet ?_); kpc_text)
      refine ws_upE 1 rfl ?_
      apply Exists.intro
      refine ⟨?_, ?_⟩
      · kx_is
      repeat' kpc_text
      refine od_ixE (l := [0, now, now + 1, now + 4, now + 9, now + 2, now, 0]) (f := .int) ⟨by omega, by show _ < (8 : Int); omega⟩ fun op hop => ?_
      have hop1 : 0 ≤ op ∧ op ≤ now + 9 := by have := List.mem_of_getElem? hop; simp at this; omega
      repeat' kpc_text
      exact ⟨_, _, .refl, k ⟨now, op, ks, as⟩ wd _ ⟨by dsimp only; omega, by dsimp only; omega, by dsimp only; omega, by dsimp only; omega, fun x hx => (hao x hx).1, fun r hr => (hko r hr).1⟩ ⟨hwd1, hwd9, by dsimp only; omega, by dsimp only; omega, by dsimp only; omega, fun r hr => (hko r hr).2, fun x hx => ⟨(hao x hx).2.1, (hao x hx).2.2.1⟩⟩ (by omega)⟩
/-- any function that tells comings -/
def pHigh (P : Program) (w0 : World) (K : PySem.W.Frag) (mg : Str → Option Value) (base : Heap) : DSpE := fun ds M Φ _ => ∃ (p : Pl) (w : Int) (f : Addr) (W : FW) (fr : List Str) (as : List Addr) (cs : List D) (M0 : Mem) (pW : List D → DSp) (b : Int × Int × Int),
  ds = [farD p w, .int 30, .raw (.ref f)] ∧ M = (f, .fnc W fr as cs) :: M0 ∧ FunN P w0 K mg base W fr 2 2 pW ∧ PlOk p ∧ SmOk p w ∧ RoomOk p w b ∧
  (∀ (k s : Int) (M' : Mem) (Φ' : D → Mem → Prop), 0 ≤ k → k < (p.as.length : Nat) → 0 ≤ s → s < 30 → (∀ c, 0 ≤ c → c ≤ 100 → Φ' (.int c) M') → pW cs [.int k, .int s] M' Φ') ∧
  ∀ h, h ≤ b.1 → Φ (.int h) ((f, .fnc W fr as cs) :: M0)
def n_law_highest : List Str := ["_law_parts", "_law_turns", "_law_comes", "_law_width", "_law_now", "_law_knowns", "_law_asks", "_law_opens", "_law_marks", "_law_lane", "_law_come", "_law_hour", "_law_many", "_law_standing", "_law_highest_here", "_law_step", "_law_place", "_law_row", "_law_first", "_law_after", "_law_wait", "_law_one"]
theorem sc_law_highest : FnScope n_law_highest ["_law_parts", "_law_turns", "_law_comes"] (defScope s_law_highest) := ⟨rfl, rfl, rfl, by decide +kernel, rfl, by decide +kernel, by decide +kernel⟩
theorem d_law_highest {P : Program} {w : World} {K : PySem.W.Frag} {mg : Str → Option Value} {base : Heap} {f : Addr} {fd : FuncData} (F : FunG K "_law_highest" "_law_highest" s_law_highest f fd)
    (G_range : mg "range" = none) (G_enumerate : mg "enumerate" = none) (G_min : mg "min" = none) (G_max : mg "max" = none) : FnOk P w K mg base (L2.CX P w) 3 f fd ["_law_parts", "_law_turns", "_law_comes"] (liftE (pHigh P w K mg base)) := by
  refine fnokG_of (N := n_law_highest) (k := 2) F sc_law_highest (fun ds M Φ Ξ h => by obtain ⟨p, wd, f, W, fr, as, cs, M0, pW, b, rfl, rfl, Fn, hok, hsm, hro, hc, k⟩ := h; rfl) fun X kp ds M Φ Ξ h I => ?_
  obtain ⟨p, wd, f, W, fr, as, cs, M0, pW, b, rfl, rfl, Fn, hok, hsm, hro, hc, k⟩ := h
  obtain ⟨rfl, rfl, rfl, rfl, rfl, hN, hs, hf, z, hp, tk, hst, hfr⟩ := I
  have nd := z.nd
  have n0 : Lo X 0 "_law_parts" := lo_of hN hs hf (by decide +kernel)
  have n1 : Lo X 1 "_law_turns" := lo_of hN hs hf (by decide +kernel)
  have n2 : Lo X 2 "_law_comes" := lo_of hN hs hf (by decide +kernel)
  have n3 : Lo X 3 "_law_width" := lo_of hN hs hf (by decide +kernel)
  have n4 : Lo X 4 "_law_now" := lo_of hN hs hf (by decide +kernel)
  have n5 : Lo X 5 "_law_knowns" := lo_of hN hs hf (by decide +kernel)
  have n6 : Lo X 6 "_law_asks" := lo_of hN hs hf (by decide +kernel)
  have n7 : Lo X 7 "_law_opens" := lo_of hN hs hf (by decide +kernel)
  have n8 : Lo X 8 "_law_marks" := lo_of hN hs hf (by decide +kernel)
  have n9 : Lo X 9 "_law_lane" := lo_of hN hs hf (by decide +kernel)
  have n10 : Lo X 10 "_law_come" := lo_of hN hs hf (by decide +kernel)
  have n11 : Lo X 11 "_law_hour" := lo_of hN hs hf (by decide +kernel)
  have n12 : Lo X 12 "_law_many" := lo_of hN hs hf (by decide +kernel)
  have n13 : Lo X 13 "_law_standing" := lo_of hN hs hf (by decide +kernel)
  have n14 : Lo X 14 "_law_highest_here" := lo_of hN hs hf (by decide +kernel)
  have n15 : Lo X 15 "_law_step" := lo_of hN hs hf (by decide +kernel)
  have n16 : Lo X 16 "_law_place" := lo_of hN hs hf (by decide +kernel)
  have n17 : Lo X 17 "_law_row" := lo_of hN hs hf (by decide +kernel)
  have n18 : Lo X 18 "_law_first" := lo_of hN hs hf (by decide +kernel)
  have n19 : Lo X 19 "_law_after" := lo_of hN hs hf (by decide +kernel)
  have n20 : Lo X 20 "_law_wait" := lo_of hN hs hf (by decide +kernel)
  have g_range : Gn X "range" := gn_of hs (by decide +kernel) G_range
  have g_enumerate : Gn X "enumerate" := gn_of hs (by decide +kernel) G_enumerate
  have g_min : Gn X "min" := gn_of hs (by decide +kernel) G_min
  have g_max : Gn X "max" := gn_of hs (by decide +kernel) G_max
  clear F hf
  change DSs _ X (_ :: _) [_, _, _, _, _, _, _, _, _, _, _, _, _, _, _, _, _, _, _, _, _, _] _ _
  have hkl := hsm.kl
  have hal := hsm.al
  repeat' kpc_text
  repeat' ((fail_if_success refine (stSet "_law_marks") ?_); kpc_text)
  first | refine ds_cons (ds_lcOwn 0 z n8 hN hs [("_law_one", 21)] (.one 21) (by decide +kernel) (by decide) (fun X' bk => pg_one bk z (bk.lo hN hs (by decide +kernel))) (by decide +kernel) (by decide +kernel) (by decide +kernel) (by decide +kernel) (di_list ?_)) | refine ds_lcOwn 0 z n8 hN hs [("_law_one", 21)] (.one 21) (by decide +kernel) (by decide) (fun X' bk => pg_one bk z (bk.lo hN hs (by decide +kernel))) (by decide +kernel) (by decide +kernel) (by decide +kernel) (by decide +kernel) (di_list ?_)
  repeat' kpc_text
  repeat' kpc_text
  refine LcH.mapT (p.as) (paD) (fun x => x.m) (.int) (Nat.le_trans (show List.length _ ≤ 1000 by first | omega | (simp; done) | (simp; omega)) (by decide)) (fun q acc a ha => ?_) ?_
  · refine ⟨_, rfl, fun X' bk => ?_⟩
    have c21 : Lo X' 21 "_law_one" := bk.lo hN hs (by decide +kernel)
    have z' := bk.z z
    repeat' kpc_text
    exact ⟨rfl, rfl⟩
  intro qm
  repeat' ((fail_if_success refine (stSet "_law_lane") ?_); kpc_text)
  refine ds_cons (ds_own 0 z n9 (df_rep ?_))
  repeat' kpc_text
  refine ⟨[.int 0], _, rfl, rfl, ⟨by omega, by omega, by decide⟩, fun ql => ?_⟩
  rw [show (List.replicate ((30 : Int) + 8).toNat [D.int 0]).flatten = (laneK p.now []).map D.int from rfl]
  repeat' kpc_text
  refine ws_perm (List.perm_middle (l₁ := [_, _])) ?_
  repeat' ((fail_if_success refine stFor ?_); kpc_text)
  first | refine ds_cons (ds_forC [10, 11, 12] z (by assumption) (di_list ?_)) | refine ds_forC [10, 11, 12] z (by assumption) (di_list ?_)
  repeat' kpc_text
  refine ⟨fun i vs M1 => (∃  (o10 o11 o12 : Option D), [o10, o11, o12] = vs ∧ (f, .fnc W fr as cs) :: (ql, .lst ((laneK p.now (p.ks.take i)).map .int)) :: (qm, .lst ((p.as.map fun x => x.m).map .int)) :: M0 = M1), ⟨_, _, _, rfl, rfl⟩, ?_, ?_⟩
  · rintro i x vs δ M1 hx ⟨o10, o11, o12, rfl, rfl⟩ hδ
    obtain rfl : δ = [_, _, _, _, _, _, _, _, _, _, o10, o11, o12, _, _, _, _, _, _, _, _, _] := hδ
    obtain ⟨r, hr, rfl⟩ := map_get hx
    have hrk := (hok.ko r (List.mem_of_getElem? hr)).1
    have hrb := (hsm.kb r (List.mem_of_getElem? hr)).1
    obtain ⟨v, hv⟩ : ∃ v : Nat, r.1 - p.now = (v : Int) := ⟨(r.1 - p.now).toNat, by omega⟩
    repeat' kpc_text
    refine ds_augIxA (by assumption) ?_
    repeat' kpc_text
    rw [hv]
    refine ix_aug (d := .int (comesK (p.ks.take i) (p.now + v) (p.now + v))) 1 rfl (atI_nat (by rw [List.getElem?_map, laneK_get p.now _ (by omega)]; rfl)) ?_
    repeat' kpc_text
    refine sd_list (j := 1) (m := v) rfl (ixN_nat' (by rw [List.length_map, laneK_len]; omega)) ?_
    repeat' kpc_text
    exact ⟨[_, _, _], rfl, _, _, _, rfl, (by rw [← List.map_set, laneK_set hv.symm, List.take_add_one, hr]; rfl)⟩
  · rintro vs δ M1 ⟨o10, o11, o12, rfl, rfl⟩ hδ
    obtain rfl : δ = [_, _, _, _, _, _, _, _, _, _, o10, o11, o12, _, _, _, _, _, _, _, _, _] := hδ
    rw [List.length_map, List.take_length, laneK_all]
    repeat' kpc_text
    repeat' ((fail_if_success refine stFor ?_); kpc_text)
    first | refine ds_cons (ds_forC [12, 13, 14, 15, 16, 17, 18, 19, 20] z (by assumption) (di_range1 (by assumption) ?_)) | refine ds_forC [12, 13, 14, 15, 16, 17, 18, 19, 20] z (by assumption) (di_range1 (by assumption) ?_)
    repeat' kpc_text
    refine ⟨by omega, by omega, fun i vs M1 => (∃ (S hg : Int) (css : List (List Int)) (ms : List Int) (o12 o15 o16 o17 o18 o19 o20 : Option D), [o12, some (.int S), some (.int hg), o15, o16, o17, o18, o19, o20] = vs ∧ (f, .fnc W fr as cs) :: (ql, .lst ((laneL p css).map .int)) :: (qm, .lst (ms.map .int)) :: M0 = M1 ∧ (HiOk p i 0 css ms) ∧ (Stood p wd css i S) ∧ (hg ≤ b.1)), ⟨0, 0, _, _, _, _, _, _, _, _, _, rfl, rfl, (hi_zero p), (stood_zero p wd _), (hro.m0)⟩, ?_, ?_⟩
    · rintro i x vs δ M1 hx ⟨S, hg, css, ms, o12, o15, o16, o17, o18, o19, o20, rfl, rfl, hho, hst, hh⟩ hδ
      obtain rfl : δ = [_, _, _, _, _, _, _, _, _, _, _, _, o12, _, _, o15, o16, o17, o18, o19, o20, _] := hδ
      obtain ⟨hi, rfl⟩ := range_get hx
      have hi30 : i < 30 := hi
      repeat' kpc_text
      repeat' ((fail_if_success refine stFor ?_); kpc_text)
      first | refine ds_cons (ds_forC [12, 16, 17, 18, 19, 20] z (by assumption) (di_enum (by assumption) ?_)) | refine ds_forC [12, 16, 17, 18, 19, 20] z (by assumption) (di_enum (by assumption) ?_)
      repeat' kpc_text
      refine ⟨fun kk vs M1 => (∃ (css : List (List Int)) (ms : List Int) (o12 o16 o17 o18 o19 o20 : Option D), [o12, o16, o17, o18, o19, o20] = vs ∧ (f, .fnc W fr as cs) :: (ql, .lst ((laneL p css).map .int)) :: (qm, .lst (ms.map .int)) :: M0 = M1 ∧ (HiOk p i kk css ms) ∧ (Stood p wd css i S)), ⟨css, ms, _, _, _, _, _, _, rfl, rfl, (hho), (hst)⟩, ?_, ?_⟩
      · rintro kk x vs δ M1 hx ⟨css, ms, o12, o16, o17, o18, o19, o20, rfl, rfl, hho2, hst2⟩ hδ
        obtain rfl : δ = [_, _, _, _, _, _, _, _, _, _, _, _, o12, _, _, _, o16, o17, o18, o19, o20, _] := hδ
        obtain ⟨y0, hy0, rfl⟩ := enum_get hx
        obtain ⟨x, hxx, rfl⟩ := map_get hy0
        have hxo := hok.ao x (List.mem_of_getElem? hxx)
        have hxb := (hsm.ab x (List.mem_of_getElem? hxx)).1
        have hxa := hxo.a0
        have hkk : kk < p.as.length := (List.getElem?_eq_some_iff.mp hxx).1
        obtain ⟨cs0, hcs0⟩ : ∃ cs0, css[kk]? = some cs0 := ⟨css[kk]'(by rw [hho2.len]; exact hkk), List.getElem?_eq_getElem _⟩
        obtain ⟨l1, l2, l3⟩ := hho2.at_ kk x cs0 hxx hcs0
        rw [if_neg (Nat.lt_irrefl kk)] at l1
        have hmk := run_bd hxo.jo hxo.m0 hxo.m1 l2
        have hjo := hxo.jo
        have hj1 := hjo.r1
        have hj2 := hjo.rm
        repeat' kpc_text
        refine de_callC z n2.toNmP rfl List.mem_cons_self (by omega) Fn ?_
        repeat' kpc_text
        refine ⟨_, _, _, rfl, rfl, ?_⟩
        refine hc _ _ _ _ (by omega) (by omega) (by omega) (by omega) fun c c0 c9 => ?_
        repeat' kpc_text
        have l3' : (ms.map D.int)[kk]? = some (.int (runM x.j x.m cs0)) := by rw [List.getElem?_map, l3]; rfl
        refine od_ixC (j := 2) (d := .int (runM x.j x.m cs0)) rfl (atI_nat l3') ?_
        repeat' kpc_text
        refine od_ixC (j := 2) (d := .int (runM x.j x.m cs0)) rfl (atI_nat l3') ?_
        repeat' kpc_text
        generalize hcm : min (min c x.j.mouth) (runM x.j x.m cs0) = cm
        have hcm0 : 0 ≤ cm := by omega
        have hcm1 : cm ≤ mayF x.j (runM x.j x.m cs0) := by unfold mayF; omega
        have hmsl : kk < ms.length := by rw [hho2.ml]; exact hkk
        refine sd_list (j := 2) (m := kk) rfl (ixN_nat' (by rw [List.length_map]; exact hmsl)) ?_
        repeat' kpc_text
        obtain ⟨v, hv⟩ : ∃ v : Nat, 0 + (i : Int) + x.a = (v : Int) := ⟨(0 + (i : Int) + x.a).toNat, by omega⟩
        refine ds_augIxA (by assumption) ?_
        repeat' kpc_text
        rw [hv]
        refine ix_aug (d := .int (lnF p css v)) 1 rfl (atI_nat (by rw [List.getElem?_map, lane_get p css (by omega)]; rfl)) ?_
        repeat' kpc_text
        refine sd_list (j := 1) (m := v) rfl (ixN_nat' (by rw [List.length_map, lane_len]; omega)) ?_
        repeat' kpc_text
        exact ⟨[_, _, _, _, _, _], rfl, css.set kk (cs0 ++ [cm]), ms.set kk (comeF x.j (runM x.j x.m cs0) cm), _, _, _, _, _, _, rfl, (by rw [← lane_set hxx hcs0 (show (v : Int) = (cs0.length : Int) + x.a by omega), List.map_set, List.map_set]; rfl), (hi_step hho2 hxx hcs0 hcm0 hcm1), (stood_set hxx hcs0 l1 hxa hst2)⟩
      · rintro vs δ M1 ⟨css, ms, o12, o16, o17, o18, o19, o20, rfl, rfl, hho2, hst2⟩ hδ
        obtain rfl : δ = [_, _, _, _, _, _, _, _, _, _, _, _, o12, _, _, _, o16, o17, o18, o19, o20, _] := hδ
        try simp only [range_len, List.length_map, enum_len] at hho2 hst2
        have hn := ln_nn hok hho2 i
        have hs1 := stood_step (w := wd) (by have := hsm.w1; omega) hn hst2
        have hs2 := stood_le hok hro hho2 hs1
        repeat' kpc_text
        refine od_ixC (j := 1) (d := .int (lnF p css i)) rfl (by rw [Int.zero_add]; exact atI_nat (by rw [List.getElem?_map, lane_get p css (by omega)]; rfl)) ?_
        repeat' kpc_text
        · rename_i ho
          rw [if_pos (show p.now + (i : Int) ≥ p.opens by omega)] at hs1 hs2
          exact ⟨[_, _, _, _, _, _, _, _, _], rfl, _, _, css, ms, _, _, _, _, _, _, _, rfl, rfl, (hi_next hho2), (hs1), (by omega)⟩
        · rename_i ho
          rw [if_neg (show ¬ p.now + (i : Int) ≥ p.opens by omega)] at hs1 hs2
          exact ⟨[_, _, _, _, _, _, _, _, _], rfl, _, _, css, ms, _, _, _, _, _, _, _, rfl, rfl, (hi_next hho2), (hs1), (by omega)⟩
    · rintro vs δ M1 ⟨S, hg, css, ms, o12, o15, o16, o17, o18, o19, o20, rfl, rfl, hho, hst, hh⟩ hδ
      obtain rfl : δ = [_, _, _, _, _, _, _, _, _, _, _, _, o12, _, _, o15, o16, o17, o18, o19, o20, _] := hδ
      try simp only [range_len, List.length_map, enum_len] at hho hst hh
      repeat' kpc_text
      exact ⟨_, _, .sub (.cons₂ _ (.cons _ (.cons _ (.refl _)))), k hg hh⟩
abbrev tbs (tb : Addr) : List (Addr × Str) := [(tb, "law.<locals>.<lambda>")]
def forB : Stmt → List Stmt | .For _ _ b _ _ => b | _ => []
def asgV : Stmt → Expr | .Assign _ e _ => e | _ => .Constant .none 0 ⟨0, 0, 0, 0⟩
def arg2 : Expr → Expr | .Call _ (_ :: _ :: e :: _) _ _ => e | e => e
def lamP : Expr → Arguments | .Lambda p _ _ _ => p | _ => ⟨[], [], none, [], [], none, []⟩
def lamB : Expr → Expr | .Lambda _ b _ _ => b | e => e
def lamS : Expr → Scope | .Lambda _ _ s _ => s | _ => ⟨.module, [], false, false, []⟩
def lamX (n : Nat) : Expr := arg2 (asgV ((forB ((forB ((defBody (top 35)).getD 1 (.Pass ⟨0, 0, 0, 0⟩))).getD n (.Pass ⟨0, 0, 0, 0⟩))).getD 1 (.Pass ⟨0, 0, 0, 0⟩)))
abbrev WL (n : Nat) : FW := ⟨"<lambda>", (("law" : Str) ++ ".<locals>.") ++ "<lambda>", lamP (lamX n), .expr (lamB (lamX n)), lamS (lamX n)⟩
def pW1 : List D → DSp := fun cs ds M Φ => ∃ (ls : List Int) (k s : Int), cs = [.lst (ls.map .int)] ∧ ds = [.int k, .int s] ∧ 0 ≤ k ∧ k < (ls.length : Nat) ∧ ls.length ≤ 100 ∧ ∀ c, 0 ≤ c → c ≤ 100 → Φ (.int c) M
def pW2 : List D → DSp := fun cs ds M Φ => ∃ (ls : List Int) (k s : Int), cs = [.lst (ls.map .int)] ∧ ds = [.int k, .int s] ∧ 0 ≤ k ∧ k ≤ 1000 ∧ 0 ≤ s ∧ s ≤ 1000 ∧ ls.length = 30 ∧ (∀ x ∈ ls, 0 ≤ x ∧ x < 9) ∧ ∀ c, 0 ≤ c → c ≤ 100 → Φ (.int c) M
theorem w1_ok {P : Program} {w : World} {K : PySem.W.Frag} {mg : Str → Option Value} {base : Heap} (G_int : mg "int" = none) : FunN P w K mg base (WL 8) ["_law_late"] 2 2 pW1 := by
  refine funL_of (N := ["_law_place", "_law_step", "_law_late"]) (ps := ["_law_place", "_law_step"]) (e := lamB (lamX 8)) (k := 1) rfl ⟨rfl, rfl, rfl, by decide +kernel, rfl, by decide +kernel, by decide +kernel, by decide +kernel, by decide +kernel⟩ (fun cl c doc pm ctv us hl => match us, hl with | [_, _], _ => rfl) fun X kp cs ds M Φ h I => ?_
  obtain ⟨ls, k, s, rfl, rfl, h0, h1, h9, kk⟩ := h
  obtain ⟨rfl, rfl, rfl, rfl, rfl, hN, hs, hf, z, hp, tk, hst, hfr⟩ := I
  have n0 : Nm X 0 "_law_place" := nm_of hN hs (by decide +kernel)
  have n1 : Nm X 1 "_law_step" := nm_of hN hs (by decide +kernel)
  have n2 : Nm X 2 "_law_late" := nm_of hN hs (by decide +kernel)
  have g_int : Gn X "int" := gn_of hs (by decide +kernel) G_int
  change DE _ X (.BinOp _ _ _ _) [_, _, _] _ _
  repeat' kpc_text
  refine de_intB (by assumption) ?_
  repeat' kpc_text
  refine cd_intB ?_
  refine od_mulS (by split <;> omega) ?_
  exact kk _ (by split <;> omega) (by split <;> omega)
theorem w2_ok {P : Program} {w : World} {K : PySem.W.Frag} {mg : Str → Option Value} {base : Heap} : FunN P w K mg base (WL 9) ["_law_drawn"] 2 2 pW2 := by
  refine funL_of (N := ["_law_place", "_law_step", "_law_drawn"]) (ps := ["_law_place", "_law_step"]) (e := lamB (lamX 9)) (k := 1) rfl ⟨rfl, rfl, rfl, by decide +kernel, rfl, by decide +kernel, by decide +kernel, by decide +kernel, by decide +kernel⟩ (fun cl c doc pm ctv us hl => match us, hl with | [_, _], _ => rfl) fun X kp cs ds M Φ h I => ?_
  obtain ⟨ls, k, s, rfl, rfl, h0, h1, h2, h3, h4, h5, kk⟩ := h
  obtain ⟨rfl, rfl, rfl, rfl, rfl, hN, hs, hf, z, hp, tk, hst, hfr⟩ := I
  have n0 : Nm X 0 "_law_place" := nm_of hN hs (by decide +kernel)
  have n1 : Nm X 1 "_law_step" := nm_of hN hs (by decide +kernel)
  have n2 : Nm X 2 "_law_drawn" := nm_of hN hs (by decide +kernel)
  change DE _ X (.Subscript _ _ _) [_, _, _] _ _
  repeat' kpc_text
  rename_i x hx
  have := h5 x (List.mem_of_getElem? hx)
  exact kk x (by omega) (by omega)
theorem lamCap_of {X : Cx} {N : List Str} {sc : Scope} {fr : List Str} {js : List Nat} (hN : X.N = N) (hs : X.env.scope = sc) (hf : X.fn = fun _ => true) (h1 : fr.Nodup) (h2 : ∀ y ∈ fr, sc.names.lookup y = some .cell) (h3 : js.map (fun j => N[j]?) = fr.map some) : LamCap X fr js :=
  ⟨h1, fun y hy => by rw [hs]; exact h2 y hy, hf, by rw [hN]; exact h3⟩
def n_law : List Str := ["_law_script", "_law_state", "_law_turn", "_law_parts", "_law_scene", "_law_told", "_law_rows", "_law_begin", "_law_late", "_law_highest_here", "_law_way", "_law_drawn", "_law_row", "_law_marks", "_law_after", "_law_wait", "_law_step"]
theorem sc_law : FnScope n_law ["_law_script"] (defScope s_law) := ⟨rfl, rfl, rfl, by decide +kernel, rfl, by decide +kernel, by decide +kernel⟩
theorem d_law {P : Program} {w : World} {K : PySem.W.Frag} {mg : Str → Option Value} {base : Heap} {tb_law : Addr} {f : Addr} {fd : FuncData} (F : FunG K "law" "law" s_law f fd)
    (TB_law : TbF base mg fd tb_law) (D_law_begun : Def P w K mg base 1 "_law_begun" ["_law_script"] (pBegun K)) (G_range : mg "range" = none) (D_law_small_scene : Def P w K mg base 3 "_law_small_scene" ["_law_state"] pSmall) (E_law_made_1 : DefE P w K mg base 5 "_law_made" 1 [] (selN 1) (pMadeF c_Scene c_Flow c_Jar)) (E_room_1 : DefE P w K mg base 6 "room" 1 [] (selN 1) (pRoom c_Scene c_Flow c_Jar)) (G_sum : mg "sum" = none) (D_law_is_room : Def P w K mg base 2 "_law_is_room" ["_law_told", "_law_now"] pIsRoom) (E_swell_3 : DefE P w K mg base 4 "swell" 3 [] (selN 3) (pSwell c_Scene c_Flow c_Jar)) (E_law_fit_2 : DefE P w K mg base 3 "_law_fit" 2 [] (selN 2) pFitR) (D_law_stood : Def P w K mg base 2 "_law_stood" ["_law_parts", "_law_rows", "_law_last"] pStood) (E_law_highest_3 : DefE P w K mg base 3 "_law_highest" 3 [] (selN 3) (pHigh P w K mg base)) (G_int : mg "int" = none) (D_law_take : Def P w K mg base 1 "_law_take" ["_law_state", "_law_many"] pTake) : FnOk P w K mg base (L2.CX P w) 7 f fd ["_law_script"] (liftE (pLawT (tbs tb_law) K)) := by
  refine fnokT_of (N := n_law) (k := 6) F sc_law TB_law (fun ds M Φ Ξ h => by obtain ⟨ns, rfl, rfl, hl, k⟩ := h; rfl) fun X kp ds M Φ Ξ h I TX hql => ?_
  obtain ⟨ns, rfl, rfl, hl, k⟩ := h
  obtain ⟨rfl, rfl, rfl, rfl, rfl, hN, hs, hf, z, hp, tk, hst, hfr⟩ := I
  have nd := z.nd
  have n0 : Lo X 0 "_law_script" := lo_of hN hs hf (by decide +kernel)
  have n1 : Lo X 1 "_law_state" := lo_of hN hs hf (by decide +kernel)
  have n2 : Lo X 2 "_law_turn" := lo_of hN hs hf (by decide +kernel)
  have n3 : Lo X 3 "_law_parts" := lo_of hN hs hf (by decide +kernel)
  have n4 : Lo X 4 "_law_scene" := lo_of hN hs hf (by decide +kernel)
  have n5 : Lo X 5 "_law_told" := lo_of hN hs hf (by decide +kernel)
  have n6 : Lo X 6 "_law_rows" := lo_of hN hs hf (by decide +kernel)
  have n7 : Lo X 7 "_law_begin" := lo_of hN hs hf (by decide +kernel)
  have n8 : Lo X 8 "_law_late" := lo_of hN hs hf (by decide +kernel)
  have n9 : Lo X 9 "_law_highest_here" := lo_of hN hs hf (by decide +kernel)
  have n10 : Lo X 10 "_law_way" := lo_of hN hs hf (by decide +kernel)
  have n11 : Lo X 11 "_law_drawn" := lo_of hN hs hf (by decide +kernel)
  have l_law_begun : Gl X "_law_begun" := gl_of hs (by decide +kernel)
  have g_range : Gn X "range" := gn_of hs (by decide +kernel) G_range
  have l_law_small_scene : Gl X "_law_small_scene" := gl_of hs (by decide +kernel)
  have l_law_made : Gl X "_law_made" := gl_of hs (by decide +kernel)
  have l_room : Gl X "room" := gl_of hs (by decide +kernel)
  have g_sum : Gn X "sum" := gn_of hs (by decide +kernel) G_sum
  have l_law_is_room : Gl X "_law_is_room" := gl_of hs (by decide +kernel)
  have l_swell : Gl X "swell" := gl_of hs (by decide +kernel)
  have l_law_fit : Gl X "_law_fit" := gl_of hs (by decide +kernel)
  have l_law_stood : Gl X "_law_stood" := gl_of hs (by decide +kernel)
  have l_law_highest : Gl X "_law_highest" := gl_of hs (by decide +kernel)
  clear F
  change DSs _ X (_ :: _) [_, _, _, _, _, _, _, _, _, _, _, _, _, _, _, _, _] _ _
  repeat' ((fail_if_success refine stFor ?_); kpc_text)
  rename_i s g
  repeat' ((fail_if_success refine stFor ?_); kpc_text)
  first | refine ds_cons (ds_forC [2, 3, 4, 5, 6, 7, 8, 9, 10, 11] z (by assumption) (di_range1 (by assumption) ?_)) | refine ds_forC [2, 3, 4, 5, 6, 7, 8, 9, 10, 11] z (by assumption) (di_range1 (by assumption) ?_)
  repeat' kpc_text
  refine ⟨by omega, by omega, fun i vs M1 => (∃ (b : Nat) (o2 o3 o4 o5 o6 o7 o8 o9 o10 o11 : Option D), [o2, o3, o4, o5, o6, o7, o8, o9, o10, o11] = vs ∧ (s, .st g b) :: tbM (tbs tb_law) = M1 ∧ (999999990000 ≤ b + 2000 * i)), ⟨_, _, _, _, _, _, _, _, _, _, _, rfl, rfl, (by omega)⟩, ?_, ?_⟩
  · rintro i x vs δ M1 hx ⟨b, o2, o3, o4, o5, o6, o7, o8, o9, o10, o11, rfl, rfl, hb⟩ hδ
    obtain rfl : δ = [_, _, o2, o3, o4, o5, o6, o7, o8, o9, o10, o11, _, _, _, _, _] := hδ
    obtain ⟨hi, rfl⟩ := range_get hx
    repeat' kpc_text
    refine ⟨s, g, b, _, rfl, rfl, by omega, fun p w b1 hok hfb hb1 => ?_⟩
    have hal := hfb.al
    have hkl := hfb.kl
    have hw1 := hfb.w1
    have hw9 := hfb.w9
    have hn0 := hok.n0
    have hsm : SmallR p := ⟨p.ks.map fun r => r.1, fun r hr => List.mem_map.mpr ⟨r, hr, rfl⟩, by rw [List.length_map]; omega⟩
    repeat' kpc_text
    refine ⟨p, w, rfl, hok, ?_⟩
    repeat' kpc_text
    refine ⟨p, w, rfl, hok, hsm, by omega, by omega, fun hr => ?_, fun hr => ?_⟩
    · repeat' kpc_text
      refine DE.f (df_lc 0 z hN hs [("_law_row", 12), ("_law_marks", 13), ("_law_after", 14), ("_law_wait", 15)] (.tup [12, 13, 14, 15]) (by decide +kernel) (by decide) (fun X' bk => pg_many bk z (pgs_1 (bk.z z).nd (bk.lo hN hs (by decide +kernel)) (pgs_1 (bk.z z).nd (bk.lo hN hs (by decide +kernel)) (pgs_1 (bk.z z).nd (bk.lo hN hs (by decide +kernel)) (pgs_1 (bk.z z).nd (bk.lo hN hs (by decide +kernel)) pgs_0))))) (di_list ?_))
      repeat' kpc_text
      refine LcH.mapT (p.as) (paD) (fun x => x.j.rate) (.int) (Nat.le_trans (show List.length _ ≤ 1000 by first | omega | (simp; done) | (simp; omega)) (by decide)) (fun q acc a ha => ?_) ?_
      · refine ⟨_, rfl, fun X' bk => ?_⟩
        have c12 : Lo X' 12 "_law_row" := bk.lo hN hs (by decide +kernel)
        have c13 : Lo X' 13 "_law_marks" := bk.lo hN hs (by decide +kernel)
        have c14 : Lo X' 14 "_law_after" := bk.lo hN hs (by decide +kernel)
        have c15 : Lo X' 15 "_law_wait" := bk.lo hN hs (by decide +kernel)
        have z' := bk.z z
        repeat' kpc_text
        exact ⟨rfl, rfl⟩
      repeat' kpc_text
      refine cd_sum (.val _) ?_
      rw [show (p.as.map fun x => x.j.rate).sum = ratesF p from rfl]
      repeat' kpc_text
      exact ⟨[_, _, _, _, _, _, _, _, _, _], rfl, _, _, _, _, _, _, _, _, _, _, _, rfl, rfl, (by omega)⟩
    · have hro := room_is hok hr
      have h0 := hro.m0
      have h1 := hro.f0
      have h2 := hro.fl
      have h3 := hro.z
      have hfi := first_in hok hro.toRoomB
      have hme := met_eq hok hro.toRoomB
      generalize hbb : roomF p w = bb at *
      repeat' kpc_text
      refine DE.f (df_lc 0 z hN hs [("_law_row", 12), ("_law_marks", 13), ("_law_after", 14), ("_law_wait", 15)] (.tup [12, 13, 14, 15]) (by decide +kernel) (by decide) (fun X' bk => pg_many bk z (pgs_1 (bk.z z).nd (bk.lo hN hs (by decide +kernel)) (pgs_1 (bk.z z).nd (bk.lo hN hs (by decide +kernel)) (pgs_1 (bk.z z).nd (bk.lo hN hs (by decide +kernel)) (pgs_1 (bk.z z).nd (bk.lo hN hs (by decide +kernel)) pgs_0))))) (di_list ?_))
      repeat' kpc_text
      refine LcH.mapT (p.as) (paD) (fun x => x.j.rate) (.int) (Nat.le_trans (show List.length _ ≤ 1000 by first | omega | (simp; done) | (simp; omega)) (by decide)) (fun q acc a ha => ?_) ?_
      · refine ⟨_, rfl, fun X' bk => ?_⟩
        have c12 : Lo X' 12 "_law_row" := bk.lo hN hs (by decide +kernel)
        have c13 : Lo X' 13 "_law_marks" := bk.lo hN hs (by decide +kernel)
        have c14 : Lo X' 14 "_law_after" := bk.lo hN hs (by decide +kernel)
        have c15 : Lo X' 15 "_law_wait" := bk.lo hN hs (by decide +kernel)
        have z' := bk.z z
        repeat' kpc_text
        exact ⟨rfl, rfl⟩
      repeat' kpc_text
      refine cd_sum (.val _) ?_
      rw [show (p.as.map fun x => x.j.rate).sum = ratesF p from rfl]
      repeat' kpc_text
      refine ⟨bb, p.now, rfl, h0, h1, h2, h3, ?_⟩
      repeat' kpc_text
      refine ⟨p, w, rfl, hok, hsm, by omega, by omega, fun hr' => by omega, fun _ => ?_⟩
      rw [hbb]
      repeat' kpc_text
      refine od_neSame (.val _) (.val _) rfl ?_
      repeat' kpc_text
      refine ⟨p, w, _, _, rfl, hok, fun q => ?_⟩
      repeat' ((fail_if_success refine stIf ?_); kpc_text)
      refine ws_upE 0 rfl ?_
      apply Exists.intro
      refine ⟨?_, ?_⟩
      · kx_is
      have hrl := fut_len p.now bb.2.1 (bb.2.2 + 1) (p.as.map roomA) 0
      rw [List.length_map] at hrl
      have hrp := (fut_place p.now bb.2.1 (bb.2.2 + 1) (p.as.map roomA) 0).1
      have hrs := (fut_place p.now bb.2.1 (bb.2.2 + 1) (p.as.map roomA) 0).2
      have hrm : ∀ r ∈ futF p.now bb.2.1 (bb.2.2 + 1) 0 (p.as.map roomA), 1 ≤ r.2.2.2 ∧ r.2.2.2 ≤ 1000000000 := fut_many (room_ok hok) bb.2.1 (bb.2.2 + 1) (p.as.map roomA) 0 (room_ok hok).ao
      have hrf : ∀ (i : Nat) (x : Ask), p.as[i]? = some x → fitsF x.j x.m 0 (ownF p.now (i : Int) (futF p.now bb.2.1 (bb.2.2 + 1) 0 (p.as.map roomA))) = true := fun i x hx => fut_fit (room_ok hok) bb.2.1 (bb.2.2 + 1) i (roomA x) (by show (p.as.map roomA)[i]? = _; rw [List.getElem?_map, hx]; rfl)
      have hle : ∀ f, p.now ≤ f → f ≤ bb.2.2 → metF p w (futF p.now bb.2.1 (bb.2.2 + 1) 0 (p.as.map roomA)) f bb.2.2 ≤ bb.1 := fun f hf1 hf2 => met_le hok hro (fun r hr => by have := hrp r hr; omega) hrf hf1 hf2
      generalize futF p.now bb.2.1 (bb.2.2 + 1) 0 (p.as.map roomA) = rows at *
      have hrw : RowsIn p rows := fun r hr => ⟨by have := hrp r hr; rw [List.length_map] at this; omega, hrm r hr⟩
      refine ds_cutC [] (fun vs M1 => ([] = vs ∧ (s, .st g b1) :: tbM (tbs tb_law) = M1)) ?_ ?_
      · repeat' kpc_text
        · refine ⟨p, w, rows, rfl, hok, by omega, hrw, hrs, hrf, ?_⟩
          repeat' kpc_text
          exact ⟨[], rfl, rfl, rfl⟩
        · exact ⟨[], rfl, rfl, rfl⟩
      rintro vs δ M1 ⟨rfl, rfl⟩ hδ
      obtain rfl : δ = [_, _, _, _, _, _, _, _, _, _, _, _, _, _, _, _, _] := hδ
      refine ds_cutC [] (fun vs M1 => ([] = vs ∧ (s, .st g b1) :: tbM (tbs tb_law) = M1)) ?_ ?_
      · repeat' kpc_text
        · refine ⟨p, w, rows, _, rfl, hok, by omega, by omega, hrw, by omega, fun v hv hv0 hva => ?_⟩
          have hve : v = bb.1 := by
            have e1 := hva _ hfi
            rw [hme (by omega)] at e1
            rcases hv with h | ⟨f, hf, h⟩
            · omega
            · obtain ⟨a, _, e⟩ := List.mem_filterMap.mp hf
              split at e
              · cases e; rename_i hc; have := hle _ hc.1 hc.2; omega
              · cases e
          repeat' kpc_text
          exact ⟨[], rfl, rfl, rfl⟩
        · exact ⟨[], rfl, rfl, rfl⟩
      rintro vs δ M1 ⟨rfl, rfl⟩ hδ
      obtain rfl : δ = [_, _, _, _, _, _, _, _, _, _, _, _, _, _, _, _, _] := hδ
      repeat' ((fail_if_success refine stFor ?_); kpc_text)
      first | refine ds_cons (ds_forC [7, 8, 9] z (by assumption) (di_range1 (by assumption) ?_)) | refine ds_forC [7, 8, 9] z (by assumption) (di_range1 (by assumption) ?_)
      repeat' kpc_text
      refine ⟨by omega, by omega, fun j vs M1 => (∃  (o7 o8 o9 : Option D), [o7, o8, o9] = vs ∧ (s, .st g b1) :: tbM (tbs tb_law) = M1), ⟨_, _, _, rfl, rfl⟩, ?_, ?_⟩
      · rintro j x vs δ M1 hx ⟨o7, o8, o9, rfl, rfl⟩ hδ
        obtain rfl : δ = [_, _, _, _, _, _, _, o7, o8, o9, _, _, _, _, _, _, _] := hδ
        obtain ⟨hj, rfl⟩ := range_get hx
        repeat' ((fail_if_success refine (stSet "_law_late") ?_); kpc_text)
        first | refine ds_cons (ds_set z n8 (DE.f (df_lc 0 z hN hs [("_law_row", 12), ("_law_marks", 13), ("_law_after", 14), ("_law_wait", 15)] (.tup [12, 13, 14, 15]) (by decide +kernel) (by decide) (fun X' bk => pg_many bk z (pgs_1 (bk.z z).nd (bk.lo hN hs (by decide +kernel)) (pgs_1 (bk.z z).nd (bk.lo hN hs (by decide +kernel)) (pgs_1 (bk.z z).nd (bk.lo hN hs (by decide +kernel)) (pgs_1 (bk.z z).nd (bk.lo hN hs (by decide +kernel)) pgs_0))))) (di_list ?_))) (swaps_cell hs (by decide +kernel))) | refine ds_set z n8 (DE.f (df_lc 0 z hN hs [("_law_row", 12), ("_law_marks", 13), ("_law_after", 14), ("_law_wait", 15)] (.tup [12, 13, 14, 15]) (by decide +kernel) (by decide) (fun X' bk => pg_many bk z (pgs_1 (bk.z z).nd (bk.lo hN hs (by decide +kernel)) (pgs_1 (bk.z z).nd (bk.lo hN hs (by decide +kernel)) (pgs_1 (bk.z z).nd (bk.lo hN hs (by decide +kernel)) (pgs_1 (bk.z z).nd (bk.lo hN hs (by decide +kernel)) pgs_0))))) (di_list ?_))) (swaps_cell hs (by decide +kernel))
        repeat' kpc_text
        refine LcH.mapT (p.as) (paD) (fun x => (0 + (j : Int)) - x.a) (.int) (Nat.le_trans (show List.length _ ≤ 1000 by first | omega | (simp; done) | (simp; omega)) (by decide)) (fun q acc a ha => ?_) ?_
        · refine ⟨_, rfl, fun X' bk => ?_⟩
          have c12 : Lo X' 12 "_law_row" := bk.lo hN hs (by decide +kernel)
          have c13 : Lo X' 13 "_law_marks" := bk.lo hN hs (by decide +kernel)
          have c14 : Lo X' 14 "_law_after" := bk.lo hN hs (by decide +kernel)
          have c15 : Lo X' 15 "_law_wait" := bk.lo hN hs (by decide +kernel)
          have c7 : Nm X' 7 "_law_begin" := bk.nm hN hs (by decide +kernel)
          have z' := bk.z z
          repeat' kpc_text
          exact ⟨rfl, rfl⟩
        repeat' ((fail_if_success refine (stSet "_law_highest_here") ?_); kpc_text)
        refine ds_cons (ds_set (by assumption) (by assumption) ?_)
        refine de_fL (by assumption) E_law_highest_3 (by decide) (by assumption) ?_ (by kat_eight)
        repeat' kpc_text
        refine de_lam TX hql (.tail _ (.head _)) rfl (by rw [hs]; decide +kernel) fun f => ?_
        repeat' kpc_text
        refine ⟨rfl, rfl, f, _, _, [8], [.lst ((p.as.map fun x => (0 + (j : Int)) - x.a).map .int)], _, rfl, lamCap_of hN hs hf (by decide +kernel) (by decide +kernel) rfl, rfl, ?_⟩
        refine ⟨p, w, f, _, _, _, _, _, pW1, bb, rfl, rfl, w1_ok G_int, hok, hfb, hro, fun k' s' M' Φ' q1 q2 q3 q4 q5 => ⟨_, k', s', rfl, rfl, q1, by rw [List.length_map]; exact q2, by rw [List.length_map]; omega, q5⟩, fun h hh => ⟨_, rfl, ?_⟩⟩
        repeat' ((fail_if_success refine stIf ?_); kpc_text)
        refine ws_drop (List.sublist_cons_self _ _) ?_
        repeat' kpc_text
        exact ⟨[_, _, _], rfl, _, _, _, rfl, rfl⟩
      · rintro vs δ M1 ⟨o7, o8, o9, rfl, rfl⟩ hδ
        obtain rfl : δ = [_, _, _, _, _, _, _, o7, o8, o9, _, _, _, _, _, _, _] := hδ
        repeat' ((fail_if_success refine stFor ?_); kpc_text)
        first | refine ds_cons (ds_forC [9, 10, 11] z (by assumption) (di_range1 (by assumption) ?_)) | refine ds_forC [9, 10, 11] z (by assumption) (di_range1 (by assumption) ?_)
        repeat' kpc_text
        refine ⟨by omega, by omega, fun j vs M1 => (∃ (b2 : Nat) (o9 o10 o11 : Option D), [o9, o10, o11] = vs ∧ (s, .st g b2) :: tbM (tbs tb_law) = M1 ∧ (b1 ≤ b2 + 100 * j)), ⟨_, _, _, _, rfl, rfl, (by omega)⟩, ?_, ?_⟩
        · rintro j x vs δ M1 hx ⟨b2, o9, o10, o11, rfl, rfl, hb2⟩ hδ
          obtain rfl : δ = [_, _, _, _, _, _, _, _, _, o9, o10, o11, _, _, _, _, _] := hδ
          obtain ⟨hj, rfl⟩ := range_get hx
          have hj2 : j < 2 := hj
          repeat' ((fail_if_success refine (stSet "_law_drawn") ?_); kpc_text)
          first | refine ds_cons (ds_own 1 z n11 (df_lc 1 z hN hs [("_law_step", 16)] (.one 16) (by decide +kernel) (by decide) (fun X' bk => pg_one bk z (bk.lo hN hs (by decide +kernel))) (di_range1 (by assumption) ?_)) (swaps_cell hs (by decide +kernel))) | refine ds_own 1 z n11 (df_lc 1 z hN hs [("_law_step", 16)] (.one 16) (by decide +kernel) (by decide) (fun X' bk => pg_one bk z (bk.lo hN hs (by decide +kernel))) (di_range1 (by assumption) ?_)) (swaps_cell hs (by decide +kernel))
          repeat' kpc_text
          repeat' kpc_text
          refine ⟨by decide, by decide, ?_⟩
          refine LcH.drawT (β := Int) ((fun x => 0 ≤ x ∧ x < 9)) (D.int) 1 (by omega) (by omega) (fun q acc i b1 hi hb1 => ?_) ?_
          · refine ⟨_, rfl, fun X' bk => ?_⟩
            have c16 : Lo X' 16 "_law_step" := bk.lo hN hs (by decide +kernel)
            have c1 : Nm X' 1 "_law_state" := bk.nm hN hs (by decide +kernel)
            have z' := bk.z z
            have D_law_take' := bk.df D_law_take
            have l_law_take' : Gl X' "_law_take" := bk.gl hs (by decide +kernel)
            repeat' kpc_text
            rename_i t ht0 ht1
            exact ⟨t, _, ⟨ht0, ht1⟩, by omega, rfl, rfl⟩
          intro xs b3 hxl hxo hxb qd
          repeat' ((fail_if_success refine (stSet "_law_highest_here") ?_); kpc_text)
          refine ws_upE 1 rfl ?_
          apply Exists.intro
          refine ⟨?_, ?_⟩
          · kx_is
          refine ds_cons (ds_set (by assumption) (by assumption) ?_)
          refine de_fL (by assumption) E_law_highest_3 (by decide) (by assumption) ?_ (by kat_eight)
          repeat' kpc_text
          refine de_lam TX hql (.tail _ (.head _)) rfl (by rw [hs]; decide +kernel) fun f => ?_
          repeat' kpc_text
          refine ⟨rfl, rfl, f, _, _, [11], [.lst (xs.map .int)], _, rfl, lamCap_of hN hs hf (by decide +kernel) (by decide +kernel) rfl, rfl, ?_⟩
          refine ⟨p, w, f, _, _, _, _, _, pW2, bb, rfl, rfl, w2_ok, hok, hfb, hro, fun k' s' M' Φ' q1 q2 q3 q4 q5 => ⟨xs, k', s', rfl, rfl, q1, by omega, q3, by omega, hxl, hxo, q5⟩, fun h hh => ⟨_, rfl, ?_⟩⟩
          repeat' ((fail_if_success refine stIf ?_); kpc_text)
          refine ws_drop (List.sublist_cons_self _ _) ?_
          repeat' kpc_text
          exact ⟨[_, _, _], rfl, _, _, _, _, rfl, rfl, (by omega)⟩
        · rintro vs δ M1 ⟨b2, o9, o10, o11, rfl, rfl, hb2⟩ hδ
          obtain rfl : δ = [_, _, _, _, _, _, _, _, _, o9, o10, o11, _, _, _, _, _] := hδ
          try simp only [range_len, List.length_map, enum_len] at hb2
          repeat' kpc_text
          exact ⟨[_, _, _, _, _, _, _, _, _, _], rfl, _, _, _, _, _, _, _, _, _, _, _, rfl, rfl, (by omega)⟩
  · rintro vs δ M1 ⟨b, o2, o3, o4, o5, o6, o7, o8, o9, o10, o11, rfl, rfl, hb⟩ hδ
    obtain rfl : δ = [_, _, o2, o3, o4, o5, o6, o7, o8, o9, o10, o11, _, _, _, _, _] := hδ
    try simp only [range_len, List.length_map, enum_len] at hb
    repeat' kpc_text
    exact ⟨_, _, .sub (.cons _ (.refl _)), k⟩
theorem all_mk {l : PySem.W.OpenLaw} {w : World} {K : PySem.W.Frag} {h : Heap} {mg : Str → Option Value} {fa f1 f2 f3 f4 f5 f6 f7 f8 f9 f10 f11 f12 f13 f14 f15 f16 f17 f18 f19 f20 f21 f22 f23 f24 f25 f26 f27 f28 f29 f30 f31 f32 c_Jar c_NoJar c_Flow c_Scene c_NoTick tb_law : Addr} (X : K.In h) (G : h.Ns mainGlobals mg) (hfa : mg "law" = some (.ref fa))
    (ac_Jar : PySem.W.nsIn K mainGlobals "Jar" = some (some (.ref c_Jar)))
    (ac_NoJar : PySem.W.nsIn K mainGlobals "NoJar" = some (some (.ref c_NoJar)))
    (ac_Flow : PySem.W.nsIn K mainGlobals "Flow" = some (some (.ref c_Flow)))
    (ac_Scene : PySem.W.nsIn K mainGlobals "Scene" = some (some (.ref c_Scene)))
    (ac_NoTick : PySem.W.nsIn K mainGlobals "NoTick" = some (some (.ref c_NoTick)))
    {od1 an1 : Option Addr} {sl1 : Array (Option Value)} {oc1 kV1 dc1 pm1 cd1 ct1 : Value}
    (a1 : PySem.W.nsIn K mainGlobals "_law_begun" = some (some (.ref f1)))
    (l1 : K.lookup f1 = some ⟨oc1, od1, .func (PySem.W.fnOf "_law_begun" "_law_begun" (defArgs s_law_begun) (defBody s_law_begun) (defScope s_law_begun) .none kV1 dc1 pm1 an1 cd1 ct1), sl1⟩)
    (c1 : PySem.W.codeIn K cd1 "_law_begun" = true)
    (k1 : PySem.W.keepIn K (.ref f1) = true)
    {od2 an2 : Option Addr} {sl2 : Array (Option Value)} {oc2 kV2 dc2 pm2 cd2 ct2 : Value}
    (a2 : PySem.W.nsIn K mainGlobals "_law_take" = some (some (.ref f2)))
    (l2 : K.lookup f2 = some ⟨oc2, od2, .func (PySem.W.fnOf "_law_take" "_law_take" (defArgs s_law_take) (defBody s_law_take) (defScope s_law_take) .none kV2 dc2 pm2 an2 cd2 ct2), sl2⟩)
    (c2 : PySem.W.codeIn K cd2 "_law_take" = true)
    (k2 : PySem.W.keepIn K (.ref f2) = true)
    {od3 an3 : Option Addr} {sl3 : Array (Option Value)} {oc3 kV3 dc3 pm3 cd3 ct3 : Value}
    (a3 : PySem.W.nsIn K mainGlobals "_law_pick" = some (some (.ref f3)))
    (l3 : K.lookup f3 = some ⟨oc3, od3, .func (PySem.W.fnOf "_law_pick" "_law_pick" (defArgs s_law_pick) (defBody s_law_pick) (defScope s_law_pick) .none kV3 dc3 pm3 an3 cd3 ct3), sl3⟩)
    (c3 : PySem.W.codeIn K cd3 "_law_pick" = true)
    (k3 : PySem.W.keepIn K (.ref f3) = true)
    {od4 an4 : Option Addr} {sl4 : Array (Option Value)} {oc4 kV4 dc4 pm4 cd4 ct4 : Value}
    (a4 : PySem.W.nsIn K mainGlobals "_law_small_scene" = some (some (.ref f4)))
    (l4 : K.lookup f4 = some ⟨oc4, od4, .func (PySem.W.fnOf "_law_small_scene" "_law_small_scene" (defArgs s_law_small_scene) (defBody s_law_small_scene) (defScope s_law_small_scene) .none kV4 dc4 pm4 an4 cd4 ct4), sl4⟩)
    (c4 : PySem.W.codeIn K cd4 "_law_small_scene" = true)
    (k4 : PySem.W.keepIn K (.ref f4) = true)
    {od5 an5 : Option Addr} {sl5 : Array (Option Value)} {oc5 kV5 dc5 pm5 cd5 ct5 : Value}
    (a5 : PySem.W.findIn K (.ref c_Flow) "__init__" = some (some (.ref f5)))
    (n5 : PySem.W.isFn K (.ref f5) = true)
    {T5 : Addr} {Td5 : Option Addr} {Tc5 : Value} {Tn5 : Nat} {Ts5 : Array (Option Value)}
    (l5 : K.lookup f5 = some ⟨oc5, od5, .func (PySem.W.fnOf "__init__" "Flow.__init__" (defArgs s_Flow__init) (defBody s_Flow__init) (defScope s_Flow__init) (.ref T5) kV5 dc5 pm5 an5 cd5 ct5), sl5⟩)
    (lT5 : K.lookup T5 = some ⟨Tc5, Td5, .seq #[.none] Tn5, Ts5⟩)
    (c5 : PySem.W.codeIn K cd5 "Flow.__init__" = true)
    (k5 : PySem.W.keepIn K (.ref f5) = true)
    {od6 an6 : Option Addr} {sl6 : Array (Option Value)} {oc6 kV6 dc6 pm6 cd6 ct6 : Value}
    (a6 : PySem.W.findIn K (.ref c_Jar) "__init__" = some (some (.ref f6)))
    (n6 : PySem.W.isFn K (.ref f6) = true)
    (l6 : K.lookup f6 = some ⟨oc6, od6, .func (PySem.W.fnOf "__init__" "Jar.__init__" (defArgs s_Jar__init) (defBody s_Jar__init) (defScope s_Jar__init) .none kV6 dc6 pm6 an6 cd6 ct6), sl6⟩)
    (c6 : PySem.W.codeIn K cd6 "Jar.__init__" = true)
    (k6 : PySem.W.keepIn K (.ref f6) = true)
    {od7 an7 : Option Addr} {sl7 : Array (Option Value)} {oc7 kV7 dc7 pm7 cd7 ct7 : Value}
    (a7 : PySem.W.findIn K (.ref c_Scene) "__init__" = some (some (.ref f7)))
    (n7 : PySem.W.isFn K (.ref f7) = true)
    {T7 : Addr} {Td7 : Option Addr} {Tc7 : Value} {Tn7 : Nat} {Ts7 : Array (Option Value)}
    (l7 : K.lookup f7 = some ⟨oc7, od7, .func (PySem.W.fnOf "__init__" "Scene.__init__" (defArgs s_Scene__init) (defBody s_Scene__init) (defScope s_Scene__init) (.ref T7) kV7 dc7 pm7 an7 cd7 ct7), sl7⟩)
    {tt7_0 : Tok}
    (lT7 : K.lookup T7 = some ⟨Tc7, Td7, .seq #[(.int 0 tt7_0)] Tn7, Ts7⟩)
    (c7 : PySem.W.codeIn K cd7 "Scene.__init__" = true)
    (k7 : PySem.W.keepIn K (.ref f7) = true)
    {od8 an8 : Option Addr} {sl8 : Array (Option Value)} {oc8 kV8 dc8 pm8 cd8 ct8 : Value}
    (a8 : PySem.W.nsIn K mainGlobals "_law_made" = some (some (.ref f8)))
    (l8 : K.lookup f8 = some ⟨oc8, od8, .func (PySem.W.fnOf "_law_made" "_law_made" (defArgs s_law_made) (defBody s_law_made) (defScope s_law_made) .none kV8 dc8 pm8 an8 cd8 ct8), sl8⟩)
    (c8 : PySem.W.codeIn K cd8 "_law_made" = true)
    (k8 : PySem.W.keepIn K (.ref f8) = true)
    {od9 an9 : Option Addr} {sl9 : Array (Option Value)} {oc9 kV9 dc9 pm9 cd9 ct9 : Value}
    (a9 : PySem.W.findIn K (.ref c_Scene) "ask_rows" = some (some (.ref f9)))
    (n9 : PySem.W.isFn K (.ref f9) = true)
    (l9 : K.lookup f9 = some ⟨oc9, od9, .func (PySem.W.fnOf "ask_rows" "Scene.ask_rows" (defArgs s_Scene_ask_rows) (defBody s_Scene_ask_rows) (defScope s_Scene_ask_rows) .none kV9 dc9 pm9 an9 cd9 ct9), sl9⟩)
    (c9 : PySem.W.codeIn K cd9 "Scene.ask_rows" = true)
    (k9 : PySem.W.keepIn K (.ref f9) = true)
    {od10 an10 : Option Addr} {sl10 : Array (Option Value)} {oc10 kV10 dc10 pm10 cd10 ct10 : Value}
    (a10 : PySem.W.findIn K (.ref c_Scene) "known_rows" = some (some (.ref f10)))
    (n10 : PySem.W.isFn K (.ref f10) = true)
    (l10 : K.lookup f10 = some ⟨oc10, od10, .func (PySem.W.fnOf "known_rows" "Scene.known_rows" (defArgs s_Scene_known_rows) (defBody s_Scene_known_rows) (defScope s_Scene_known_rows) .none kV10 dc10 pm10 an10 cd10 ct10), sl10⟩)
    (c10 : PySem.W.codeIn K cd10 "Scene.known_rows" = true)
    (k10 : PySem.W.keepIn K (.ref f10) = true)
    {od11 an11 : Option Addr} {sl11 : Array (Option Value)} {oc11 kV11 dc11 pm11 cd11 ct11 : Value}
    (a11 : PySem.W.nsIn K mainGlobals "quiet" = some (some (.ref f11)))
    (l11 : K.lookup f11 = some ⟨oc11, od11, .func (PySem.W.fnOf "quiet" "quiet" (defArgs s_quiet) (defBody s_quiet) (defScope s_quiet) .none kV11 dc11 pm11 an11 cd11 ct11), sl11⟩)
    (c11 : PySem.W.codeIn K cd11 "quiet" = true)
    (k11 : PySem.W.keepIn K (.ref f11) = true)
    {od12 an12 : Option Addr} {sl12 : Array (Option Value)} {oc12 kV12 dc12 pm12 cd12 ct12 : Value}
    (a12 : PySem.W.nsIn K mainGlobals "starts" = some (some (.ref f12)))
    (l12 : K.lookup f12 = some ⟨oc12, od12, .func (PySem.W.fnOf "starts" "starts" (defArgs s_starts) (defBody s_starts) (defScope s_starts) .none kV12 dc12 pm12 an12 cd12 ct12), sl12⟩)
    (c12 : PySem.W.codeIn K cd12 "starts" = true)
    (k12 : PySem.W.keepIn K (.ref f12) = true)
    {od13 an13 : Option Addr} {sl13 : Array (Option Value)} {oc13 kV13 dc13 pm13 cd13 ct13 : Value}
    (a13 : PySem.W.nsIn K mainGlobals "window" = some (some (.ref f13)))
    (l13 : K.lookup f13 = some ⟨oc13, od13, .func (PySem.W.fnOf "window" "window" (defArgs s_window) (defBody s_window) (defScope s_window) .none kV13 dc13 pm13 an13 cd13 ct13), sl13⟩)
    (c13 : PySem.W.codeIn K cd13 "window" = true)
    (k13 : PySem.W.keepIn K (.ref f13) = true)
    {od14 an14 : Option Addr} {sl14 : Array (Option Value)} {oc14 kV14 dc14 pm14 cd14 ct14 : Value}
    (a14 : PySem.W.findIn K (.ref c_Flow) "ahead" = some (some (.ref f14)))
    (n14 : PySem.W.isFn K (.ref f14) = true)
    (l14 : K.lookup f14 = some ⟨oc14, od14, .func (PySem.W.fnOf "ahead" "Flow.ahead" (defArgs s_Flow_ahead) (defBody s_Flow_ahead) (defScope s_Flow_ahead) .none kV14 dc14 pm14 an14 cd14 ct14), sl14⟩)
    (c14 : PySem.W.codeIn K cd14 "Flow.ahead" = true)
    (k14 : PySem.W.keepIn K (.ref f14) = true)
    {od15 an15 : Option Addr} {sl15 : Array (Option Value)} {oc15 kV15 dc15 pm15 cd15 ct15 : Value}
    (a15 : PySem.W.nsIn K mainGlobals "lasts" = some (some (.ref f15)))
    (l15 : K.lookup f15 = some ⟨oc15, od15, .func (PySem.W.fnOf "lasts" "lasts" (defArgs s_lasts) (defBody s_lasts) (defScope s_lasts) .none kV15 dc15 pm15 an15 cd15 ct15), sl15⟩)
    (c15 : PySem.W.codeIn K cd15 "lasts" = true)
    (k15 : PySem.W.keepIn K (.ref f15) = true)
    {od16 an16 : Option Addr} {sl16 : Array (Option Value)} {oc16 kV16 dc16 pm16 cd16 ct16 : Value}
    (a16 : PySem.W.findIn K (.ref c_Flow) "most" = some (some (.ref f16)))
    (n16 : PySem.W.isFn K (.ref f16) = true)
    (l16 : K.lookup f16 = some ⟨oc16, od16, .func (PySem.W.fnOf "most" "Flow.most" (defArgs s_Flow_most) (defBody s_Flow_most) (defScope s_Flow_most) .none kV16 dc16 pm16 an16 cd16 ct16), sl16⟩)
    (c16 : PySem.W.codeIn K cd16 "Flow.most" = true)
    (k16 : PySem.W.keepIn K (.ref f16) = true)
    {od17 an17 : Option Addr} {sl17 : Array (Option Value)} {oc17 kV17 dc17 pm17 cd17 ct17 : Value}
    (a17 : PySem.W.nsIn K mainGlobals "comes_in" = some (some (.ref f17)))
    (l17 : K.lookup f17 = some ⟨oc17, od17, .func (PySem.W.fnOf "comes_in" "comes_in" (defArgs s_comes_in) (defBody s_comes_in) (defScope s_comes_in) .none kV17 dc17 pm17 an17 cd17 ct17), sl17⟩)
    (c17 : PySem.W.codeIn K cd17 "comes_in" = true)
    (k17 : PySem.W.keepIn K (.ref f17) = true)
    {od18 an18 : Option Addr} {sl18 : Array (Option Value)} {oc18 kV18 dc18 pm18 cd18 ct18 : Value}
    (a18 : PySem.W.findIn K (.ref c_Scene) "holds" = some (some (.ref f18)))
    (n18 : PySem.W.isFn K (.ref f18) = true)
    (l18 : K.lookup f18 = some ⟨oc18, od18, .func (PySem.W.fnOf "holds" "Scene.holds" (defArgs s_Scene_holds) (defBody s_Scene_holds) (defScope s_Scene_holds) .none kV18 dc18 pm18 an18 cd18 ct18), sl18⟩)
    (c18 : PySem.W.codeIn K cd18 "Scene.holds" = true)
    (k18 : PySem.W.keepIn K (.ref f18) = true)
    {od19 an19 : Option Addr} {sl19 : Array (Option Value)} {oc19 kV19 dc19 pm19 cd19 ct19 : Value}
    (a19 : PySem.W.nsIn K mainGlobals "room" = some (some (.ref f19)))
    (l19 : K.lookup f19 = some ⟨oc19, od19, .func (PySem.W.fnOf "room" "room" (defArgs s_room) (defBody s_room) (defScope s_room) .none kV19 dc19 pm19 an19 cd19 ct19), sl19⟩)
    (c19 : PySem.W.codeIn K cd19 "room" = true)
    (k19 : PySem.W.keepIn K (.ref f19) = true)
    {od20 an20 : Option Addr} {sl20 : Array (Option Value)} {oc20 kV20 dc20 pm20 cd20 ct20 : Value}
    (a20 : PySem.W.nsIn K mainGlobals "_law_whole" = some (some (.ref f20)))
    (l20 : K.lookup f20 = some ⟨oc20, od20, .func (PySem.W.fnOf "_law_whole" "_law_whole" (defArgs s_law_whole) (defBody s_law_whole) (defScope s_law_whole) .none kV20 dc20 pm20 an20 cd20 ct20), sl20⟩)
    (c20 : PySem.W.codeIn K cd20 "_law_whole" = true)
    (k20 : PySem.W.keepIn K (.ref f20) = true)
    {od21 an21 : Option Addr} {sl21 : Array (Option Value)} {oc21 kV21 dc21 pm21 cd21 ct21 : Value}
    (a21 : PySem.W.nsIn K mainGlobals "_law_is_room" = some (some (.ref f21)))
    (l21 : K.lookup f21 = some ⟨oc21, od21, .func (PySem.W.fnOf "_law_is_room" "_law_is_room" (defArgs s_law_is_room) (defBody s_law_is_room) (defScope s_law_is_room) .none kV21 dc21 pm21 an21 cd21 ct21), sl21⟩)
    (c21 : PySem.W.codeIn K cd21 "_law_is_room" = true)
    (k21 : PySem.W.keepIn K (.ref f21) = true)
    {od22 an22 : Option Addr} {sl22 : Array (Option Value)} {oc22 kV22 dc22 pm22 cd22 ct22 : Value}
    (a22 : PySem.W.findIn K (.ref c_Flow) "mouthfuls" = some (some (.ref f22)))
    (n22 : PySem.W.isFn K (.ref f22) = true)
    (l22 : K.lookup f22 = some ⟨oc22, od22, .func (PySem.W.fnOf "mouthfuls" "Flow.mouthfuls" (defArgs s_Flow_mouthfuls) (defBody s_Flow_mouthfuls) (defScope s_Flow_mouthfuls) .none kV22 dc22 pm22 an22 cd22 ct22), sl22⟩)
    (c22 : PySem.W.codeIn K cd22 "Flow.mouthfuls" = true)
    (k22 : PySem.W.keepIn K (.ref f22) = true)
    {od23 an23 : Option Addr} {sl23 : Array (Option Value)} {oc23 kV23 dc23 pm23 cd23 ct23 : Value}
    (a23 : PySem.W.nsIn K mainGlobals "joined" = some (some (.ref f23)))
    (l23 : K.lookup f23 = some ⟨oc23, od23, .func (PySem.W.fnOf "joined" "joined" (defArgs s_joined) (defBody s_joined) (defScope s_joined) .none kV23 dc23 pm23 an23 cd23 ct23), sl23⟩)
    (c23 : PySem.W.codeIn K cd23 "joined" = true)
    (k23 : PySem.W.keepIn K (.ref f23) = true)
    {od24 an24 : Option Addr} {sl24 : Array (Option Value)} {oc24 kV24 dc24 pm24 cd24 ct24 : Value}
    (a24 : PySem.W.findIn K (.ref c_Flow) "bursts" = some (some (.ref f24)))
    (n24 : PySem.W.isFn K (.ref f24) = true)
    (l24 : K.lookup f24 = some ⟨oc24, od24, .func (PySem.W.fnOf "bursts" "Flow.bursts" (defArgs s_Flow_bursts) (defBody s_Flow_bursts) (defScope s_Flow_bursts) .none kV24 dc24 pm24 an24 cd24 ct24), sl24⟩)
    (c24 : PySem.W.codeIn K cd24 "Flow.bursts" = true)
    (k24 : PySem.W.keepIn K (.ref f24) = true)
    {od25 an25 : Option Addr} {sl25 : Array (Option Value)} {oc25 kV25 dc25 pm25 cd25 ct25 : Value}
    (a25 : PySem.W.nsIn K mainGlobals "swell" = some (some (.ref f25)))
    (l25 : K.lookup f25 = some ⟨oc25, od25, .func (PySem.W.fnOf "swell" "swell" (defArgs s_swell) (defBody s_swell) (defScope s_swell) .none kV25 dc25 pm25 an25 cd25 ct25), sl25⟩)
    (c25 : PySem.W.codeIn K cd25 "swell" = true)
    (k25 : PySem.W.keepIn K (.ref f25) = true)
    {od26 an26 : Option Addr} {sl26 : Array (Option Value)} {oc26 kV26 dc26 pm26 cd26 ct26 : Value}
    (a26 : PySem.W.findIn K (.ref c_Jar) "told" = some (some (.ref f26)))
    (n26 : PySem.W.isFn K (.ref f26) = true)
    (l26 : K.lookup f26 = some ⟨oc26, od26, .func (PySem.W.fnOf "told" "Jar.told" (defArgs s_Jar_told) (defBody s_Jar_told) (defScope s_Jar_told) .none kV26 dc26 pm26 an26 cd26 ct26), sl26⟩)
    (c26 : PySem.W.codeIn K cd26 "Jar.told" = true)
    (k26 : PySem.W.keepIn K (.ref f26) = true)
    {od27 an27 : Option Addr} {sl27 : Array (Option Value)} {oc27 kV27 dc27 pm27 cd27 ct27 : Value}
    (a27 : PySem.W.findIn K (.ref c_Flow) "fits" = some (some (.ref f27)))
    (n27 : PySem.W.isFn K (.ref f27) = true)
    (l27 : K.lookup f27 = some ⟨oc27, od27, .func (PySem.W.fnOf "fits" "Flow.fits" (defArgs s_Flow_fits) (defBody s_Flow_fits) (defScope s_Flow_fits) .none kV27 dc27 pm27 an27 cd27 ct27), sl27⟩)
    (c27 : PySem.W.codeIn K cd27 "Flow.fits" = true)
    (k27 : PySem.W.keepIn K (.ref f27) = true)
    {od28 an28 : Option Addr} {sl28 : Array (Option Value)} {oc28 kV28 dc28 pm28 cd28 ct28 : Value}
    (a28 : PySem.W.nsIn K mainGlobals "_law_fit" = some (some (.ref f28)))
    (l28 : K.lookup f28 = some ⟨oc28, od28, .func (PySem.W.fnOf "_law_fit" "_law_fit" (defArgs s_law_fit) (defBody s_law_fit) (defScope s_law_fit) .none kV28 dc28 pm28 an28 cd28 ct28), sl28⟩)
    (c28 : PySem.W.codeIn K cd28 "_law_fit" = true)
    (k28 : PySem.W.keepIn K (.ref f28) = true)
    {od29 an29 : Option Addr} {sl29 : Array (Option Value)} {oc29 kV29 dc29 pm29 cd29 ct29 : Value}
    (a29 : PySem.W.nsIn K mainGlobals "_law_met" = some (some (.ref f29)))
    (l29 : K.lookup f29 = some ⟨oc29, od29, .func (PySem.W.fnOf "_law_met" "_law_met" (defArgs s_law_met) (defBody s_law_met) (defScope s_law_met) .none kV29 dc29 pm29 an29 cd29 ct29), sl29⟩)
    (c29 : PySem.W.codeIn K cd29 "_law_met" = true)
    (k29 : PySem.W.keepIn K (.ref f29) = true)
    {od30 an30 : Option Addr} {sl30 : Array (Option Value)} {oc30 kV30 dc30 pm30 cd30 ct30 : Value}
    (a30 : PySem.W.nsIn K mainGlobals "_law_stood" = some (some (.ref f30)))
    (l30 : K.lookup f30 = some ⟨oc30, od30, .func (PySem.W.fnOf "_law_stood" "_law_stood" (defArgs s_law_stood) (defBody s_law_stood) (defScope s_law_stood) .none kV30 dc30 pm30 an30 cd30 ct30), sl30⟩)
    (c30 : PySem.W.codeIn K cd30 "_law_stood" = true)
    (k30 : PySem.W.keepIn K (.ref f30) = true)
    {od31 an31 : Option Addr} {sl31 : Array (Option Value)} {oc31 kV31 dc31 pm31 cd31 ct31 : Value}
    (a31 : PySem.W.nsIn K mainGlobals "_law_highest" = some (some (.ref f31)))
    (l31 : K.lookup f31 = some ⟨oc31, od31, .func (PySem.W.fnOf "_law_highest" "_law_highest" (defArgs s_law_highest) (defBody s_law_highest) (defScope s_law_highest) .none kV31 dc31 pm31 an31 cd31 ct31), sl31⟩)
    (c31 : PySem.W.codeIn K cd31 "_law_highest" = true)
    (k31 : PySem.W.keepIn K (.ref f31) = true)
    {kc32 : Addr} {od32 an32 : Option Addr} {sl32 : Array (Option Value)} {oc32 kV32 dc32 pm32 ct32 : Value}
    (a32 : PySem.W.nsIn K mainGlobals "law" = some (some (.ref f32)))
    (l32 : K.lookup f32 = some ⟨oc32, od32, .func (PySem.W.fnOf "law" "law" (defArgs s_law) (defBody s_law) (defScope s_law) .none kV32 dc32 pm32 an32 (.ref kc32) ct32), sl32⟩)
    (c32 : PySem.W.codeIn K (.ref kc32) "law" = true)
    (k32 : PySem.W.keepIn K (.ref f32) = true)
    (th32 : PySem.W.codeHdIn K kc32 tb_law = true)
    (tn32 : K.lookup tb_law = none)
    (tt32 : K.lookup tb_law = none → h.get? tb_law = some (PySem.W.tabObj #[]))
    (tnd : ([tb_law] : List Addr).Nodup)
    (z_len : PySem.W.nsIn K mainGlobals "len" = some none)
    (z_range : PySem.W.nsIn K mainGlobals "range" = some none)
    (z_sum : PySem.W.nsIn K mainGlobals "sum" = some none)
    (z_max : PySem.W.nsIn K mainGlobals "max" = some none)
    (pg_Jar : PySem.W.plainGet K c_Jar Str.empty = true)
    (hd_Jar : PySem.W.hasDictIn K c_Jar = true)
    (po_Jar : PySem.W.plainOver K c_Jar = true)
    (sa_Jar : PySem.W.findIn K (.ref c_Jar) "__setattr__" = some (some (.builtin "object.__setattr__")))
    (yA_Jar_size : PySem.W.findIn K (.ref c_Jar) "size" = some none)
    (xk_NoJar : PySem.W.keepIn K (.ref c_NoJar) = true)
    (xs_NoJar : PySem.W.subIn K (.ref c_NoJar) (.type "BaseException") = some true)
    (xt_NoJar : PySem.W.typeIn K (.ref c_NoJar) = some (.type "type"))
    (xq_NoJar : PySem.W.excIn K c_NoJar [.type "ValueError", .type "Exception", .type "BaseException", .type "object"] "ValueError.__new__" = true)
    (pg_Flow : PySem.W.plainGet K c_Flow Str.empty = true)
    (hd_Flow : PySem.W.hasDictIn K c_Flow = true)
    (po_Flow : PySem.W.plainOver K c_Flow = true)
    (sa_Flow : PySem.W.findIn K (.ref c_Flow) "__setattr__" = some (some (.builtin "object.__setattr__")))
    (yA_Flow_jar : PySem.W.findIn K (.ref c_Flow) "jar" = some none)
    (yA_Flow_marks : PySem.W.findIn K (.ref c_Flow) "marks" = some none)
    {t_MOST : Tok}
    (v_MOST : PySem.W.nsIn K mainGlobals "MOST" = some (some (.int 1000000000 t_MOST)))
    (yA_Jar_rate : PySem.W.findIn K (.ref c_Jar) "rate" = some none)
    (yA_Jar_mouth : PySem.W.findIn K (.ref c_Jar) "mouth" = some none)
    (pg_Scene : PySem.W.plainGet K c_Scene Str.empty = true)
    (hd_Scene : PySem.W.hasDictIn K c_Scene = true)
    (po_Scene : PySem.W.plainOver K c_Scene = true)
    (sa_Scene : PySem.W.findIn K (.ref c_Scene) "__setattr__" = some (some (.builtin "object.__setattr__")))
    (yA_Scene_width : PySem.W.findIn K (.ref c_Scene) "width" = some none)
    (yA_Scene_now : PySem.W.findIn K (.ref c_Scene) "now" = some none)
    (yA_Scene_opens : PySem.W.findIn K (.ref c_Scene) "opens" = some none)
    (yA_Scene_sure : PySem.W.findIn K (.ref c_Scene) "sure" = some none)
    (yA_Scene_open_asks : PySem.W.findIn K (.ref c_Scene) "open_asks" = some none)
    (mk_Flow : PySem.W.makesIn K c_Flow = true)
    (mkk_Flow : PySem.W.keepIn K (.ref c_Flow) = true)
    (mk_Jar : PySem.W.makesIn K c_Jar = true)
    (mkk_Jar : PySem.W.keepIn K (.ref c_Jar) = true)
    (mk_Scene : PySem.W.makesIn K c_Scene = true)
    (mkk_Scene : PySem.W.keepIn K (.ref c_Scene) = true)
    (z_list : PySem.W.nsIn K mainGlobals "list" = some none)
    (z_sorted : PySem.W.nsIn K mainGlobals "sorted" = some none)
    (z_set : PySem.W.nsIn K mainGlobals "set" = some none)
    (xk_NoTick : PySem.W.keepIn K (.ref c_NoTick) = true)
    (xs_NoTick : PySem.W.subIn K (.ref c_NoTick) (.type "BaseException") = some true)
    (xt_NoTick : PySem.W.typeIn K (.ref c_NoTick) = some (.type "type"))
    (xq_NoTick : PySem.W.excIn K c_NoTick [.type "ValueError", .type "Exception", .type "BaseException", .type "object"] "ValueError.__new__" = true)
    (z_min : PySem.W.nsIn K mainGlobals "min" = some none)
    (z_isinstance : PySem.W.nsIn K mainGlobals "isinstance" = some none)
    (z_int : PySem.W.nsIn K mainGlobals "int" = some none)
    (z_bool : PySem.W.nsIn K mainGlobals "bool" = some none)
    (z_tuple : PySem.W.nsIn K mainGlobals "tuple" = some none)
    (z_all : PySem.W.nsIn K mainGlobals "all" = some none)
    (z_enumerate : PySem.W.nsIn K mainGlobals "enumerate" = some none)
    : LamX.LawAtS l w K (L2.CX l.prog w) 7 63 "_law_script" mg fa h := by
  have e := hfa.symm.trans (PySem.W.mg_of X G a32)
  cases e
  have G_len : mg "len" = none := PySem.W.mg_none_of X G z_len
  have G_range : mg "range" = none := PySem.W.mg_none_of X G z_range
  have G_sum : mg "sum" = none := PySem.W.mg_none_of X G z_sum
  have G_max : mg "max" = none := PySem.W.mg_none_of X G z_max
  have CL_Jar : Cls K c_Jar := ⟨pg_Jar, hd_Jar, po_Jar, sa_Jar⟩
  have A_Jar_size : FldP K c_Jar "size" := ⟨CL_Jar, yA_Jar_size⟩
  have X_NoJar : Ex0 K mg "NoJar" c_NoJar := ⟨PySem.W.mg_of X G ac_NoJar, xq_NoJar, xk_NoJar, xs_NoJar, xt_NoJar⟩
  have CL_Flow : Cls K c_Flow := ⟨pg_Flow, hd_Flow, po_Flow, sa_Flow⟩
  have A_Flow_jar : FldP K c_Flow "jar" := ⟨CL_Flow, yA_Flow_jar⟩
  have A_Flow_marks : FldP K c_Flow "marks" := ⟨CL_Flow, yA_Flow_marks⟩
  have C_MOST : ∃ t, mg "MOST" = some (.int 1000000000 t) := ⟨_, PySem.W.mg_of X G v_MOST⟩
  have A_Jar_rate : FldP K c_Jar "rate" := ⟨CL_Jar, yA_Jar_rate⟩
  have A_Jar_mouth : FldP K c_Jar "mouth" := ⟨CL_Jar, yA_Jar_mouth⟩
  have CL_Scene : Cls K c_Scene := ⟨pg_Scene, hd_Scene, po_Scene, sa_Scene⟩
  have A_Scene_width : FldP K c_Scene "width" := ⟨CL_Scene, yA_Scene_width⟩
  have A_Scene_now : FldP K c_Scene "now" := ⟨CL_Scene, yA_Scene_now⟩
  have A_Scene_opens : FldP K c_Scene "opens" := ⟨CL_Scene, yA_Scene_opens⟩
  have A_Scene_sure : FldP K c_Scene "sure" := ⟨CL_Scene, yA_Scene_sure⟩
  have A_Scene_open_asks : FldP K c_Scene "open_asks" := ⟨CL_Scene, yA_Scene_open_asks⟩
  have G_list : mg "list" = none := PySem.W.mg_none_of X G z_list
  have G_sorted : mg "sorted" = none := PySem.W.mg_none_of X G z_sorted
  have G_set : mg "set" = none := PySem.W.mg_none_of X G z_set
  have X_NoTick : Ex0 K mg "NoTick" c_NoTick := ⟨PySem.W.mg_of X G ac_NoTick, xq_NoTick, xk_NoTick, xs_NoTick, xt_NoTick⟩
  have G_min : mg "min" = none := PySem.W.mg_none_of X G z_min
  have G_isinstance : mg "isinstance" = none := PySem.W.mg_none_of X G z_isinstance
  have G_int : mg "int" = none := PySem.W.mg_none_of X G z_int
  have G_bool : mg "bool" = none := PySem.W.mg_none_of X G z_bool
  have G_tuple : mg "tuple" = none := PySem.W.mg_none_of X G z_tuple
  have G_all : mg "all" = none := PySem.W.mg_none_of X G z_all
  have G_enumerate : mg "enumerate" = none := PySem.W.mg_none_of X G z_enumerate
  have F1 := fun_mk (st := s_law_begun) l1 c1 k1
  have b1 := F1.binds (ps := ["_law_script"]) fun _ _ _ _ _ _ us hl => match us, hl with | [_], _ => rfl
  have F2 := fun_mk (st := s_law_take) l2 c2 k2
  have b2 := F2.binds (ps := ["_law_state", "_law_many"]) fun _ _ _ _ _ _ us hl => match us, hl with | [_, _], _ => rfl
  have F3 := fun_mk (st := s_law_pick) l3 c3 k3
  have b3 := F3.binds (ps := ["_law_state", "_law_some"]) fun _ _ _ _ _ _ us hl => match us, hl with | [_, _], _ => rfl
  have F4 := fun_mk (st := s_law_small_scene) l4 c4 k4
  have b4 := F4.binds (ps := ["_law_state"]) fun _ _ _ _ _ _ us hl => match us, hl with | [_], _ => rfl
  have F5 := fung_mk (st := s_Flow__init) l5 c5
  have F6 := fung_mk (st := s_Jar__init) l6 c6
  have F7 := fung_mk (st := s_Scene__init) l7 c7
  have F8 := fung_mk (st := s_law_made) l8 c8
  have F9 := fung_mk (st := s_Scene_ask_rows) l9 c9
  have F10 := fung_mk (st := s_Scene_known_rows) l10 c10
  have F11 := fung_mk (st := s_quiet) l11 c11
  have F12 := fung_mk (st := s_starts) l12 c12
  have F13 := fung_mk (st := s_window) l13 c13
  have F14 := fung_mk (st := s_Flow_ahead) l14 c14
  have F15 := fung_mk (st := s_lasts) l15 c15
  have F16 := fung_mk (st := s_Flow_most) l16 c16
  have F17 := fung_mk (st := s_comes_in) l17 c17
  have F18 := fung_mk (st := s_Scene_holds) l18 c18
  have F19 := fung_mk (st := s_room) l19 c19
  have F20 := fun_mk (st := s_law_whole) l20 c20 k20
  have b20 := F20.binds (ps := ["_law_thing"]) fun _ _ _ _ _ _ us hl => match us, hl with | [_], _ => rfl
  have F21 := fun_mk (st := s_law_is_room) l21 c21 k21
  have b21 := F21.binds (ps := ["_law_told", "_law_now"]) fun _ _ _ _ _ _ us hl => match us, hl with | [_, _], _ => rfl
  have F22 := fung_mk (st := s_Flow_mouthfuls) l22 c22
  have F23 := fung_mk (st := s_joined) l23 c23
  have F24 := fung_mk (st := s_Flow_bursts) l24 c24
  have F25 := fung_mk (st := s_swell) l25 c25
  have F26 := fung_mk (st := s_Jar_told) l26 c26
  have F27 := fung_mk (st := s_Flow_fits) l27 c27
  have F28 := fung_mk (st := s_law_fit) l28 c28
  have F29 := fun_mk (st := s_law_met) l29 c29 k29
  have b29 := F29.binds (ps := ["_law_parts", "_law_rows", "_law_first", "_law_last"]) fun _ _ _ _ _ _ us hl => match us, hl with | [_, _, _, _], _ => rfl
  have F30 := fun_mk (st := s_law_stood) l30 c30 k30
  have b30 := F30.binds (ps := ["_law_parts", "_law_rows", "_law_last"]) fun _ _ _ _ _ _ us hl => match us, hl with | [_, _, _], _ => rfl
  have F31 := fung_mk (st := s_law_highest) l31 c31
  have F32 := fung_mk (st := s_law) l32 c32
  refine ⟨PySem.W.fnOf "law" "law" (defArgs s_law) (defBody s_law) (defScope s_law) .none kV32 dc32 pm32 an32 (.ref kc32) ct32, [(kc32, tb_law)], liftE ((pLawT (tbs tb_law) K)), (List.forall_mem_cons.mpr ⟨tt32 tn32, (fun _ h => nomatch h)⟩), (List.forall_mem_cons.mpr ⟨tn32, (fun _ h => nomatch h)⟩), (List.forall_mem_cons.mpr ⟨PySem.W.codeHd_of_K X th32, (fun _ h => nomatch h)⟩), fun s v => .of_eq rfl, fun H a ns hl _ hT hS => law_startT tnd (List.forall_mem_cons.mpr ⟨hT (kc32, tb_law) (by simp), (fun _ h => nomatch h)⟩) hl hS, fun base _ _ hTB => ?_⟩
  have O_law_begun : FnOk l.prog w K mg base CX0 1 f1 _ ["_law_script"] (lift (pBegun K)) := d_law_begun F1 
  have O_law_take : FnOk l.prog w K mg base CX0 1 f2 _ ["_law_state", "_law_many"] (lift pTake) := d_law_take F2 G_len
  have D_law_take : Def l.prog w K mg base 1 "_law_take" ["_law_state", "_law_many"] pTake := ⟨_, _, PySem.W.mg_of X G a2, k2, b2, O_law_take⟩
  have O_law_pick : FnOk l.prog w K mg base CX0 2 f3 _ ["_law_state", "_law_some"] (lift pPick) := d_law_pick F3 D_law_take G_len
  have D_law_pick : Def l.prog w K mg base 2 "_law_pick" ["_law_state", "_law_some"] pPick := ⟨_, _, PySem.W.mg_of X G a3, k3, b3, O_law_pick⟩
  have O_law_small_scene : FnOk l.prog w K mg base CX0 3 f4 _ ["_law_state"] (lift pSmall) := d_law_small_scene F4 D_law_take D_law_pick G_range G_sum G_max
  have O_Flow__init : FnOk l.prog w K mg base (L2.CX l.prog w) 1 f5 _ ["self", "jar", "marks"] (liftE (pFlowI c_Flow c_Jar c_NoJar)) := d_Flow__init F5 A_Jar_size X_NoJar A_Flow_jar A_Flow_marks
  have O_Jar__init : FnOk l.prog w K mg base (L2.CX l.prog w) 1 f6 _ ["self", "size", "rate", "mouth"] (liftE (pJarI c_Jar c_NoJar)) := d_Jar__init F6 C_MOST X_NoJar A_Jar_size A_Jar_rate A_Jar_mouth
  have N_Flow_2 : MakeE l.prog w K mg base 1 "Flow" c_Flow 2 [] (selN 3) (pFlowI c_Flow c_Jar c_NoJar) := ⟨⟨f5, PySem.W.mg_of X G ac_Flow, ⟨mk_Flow, a5, n5, mkk_Flow⟩, ⟨⟨_, ["self", "jar", "marks"], ⟨fun s us ws hK h1 h2 => match us, ws, h1, h2 with | [u0, u1, u2], [], _, _ => ⟨[u0, u1, u2], (.at rfl (.at rfl (.at rfl .nil))), (by first | exact .of_eq rfl | exact PySem.W.binds_K hK rfl lT5 rfl rfl rfl)⟩⟩, O_Flow__init⟩⟩⟩⟩
  have O_Scene__init : FnOk l.prog w K mg base (L2.CX l.prog w) 3 f7 _ ["self", "width", "now", "knowns", "asks", "opens"] (liftE (pSceneI c_Scene c_Flow c_Jar)) := d_Scene__init F7 A_Scene_width A_Scene_now A_Scene_opens A_Scene_sure A_Scene_open_asks N_Flow_2 A_Flow_jar A_Flow_marks
  have N_Jar_3 : MakeE l.prog w K mg base 1 "Jar" c_Jar 3 [] (selN 4) (pJarI c_Jar c_NoJar) := ⟨⟨f6, PySem.W.mg_of X G ac_Jar, ⟨mk_Jar, a6, n6, mkk_Jar⟩, ⟨⟨_, ["self", "size", "rate", "mouth"], ⟨fun s us ws hK h1 h2 => match us, ws, h1, h2 with | [u0, u1, u2, u3], [], _, _ => ⟨[u0, u1, u2, u3], (.at rfl (.at rfl (.at rfl (.at rfl .nil)))), .of_eq rfl⟩⟩, O_Jar__init⟩⟩⟩⟩
  have N_Scene_5 : MakeE l.prog w K mg base 3 "Scene" c_Scene 5 [] (selN 6) (pSceneI c_Scene c_Flow c_Jar) := ⟨⟨f7, PySem.W.mg_of X G ac_Scene, ⟨mk_Scene, a7, n7, mkk_Scene⟩, ⟨⟨_, ["self", "width", "now", "knowns", "asks", "opens"], ⟨fun s us ws hK h1 h2 => match us, ws, h1, h2 with | [u0, u1, u2, u3, u4, u5], [], _, _ => ⟨[u0, u1, u2, u3, u4, u5], (.at rfl (.at rfl (.at rfl (.at rfl (.at rfl (.at rfl .nil)))))), (by first | exact .of_eq rfl | exact PySem.W.binds_K hK rfl lT7 rfl rfl rfl)⟩⟩, O_Scene__init⟩⟩⟩⟩
  have O_law_made : FnOk l.prog w K mg base (L2.CX l.prog w) 5 f8 _ ["_law_parts"] (liftE (pMadeF c_Scene c_Flow c_Jar)) := d_law_made F8 N_Flow_2 N_Jar_3 N_Scene_5 G_list
  have O_Scene_ask_rows : FnOk l.prog w K mg base (L2.CX l.prog w) 3 f9 _ ["self"] (liftE (pAskRows c_Scene c_Flow c_Jar)) := d_Scene_ask_rows F9 N_Flow_2 A_Flow_jar A_Flow_marks A_Scene_open_asks
  have O_Scene_known_rows : FnOk l.prog w K mg base (L2.CX l.prog w) 1 f10 _ ["self"] (liftE (pKnownRows c_Scene c_Flow c_Jar)) := d_Scene_known_rows F10 G_list A_Scene_sure
  have M_Scene_known_rows_0 : MethE l.prog w K mg base 1 c_Scene "known_rows" 0 [] (selN 1) (pKnownRows c_Scene c_Flow c_Jar) := ⟨⟨f10, CL_Scene, ⟨a10, n10, k10⟩, ⟨⟨_, ["self"], ⟨fun s us ws hK h1 h2 => match us, ws, h1, h2 with | [u0], [], _, _ => ⟨[u0], (.at rfl .nil), .of_eq rfl⟩⟩, O_Scene_known_rows⟩⟩⟩⟩
  have M_Scene_ask_rows_0 : MethE l.prog w K mg base 3 c_Scene "ask_rows" 0 [] (selN 1) (pAskRows c_Scene c_Flow c_Jar) := ⟨⟨f9, CL_Scene, ⟨a9, n9, k9⟩, ⟨⟨_, ["self"], ⟨fun s us ws hK h1 h2 => match us, ws, h1, h2 with | [u0], [], _, _ => ⟨[u0], (.at rfl .nil), .of_eq rfl⟩⟩, O_Scene_ask_rows⟩⟩⟩⟩
  have O_quiet : FnOk l.prog w K mg base (L2.CX l.prog w) 4 f11 _ ["scene"] (liftE (pQuiet c_Scene c_Flow c_Jar)) := d_quiet F11 G_max A_Scene_now A_Scene_opens M_Scene_known_rows_0 M_Scene_ask_rows_0 A_Jar_size A_Flow_jar A_Flow_marks A_Jar_rate
  have E_quiet_1 : DefE l.prog w K mg base 4 "quiet" 1 [] (selN 1) (pQuiet c_Scene c_Flow c_Jar) := ⟨⟨f11, PySem.W.mg_of X G a11, k11, ⟨⟨_, ["scene"], ⟨fun s us ws hK h1 h2 => match us, ws, h1, h2 with | [u0], [], _, _ => ⟨[u0], (.at rfl .nil), .of_eq rfl⟩⟩, O_quiet⟩⟩⟩⟩
  have O_starts : FnOk l.prog w K mg base (L2.CX l.prog w) 5 f12 _ ["scene"] (liftE (pStartsR c_Scene c_Flow c_Jar)) := d_starts F12 G_sorted G_set A_Scene_now E_quiet_1 M_Scene_known_rows_0
  have O_window : FnOk l.prog w K mg base (L2.CX l.prog w) 1 f13 _ ["now", "first", "last"] (liftE pWindow) := d_window F13 G_max
  have O_Flow_ahead : FnOk l.prog w K mg base (L2.CX l.prog w) 1 f14 _ ["self", "ticks"] (liftE (pAhead c_Flow c_Jar c_NoTick)) := d_Flow_ahead F14 X_NoTick G_min A_Jar_size A_Flow_jar A_Flow_marks A_Jar_rate
  have E_window_3 : DefE l.prog w K mg base 1 "window" 3 [] (selN 3) pWindow := ⟨⟨f13, PySem.W.mg_of X G a13, k13, ⟨⟨_, ["now", "first", "last"], ⟨fun s us ws hK h1 h2 => match us, ws, h1, h2 with | [u0, u1, u2], [], _, _ => ⟨[u0, u1, u2], (.at rfl (.at rfl (.at rfl .nil))), .of_eq rfl⟩⟩, O_window⟩⟩⟩⟩
  have M_Flow_ahead_1 : MethE l.prog w K mg base 1 c_Flow "ahead" 1 [] (selN 2) (pAhead c_Flow c_Jar c_NoTick) := ⟨⟨f14, CL_Flow, ⟨a14, n14, k14⟩, ⟨⟨_, ["self", "ticks"], ⟨fun s us ws hK h1 h2 => match us, ws, h1, h2 with | [u0, u1], [], _, _ => ⟨[u0, u1], (.at rfl (.at rfl .nil)), .of_eq rfl⟩⟩, O_Flow_ahead⟩⟩⟩⟩
  have O_lasts : FnOk l.prog w K mg base (L2.CX l.prog w) 4 f15 _ ["scene", "first"] (liftE (pLasts c_Scene c_Flow c_Jar)) := d_lasts F15 A_Scene_opens M_Scene_known_rows_0 M_Scene_ask_rows_0 E_window_3 A_Scene_now M_Flow_ahead_1 A_Flow_jar A_Jar_mouth A_Jar_rate G_sorted G_set
  have O_Flow_most : FnOk l.prog w K mg base (L2.CX l.prog w) 2 f16 _ ["self", "after", "ticks"] (liftE (pMost c_Flow c_Jar c_NoTick)) := d_Flow_most F16 M_Flow_ahead_1 G_min A_Jar_mouth A_Flow_jar A_Jar_rate
  have M_Flow_most_2 : MethE l.prog w K mg base 2 c_Flow "most" 2 [] (selN 3) (pMost c_Flow c_Jar c_NoTick) := ⟨⟨f16, CL_Flow, ⟨a16, n16, k16⟩, ⟨⟨_, ["self", "after", "ticks"], ⟨fun s us ws hK h1 h2 => match us, ws, h1, h2 with | [u0, u1, u2], [], _, _ => ⟨[u0, u1, u2], (.at rfl (.at rfl (.at rfl .nil))), .of_eq rfl⟩⟩, O_Flow_most⟩⟩⟩⟩
  have O_comes_in : FnOk l.prog w K mg base (L2.CX l.prog w) 4 f17 _ ["scene", "first", "last"] (liftE (pComesIn c_Scene c_Flow c_Jar)) := d_comes_in F17 G_sum M_Scene_known_rows_0 M_Scene_ask_rows_0 E_window_3 A_Scene_now M_Flow_most_2
  have O_Scene_holds : FnOk l.prog w K mg base (L2.CX l.prog w) 1 f18 _ ["self", "first", "end"] (liftE (pHolds c_Scene c_Flow c_Jar)) := d_Scene_holds F18 A_Scene_width G_max A_Scene_opens
  have E_starts_1 : DefE l.prog w K mg base 5 "starts" 1 [] (selN 1) (pStartsR c_Scene c_Flow c_Jar) := ⟨⟨f12, PySem.W.mg_of X G a12, k12, ⟨⟨_, ["scene"], ⟨fun s us ws hK h1 h2 => match us, ws, h1, h2 with | [u0], [], _, _ => ⟨[u0], (.at rfl .nil), .of_eq rfl⟩⟩, O_starts⟩⟩⟩⟩
  have E_lasts_2 : DefE l.prog w K mg base 4 "lasts" 2 [] (selN 2) (pLasts c_Scene c_Flow c_Jar) := ⟨⟨f15, PySem.W.mg_of X G a15, k15, ⟨⟨_, ["scene", "first"], ⟨fun s us ws hK h1 h2 => match us, ws, h1, h2 with | [u0, u1], [], _, _ => ⟨[u0, u1], (.at rfl (.at rfl .nil)), .of_eq rfl⟩⟩, O_lasts⟩⟩⟩⟩
  have E_comes_in_3 : DefE l.prog w K mg base 4 "comes_in" 3 [] (selN 3) (pComesIn c_Scene c_Flow c_Jar) := ⟨⟨f17, PySem.W.mg_of X G a17, k17, ⟨⟨_, ["scene", "first", "last"], ⟨fun s us ws hK h1 h2 => match us, ws, h1, h2 with | [u0, u1, u2], [], _, _ => ⟨[u0, u1, u2], (.at rfl (.at rfl (.at rfl .nil))), .of_eq rfl⟩⟩, O_comes_in⟩⟩⟩⟩
  have M_Scene_holds_2 : MethE l.prog w K mg base 1 c_Scene "holds" 2 [] (selN 3) (pHolds c_Scene c_Flow c_Jar) := ⟨⟨f18, CL_Scene, ⟨a18, n18, k18⟩, ⟨⟨_, ["self", "first", "end"], ⟨fun s us ws hK h1 h2 => match us, ws, h1, h2 with | [u0, u1, u2], [], _, _ => ⟨[u0, u1, u2], (.at rfl (.at rfl (.at rfl .nil))), .of_eq rfl⟩⟩, O_Scene_holds⟩⟩⟩⟩
  have O_room : FnOk l.prog w K mg base (L2.CX l.prog w) 6 f19 _ ["scene"] (liftE (pRoom c_Scene c_Flow c_Jar)) := d_room F19 G_sum A_Jar_rate A_Flow_jar M_Scene_ask_rows_0 A_Scene_width A_Scene_now E_starts_1 E_lasts_2 E_comes_in_3 M_Scene_holds_2
  have O_law_whole : FnOk l.prog w K mg base CX0 1 f20 _ ["_law_thing"] (lift pWhole) := d_law_whole F20 G_isinstance G_int G_bool
  have D_law_whole : Def l.prog w K mg base 1 "_law_whole" ["_law_thing"] pWhole := ⟨_, _, PySem.W.mg_of X G a20, k20, b20, O_law_whole⟩
  have O_law_is_room : FnOk l.prog w K mg base CX0 2 f21 _ ["_law_told", "_law_now"] (lift pIsRoom) := d_law_is_room F21 G_isinstance G_tuple G_len G_all D_law_whole
  have O_Flow_mouthfuls : FnOk l.prog w K mg base (L2.CX l.prog w) 1 f22 _ ["self", "marks", "ticks"] (liftE (pMouthfuls c_Flow c_Jar)) := d_Flow_mouthfuls F22 A_Jar_mouth A_Flow_jar A_Jar_rate G_min
  have O_joined : FnOk l.prog w K mg base (L2.CX l.prog w) 1 f23 _ ["first", "parts"] (liftE pJoined) := d_joined F23 
  have M_Flow_mouthfuls_2 : MethE l.prog w K mg base 1 c_Flow "mouthfuls" 2 [] (selN 3) (pMouthfuls c_Flow c_Jar) := ⟨⟨f22, CL_Flow, ⟨a22, n22, k22⟩, ⟨⟨_, ["self", "marks", "ticks"], ⟨fun s us ws hK h1 h2 => match us, ws, h1, h2 with | [u0, u1, u2], [], _, _ => ⟨[u0, u1, u2], (.at rfl (.at rfl (.at rfl .nil))), .of_eq rfl⟩⟩, O_Flow_mouthfuls⟩⟩⟩⟩
  have E_joined_2 : DefE l.prog w K mg base 1 "joined" 2 [] (selN 2) pJoined := ⟨⟨f23, PySem.W.mg_of X G a23, k23, ⟨⟨_, ["first", "parts"], ⟨fun s us ws hK h1 h2 => match us, ws, h1, h2 with | [u0, u1], [], _, _ => ⟨[u0, u1], (.at rfl (.at rfl .nil)), .of_eq rfl⟩⟩, O_joined⟩⟩⟩⟩
  have O_Flow_bursts : FnOk l.prog w K mg base (L2.CX l.prog w) 2 f24 _ ["self", "after", "ticks"] (liftE (pBursts c_Flow c_Jar c_NoTick)) := d_Flow_bursts F24 M_Flow_ahead_1 A_Jar_rate A_Flow_jar A_Jar_mouth M_Flow_mouthfuls_2 E_joined_2
  have M_Flow_bursts_2 : MethE l.prog w K mg base 2 c_Flow "bursts" 2 [] (selN 3) (pBursts c_Flow c_Jar c_NoTick) := ⟨⟨f24, CL_Flow, ⟨a24, n24, k24⟩, ⟨⟨_, ["self", "after", "ticks"], ⟨fun s us ws hK h1 h2 => match us, ws, h1, h2 with | [u0, u1, u2], [], _, _ => ⟨[u0, u1, u2], (.at rfl (.at rfl (.at rfl .nil))), .of_eq rfl⟩⟩, O_Flow_bursts⟩⟩⟩⟩
  have O_swell : FnOk l.prog w K mg base (L2.CX l.prog w) 4 f25 _ ["scene", "first", "last"] (liftE (pSwell c_Scene c_Flow c_Jar)) := d_swell F25 G_enumerate M_Scene_ask_rows_0 E_window_3 A_Scene_now M_Flow_bursts_2
  have O_Jar_told : FnOk l.prog w K mg base (L2.CX l.prog w) 1 f26 _ ["self"] (liftE (pTold c_Jar)) := d_Jar_told F26 A_Jar_size A_Jar_rate A_Jar_mouth
  have M_Jar_told_0 : MethE l.prog w K mg base 1 c_Jar "told" 0 [] (selN 1) (pTold c_Jar) := ⟨⟨f26, CL_Jar, ⟨a26, n26, k26⟩, ⟨⟨_, ["self"], ⟨fun s us ws hK h1 h2 => match us, ws, h1, h2 with | [u0], [], _, _ => ⟨[u0], (.at rfl .nil), .of_eq rfl⟩⟩, O_Jar_told⟩⟩⟩⟩
  have O_Flow_fits : FnOk l.prog w K mg base (L2.CX l.prog w) 2 f27 _ ["self", "rows"] (liftE (pFits c_Flow c_Jar)) := d_Flow_fits F27 M_Jar_told_0 A_Flow_jar A_Flow_marks G_min G_max
  have M_Flow_fits_1 : MethE l.prog w K mg base 2 c_Flow "fits" 1 [] (selN 2) (pFits c_Flow c_Jar) := ⟨⟨f27, CL_Flow, ⟨a27, n27, k27⟩, ⟨⟨_, ["self", "rows"], ⟨fun s us ws hK h1 h2 => match us, ws, h1, h2 with | [u0, u1], [], _, _ => ⟨[u0, u1], (.at rfl (.at rfl .nil)), .of_eq rfl⟩⟩, O_Flow_fits⟩⟩⟩⟩
  have O_law_fit : FnOk l.prog w K mg base (L2.CX l.prog w) 3 f28 _ ["_law_parts", "_law_rows"] (liftE pFitR) := d_law_fit F28 G_isinstance G_list G_tuple G_len G_all D_law_whole G_sorted G_enumerate M_Flow_fits_1 N_Flow_2 N_Jar_3
  have O_law_met : FnOk l.prog w K mg base CX0 1 f29 _ ["_law_parts", "_law_rows", "_law_first", "_law_last"] (lift pMetR) := d_law_met F29 G_sum G_max G_min
  have D_law_met : Def l.prog w K mg base 1 "_law_met" ["_law_parts", "_law_rows", "_law_first", "_law_last"] pMetR := ⟨_, _, PySem.W.mg_of X G a29, k29, b29, O_law_met⟩
  have O_law_stood : FnOk l.prog w K mg base CX0 2 f30 _ ["_law_parts", "_law_rows", "_law_last"] (lift pStood) := d_law_stood F30 G_max D_law_met
  have O_law_highest : FnOk l.prog w K mg base (L2.CX l.prog w) 3 f31 _ ["_law_parts", "_law_turns", "_law_comes"] (liftE (pHigh l.prog w K mg base)) := d_law_highest F31 G_range G_enumerate G_min G_max
  have D_law_begun : Def l.prog w K mg base 1 "_law_begun" ["_law_script"] (pBegun K) := ⟨_, _, PySem.W.mg_of X G a1, k1, b1, O_law_begun⟩
  have D_law_small_scene : Def l.prog w K mg base 3 "_law_small_scene" ["_law_state"] pSmall := ⟨_, _, PySem.W.mg_of X G a4, k4, b4, O_law_small_scene⟩
  have E_law_made_1 : DefE l.prog w K mg base 5 "_law_made" 1 [] (selN 1) (pMadeF c_Scene c_Flow c_Jar) := ⟨⟨f8, PySem.W.mg_of X G a8, k8, ⟨⟨_, ["_law_parts"], ⟨fun s us ws hK h1 h2 => match us, ws, h1, h2 with | [u0], [], _, _ => ⟨[u0], (.at rfl .nil), .of_eq rfl⟩⟩, O_law_made⟩⟩⟩⟩
  have E_room_1 : DefE l.prog w K mg base 6 "room" 1 [] (selN 1) (pRoom c_Scene c_Flow c_Jar) := ⟨⟨f19, PySem.W.mg_of X G a19, k19, ⟨⟨_, ["scene"], ⟨fun s us ws hK h1 h2 => match us, ws, h1, h2 with | [u0], [], _, _ => ⟨[u0], (.at rfl .nil), .of_eq rfl⟩⟩, O_room⟩⟩⟩⟩
  have D_law_is_room : Def l.prog w K mg base 2 "_law_is_room" ["_law_told", "_law_now"] pIsRoom := ⟨_, _, PySem.W.mg_of X G a21, k21, b21, O_law_is_room⟩
  have E_swell_3 : DefE l.prog w K mg base 4 "swell" 3 [] (selN 3) (pSwell c_Scene c_Flow c_Jar) := ⟨⟨f25, PySem.W.mg_of X G a25, k25, ⟨⟨_, ["scene", "first", "last"], ⟨fun s us ws hK h1 h2 => match us, ws, h1, h2 with | [u0, u1, u2], [], _, _ => ⟨[u0, u1, u2], (.at rfl (.at rfl (.at rfl .nil))), .of_eq rfl⟩⟩, O_swell⟩⟩⟩⟩
  have E_law_fit_2 : DefE l.prog w K mg base 3 "_law_fit" 2 [] (selN 2) pFitR := ⟨⟨f28, PySem.W.mg_of X G a28, k28, ⟨⟨_, ["_law_parts", "_law_rows"], ⟨fun s us ws hK h1 h2 => match us, ws, h1, h2 with | [u0, u1], [], _, _ => ⟨[u0, u1], (.at rfl (.at rfl .nil)), .of_eq rfl⟩⟩, O_law_fit⟩⟩⟩⟩
  have D_law_stood : Def l.prog w K mg base 2 "_law_stood" ["_law_parts", "_law_rows", "_law_last"] pStood := ⟨_, _, PySem.W.mg_of X G a30, k30, b30, O_law_stood⟩
  have E_law_highest_3 : DefE l.prog w K mg base 3 "_law_highest" 3 [] (selN 3) (pHigh l.prog w K mg base) := ⟨⟨f31, PySem.W.mg_of X G a31, k31, ⟨⟨_, ["_law_parts", "_law_turns", "_law_comes"], ⟨fun s us ws hK h1 h2 => match us, ws, h1, h2 with | [u0, u1, u2], [], _, _ => ⟨[u0, u1, u2], (.at rfl (.at rfl (.at rfl .nil))), .of_eq rfl⟩⟩, O_law_highest⟩⟩⟩⟩
  exact d_law F32 ⟨kc32, hTB (kc32, tb_law) (by simp), rfl⟩ D_law_begun G_range D_law_small_scene E_law_made_1 E_room_1 G_sum D_law_is_room E_swell_3 E_law_fit_2 D_law_stood E_law_highest_3 G_int D_law_take
end Lw
theorem PySem.Challenge.cw_hourlanes_k71_rooms_met_and_never_passed_holds : PySem.Challenge.rw_hourlanes_k71_rooms_met_and_never_passed.Holds :=
  Lw.pre @Lw.all_mk
