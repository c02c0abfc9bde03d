import PyProof.Rows.All
import Wide.All
import OpenK.AllK
import Wide.FinOn
import HandS.HeadHook1
import HandS.HeadHook2
import HandS.HeadNt
import HandS.Head0
import HandS.Head1
import HandS.Head2
import HandS.HeadEnd
import KE.KSuper
import KE.KExcSuper
import KE.KExcInit
import KE.KTryMore
import HandS.HeadHook3
import HandS.ForMost
import HandS.WordsExc
import HandS.TupAny
import HandS.TupMul
import HandS.Wide
import HandS.Lambda
import HandS.WideBits
import HandS.Deep
import HandS.CallSlots
import HandS.Walk
import HandS.IsInst
import HandS.Property
import HandS.Conv
import HandS.Small
import HandS.WordsDict
import HandS.TupLen
import HandS.Zip
import KE.GoesMore
import KE.GoesEnum
import PyProof.ListStr
import KE.KDictPairs
import HandS.Codes
import HandS.ClsMeth
import HandS.FStr
import HandS.Defaults
import HandS.EndBits
import HandS.SetKeys
import HandS.SetFor
import HandS.Strs
import PyProof.StrWalks
import KE.DatumIndex
import PyProof.CallFns
import PyProof.CollectStr
import KE.KRevSl
import HandS.Style
import HandS.StrMore
import HandS.TupSets
import HandS.NoneIn
import KE.GoesZip
import KE.KDictZip
import PyProof.TupleOfGen
import PyProof.CollectWalk
import PyProof.SumWalkG
import HandS.Exc
import HandS.ExcOwn
import HandS.TryMany
import HandS.HotCalls
import KE.KExcIs
import HandS.ExcField
import HandS.EndTab
import HandS.OwnEq
import PyProof.NeKinds
import PyProof.InstNe
import KE.DatumOrd
import HandS.RaiseMore
import HandS.More
import KE.SortData
import PyProof.ReprDict
import PyProof.Rows.IntBool
import KE.KDflt
import KE.KDictList
import KE.KCallOwn
import KE.KeyNested
import HandS.Nested
import KE.KxText
import PySem.Challenge.RW_oneprior_k01_constants_and_errors
set_option Elab.async false
set_option linter.all false
set_option maxRecDepth 100000
set_option maxHeartbeats 4000000
namespace DP
open PySem PySem.Spec PyProof.Rows L2 He

def tupB1 (K : PySem.W.Frag) (x : Str) (vs : List V) : Bool := match K.lookup (ga K x) with
  | some ⟨.type c, none, .seq its n, sl⟩ => decide (c = "tuple") && (decide (its.size ≤ sizeLine) && relAll vs its.toList)
  | _ => false
def tyNames : List String := ["NoneType", "bool", "int", "str", "tuple", "list", "dict"]
def obsP (ex : PySem.W.Frag → List Bool) (fn : List He5.DefA) (K : PySem.W.Frag) : He.AlD := ((ex K).all id && fn.all fun d => d.ok K, fn.map fun d => He5.fnA K (d.at_ K))
def valP (fn : List He5.DefA) : He.AlD := (true, fn.map He5.DefA.val)
def SaysP (ex : PySem.W.Frag → List Bool) (fn : List He5.DefA) (K : PySem.W.Frag) : Prop := obsP ex fn K = valP fn
def obsPL (as : List Addr) (ex : PySem.W.Frag → List Bool) (fn : List He5.DefA) (g : Addr → Option Obj) : He.AlD := obsP ex fn (frG g as)
def hookL (as : List Addr) (ex : PySem.W.Frag → List Bool) (fn : List He5.DefA) : PySem.W.Hook where
  α := He.AlD
  obs := fun s => obsPL as ex fn s.heap.get?
  val := fun _ => valP fn
  says := fun _ h => ∃ K : PySem.W.Frag, K.In h ∧ SaysP ex fn K
  of := fun _ _ e => ⟨_, frG_in, e⟩
  keeps := fun _ _ _ ⟨K, hK, c⟩ k => ⟨K, PySem.W.Frag.In.keeps hK k, c⟩
theorem obsPL_eq {as : List Addr} {ex : PySem.W.Frag → List Bool} {fn : List He5.DefA} {g : Addr → Option Obj} {s : Shared} (h : ∀ a, g a = s.heap.get? a) : obsPL as ex fn g = (hookL as ex fn).obs s := by
  have e : g = s.heap.get? := funext h
  rw [e] <;> rfl
end DP

set_option Elab.async false
set_option linter.all false
set_option maxRecDepth 100000
set_option maxHeartbeats 4000000
namespace DP
open PySem PySem.Spec PySem.Calls PyProof.Rows L2 PySem.W He

inductive XB | ve | le | ae
def XB.B : XB → String
  | .ve => "ValueError"
  | .le => "LookupError"
  | .ae => "ArithmeticError"
def XB.new : XB → String
  | .ve => "ValueError.__new__"
  | .le => "LookupError.__new__"
  | .ae => "ArithmeticError.__new__"
def XB.ini : XB → String
  | .ve => "ValueError.__init__"
  | .le => "LookupError.__init__"
  | .ae => "ArithmeticError.__init__"
def XB.bm : XB → List Value
  | .ve => [.type "ValueError", .type "Exception", .type "BaseException", .type "object"]
  | .le => [.type "LookupError", .type "Exception", .type "BaseException", .type "object"]
  | .ae => [.type "ArithmeticError", .type "Exception", .type "BaseException", .type "object"]
def xbodyB (f : Str) : List Stmt → Bool
  | [.Expr (.Call (.Attribute (.Call (.Name n _) [] [] _) i p2) [.Name x _] [] p4) _, .Assign [.Attribute (.Name t _) g _] (.Name y _) _] => decide (p2.endLine = p4.line) && (decide (n = "super") && (decide (i = "__init__") && (decide (x = f) && (decide (t = "self") && (decide (g = f) && decide (y = f))))))
  | _ => false
def xparB (f : Str) : Arguments → Bool
  | ⟨[], [a, b], none, [], [], none, []⟩ => decide (a.arg = "self") && decide (b.arg = f)
  | _ => false
def xscB (f : Str) (sc : Scope) : Bool := decide (sc.kind = .function) && (decide (sc.isGenerator = false) && (decide (sc.isCoroutine = false) && (decide (sc.names.lookup ("super" : Str) = some .globalImplicit) && (decide (sc.names.lookup ("__class__" : Str) = some .free) && (decide (sc.names.lookup ("self" : Str) = some .local) && (decide (sc.names.lookup f = some .local) && sc.names.all fun x => decide (x.2 ≠ .cell)))))))
def xfileB (K : PySem.W.Frag) (cdv : Value) (file : Str) : Bool := match cdv with
  | .ref c => (match K.lookup c with
    | some ⟨_, _, .fields vs, _⟩ => (match (vs[2]? : Option Value) with
      | some (.str n _) => file == n
      | _ => false)
    | _ => false)
  | _ => false
def xcellB (K : PySem.W.Frag) (cc C : Addr) : Bool := match K.lookup cc with
  | some ⟨_, _, .cell (some (.ref D)), _⟩ => decide (D = C)
  | _ => false
def xfnB (K : PySem.W.Frag) (C fI : Addr) (f file : Str) : Bool := match K.lookup fI with
  | some ⟨_, _, .func ⟨_, q, ps, .stmts bd, sc, gl, [(k, cc)], dV, _, _, _, _, cdv, _, bl⟩, _⟩ => decide (k = "__class__") && (decide (gl = mainGlobals) && (decide (bl = builtinsNs) && (decide (dV = .none) && (codeIn K cdv q && (xfileB K cdv file && (xcellB K cc C && (xscB f sc && (xparB f ps && xbodyB f bd))))))))
  | _ => false
def xinitB (K : PySem.W.Frag) (b : XB) (C : Addr) (f file : Str) : Bool :=
  excInitIn K C b.bm b.new && (excOver K C b.bm && (hasDictIn K C && (eqO (findIn K (.ref C) "__setattr__") (some (some (.builtin "object.__setattr__"))) && (decide (takerIn K C f = some none) &&
  (eqO (findIn K (.ref C) "__init__") (some (some (.ref (ma K C "__init__")))) && (isFn K (.ref (ma K C "__init__")) && (decide (subIn K (.ref C) (.type b.B) = some true) && (decide (subIn K (.ref C) (.type "BaseException") = some true) && (decide (typeIn K (.ref C) = some (.type "type")) &&
  (keepIn K (.ref C) && (decide (mroIn K C (.ref C) = some true) && (eqO (nsIn K cStatics "thirdparty.any") (some none) && (decide (ks_superIn K C C "__init__" = some (some (.builtin b.ini))) && ((clsIn K C).isSome && xfnB K C (ma K C "__init__") f file))))))))))))))
def xownB (K : PySem.W.Frag) (b : XB) (C : Addr) : Bool := excIn K C b.bm b.new && (keepIn K (.ref C) && (decide (subIn K (.ref C) (.type "BaseException") = some true) && decide (typeIn K (.ref C) = some (.type "type"))))
def xclsB (K : PySem.W.Frag) (D : Addr) : Bool := (PySem.W.clsIn K D).isSome && (decide (PySem.W.findIn K (.ref D) "__getattribute__" = some (some (.builtin "BaseException.__getattribute__"))) && (decide (PySem.W.findIn K (.ref D) "__getattr__" = some none) && (decide (PySem.W.subIn K (.ref D) (.type "BaseException") = some true) &&
  (decide (PySem.W.findIn K (.ref D) "__class__" = some (some (.builtin "object.__class__"))) && (decide (PySem.W.specialIn K (.builtin "object.__class__") "__get__" = some (some (.builtin "getset_descriptor.__get__"))) && (decide (PySem.W.takesIn K (.builtin "object.__class__") = some true) && (decide (PySem.W.mroIn K D (.type "object") = some true) && PySem.W.hasDictIn K D)))))))
abbrev TabX := List (Nat × Str × Bool)
def xtB (K : PySem.W.Frag) (l : TabX) (u : Value) : Bool := l.all fun q => xclsB K (ga K q.2.1) && decide (PySem.W.kitOne K (.ref (ga K q.2.1)) u = some q.2.2)
def xfdB (K : PySem.W.Frag) (l : List (Nat × Str)) (f : Str) : Bool := l.all fun q => xclsB K (ga K q.2) && eqO (PySem.W.findIn K (.ref (ga K q.2)) f) (some none)

end DP

set_option Elab.async false
set_option linter.all false
set_option maxRecDepth 100000
set_option maxHeartbeats 4000000
namespace DP
open PySem PySem.Spec PyProof.Rows L2 He

end DP

set_option Elab.async false
set_option linter.all false
set_option maxRecDepth 100000
set_option maxHeartbeats 4000000
namespace LK
open PySem PySem.Spec PyProof.Rows L2 He DP
def PP : Program := PySem.Challenge.pw_oneprior_k01_constants_and_errors
theorem pp_top : (PP.main.scope.names.lookup ("super" : Str)).isSome = false := by kernel_rfl
def top (i : Nat) : Stmt := PySem.Challenge.pw_oneprior_k01_constants_and_errors.main.body.getD i (.Pass ⟨0, 0, 0, 0⟩)
def sub (i j : Nat) : Stmt := match top i with
  | .ClassDef _ _ _ b _ _ _ _ _ _ _ => b.getD j (.Pass ⟨0, 0, 0, 0⟩)
  | s => s
def fl20 : List Str := ["given"]
def fl21 : List Str := ["given"]
def fl22 : List Str := ["given"]
def fl23 : List Str := ["given"]
def fl24 : List Str := ["given"]
def fl25 : List Str := ["given"]
def fl26 : List Str := ["given"]
def fl27 : List Str := ["given"]
def fl28 : List Str := ["given"]
def fl29 : List Str := ["given"]
def fl30 : List Str := ["given"]
def fl31 : List Str := ["given"]
def fl32 : List Str := ["given"]
def fl33 : List Str := ["given"]
def fl34 : List Str := ["index"]
def fl35 : List Str := ["given"]
def fl36 : List Str := ["given"]
def fl37 : List Str := ["index"]
def fl38 : List Str := []
def fl39 : List Str := []
def fl40 : List Str := []
def fl41 : List Str := ["limit"]
def fl42 : List Str := []
def fl43 : List Str := []
def fl44 : List Str := ["index"]
def ex0 (K : PySem.W.Frag) : List Bool := [(Fa.glo "law").ok K,
  (Fa.int "MOST_CASES" 8).ok K,
  (Fa.int "MOST_PEOPLE" 4).ok K,
  (Fa.int "MOST_BOTTOM" 1000000000).ok K,
  (Fa.int "MOST_STRUCK" 12).ok K,
  (Fa.int "MOST_DEPTH" 8).ok K,
  xinitB K .ve (ga K "InvalidCases") "given" PP.main.file,
  (Fa.free "super").ok K,
  (Fa.glo "InvalidCases").ok K,
  xinitB K .ve (ga K "InvalidPeople") "given" PP.main.file,
  (Fa.glo "InvalidPeople").ok K,
  xinitB K .ve (ga K "InvalidText") "given" PP.main.file,
  (Fa.glo "InvalidText").ok K,
  xinitB K .ve (ga K "InvalidLot") "given" PP.main.file,
  (Fa.glo "InvalidLot").ok K,
  xinitB K .ve (ga K "InvalidTold") "given" PP.main.file,
  (Fa.glo "InvalidTold").ok K,
  xinitB K .ve (ga K "InvalidSteps") "given" PP.main.file,
  (Fa.glo "InvalidSteps").ok K,
  xinitB K .ve (ga K "InvalidBets") "given" PP.main.file,
  (Fa.glo "InvalidBets").ok K,
  xinitB K .ve (ga K "InvalidOrder") "given" PP.main.file,
  (Fa.glo "InvalidOrder").ok K,
  xinitB K .ve (ga K "InvalidNumber") "given" PP.main.file,
  (Fa.glo "InvalidNumber").ok K,
  xinitB K .ve (ga K "InvalidName") "given" PP.main.file,
  (Fa.glo "InvalidName").ok K,
  xinitB K .ve (ga K "InvalidClaim") "given" PP.main.file,
  (Fa.glo "InvalidClaim").ok K,
  xinitB K .ve (ga K "InvalidIndex") "given" PP.main.file,
  (Fa.glo "InvalidIndex").ok K,
  xinitB K .ve (ga K "InvalidLine") "given" PP.main.file,
  (Fa.glo "InvalidLine").ok K,
  xinitB K .ve (ga K "NotARoom") "given" PP.main.file,
  (Fa.glo "NotARoom").ok K,
  (Fa.glo "_law_wrong_values").ok K,
  xinitB K .ve (ga K "InvalidDeeds") "index" PP.main.file,
  (Fa.glo "InvalidDeeds").ok K,
  xinitB K .le (ga K "UnknownName") "given" PP.main.file,
  (Fa.glo "UnknownName").ok K,
  xinitB K .le (ga K "UnknownCase") "given" PP.main.file,
  (Fa.glo "UnknownCase").ok K,
  xinitB K .le (ga K "InUse") "index" PP.main.file,
  (Fa.glo "InUse").ok K,
  xownB K .ae (ga K "NotSound"),
  (Fa.glo "NotSound").ok K,
  xownB K .ae (ga K "NotTold"),
  (Fa.glo "NotTold").ok K,
  xownB K .ae (ga K "IsTold"),
  (Fa.glo "IsTold").ok K,
  xinitB K .ae (ga K "TooMany") "limit" PP.main.file,
  (Fa.glo "TooMany").ok K,
  xownB K .ae (ga K "IsOver"),
  (Fa.glo "IsOver").ok K,
  xownB K .ae (ga K "NothingToUndo"),
  (Fa.glo "NothingToUndo").ok K,
  xinitB K .ae (ga K "Broken") "index" PP.main.file,
  (Fa.glo "Broken").ok K,
  xtB K [(20, "InvalidCases", true), (21, "InvalidPeople", false), (22, "InvalidText", false), (23, "InvalidLot", false), (24, "InvalidTold", false), (25, "InvalidSteps", false), (26, "InvalidBets", false), (27, "InvalidOrder", false), (28, "InvalidNumber", false), (29, "InvalidName", false), (30, "InvalidClaim", false), (31, "InvalidIndex", false), (32, "InvalidLine", false), (33, "NotARoom", false), (34, "InvalidDeeds", false), (35, "UnknownName", false), (36, "UnknownCase", false), (37, "InUse", false), (38, "NotSound", false), (39, "NotTold", false), (40, "IsTold", false), (41, "TooMany", false), (42, "IsOver", false), (43, "NothingToUndo", false), (44, "Broken", false)] (.ref (ga K "InvalidCases")),
  (Fa.free "isinstance").ok K,
  xtB K [(20, "InvalidCases", false), (21, "InvalidPeople", true), (22, "InvalidText", false), (23, "InvalidLot", false), (24, "InvalidTold", false), (25, "InvalidSteps", false), (26, "InvalidBets", false), (27, "InvalidOrder", false), (28, "InvalidNumber", false), (29, "InvalidName", false), (30, "InvalidClaim", false), (31, "InvalidIndex", false), (32, "InvalidLine", false), (33, "NotARoom", false), (34, "InvalidDeeds", false), (35, "UnknownName", false), (36, "UnknownCase", false), (37, "InUse", false), (38, "NotSound", false), (39, "NotTold", false), (40, "IsTold", false), (41, "TooMany", false), (42, "IsOver", false), (43, "NothingToUndo", false), (44, "Broken", false)] (.ref (ga K "InvalidPeople")),
  xtB K [(20, "InvalidCases", false), (21, "InvalidPeople", false), (22, "InvalidText", true), (23, "InvalidLot", false), (24, "InvalidTold", false), (25, "InvalidSteps", false), (26, "InvalidBets", false), (27, "InvalidOrder", false), (28, "InvalidNumber", false), (29, "InvalidName", false), (30, "InvalidClaim", false), (31, "InvalidIndex", false), (32, "InvalidLine", false), (33, "NotARoom", false), (34, "InvalidDeeds", false), (35, "UnknownName", false), (36, "UnknownCase", false), (37, "InUse", false), (38, "NotSound", false), (39, "NotTold", false), (40, "IsTold", false), (41, "TooMany", false), (42, "IsOver", false), (43, "NothingToUndo", false), (44, "Broken", false)] (.ref (ga K "InvalidText")),
  xtB K [(20, "InvalidCases", false), (21, "InvalidPeople", false), (22, "InvalidText", false), (23, "InvalidLot", true), (24, "InvalidTold", false), (25, "InvalidSteps", false), (26, "InvalidBets", false), (27, "InvalidOrder", false), (28, "InvalidNumber", false), (29, "InvalidName", false), (30, "InvalidClaim", false), (31, "InvalidIndex", false), (32, "InvalidLine", false), (33, "NotARoom", false), (34, "InvalidDeeds", false), (35, "UnknownName", false), (36, "UnknownCase", false), (37, "InUse", false), (38, "NotSound", false), (39, "NotTold", false), (40, "IsTold", false), (41, "TooMany", false), (42, "IsOver", false), (43, "NothingToUndo", false), (44, "Broken", false)] (.ref (ga K "InvalidLot")),
  xtB K [(20, "InvalidCases", false), (21, "InvalidPeople", false), (22, "InvalidText", false), (23, "InvalidLot", false), (24, "InvalidTold", true), (25, "InvalidSteps", false), (26, "InvalidBets", false), (27, "InvalidOrder", false), (28, "InvalidNumber", false), (29, "InvalidName", false), (30, "InvalidClaim", false), (31, "InvalidIndex", false), (32, "InvalidLine", false), (33, "NotARoom", false), (34, "InvalidDeeds", false), (35, "UnknownName", false), (36, "UnknownCase", false), (37, "InUse", false), (38, "NotSound", false), (39, "NotTold", false), (40, "IsTold", false), (41, "TooMany", false), (42, "IsOver", false), (43, "NothingToUndo", false), (44, "Broken", false)] (.ref (ga K "InvalidTold")),
  xtB K [(20, "InvalidCases", false), (21, "InvalidPeople", false), (22, "InvalidText", false), (23, "InvalidLot", false), (24, "InvalidTold", false), (25, "InvalidSteps", true), (26, "InvalidBets", false), (27, "InvalidOrder", false), (28, "InvalidNumber", false), (29, "InvalidName", false), (30, "InvalidClaim", false), (31, "InvalidIndex", false), (32, "InvalidLine", false), (33, "NotARoom", false), (34, "InvalidDeeds", false), (35, "UnknownName", false), (36, "UnknownCase", false), (37, "InUse", false), (38, "NotSound", false), (39, "NotTold", false), (40, "IsTold", false), (41, "TooMany", false), (42, "IsOver", false), (43, "NothingToUndo", false), (44, "Broken", false)] (.ref (ga K "InvalidSteps")),
  xtB K [(20, "InvalidCases", false), (21, "InvalidPeople", false), (22, "InvalidText", false), (23, "InvalidLot", false), (24, "InvalidTold", false), (25, "InvalidSteps", false), (26, "InvalidBets", true), (27, "InvalidOrder", false), (28, "InvalidNumber", false), (29, "InvalidName", false), (30, "InvalidClaim", false), (31, "InvalidIndex", false), (32, "InvalidLine", false), (33, "NotARoom", false), (34, "InvalidDeeds", false), (35, "UnknownName", false), (36, "UnknownCase", false), (37, "InUse", false), (38, "NotSound", false), (39, "NotTold", false), (40, "IsTold", false), (41, "TooMany", false), (42, "IsOver", false), (43, "NothingToUndo", false), (44, "Broken", false)] (.ref (ga K "InvalidBets")),
  xtB K [(20, "InvalidCases", false), (21, "InvalidPeople", false), (22, "InvalidText", false), (23, "InvalidLot", false), (24, "InvalidTold", false), (25, "InvalidSteps", false), (26, "InvalidBets", false), (27, "InvalidOrder", true), (28, "InvalidNumber", false), (29, "InvalidName", false), (30, "InvalidClaim", false), (31, "InvalidIndex", false), (32, "InvalidLine", false), (33, "NotARoom", false), (34, "InvalidDeeds", false), (35, "UnknownName", false), (36, "UnknownCase", false), (37, "InUse", false), (38, "NotSound", false), (39, "NotTold", false), (40, "IsTold", false), (41, "TooMany", false), (42, "IsOver", false), (43, "NothingToUndo", false), (44, "Broken", false)] (.ref (ga K "InvalidOrder")),
  xtB K [(20, "InvalidCases", false), (21, "InvalidPeople", false), (22, "InvalidText", false), (23, "InvalidLot", false), (24, "InvalidTold", false), (25, "InvalidSteps", false), (26, "InvalidBets", false), (27, "InvalidOrder", false), (28, "InvalidNumber", true), (29, "InvalidName", false), (30, "InvalidClaim", false), (31, "InvalidIndex", false), (32, "InvalidLine", false), (33, "NotARoom", false), (34, "InvalidDeeds", false), (35, "UnknownName", false), (36, "UnknownCase", false), (37, "InUse", false), (38, "NotSound", false), (39, "NotTold", false), (40, "IsTold", false), (41, "TooMany", false), (42, "IsOver", false), (43, "NothingToUndo", false), (44, "Broken", false)] (.ref (ga K "InvalidNumber")),
  xtB K [(20, "InvalidCases", false), (21, "InvalidPeople", false), (22, "InvalidText", false), (23, "InvalidLot", false), (24, "InvalidTold", false), (25, "InvalidSteps", false), (26, "InvalidBets", false), (27, "InvalidOrder", false), (28, "InvalidNumber", false), (29, "InvalidName", true), (30, "InvalidClaim", false), (31, "InvalidIndex", false), (32, "InvalidLine", false), (33, "NotARoom", false), (34, "InvalidDeeds", false), (35, "UnknownName", false), (36, "UnknownCase", false), (37, "InUse", false), (38, "NotSound", false), (39, "NotTold", false), (40, "IsTold", false), (41, "TooMany", false), (42, "IsOver", false), (43, "NothingToUndo", false), (44, "Broken", false)] (.ref (ga K "InvalidName")),
  xtB K [(20, "InvalidCases", false), (21, "InvalidPeople", false), (22, "InvalidText", false), (23, "InvalidLot", false), (24, "InvalidTold", false), (25, "InvalidSteps", false), (26, "InvalidBets", false), (27, "InvalidOrder", false), (28, "InvalidNumber", false), (29, "InvalidName", false), (30, "InvalidClaim", true), (31, "InvalidIndex", false), (32, "InvalidLine", false), (33, "NotARoom", false), (34, "InvalidDeeds", false), (35, "UnknownName", false), (36, "UnknownCase", false), (37, "InUse", false), (38, "NotSound", false), (39, "NotTold", false), (40, "IsTold", false), (41, "TooMany", false), (42, "IsOver", false), (43, "NothingToUndo", false), (44, "Broken", false)] (.ref (ga K "InvalidClaim")),
  xtB K [(20, "InvalidCases", false), (21, "InvalidPeople", false), (22, "InvalidText", false), (23, "InvalidLot", false), (24, "InvalidTold", false), (25, "InvalidSteps", false), (26, "InvalidBets", false), (27, "InvalidOrder", false), (28, "InvalidNumber", false), (29, "InvalidName", false), (30, "InvalidClaim", false), (31, "InvalidIndex", true), (32, "InvalidLine", false), (33, "NotARoom", false), (34, "InvalidDeeds", false), (35, "UnknownName", false), (36, "UnknownCase", false), (37, "InUse", false), (38, "NotSound", false), (39, "NotTold", false), (40, "IsTold", false), (41, "TooMany", false), (42, "IsOver", false), (43, "NothingToUndo", false), (44, "Broken", false)] (.ref (ga K "InvalidIndex")),
  xtB K [(20, "InvalidCases", false), (21, "InvalidPeople", false), (22, "InvalidText", false), (23, "InvalidLot", false), (24, "InvalidTold", false), (25, "InvalidSteps", false), (26, "InvalidBets", false), (27, "InvalidOrder", false), (28, "InvalidNumber", false), (29, "InvalidName", false), (30, "InvalidClaim", false), (31, "InvalidIndex", false), (32, "InvalidLine", true), (33, "NotARoom", false), (34, "InvalidDeeds", false), (35, "UnknownName", false), (36, "UnknownCase", false), (37, "InUse", false), (38, "NotSound", false), (39, "NotTold", false), (40, "IsTold", false), (41, "TooMany", false), (42, "IsOver", false), (43, "NothingToUndo", false), (44, "Broken", false)] (.ref (ga K "InvalidLine")),
  xtB K [(20, "InvalidCases", false), (21, "InvalidPeople", false), (22, "InvalidText", false), (23, "InvalidLot", false), (24, "InvalidTold", false), (25, "InvalidSteps", false), (26, "InvalidBets", false), (27, "InvalidOrder", false), (28, "InvalidNumber", false), (29, "InvalidName", false), (30, "InvalidClaim", false), (31, "InvalidIndex", false), (32, "InvalidLine", false), (33, "NotARoom", true), (34, "InvalidDeeds", false), (35, "UnknownName", false), (36, "UnknownCase", false), (37, "InUse", false), (38, "NotSound", false), (39, "NotTold", false), (40, "IsTold", false), (41, "TooMany", false), (42, "IsOver", false), (43, "NothingToUndo", false), (44, "Broken", false)] (.ref (ga K "NotARoom")),
  xtB K [(20, "InvalidCases", false), (21, "InvalidPeople", false), (22, "InvalidText", false), (23, "InvalidLot", false), (24, "InvalidTold", false), (25, "InvalidSteps", false), (26, "InvalidBets", false), (27, "InvalidOrder", false), (28, "InvalidNumber", false), (29, "InvalidName", false), (30, "InvalidClaim", false), (31, "InvalidIndex", false), (32, "InvalidLine", false), (33, "NotARoom", false), (34, "InvalidDeeds", true), (35, "UnknownName", false), (36, "UnknownCase", false), (37, "InUse", false), (38, "NotSound", false), (39, "NotTold", false), (40, "IsTold", false), (41, "TooMany", false), (42, "IsOver", false), (43, "NothingToUndo", false), (44, "Broken", false)] (.ref (ga K "InvalidDeeds")),
  xtB K [(20, "InvalidCases", false), (21, "InvalidPeople", false), (22, "InvalidText", false), (23, "InvalidLot", false), (24, "InvalidTold", false), (25, "InvalidSteps", false), (26, "InvalidBets", false), (27, "InvalidOrder", false), (28, "InvalidNumber", false), (29, "InvalidName", false), (30, "InvalidClaim", false), (31, "InvalidIndex", false), (32, "InvalidLine", false), (33, "NotARoom", false), (34, "InvalidDeeds", false), (35, "UnknownName", true), (36, "UnknownCase", false), (37, "InUse", false), (38, "NotSound", false), (39, "NotTold", false), (40, "IsTold", false), (41, "TooMany", false), (42, "IsOver", false), (43, "NothingToUndo", false), (44, "Broken", false)] (.ref (ga K "UnknownName")),
  xtB K [(20, "InvalidCases", false), (21, "InvalidPeople", false), (22, "InvalidText", false), (23, "InvalidLot", false), (24, "InvalidTold", false), (25, "InvalidSteps", false), (26, "InvalidBets", false), (27, "InvalidOrder", false), (28, "InvalidNumber", false), (29, "InvalidName", false), (30, "InvalidClaim", false), (31, "InvalidIndex", false), (32, "InvalidLine", false), (33, "NotARoom", false), (34, "InvalidDeeds", false), (35, "UnknownName", false), (36, "UnknownCase", true), (37, "InUse", false), (38, "NotSound", false), (39, "NotTold", false), (40, "IsTold", false), (41, "TooMany", false), (42, "IsOver", false), (43, "NothingToUndo", false), (44, "Broken", false)] (.ref (ga K "UnknownCase")),
  xtB K [(20, "InvalidCases", false), (21, "InvalidPeople", false), (22, "InvalidText", false), (23, "InvalidLot", false), (24, "InvalidTold", false), (25, "InvalidSteps", false), (26, "InvalidBets", false), (27, "InvalidOrder", false), (28, "InvalidNumber", false), (29, "InvalidName", false), (30, "InvalidClaim", false), (31, "InvalidIndex", false), (32, "InvalidLine", false), (33, "NotARoom", false), (34, "InvalidDeeds", false), (35, "UnknownName", false), (36, "UnknownCase", false), (37, "InUse", true), (38, "NotSound", false), (39, "NotTold", false), (40, "IsTold", false), (41, "TooMany", false), (42, "IsOver", false), (43, "NothingToUndo", false), (44, "Broken", false)] (.ref (ga K "InUse")),
  xtB K [(20, "InvalidCases", false), (21, "InvalidPeople", false), (22, "InvalidText", false), (23, "InvalidLot", false), (24, "InvalidTold", false), (25, "InvalidSteps", false), (26, "InvalidBets", false), (27, "InvalidOrder", false), (28, "InvalidNumber", false), (29, "InvalidName", false), (30, "InvalidClaim", false), (31, "InvalidIndex", false), (32, "InvalidLine", false), (33, "NotARoom", false), (34, "InvalidDeeds", false), (35, "UnknownName", false), (36, "UnknownCase", false), (37, "InUse", false), (38, "NotSound", true), (39, "NotTold", false), (40, "IsTold", false), (41, "TooMany", false), (42, "IsOver", false), (43, "NothingToUndo", false), (44, "Broken", false)] (.ref (ga K "NotSound")),
  xtB K [(20, "InvalidCases", false), (21, "InvalidPeople", false), (22, "InvalidText", false), (23, "InvalidLot", false), (24, "InvalidTold", false), (25, "InvalidSteps", false), (26, "InvalidBets", false), (27, "InvalidOrder", false), (28, "InvalidNumber", false), (29, "InvalidName", false), (30, "InvalidClaim", false), (31, "InvalidIndex", false), (32, "InvalidLine", false), (33, "NotARoom", false), (34, "InvalidDeeds", false), (35, "UnknownName", false), (36, "UnknownCase", false), (37, "InUse", false), (38, "NotSound", false), (39, "NotTold", true), (40, "IsTold", false), (41, "TooMany", false), (42, "IsOver", false), (43, "NothingToUndo", false), (44, "Broken", false)] (.ref (ga K "NotTold")),
  xtB K [(20, "InvalidCases", false), (21, "InvalidPeople", false), (22, "InvalidText", false), (23, "InvalidLot", false), (24, "InvalidTold", false), (25, "InvalidSteps", false), (26, "InvalidBets", false), (27, "InvalidOrder", false), (28, "InvalidNumber", false), (29, "InvalidName", false), (30, "InvalidClaim", false), (31, "InvalidIndex", false), (32, "InvalidLine", false), (33, "NotARoom", false), (34, "InvalidDeeds", false), (35, "UnknownName", false), (36, "UnknownCase", false), (37, "InUse", false), (38, "NotSound", false), (39, "NotTold", false), (40, "IsTold", true), (41, "TooMany", false), (42, "IsOver", false), (43, "NothingToUndo", false), (44, "Broken", false)] (.ref (ga K "IsTold")),
  xtB K [(20, "InvalidCases", false), (21, "InvalidPeople", false), (22, "InvalidText", false), (23, "InvalidLot", false), (24, "InvalidTold", false), (25, "InvalidSteps", false), (26, "InvalidBets", false), (27, "InvalidOrder", false), (28, "InvalidNumber", false), (29, "InvalidName", false), (30, "InvalidClaim", false), (31, "InvalidIndex", false), (32, "InvalidLine", false), (33, "NotARoom", false), (34, "InvalidDeeds", false), (35, "UnknownName", false), (36, "UnknownCase", false), (37, "InUse", false), (38, "NotSound", false), (39, "NotTold", false), (40, "IsTold", false), (41, "TooMany", true), (42, "IsOver", false), (43, "NothingToUndo", false), (44, "Broken", false)] (.ref (ga K "TooMany")),
  xtB K [(20, "InvalidCases", false), (21, "InvalidPeople", false), (22, "InvalidText", false), (23, "InvalidLot", false), (24, "InvalidTold", false), (25, "InvalidSteps", false), (26, "InvalidBets", false), (27, "InvalidOrder", false), (28, "InvalidNumber", false), (29, "InvalidName", false), (30, "InvalidClaim", false), (31, "InvalidIndex", false), (32, "InvalidLine", false), (33, "NotARoom", false), (34, "InvalidDeeds", false), (35, "UnknownName", false), (36, "UnknownCase", false), (37, "InUse", false), (38, "NotSound", false), (39, "NotTold", false), (40, "IsTold", false), (41, "TooMany", false), (42, "IsOver", true), (43, "NothingToUndo", false), (44, "Broken", false)] (.ref (ga K "IsOver")),
  xtB K [(20, "InvalidCases", false), (21, "InvalidPeople", false), (22, "InvalidText", false), (23, "InvalidLot", false), (24, "InvalidTold", false), (25, "InvalidSteps", false), (26, "InvalidBets", false), (27, "InvalidOrder", false), (28, "InvalidNumber", false), (29, "InvalidName", false), (30, "InvalidClaim", false), (31, "InvalidIndex", false), (32, "InvalidLine", false), (33, "NotARoom", false), (34, "InvalidDeeds", false), (35, "UnknownName", false), (36, "UnknownCase", false), (37, "InUse", false), (38, "NotSound", false), (39, "NotTold", false), (40, "IsTold", false), (41, "TooMany", false), (42, "IsOver", false), (43, "NothingToUndo", true), (44, "Broken", false)] (.ref (ga K "NothingToUndo")),
  xtB K [(20, "InvalidCases", false), (21, "InvalidPeople", false), (22, "InvalidText", false), (23, "InvalidLot", false), (24, "InvalidTold", false), (25, "InvalidSteps", false), (26, "InvalidBets", false), (27, "InvalidOrder", false), (28, "InvalidNumber", false), (29, "InvalidName", false), (30, "InvalidClaim", false), (31, "InvalidIndex", false), (32, "InvalidLine", false), (33, "NotARoom", false), (34, "InvalidDeeds", false), (35, "UnknownName", false), (36, "UnknownCase", false), (37, "InUse", false), (38, "NotSound", false), (39, "NotTold", false), (40, "IsTold", false), (41, "TooMany", false), (42, "IsOver", false), (43, "NothingToUndo", false), (44, "Broken", true)] (.ref (ga K "Broken")),
  (Fa.free "range").ok K,
  (Fa.glo "_law_own").ok K,
  (Fa.glo "WrongValue").ok K,
  xtB K [(20, "InvalidCases", true), (21, "InvalidPeople", true), (22, "InvalidText", true), (23, "InvalidLot", true), (24, "InvalidTold", true), (25, "InvalidSteps", true), (26, "InvalidBets", true), (27, "InvalidOrder", true), (28, "InvalidNumber", true), (29, "InvalidName", true), (30, "InvalidClaim", true), (31, "InvalidIndex", true), (32, "InvalidLine", true), (33, "NotARoom", true), (34, "InvalidDeeds", true), (35, "UnknownName", false), (36, "UnknownCase", false), (37, "InUse", false), (38, "NotSound", false), (39, "NotTold", false), (40, "IsTold", false), (41, "TooMany", false), (42, "IsOver", false), (43, "NothingToUndo", false), (44, "Broken", false)] (.ref (ga K "WrongValue")),
  (Fa.glo "WrongName").ok K,
  xtB K [(20, "InvalidCases", false), (21, "InvalidPeople", false), (22, "InvalidText", false), (23, "InvalidLot", false), (24, "InvalidTold", false), (25, "InvalidSteps", false), (26, "InvalidBets", false), (27, "InvalidOrder", false), (28, "InvalidNumber", false), (29, "InvalidName", false), (30, "InvalidClaim", false), (31, "InvalidIndex", false), (32, "InvalidLine", false), (33, "NotARoom", false), (34, "InvalidDeeds", false), (35, "UnknownName", true), (36, "UnknownCase", true), (37, "InUse", true), (38, "NotSound", false), (39, "NotTold", false), (40, "IsTold", false), (41, "TooMany", false), (42, "IsOver", false), (43, "NothingToUndo", false), (44, "Broken", false)] (.ref (ga K "WrongName")),
  (Fa.glo "NoAnswer").ok K,
  xtB K [(20, "InvalidCases", false), (21, "InvalidPeople", false), (22, "InvalidText", false), (23, "InvalidLot", false), (24, "InvalidTold", false), (25, "InvalidSteps", false), (26, "InvalidBets", false), (27, "InvalidOrder", false), (28, "InvalidNumber", false), (29, "InvalidName", false), (30, "InvalidClaim", false), (31, "InvalidIndex", false), (32, "InvalidLine", false), (33, "NotARoom", false), (34, "InvalidDeeds", false), (35, "UnknownName", false), (36, "UnknownCase", false), (37, "InUse", false), (38, "NotSound", true), (39, "NotTold", true), (40, "IsTold", true), (41, "TooMany", true), (42, "IsOver", true), (43, "NothingToUndo", true), (44, "Broken", true)] (.ref (ga K "NoAnswer")),
  (Fa.free "ValueError").ok K,
  xtB K [(20, "InvalidCases", true), (21, "InvalidPeople", true), (22, "InvalidText", true), (23, "InvalidLot", true), (24, "InvalidTold", true), (25, "InvalidSteps", true), (26, "InvalidBets", true), (27, "InvalidOrder", true), (28, "InvalidNumber", true), (29, "InvalidName", true), (30, "InvalidClaim", true), (31, "InvalidIndex", true), (32, "InvalidLine", true), (33, "NotARoom", true), (34, "InvalidDeeds", true), (35, "UnknownName", false), (36, "UnknownCase", false), (37, "InUse", false), (38, "NotSound", false), (39, "NotTold", false), (40, "IsTold", false), (41, "TooMany", false), (42, "IsOver", false), (43, "NothingToUndo", false), (44, "Broken", false)] (.type "ValueError"),
  (Fa.free "LookupError").ok K,
  xtB K [(20, "InvalidCases", false), (21, "InvalidPeople", false), (22, "InvalidText", false), (23, "InvalidLot", false), (24, "InvalidTold", false), (25, "InvalidSteps", false), (26, "InvalidBets", false), (27, "InvalidOrder", false), (28, "InvalidNumber", false), (29, "InvalidName", false), (30, "InvalidClaim", false), (31, "InvalidIndex", false), (32, "InvalidLine", false), (33, "NotARoom", false), (34, "InvalidDeeds", false), (35, "UnknownName", true), (36, "UnknownCase", true), (37, "InUse", true), (38, "NotSound", false), (39, "NotTold", false), (40, "IsTold", false), (41, "TooMany", false), (42, "IsOver", false), (43, "NothingToUndo", false), (44, "Broken", false)] (.type "LookupError"),
  (Fa.free "ArithmeticError").ok K,
  xtB K [(20, "InvalidCases", false), (21, "InvalidPeople", false), (22, "InvalidText", false), (23, "InvalidLot", false), (24, "InvalidTold", false), (25, "InvalidSteps", false), (26, "InvalidBets", false), (27, "InvalidOrder", false), (28, "InvalidNumber", false), (29, "InvalidName", false), (30, "InvalidClaim", false), (31, "InvalidIndex", false), (32, "InvalidLine", false), (33, "NotARoom", false), (34, "InvalidDeeds", false), (35, "UnknownName", false), (36, "UnknownCase", false), (37, "InUse", false), (38, "NotSound", true), (39, "NotTold", true), (40, "IsTold", true), (41, "TooMany", true), (42, "IsOver", true), (43, "NothingToUndo", true), (44, "Broken", true)] (.type "ArithmeticError"),
  (Fa.glo "_law_kinds").ok K,
  (Fa.free "repr").ok K,
  xfdB K [(20, "InvalidCases"), (21, "InvalidPeople"), (22, "InvalidText"), (23, "InvalidLot"), (24, "InvalidTold"), (25, "InvalidSteps"), (26, "InvalidBets"), (27, "InvalidOrder"), (28, "InvalidNumber"), (29, "InvalidName"), (30, "InvalidClaim"), (31, "InvalidIndex"), (32, "InvalidLine"), (33, "NotARoom"), (35, "UnknownName"), (36, "UnknownCase")] "given",
  xfdB K [(34, "InvalidDeeds"), (37, "InUse"), (44, "Broken")] "index",
  xfdB K [(41, "TooMany")] "limit"]
def fn0 : List He5.DefA := []
def ex1 (K : PySem.W.Frag) : List Bool := []
def fn1 : List He5.DefA := [⟨fun K => ga K "_law_wrong_values", "_law_wrong_values", "_law_wrong_values", defArgs (top 35), defBody (top 35), defScope (top 35), [], []⟩,
  ⟨fun K => ga K "_law_own", "_law_own", "_law_own", defArgs (top 37), defBody (top 37), defScope (top 37), [], []⟩,
  ⟨fun K => ga K "_law_kinds", "_law_kinds", "_law_kinds", defArgs (top 36), defBody (top 36), defScope (top 36), [], []⟩,
  ⟨fun K => ga K "law", "law", "law", defArgs (top 38), defBody (top 38), defScope (top 38), [], []⟩]
def ex (K : PySem.W.Frag) : List Bool := ex0 K ++ ex1 K
def fn : List He5.DefA := fn0 ++ fn1
def nm0 : List Str := ["WrongValue", "InvalidCases", "InvalidPeople", "InvalidText", "InvalidLot", "InvalidTold", "InvalidSteps", "InvalidBets", "InvalidOrder", "InvalidNumber", "InvalidName", "InvalidClaim", "InvalidIndex", "InvalidLine", "NotARoom", "InvalidDeeds", "WrongName", "UnknownName", "UnknownCase", "InUse", "NoAnswer", "NotSound", "NotTold", "IsTold", "TooMany", "IsOver", "NothingToUndo", "Broken", "MOST_CASES", "MOST_PEOPLE"]
def nm1 : List Str := ["MOST_BOTTOM", "MOST_STRUCK", "MOST_DEPTH", "_law_wrong_values", "_law_kinds", "_law_own"]
def nms : List Str := nm0 ++ nm1
abbrev RR : PySem.W.OpenRow := PySem.W.OpenLaw.row PySem.Challenge.rw_oneprior_k01_constants_and_errors
def AS : List Addr := [3, 6, 4, 24, 46, 67, 88, 109, 130, 151, 172, 193, 214, 235, 256, 277, 298, 319, 340, 352, 374, 395, 416, 428, 441, 453, 465, 486, 498, 510, 531, 540, 547, 552, 557, 0, 23, 45, 66, 87,
  108, 129, 150, 171, 192, 213, 234, 255, 276, 297, 318, 339, 351, 373, 394, 415, 427, 440, 452, 464, 485, 497, 509, 530, 539, 546, 551, 556, 22, 25, 43, 44, 64, 65, 85, 86, 106, 107, 127, 128,
  148, 149, 169, 170, 190, 191, 211, 212, 232, 233, 253, 254, 274, 275, 295, 296, 316, 317, 337, 338, 350, 353, 371, 372, 392, 393, 413, 414, 426, 429, 439, 451, 463, 483, 484, 496, 508, 528, 529, 534,
  536, 537, 538, 541, 543, 544, 545, 548, 550, 553, 555, 42, 31, 63, 52, 84, 73, 105, 94, 126, 115, 147, 136, 168, 157, 189, 178, 210, 199, 231, 220, 252, 241, 273, 262, 294, 283, 315, 304, 336,
  325, 370, 359, 391, 380, 412, 401, 482, 471, 527, 516, 37, 39, 40, 41, 58, 60, 61, 62, 79, 81, 82, 83, 100, 102, 103, 104, 121, 123, 124, 125, 142, 144, 145, 146, 163, 165, 166, 167, 184,
  186, 187, 188, 205, 207, 208, 209, 226, 228, 229, 230, 247, 249, 250, 251, 268, 270, 271, 272, 289, 291, 292, 293, 310, 312, 313, 314, 331, 333, 334, 335, 365, 367, 368, 369, 386, 388, 389, 390, 407,
  409, 410, 411, 477, 479, 480, 481, 522, 524, 525, 526, 2]
abbrev hk : PySem.W.Hook := hookL AS ex fn
def ob (s : PySem.W.SharedT) : He.AlD := obsPL AS ex fn (HandSHeadRun.getT s)
theorem ob_eq (s : PySem.W.SharedT) : ob s = hk.obs s.abs := obsPL_eq (HandSHeadRun.getT_eq s)
theorem obsP_appH {ex1 ex2 : PySem.W.Frag → List Bool} {fn1 fn2 : List He5.DefA} {K : PySem.W.Frag} (h1 : obsP ex1 fn1 K = valP fn1) (h2 : obsP ex2 fn2 K = valP fn2) : obsP (fun K => ex1 K ++ ex2 K) (fn1 ++ fn2) K = valP (fn1 ++ fn2) := by
  obtain ⟨a1, b1⟩ := Prod.mk.inj h1
  obtain ⟨a2, b2⟩ := Prod.mk.inj h2
  refine Prod.ext ?_ ?_
  · show ((ex1 K ++ ex2 K).all id && (fn1 ++ fn2).all fun d => d.ok K) = true
    rw [List.all_append, List.all_append]
    rw [Bool.and_eq_true] at a1 a2
    rw [a1.1, a1.2, a2.1, a2.2]
    rfl
  · show (fn1 ++ fn2).map (fun d => He5.fnA K (d.at_ K)) = (fn1 ++ fn2).map He5.DefA.val
    rw [List.map_append, List.map_append]
    exact congr (congrArg _ b1) b2
theorem headJoinO {S : Type} {e : Option S} {o o1 o2 : S → He.AlD} {v v1 v2 : He.AlD} (h1 : e.map o1 = some v1) (h2 : e.map o2 = some v2) (hh : ∀ s, o1 s = v1 → o2 s = v2 → o s = v) : e.map o = some v := by
  cases e with
  | none => cases h1
  | some s =>
    show some (o s) = _
    rw [hh s (Option.some.inj h1) (Option.some.inj h2)]
theorem headJoinT {S A B C : Type} {e : Option S} {o1 : S → A} {o2 : S → B} {o : S → C} {v1 : A} {v2 : B} {v : C} (h1 : e.map o1 = some v1) (h2 : e.map o2 = some v2) (hh : ∀ s, o1 s = v1 → o2 s = v2 → o s = v) : e.map o = some v := by
  cases e with
  | none => cases h1
  | some s =>
    show some (o s) = _
    rw [hh s (Option.some.inj h1) (Option.some.inj h2)]
theorem headJoin3 {S A B C : Type} {e : Option S} {a : S → A} {b : S → B} {o : S → C} {va : A} {vb : B} {v : C} (h1 : e.map a = some va) (h2 : e.map b = some vb) (h3 : e.map o = some v) : e.map (fun s => (a s, b s, o s)) = some (va, vb, v) := by
  cases e with
  | none => cases h1
  | some s =>
    show some (a s, b s, o s) = _
    rw [Option.some.inj h1, Option.some.inj h2, Option.some.inj h3]
noncomputable abbrev EF (w : World) (os : OsState) : Option PySem.W.SharedT := HandSHeadRun.endF (HandSHeadRun.stepQ (HandSHeadRun.denQ HandSHeadRun.tabQ) RR.prog w) 20000 RR.prog w os
theorem runL (w : World) (os : OsState) : (EF w os).map (fun s => HandSHeadRun.looksF RR.prog (PySem.W.boot_heap w.params) s.abs) = some true := by kernel_rfl
theorem runS (w : World) (os : OsState) : (EF w os).map (fun s => HandSHeadRun.seenQ (PySem.W.view RR.prog [38]) nms (PySem.importedModules RR.prog.main.body) (fun s => PySem.W.xlAt (PySem.W.view RR.prog [38]) [] s && PySem.W.recOk RR.toRowW.records s) s.abs) = some (PySem.W.openGood (PySem.W.view RR.prog [38]) nms) := by kernel_rfl
noncomputable def ob0 (s : PySem.W.SharedT) : He.AlD := obsPL AS ex0 fn0 (HandSHeadRun.getT s)
noncomputable def ob1 (s : PySem.W.SharedT) : He.AlD := obsPL AS ex1 fn1 (HandSHeadRun.getT s)
theorem runo0 (w : World) (os : OsState) : (EF w os).map ob0 = some (valP fn0) := by kernel_rfl
theorem runo1 (w : World) (os : OsState) : (EF w os).map ob1 = some (valP fn1) := by kernel_rfl
theorem runoA (w : World) (os : OsState) : (EF w os).map ob = some (valP fn) := headJoinO (runo0 w os) (runo1 w os) fun s h1 h2 => obsP_appH h1 h2
theorem run (w : World) : HandSHeadRun.RunEq RR (PySem.W.view RR.prog [38]) hk ob 20000 nms w := fun os => headJoin3 (runL w os) (runS w os) (runoA w os)
end LK
set_option Elab.async false
set_option linter.all false
set_option maxRecDepth 100000
set_option maxHeartbeats 4000000
namespace DP
open PySem PySem.Spec PyProof.Rows L2

def Plain (o : Obj) : Prop := o.dict = none ∧ o.cls = .type "tuple"
def TupH (H : Hp) (a : Addr) (xs : List V) : Prop := (∃ o, H a = some (.frz o (.tup xs)) ∧ Plain o) ∨ (H a = some (.tup xs) ∧ ∃ (k : Key) (ks : List Key), xs = kV k :: ks.map kV)
theorem TupH.get {H : Hp} {a : Addr} {xs : List V} (h : TupH H a xs) {u : HO} (e : H a = some u) : (∃ o, u = .frz o (.tup xs)) ∨ u = .tup xs := by
  rcases h with ⟨o, h, _⟩ | ⟨h, _⟩
  · rw [e] at h; exact .inl ⟨o, Option.some.inj h⟩
  · rw [e] at h; exact .inr (Option.some.inj h)
theorem TupH.by {H H' : Hp} {a : Addr} {xs : List V} (h : TupH H a xs) (k : ∀ u, H a = some u → H' a = some u) : TupH H' a xs := by
  rcases h with ⟨o, h, p⟩ | ⟨h, p⟩
  · exact .inl ⟨o, k _ h, p⟩
  · exact .inr ⟨k _ h, p⟩
def TupP (K : PySem.W.Frag) (H : Hp) (a : Addr) (xs : List V) : Prop :=
  TupH H a xs ∨ ∃ (o : Obj) (its : Array Value) (n : Nat), K.lookup a = some o ∧ Plain o ∧ o.data = .seq its n ∧ its.size ≤ sizeLine ∧ Vals xs its.toList
theorem TupH.rd {H : Hp} {a : Addr} {xs : List V} (h : TupH H a xs) : Rd H a (.tup xs) := by
  rcases h with ⟨o, e, _⟩ | ⟨e, _⟩
  · exact .inr ⟨o, e⟩
  · exact .inl e
theorem TupP.sq {K : PySem.W.Frag} {H : Hp} {a : Addr} {xs : List V} (h : TupP K H a xs) : SqT K H a xs := by
  rcases h with h | ⟨o, its, n, h1, h2, h3, h4, h5⟩
  · exact .inl h.rd
  · exact .inr ⟨o, its, n, h1, h2.2, h3, h4, h5⟩
abbrev ForTup (H : Hp) (xs : List V) (Q : VK) : Prop := ∀ p o, Plain o → H p = none → Q (.ref p) (upd H p (.frz o (.tup xs)))
section
variable {X : Cx} {pins : List (Addr × Obj)} {σ : L2.St} {H : Hp} {s : Shared}
theorem laidT {h' : Heap} {a : Addr} {xs : List V} {its : List Value} {o : Obj} {n : Nat} {t' : Nat} (I : L2.Inv X pins σ H s) (k : ∀ b u, s.heap.get? b = some u → h'.get? b = some u) (hp : s.heap.objs.size ≤ a) (e : h'.get? a = some o) (ho : Plain o) (hd : o.data = .seq its.toArray n) (r : Vals xs its) (z : xs.length ≤ sizeLine) :
    L2.Inv X pins σ (upd H a (.frz o (.tup xs))) { s with heap := h', toks := t' } :=
  I.laid k hp ⟨e, z, its, r, o, e, ho.2, n, hd⟩
theorem plain_new {its : List Value} : Plain { cls := .type "tuple", data := .seq its.toArray } := ⟨rfl, rfl⟩
theorem laidT1 {xs : List V} {its : List Value} {t' : Nat} (I : L2.Inv X pins σ H s) (r : Vals xs its) (z : xs.length ≤ sizeLine) :
    L2.Inv X pins σ (upd H s.heap.objs.size (.frz { cls := .type "tuple", data := .seq its.toArray } (.tup xs))) { s with heap := s.heap.push { cls := .type "tuple", data := .seq its.toArray }, toks := t' } :=
  laidT I (fun b u e => Heap.get?_push_of_some _ e) (Nat.le_refl _) (Heap.get?_push_size _ rfl) plain_new rfl r z
end
section
variable {X : Cx} {es : List Expr} {t : TA} {pos : Pos}
def rCatF (K : PySem.W.Frag) : R2 := fun x y H Q => ∃ a b xs ys, x = .ref a ∧ y = .ref b ∧ SqT K H a xs ∧ SqT K H b ys ∧ xs.length + ys.length ≤ sizeLine ∧
  (xs = [] → Q (.ref b) H) ∧ (xs ≠ [] → ys = [] → Q (.ref a) H) ∧ (xs ≠ [] → ys ≠ [] → ForTup H (xs ++ ys) Q)
theorem op_catF : OpR X (binaryOp .Add) (rCatF X.K) := by
  intro pins s σ H x y v u Q I rx ry h
  obtain ⟨a, b, xs, ys, rfl, rfl, ha, hb, hz, q0, q1, q2⟩ := h
  cases rx
  cases ry
  obtain ⟨its, r1, p1, _⟩ := I.tuple ha
  obtain ⟨its2, r2, p2, _⟩ := I.tuple hb
  by_cases hx : xs = []
  · subst hx
    cases r1
    exact cat_tup0 p1 p2 ⟨.ref b, H, I, rfl, q0 rfl⟩
  · refine HT.cat_tup p1 p2 (fun z => hx (r1.nil_iff.mp z)) (fun z => ⟨.ref a, H, I, rfl, q1 hx (r2.nil_iff.mp z)⟩) (fun z => ?_) (by rw [← r1.length, ← r2.length]; exact hz)
    exact ⟨.ref s.heap.objs.size, _, laidT1 (t' := s.toks) I (r1.append r2) (by rw [List.length_append]; exact hz), rfl, q2 hx (fun w => z (r2.nil_iff.mpr w)) _ _ plain_new (I.hok.fresh (Nat.le_refl _))⟩
def rSlF (K : PySem.W.Frag) : V → Option Int → Option Int → Hp → VK → Prop := fun x lo hi H Q => ∃ a xs, x = .ref a ∧ SqT K H a xs ∧
  (HT.sIx xs.length 0 lo = 0 ∧ HT.sIx xs.length xs.length hi = xs.length → Q (.ref a) H) ∧ (¬ (HT.sIx xs.length 0 lo = 0 ∧ HT.sIx xs.length xs.length hi = xs.length) → ForTup H (cutV xs lo hi) Q)
theorem sl_tupF : SlR X (rSlF X.K) := by
  intro pins s σ H x v vl vu lo hi sl Q I rx hs pl pu h
  obtain ⟨a, xs, rfl, hx, q1, q2⟩ := h
  cases rx
  obtain ⟨its, r, ht, hz⟩ := I.tuple hx
  have hlen : its.toArray.size = xs.length := by rw [List.size_toArray]; exact r.length.symm
  refine ⟨"tuple", _, PyProof.Rows.slot_tuple_getitem.lookup, ht.typeIs, ?_⟩
  by_cases hw : HT.sIx xs.length 0 lo = 0 ∧ HT.sIx xs.length xs.length hi = xs.length
  · exact getItem_tuple_whole ht hs pl pu (by rw [hlen]; exact hw) ⟨.ref a, H, I, rfl, q1 hw⟩
  · refine HT.getItem_tuple_cut ht hs pl pu (by rw [hlen]; exact hw) ?_ (by rw [hlen]; exact hz)
    rw [hlen]
    exact ⟨.ref s.heap.objs.size, _, laidT1 (t' := s.toks) I ((r.drop (HT.sIx xs.length 0 lo)).take (HT.sIx xs.length xs.length hi - HT.sIx xs.length 0 lo)) (Nat.le_trans (cutV_length xs lo hi) hz), rfl, q2 hw _ _ plain_new (I.hok.fresh (Nat.le_refl _))⟩
end
end DP

set_option Elab.async false
set_option linter.all false
set_option maxRecDepth 100000
set_option maxHeartbeats 4000000
namespace DP
open PySem L2

inductive D where
  | non | bl (b : Bool) | int (i : Int) | str (x : Str)
  | tup (xs : List D) | lst (xs : List D)
  | dk (ks : List Key) (vs : List D)
  | dt (ks : List (List Key)) (vs : List D)
  | ins (c : Nat) (vs : List D)
  /-- a dict whose keys are tuples, read only -/
  | dx (ks : List (List Key)) (vs : List D)
  /-- the exception that is looked at -/
  | exc (c : Nat) (vs : List D)
  | ref (n : Nat)
instance : Inhabited D := ⟨.non⟩
inductive Cell where
  | lst (xs : List D)
  | dk (ks : List Key) (vs : List D)
  | dt (ks : List (List Key)) (vs : List D)
  | ins (c : Nat) (vs : List D)
  /-- a table of code objects -/
  | tab (q : Str)
def Cell.frz : Cell → D
  | .lst xs => .lst xs
  | .dk ks vs => .dk ks vs
  | .dt ks vs => .dt ks vs
  | .ins c vs => .ins c vs
  | .tab _ => .non
inductive SV where
  | un | val (d : D) | own (c : Cell)
structure DSt where
  sl : List SV
  hp : List Cell
structure XD where
  c : Nat
  arg : Option D
inductive R (α : Type) where
  | ok (a : α) (s : DSt) | err (x : XD) (s : DSt) | stuck
abbrev DM (α : Type) := DSt → R α
inductive RS where
  | nx (s : DSt) | rt (d : D) (s : DSt) | bk (s : DSt) | ct (s : DSt) | err (x : XD) (s : DSt) | stuck
abbrev DS := DSt → RS
inductive RF where
  | ok (d : D) (hp : List Cell) | err (x : XD) (hp : List Cell) | stuck
abbrev DF := List D → List Cell → RF

structure FxO where
  o : HO
  c : Addr
  oc : HO
def FxAt (H : Hp) (L : Addr → Prop) (f : Addr) (o : FxO) : Prop := ∀ (b : Addr) (u : HO), (b = f ∧ u = o.o) ∨ (b = o.c ∧ u = o.oc) → H b = some u ∧ ¬ L b
structure Wd where
  K : PySem.W.Frag
  ca : Nat → Addr
  cf : Nat → List Str
  /-- the exception that is looked at: its place, its dict, its class -/
  xa : Option (Addr × Option Addr × Nat)
  /-- tables of code objects: names and places -/
  tbs : List (Str × Addr)
  w : World
  /-- a slot that holds a local function: the slot, the function's place, what the abstract heap says there -/
  fx : Option (Nat × Addr × FxO)
def Wd.isTb (G : Wd) (a : Addr) : Prop := ∃ q, (q, a) ∈ G.tbs
def DxAt (K : PySem.W.Frag) (w : World) (H : Hp) (a : Addr) (o : Obj) (xs : List (List Key × Addr × Value)) : Prop :=
  (a == sysModules) = false ∧ xs.length ≤ sizeLine ∧ o.ExactDict ∧ (∃ es ep, o.data = .dict es ep ∧ ∀ P : Program, es.toList = xs.map (entryOfKey (tupleKind (mixKind P w)))) ∧ (xs.map (·.1)).Nodup ∧ ∀ x ∈ xs, TupP K H x.2.1 (x.1.map kV)

def KeptL (K : PySem.W.Frag) (a : Addr) (xs : List V) : Prop := ∃ (o : Obj) (its : Array Value) (n : Nat), K.lookup a = some o ∧ o.cls = .type "list" ∧ o.dict = none ∧ o.data = .seq its n ∧ its.size ≤ sizeLine ∧ Vals xs its.toList
def FzL (K : PySem.W.Frag) (L : Addr → Prop) (H : Hp) (a : Addr) (xs : List V) : Prop :=
  (Rd H a (.lst xs) ∧ ¬ L a) ∨ KeptL K a xs
theorem FzL.sq {K : PySem.W.Frag} {L : Addr → Prop} {H : Hp} {a : Addr} {xs : List V} (h : FzL K L H a xs) : SqL K H a xs := by
  rcases h with h | h
  · exact .inl h.1
  · exact .inr h

def XvO (C : Addr) (d : Option Addr) (a : Addr) : HO := .ext fun h => ∃ t : Addr, h.get? a = some { cls := .ref C, dict := d, data := .fields #[.ref t, .none, .none, .none, .bool false, .none] }
def XvD (G : Wd) (L : Addr → Prop) (H : Hp) (c : Nat) (vs : List V) : Option Addr → Prop
  | none => vs = []
  | some dx => H dx = some (.xd ((G.cf c).zip vs)) ∧ ¬ L dx
theorem XvD.by {G : Wd} {L L' : Addr → Prop} {H H' : Hp} {c : Nat} {vs : List V} {d : Option Addr} (h : XvD G L H c vs d) (k : ∀ a o, ¬ L a → H a = some o → H' a = some o ∧ ¬ L' a) : XvD G L' H' c vs d := by
  cases d with
  | none => exact h
  | some dx => exact k _ _ h.2 h.1
mutual
inductive Rep (G : Wd) (rho : List Addr) (L : Addr → Prop) (H : Hp) : D → V → Prop where
  | non : Rep G rho L H .non .non
  | bl (b : Bool) : Rep G rho L H (.bl b) (.bl b)
  | int (i : Int) : Rep G rho L H (.int i) (.int i)
  | str (x : Str) : Rep G rho L H (.str x) (.str x)
  | tup {a : Addr} {vs : List V} {ds : List D} : TupP G.K H a vs → RepL G rho L H ds vs → Rep G rho L H (.tup ds) (.ref a)
  | lst {a : Addr} {vs : List V} {ds : List D} : FzL G.K L H a vs → RepL G rho L H ds vs → Rep G rho L H (.lst ds) (.ref a)
  | dk {a : Addr} {ks : List Key} {vs : List V} {ds : List D} {o : Obj} : H a = some (.frz o (.dK (ks.zip vs))) → ¬ L a → ks.length = vs.length → RepL G rho L H ds vs → Rep G rho L H (.dk ks ds) (.ref a)
  | dt {a : Addr} {ks : List (List Key)} {vs : List V} {ds : List D} {o : Obj} : H a = some (.frz o (.dT (ks.zip vs))) → ¬ L a → ks.length = vs.length → RepL G rho L H ds vs → Rep G rho L H (.dt ks ds) (.ref a)
  | ins {a dx : Addr} {c : Nat} {vs : List V} {ds : List D} : H a = some (.ins (G.ca c) dx ((G.cf c).zip vs)) → ¬ L a → RepL G rho L H ds vs → Rep G rho L H (.ins c ds) (.ref a)
  | dx {a : Addr} {ks : List (List Key)} {vs : List V} {ds : List D} {o : Obj} {xs : List (List Key × Addr × Value)} : H a = some (.frz o (.ext fun _ => True)) → ¬ L a → DxAt G.K G.w H a o xs → ks = xs.map (·.1) → Vals vs (xs.map (·.2.2)) → RepL G rho L H ds vs → Rep G rho L H (.dx ks ds) (.ref a)
  | exc {a dx : Addr} {c : Nat} {vs : List V} {ds : List D} : G.xa = some (a, some dx, c) → H dx = some (.xd ((G.cf c).zip vs)) → ¬ L dx → RepL G rho L H ds vs → Rep G rho L H (.exc c ds) (.ref a)
  | exc0 {a : Addr} {c : Nat} : G.xa = some (a, none, c) → Rep G rho L H (.exc c []) (.ref a)
  | excv {a : Addr} {d : Option Addr} {c : Nat} {vs : List V} {ds : List D} : G.xa = none → H a = some (XvO (G.ca c) d a) → ¬ L a → XvD G L H c vs d → RepL G rho L H ds vs → Rep G rho L H (.exc c ds) (.ref a)
  | ref {n : Nat} {a : Addr} : rho[n]? = some a → ¬ G.isTb a → Rep G rho L H (.ref n) (.ref a)
inductive RepL (G : Wd) (rho : List Addr) (L : Addr → Prop) (H : Hp) : List D → List V → Prop where
  | nil : RepL G rho L H [] []
  | cons {d : D} {v : V} {ds : List D} {vs : List V} : Rep G rho L H d v → RepL G rho L H ds vs → RepL G rho L H (d :: ds) (v :: vs)
end

section
variable {G : Wd} {rho rho' : List Addr} {L L' : Addr → Prop} {H H' : Hp}
structure Car (rho : List Addr) (L : Addr → Prop) (H : Hp) (rho' : List Addr) (L' : Addr → Prop) (H' : Hp) : Prop where
  rho : ∀ (n : Nat) (a : Addr), rho[n]? = some a → rho'[n]? = some a
  rd : ∀ (a : Addr) (o : HO), ¬ L a → Rd H a o → Rd H' a o
  ins : ∀ (a C dx : Addr) (fs : List (Str × V)), ¬ L a → H a = some (.ins C dx fs) → H' a = some (.ins C dx fs)
  dead : ∀ (a : Addr), ¬ L a → H a ≠ none → ¬ L' a
  tup : ∀ (a : Addr) (vs : List V), TupH H a vs → TupH H' a vs
  frz : ∀ (a : Addr) (o : Obj) (u : HO), ¬ L a → H a = some (.frz o u) → H' a = some (.frz o u)
  all : ∀ (a : Addr) (o : HO), ¬ L a → H a = some o → H' a = some o
theorem DxAt.car {K : PySem.W.Frag} {w : World} {H H' : Hp} {a : Addr} {o : Obj} {xs : List (List Key × Addr × Value)} (h : DxAt K w H a o xs) (k : ∀ (a : Addr) (vs : List V), TupH H a vs → TupH H' a vs) : DxAt K w H' a o xs := by
  obtain ⟨h0, h1, h2, h3, h4, h5⟩ := h
  refine ⟨h0, h1, h2, h3, h4, fun x hx => ?_⟩
  rcases h5 x hx with z | z
  · exact .inl (k _ _ z)
  · exact .inr z
theorem rdsome {H : Hp} {a : Addr} {u : HO} (h : Rd H a u) : H a ≠ none := by
  rcases h with h | ⟨o, h⟩ <;> rw [h] <;> exact fun z => by cases z
mutual
theorem Rep.car (c : Car rho L H rho' L' H') : ∀ {d : D} {v : V}, Rep G rho L H d v → Rep G rho' L' H' d v
  | .non, _, h => by cases h; exact .non
  | .bl b, _, h => by cases h; exact .bl b
  | .int i, _, h => by cases h; exact .int i
  | .str x, _, h => by cases h; exact .str x
  | .tup ds, _, h => by
    cases h with
    | tup ht ha =>
      refine .tup ?_ (RepL.car c ha)
      rcases ht with ht | ht
      · exact .inl (c.tup _ _ ht)
      · exact .inr ht
  | .lst ds, _, h => by
    cases h with
    | lst hl ha =>
      refine .lst ?_ (RepL.car c ha)
      rcases hl with ⟨hl, hn⟩ | hl
      · exact .inl ⟨c.rd _ _ hn hl, c.dead _ hn (rdsome hl)⟩
      · exact .inr hl
  | .dk ks ds, _, h => by
    cases h with
    | dk hl hn hz ha => exact .dk (c.frz _ _ _ hn hl) (c.dead _ hn (by rw [hl]; exact fun z => by cases z)) hz (RepL.car c ha)
  | .dt ks ds, _, h => by
    cases h with
    | dt hl hn hz ha => exact .dt (c.frz _ _ _ hn hl) (c.dead _ hn (by rw [hl]; exact fun z => by cases z)) hz (RepL.car c ha)
  | .ins k ds, _, h => by
    cases h with
    | ins hl hn ha => exact .ins (c.ins _ _ _ _ hn hl) (c.dead _ hn (by rw [hl]; exact fun z => by cases z)) (RepL.car c ha)
  | .dx ks ds, _, h => by
    cases h with
    | dx hl hn hd e hv ha => exact .dx (c.frz _ _ _ hn hl) (c.dead _ hn (by rw [hl]; exact fun z => by cases z)) (hd.car c.tup) e hv (RepL.car c ha)
  | .exc k ds, _, h => by
    cases h with
    | exc e hl hn ha => exact .exc e (c.all _ _ hn hl) (c.dead _ hn (by rw [hl]; exact fun z => by cases z)) (RepL.car c ha)
    | exc0 e => exact .exc0 e
    | excv e hl hn hd ha => exact .excv e (c.all _ _ hn hl) (c.dead _ hn (by rw [hl]; exact fun z => by cases z)) (hd.by fun a o n e => ⟨c.all _ _ n e, c.dead _ n (by rw [e]; exact fun z => by cases z)⟩) (RepL.car c ha)
  | .ref n, _, h => by
    cases h with
    | ref hl ht => exact .ref (c.rho _ _ hl) ht
theorem RepL.car (c : Car rho L H rho' L' H') : ∀ {ds : List D} {vs : List V}, RepL G rho L H ds vs → RepL G rho' L' H' ds vs
  | [], _, h => by cases h; exact .nil
  | d :: ds, _, h => by
    cases h with
    | cons h1 h2 => exact .cons (Rep.car c h1) (RepL.car c h2)
end
theorem RepL.length : ∀ {ds : List D} {vs : List V}, RepL G rho L H ds vs → ds.length = vs.length
  | [], _, h => by cases h; rfl
  | d :: ds, _, h => by
    cases h with
    | cons h1 h2 => simp [RepL.length h2]
theorem RepL.get : ∀ {ds : List D} {vs : List V} {i : Nat} {v : V}, RepL G rho L H ds vs → vs[i]? = some v → ∃ d, ds[i]? = some d ∧ Rep G rho L H d v
  | [], _, _, _, h, e => by cases h; simp at e
  | d :: ds, _, 0, _, h, e => by
    cases h with
    | cons h1 h2 => simp at e; subst e; exact ⟨d, rfl, h1⟩
  | d :: ds, _, i + 1, v, h, e => by
    cases h with
    | cons h1 h2 =>
      obtain ⟨d', e', r⟩ := RepL.get (i := i) (v := v) h2 (by simpa using e)
      exact ⟨d', by simpa using e', r⟩
theorem RepL.get' : ∀ {ds : List D} {vs : List V} {i : Nat} {d : D}, RepL G rho L H ds vs → ds[i]? = some d → ∃ v, vs[i]? = some v ∧ Rep G rho L H d v
  | [], _, _, _, h, e => by simp at e
  | d :: ds, _, 0, _, h, e => by
    cases h with
    | cons h1 h2 => simp at e; subst e; exact ⟨_, rfl, h1⟩
  | d :: ds, _, i + 1, v, h, e => by
    cases h with
    | cons h1 h2 =>
      obtain ⟨d', e', r⟩ := RepL.get' (i := i) (d := v) h2 (by simpa using e)
      exact ⟨d', by simpa using e', r⟩
theorem RepL.append : ∀ {ds es : List D} {vs ws : List V}, RepL G rho L H ds vs → RepL G rho L H es ws → RepL G rho L H (ds ++ es) (vs ++ ws)
  | [], _, _, _, h, k => by cases h; exact k
  | d :: ds, _, _, _, h, k => by
    cases h with
    | cons h1 h2 => exact .cons h1 (RepL.append h2 k)
theorem RepL.set : ∀ {ds : List D} {vs : List V} {d : D} {v : V} (i : Nat), RepL G rho L H ds vs → Rep G rho L H d v → RepL G rho L H (ds.set i d) (vs.set i v)
  | [], _, _, _, _, h, _ => by cases h; exact .nil
  | d :: ds, _, _, _, 0, h, k => by
    cases h with
    | cons h1 h2 => exact .cons k h2
  | d :: ds, _, _, _, i + 1, h, k => by
    cases h with
    | cons h1 h2 => exact .cons h1 (RepL.set i h2 k)
theorem RepL.take : ∀ {ds : List D} {vs : List V} (n : Nat), RepL G rho L H ds vs → RepL G rho L H (ds.take n) (vs.take n)
  | _, _, 0, _ => .nil
  | [], _, n + 1, h => by cases h; exact .nil
  | d :: ds, _, n + 1, h => by
    cases h with
    | cons h1 h2 => exact .cons h1 (RepL.take n h2)
theorem RepL.drop : ∀ {ds : List D} {vs : List V} (n : Nat), RepL G rho L H ds vs → RepL G rho L H (ds.drop n) (vs.drop n)
  | _, _, 0, h => h
  | [], _, n + 1, h => by cases h; exact .nil
  | d :: ds, _, n + 1, h => by
    cases h with
    | cons h1 h2 => exact RepL.drop n h2
theorem RepL.snoc {ds : List D} {vs : List V} {d : D} {v : V} (h : RepL G rho L H ds vs) (k : Rep G rho L H d v) : RepL G rho L H (ds ++ [d]) (vs ++ [v]) := h.append (.cons k .nil)
theorem RepL.reverse : ∀ {ds : List D} {vs : List V}, RepL G rho L H ds vs → RepL G rho L H ds.reverse vs.reverse
  | [], _, h => by cases h; exact .nil
  | d :: ds, _, h => by
    cases h with
    | cons h1 h2 => simp only [List.reverse_cons]; exact (RepL.reverse h2).append (.cons h1 .nil)
end

structure Pt where
  rho : List Addr
  st : DSt
  sg : St
  H : Hp
def Pt.M (p : Pt) (a : Addr) : Prop := a ∈ p.rho ∨ ∃ (i : Nat) (c : Cell), p.st.sl[i]? = some (SV.own c) ∧ p.sg[i]? = some (some (V.ref a))
abbrev Pt.L (Z : Addr → Prop) (p : Pt) : Addr → Prop := fun a => p.M a ∨ Z a
abbrev RepP (G : Wd) (Z : Addr → Prop) (p : Pt) := Rep G p.rho (p.L Z) p.H
abbrev RepLP (G : Wd) (Z : Addr → Prop) (p : Pt) := RepL G p.rho (p.L Z) p.H
def CellAt (G : Wd) (rho : List Addr) (L : Addr → Prop) (H : Hp) (a : Addr) : Cell → Prop
  | .lst ds => ∃ vs, H a = some (.lst vs) ∧ RepL G rho L H ds vs
  | .dk ks ds => ∃ vs, H a = some (.dK (ks.zip vs)) ∧ ks.length = vs.length ∧ RepL G rho L H ds vs
  | .dt ks ds => ∃ vs, H a = some (.dT (ks.zip vs)) ∧ ks.length = vs.length ∧ RepL G rho L H ds vs
  | .ins c ds => ∃ dx vs, H a = some (.ins (G.ca c) dx ((G.cf c).zip vs)) ∧ RepL G rho L H ds vs
  | .tab _ => False
def TabQ (L : Addr → Prop) (H : Hp) (P : Addr) (q : Str) : Prop := ∃ ps : Array Value, H P = some (.tbl ps) ∧ TriplesOk ps.toList ∧ ∀ (pos : Pos) (cv : Value), codeAmong pos ps.toList = some cv → ∃ c, cv = .ref c ∧ H c = some (LamX.CodeO c q) ∧ ¬ L c
theorem TabQ.car {L L' : Addr → Prop} {H H' : Hp} {P : Addr} {q : Str} (h : TabQ L H P q) (e : H' P = H P) (k : ∀ a o, ¬ L a → H a = some o → H' a = some o) (d : ∀ a, ¬ L a → H a ≠ none → ¬ L' a) : TabQ L' H' P q := by
  obtain ⟨ps, h1, h2, h3⟩ := h
  refine ⟨ps, e.trans h1, h2, fun pos cv hc => ?_⟩
  obtain ⟨c, e1, e2, e3⟩ := h3 pos cv hc
  exact ⟨c, e1, k _ _ e3 e2, d _ e3 (by rw [e2]; exact fun z => by cases z)⟩
def CellQ (G : Wd) (rho : List Addr) (L : Addr → Prop) (H : Hp) (a : Addr) (c : Cell) : Prop := CellAt G rho L H a c ∨ ∃ q, c = .tab q ∧ (q, a) ∈ G.tbs ∧ TabQ L H a q
abbrev CellP (G : Wd) (Z : Addr → Prop) (p : Pt) := CellAt G p.rho (p.L Z) p.H
structure SR (G : Wd) (Z : Addr → Prop) (p : Pt) : Prop where
  len : p.st.sl.length = p.sg.length
  hlen : p.rho.length = p.st.hp.length
  val : ∀ (i : Nat) (d : D), p.st.sl[i]? = some (SV.val d) → ∃ v, p.sg[i]? = some (some v) ∧ RepP G Z p d v
  own : ∀ (i : Nat) (c : Cell), p.st.sl[i]? = some (SV.own c) → ∃ (a : Addr), p.sg[i]? = some (some (V.ref a)) ∧ CellP G Z p a c ∧ a ∉ p.rho ∧ ¬ Z a
  cellQ : ∀ (n : Nat) (c : Cell), p.st.hp[n]? = some c → ∃ (a : Addr), p.rho[n]? = some a ∧ CellQ G p.rho (p.L Z) p.H a c ∧ ¬ Z a
  nod : p.rho.Nodup
  dis : ∀ (i j : Nat) (c c' : Cell) (a : Addr), p.st.sl[i]? = some (SV.own c) → p.st.sl[j]? = some (SV.own c') → p.sg[i]? = some (some (V.ref a)) → p.sg[j]? = some (some (V.ref a)) → i = j
  zin : ∀ a, Z a ∨ G.isTb a → p.H a ≠ none
  fxo : ∀ (i : Nat) (f : Addr) (o : FxO), G.fx = some (i, f, o) → p.st.sl[i]? = some SV.un → p.sg[i]? = some (some (V.ref f)) ∧ FxAt p.H (p.L Z) f o

structure Le (p p' : Pt) : Prop where
  rho : ∀ (n : Nat) (a : Addr), p.rho[n]? = some a → p'.rho[n]? = some a
  keep : ∀ (a : Addr) (o : HO), p.H a = some o → ¬ p.M a → p'.H a = some o ∧ ¬ p'.M a
  tup : ∀ (a : Addr) (vs : List V), TupH p.H a vs → TupH p'.H a vs
  has : ∀ (a : Addr), p.H a ≠ none → p'.H a ≠ none
theorem Le.refl (p : Pt) : Le p p := ⟨fun _ _ h => h, fun _ _ h k => ⟨h, k⟩, fun _ _ h => h, fun _ h => h⟩
theorem Le.trans {p q r : Pt} (a : Le p q) (b : Le q r) : Le p r :=
  ⟨fun n x h => b.rho n x (a.rho n x h), fun x o h k => let ⟨h1, k1⟩ := a.keep x o h k; b.keep x o h1 k1, fun x v h => b.tup x v (a.tup x v h), fun x h => b.has x (a.has x h)⟩
theorem Le.car {p q : Pt} (Z : Addr → Prop) (a : Le p q) : Car p.rho (p.L Z) p.H q.rho (q.L Z) q.H where
  rho := a.rho
  rd := fun x o hn h => by
    have hm : ¬ p.M x := fun z => hn (.inl z)
    rcases h with h | ⟨u, h⟩
    · exact .inl (a.keep x _ h hm).1
    · exact .inr ⟨u, (a.keep x _ h hm).1⟩
  ins := fun x C dx fs hn h => (a.keep x _ h fun z => hn (.inl z)).1
  dead := fun x hn h => by
    cases e : p.H x with
    | none => exact absurd e h
    | some o =>
      rintro (z | z)
      · exact (a.keep x o e fun z => hn (.inl z)).2 z
      · exact hn (.inr z)
  tup := a.tup
  frz := fun x o u hn h => (a.keep x _ h fun z => hn (.inl z)).1
  all := fun x o hn h => (a.keep x _ h fun z => hn (.inl z)).1
theorem Le.rep {G : Wd} {Z : Addr → Prop} {p q : Pt} (a : Le p q) {d : D} {v : V} (h : RepP G Z p d v) : RepP G Z q d v := h.car (a.car Z)
theorem Le.repL {G : Wd} {Z : Addr → Prop} {p q : Pt} (a : Le p q) {ds : List D} {vs : List V} (h : RepLP G Z p ds vs) : RepLP G Z q ds vs := RepL.car (a.car Z) h

section
variable {G : Wd} {Z : Addr → Prop} {p : Pt}

theorem CellAt.some {rho : List Addr} {L : Addr → Prop} {H : Hp} {a : Addr} {c : Cell} (h : CellAt G rho L H a c) : H a ≠ none := by
  cases c with
  | lst _ => obtain ⟨vs, e, _⟩ := h; rw [e]; exact fun z => by cases z
  | dk _ _ => obtain ⟨vs, e, _⟩ := h; rw [e]; exact fun z => by cases z
  | dt _ _ => obtain ⟨vs, e, _⟩ := h; rw [e]; exact fun z => by cases z
  | ins _ _ => obtain ⟨dx, vs, e, _⟩ := h; rw [e]; exact fun z => by cases z
  | tab _ => exact h.elim
theorem CellAt.mut {rho : List Addr} {L : Addr → Prop} {H : Hp} {a : Addr} {c : Cell} (h : CellAt G rho L H a c) : Mut (H a) := by
  cases c with
  | lst _ => obtain ⟨vs, e, _⟩ := h; rw [e]; trivial
  | dk _ _ => obtain ⟨vs, e, _⟩ := h; rw [e]; trivial
  | dt _ _ => obtain ⟨vs, e, _⟩ := h; rw [e]; trivial
  | ins _ _ => obtain ⟨dx, vs, e, _⟩ := h; rw [e]; trivial
  | tab _ => exact h.elim
theorem SR.cell (S : SR G Z p) (n : Nat) (c : Cell) (h : p.st.hp[n]? = some c) {b : Addr} (r : p.rho[n]? = some b) (nt : ¬ G.isTb b) : ∃ (a : Addr), p.rho[n]? = some a ∧ CellP G Z p a c ∧ ¬ Z a := by
  obtain ⟨a, h1, h2 | ⟨q, _, h2, _⟩, h3⟩ := S.cellQ n c h
  · exact ⟨a, h1, h2, h3⟩
  · rw [r] at h1
    cases h1
    exact absurd ⟨q, h2⟩ nt
def MutT : Option HO → Prop
  | some (.lst _) => True
  | some (.dK _) => True
  | some (.dT _) => True
  | some (.ins _ _ _) => True
  | some (.tbl _) => True
  | _ => False
theorem CellAt.mutT {rho : List Addr} {L : Addr → Prop} {H : Hp} {a : Addr} {c : Cell} (h : CellAt G rho L H a c) : MutT (H a) := by
  cases c with
  | lst _ => obtain ⟨vs, e, _⟩ := h; rw [e]; trivial
  | dk _ _ => obtain ⟨vs, e, _⟩ := h; rw [e]; trivial
  | dt _ _ => obtain ⟨vs, e, _⟩ := h; rw [e]; trivial
  | ins _ _ => obtain ⟨dx, vs, e, _⟩ := h; rw [e]; trivial
  | tab _ => exact h.elim
theorem CellQ.mutT {rho : List Addr} {L : Addr → Prop} {H : Hp} {a : Addr} {c : Cell} (h : CellQ G rho L H a c) : MutT (H a) := by
  rcases h with h | ⟨q, _, _, ps, h, _, _⟩
  · exact h.mutT
  · rw [h]; trivial
theorem SR.mut (S : SR G Z p) {a : Addr} (h : p.M a) : MutT (p.H a) := by
  rcases h with h | ⟨i, c, h, k⟩
  · obtain ⟨n, hn, rfl⟩ := List.getElem_of_mem h
    have hl : n < p.st.hp.length := by rw [← S.hlen]; exact hn
    obtain ⟨a, e, q, _⟩ := S.cellQ n _ (List.getElem?_eq_getElem hl)
    rw [List.getElem?_eq_getElem hn] at e
    cases e
    exact q.mutT
  · obtain ⟨a', e, q, _⟩ := S.own i c h
    rw [k] at e
    cases e
    exact q.mutT
theorem SR.has (S : SR G Z p) {a : Addr} (h : p.M a) : p.H a ≠ none := by
  have := S.mut h
  intro e
  rw [e] at this
  exact this
theorem CellQ.keep {q : Pt} (S : SR G Z p) {a : Addr} {c : Cell} (l : Le p q) (h : CellQ G p.rho (p.L Z) p.H a c) (e : q.H a = p.H a) (k : CellP G Z p a c → CellP G Z q a c) : CellQ G q.rho (q.L Z) q.H a c := by
  rcases h with h | ⟨q', h1, h2, h3⟩
  · exact .inl (k h)
  · exact .inr ⟨q', h1, h2, h3.car e (l.car Z).all (l.car Z).dead⟩
theorem SR.hasL (S : SR G Z p) {a : Addr} (h : p.L Z a) : p.H a ≠ none := by
  rcases h with h | h
  · exact S.has h
  · exact S.zin _ (.inl h)
theorem SR.notTup (S : SR G Z p) {a : Addr} {vs : List V} (h : p.M a) (e : Rd p.H a (.tup vs)) : False := by
  have m := S.mut h
  rcases e with e | ⟨o, e⟩ <;> rw [e] at m <;> exact m
end

theorem SR.ext {G : Wd} {Z : Addr → Prop} {p : Pt} {H' : Hp} (S : SR G Z p) (e : Same p.H H') : SR G Z { p with H := H' } ∧ Le p { p with H := H' } := by
  have hh : ∀ a, p.H a ≠ none → H' a ≠ none := fun a h => by
    cases q : p.H a with
    | none => exact absurd q h
    | some o => rw [e a o q]; exact fun z => by cases z
  have l : Le p { p with H := H' } := ⟨fun _ _ h => h, fun a o h k => ⟨e a o h, k⟩, fun a vs h => h.by (e a), hh⟩
  have cc : ∀ a c, CellP G Z p a c → CellP G Z { p with H := H' } a c := fun a c h => by
    cases c with
    | lst ds => obtain ⟨vs, h1, h2⟩ := h; exact ⟨vs, e a _ h1, l.repL h2⟩
    | dk ks ds => obtain ⟨vs, h1, hz, h2⟩ := h; exact ⟨vs, e a _ h1, hz, l.repL h2⟩
    | dt ks ds => obtain ⟨vs, h1, hz, h2⟩ := h; exact ⟨vs, e a _ h1, hz, l.repL h2⟩
    | ins c ds => obtain ⟨dx, vs, h1, h2⟩ := h; exact ⟨dx, vs, e a _ h1, l.repL h2⟩
    | tab _ => exact h.elim
  refine ⟨⟨S.len, S.hlen, fun i d h => ?_, fun i c h => ?_, fun n c h => ?_, S.nod, S.dis, fun a h => hh a (S.zin a h), fun i f o e1 e2 => let ⟨h1, h2⟩ := S.fxo i f o e1 e2; ⟨h1, fun b u hb => ⟨e b u (h2 b u hb).1, (h2 b u hb).2⟩⟩⟩, l⟩
  · obtain ⟨v, h1, h2⟩ := S.val i d h
    exact ⟨v, h1, l.rep h2⟩
  · obtain ⟨a, h1, h2, h3⟩ := S.own i c h
    exact ⟨a, h1, cc a c h2, h3⟩
  · obtain ⟨a, h1, h2, h3⟩ := S.cellQ n c h
    refine ⟨a, h1, CellQ.keep (q := { p with H := H' }) S l h2 ?_ (cc a c), h3⟩
    cases q : p.H a with
    | none => have := h2.mutT; rw [q] at this; exact this.elim
    | some o => exact e a o q
theorem same_upd {H : Hp} {a : Addr} {o : HO} (h : H a = none) : Same H (upd H a o) := fun b u e => by
  rw [upd_ne (ne_of_none e h)]; exact e
theorem SR.freeL {G : Wd} {Z : Addr → Prop} {p : Pt} (S : SR G Z p) {a : Addr} (h : p.H a = none) : ¬ p.L Z a := fun z => S.hasL z h
theorem SR.fxk {G : Wd} {Z : Addr → Prop} {p p' : Pt} (S : SR G Z p) (l : Le p p') (h : ∀ i : Nat, p'.st.sl[i]? = some SV.un → p.st.sl[i]? = some SV.un ∧ p'.sg[i]? = p.sg[i]?) :
    ∀ (i : Nat) (f : Addr) (o : FxO), G.fx = some (i, f, o) → p'.st.sl[i]? = some SV.un → p'.sg[i]? = some (some (V.ref f)) ∧ FxAt p'.H (p'.L Z) f o := fun i f o e1 e2 => by
  obtain ⟨a, b⟩ := h i e2
  obtain ⟨h1, hf⟩ := S.fxo i f o e1 a
  refine ⟨by rw [b]; exact h1, fun b' u hb => ?_⟩
  obtain ⟨h2, h3⟩ := hf b' u hb
  obtain ⟨k1, k2⟩ := l.keep b' u h2 fun z => h3 (.inl z)
  exact ⟨k1, fun z => z.elim k2 fun z => h3 (.inr z)⟩
theorem un_set {sl : List SV} {i j : Nat} {x : SV} (hx : x ≠ SV.un) (h : (sl.set i x)[j]? = some SV.un) : i ≠ j ∧ sl[j]? = some SV.un := by
  by_cases e : i = j
  · subst e
    by_cases hl : i < sl.length
    · rw [List.getElem?_set_self hl] at h
      exact absurd (Option.some.inj h) hx
    · rw [List.getElem?_eq_none (by rw [List.length_set]; omega)] at h
      cases h
  · rw [List.getElem?_set_ne e] at h
    exact ⟨e, h⟩
end DP

set_option Elab.async false
set_option linter.all false
set_option maxRecDepth 100000
set_option maxHeartbeats 4000000
namespace DP
open PySem L2
section
variable {G : Wd} {Z : Addr → Prop} {p : Pt}

def CellO (G : Wd) (Z : Addr → Prop) (p : Pt) (o : HO) : Cell → Prop
  | .lst ds => ∃ vs, o = .lst vs ∧ RepLP G Z p ds vs
  | .dk ks ds => ∃ vs, o = .dK (ks.zip vs) ∧ ks.length = vs.length ∧ RepLP G Z p ds vs
  | .dt ks ds => ∃ vs, o = .dT (ks.zip vs) ∧ ks.length = vs.length ∧ RepLP G Z p ds vs
  | .ins c ds => ∃ dx vs, o = .ins (G.ca c) dx ((G.cf c).zip vs) ∧ RepLP G Z p ds vs
  | .tab _ => False
theorem CellO.at {p' : Pt} {o : HO} {c : Cell} {a : Addr} (l : Le p p') (h : CellO G Z p o c) (e : p'.H a = some o) : CellP G Z p' a c := by
  cases c with
  | lst ds => obtain ⟨vs, rfl, h⟩ := h; exact ⟨vs, e, l.repL h⟩
  | dk ks ds => obtain ⟨vs, rfl, hz, h⟩ := h; exact ⟨vs, e, hz, l.repL h⟩
  | dt ks ds => obtain ⟨vs, rfl, hz, h⟩ := h; exact ⟨vs, e, hz, l.repL h⟩
  | ins c ds => obtain ⟨dx, vs, rfl, h⟩ := h; exact ⟨dx, vs, e, l.repL h⟩
  | tab _ => exact h.elim
theorem cellTo {a : Addr} {c : Cell} (h : CellP G Z p a c) : ∃ o : HO, p.H a = Option.some o ∧ CellO G Z p o c := by
  cases c with
  | lst ds => obtain ⟨vs, e, h⟩ := h; exact ⟨_, e, vs, rfl, h⟩
  | dk ks ds => obtain ⟨vs, e, hz, h⟩ := h; exact ⟨_, e, vs, rfl, hz, h⟩
  | dt ks ds => obtain ⟨vs, e, hz, h⟩ := h; exact ⟨_, e, vs, rfl, hz, h⟩
  | ins c ds => obtain ⟨dx, vs, e, h⟩ := h; exact ⟨_, e, dx, vs, rfl, h⟩
  | tab _ => exact h.elim
theorem CellO.mut {o : HO} {c : Cell} (h : CellO G Z p o c) : Mut (some o) := by
  cases c with
  | lst ds => obtain ⟨vs, rfl, h⟩ := h; trivial
  | dk ks ds => obtain ⟨vs, rfl, hz, h⟩ := h; trivial
  | dt ks ds => obtain ⟨vs, rfl, hz, h⟩ := h; trivial
  | ins c ds => obtain ⟨dx, vs, rfl, h⟩ := h; trivial
  | tab _ => exact h.elim
theorem CellAt.keep {p' : Pt} {a : Addr} {c : Cell} (l : Le p p') (h : CellP G Z p a c) (e : p'.H a = p.H a) : CellP G Z p' a c := by
  obtain ⟨o, ho, hc⟩ := cellTo h
  exact hc.at l (e.trans ho)
theorem CellQ.at (S : SR G Z p) {p' : Pt} {a : Addr} {c : Cell} (l : Le p p') (h : CellQ G p.rho (p.L Z) p.H a c) (e : p'.H a = p.H a) : CellQ G p'.rho (p'.L Z) p'.H a c := CellQ.keep S l h e fun k => CellAt.keep l k e
theorem CellQ.some {rho : List Addr} {L : Addr → Prop} {H : Hp} {a : Addr} {c : Cell} (h : CellQ G rho L H a c) : H a ≠ none := fun e => by
  have := h.mutT
  rw [e] at this
  exact this
def isDct : Cell → Bool
  | .dk _ _ => true
  | .dt _ _ => true
  | _ => false
theorem CellAt.frz {a : Addr} {c : Cell} (hd : isDct c = false) (h : CellP G Z p a c) {p' : Pt} (l : Le p p') (e : p'.H a = p.H a) (n : ¬ p'.L Z a) : RepP G Z p' c.frz (.ref a) := by
  have h' := CellAt.keep l h e
  cases c with
  | lst ds => obtain ⟨vs, e, h⟩ := h'; exact .lst (.inl ⟨.inl e, n⟩) h
  | dk ks ds => cases hd
  | dt ks ds => cases hd
  | ins c ds => obtain ⟨dx, vs, e, h⟩ := h'; exact .ins e n h
  | tab _ => exact h'.elim

abbrev Pt.setSl (p : Pt) (i : Nat) (x : SV) : Pt := { p with st := { p.st with sl := p.st.sl.set i x } }
theorem set_get {α : Type} {xs : List α} {i j : Nat} {x y : α} (h : (xs.set i x)[j]? = some y) : (i = j ∧ x = y ∧ i < xs.length) ∨ (i ≠ j ∧ xs[j]? = some y) := by
  by_cases e : i = j
  · subst e
    by_cases hl : i < xs.length
    · rw [List.getElem?_set_self hl] at h
      exact .inl ⟨rfl, Option.some.inj h, hl⟩
    · rw [List.getElem?_eq_none (by simpa using hl)] at h
      cases h
  · rw [List.getElem?_set_ne e] at h
    exact .inr ⟨e, h⟩

theorem SR.setVal (S : SR G Z p) {i : Nat} {d : D} {v : V} (r : RepP G Z p d v) :
    SR G Z ⟨p.rho, ⟨p.st.sl.set i (.val d), p.st.hp⟩, p.sg.set i (some v), p.H⟩ ∧ Le p ⟨p.rho, ⟨p.st.sl.set i (.val d), p.st.hp⟩, p.sg.set i (some v), p.H⟩ := by
  have hm : ∀ a, Pt.M ⟨p.rho, ⟨p.st.sl.set i (.val d), p.st.hp⟩, p.sg.set i (some v), p.H⟩ a → p.M a := fun a h => by
    rcases h with h | ⟨j, c, h, k⟩
    · exact .inl h
    · rcases set_get h with ⟨_, z, _⟩ | ⟨ne, h⟩
      · cases z
      · have k' : (p.sg.set i (some v))[j]? = some (some (V.ref a)) := k
        rw [List.getElem?_set_ne ne] at k'
        exact .inr ⟨j, c, h, k'⟩
  have l : Le p ⟨p.rho, ⟨p.st.sl.set i (.val d), p.st.hp⟩, p.sg.set i (some v), p.H⟩ := ⟨fun _ _ h => h, fun a o h k => ⟨h, fun z => k (hm a z)⟩, fun _ _ h => h, fun _ h => h⟩
  refine ⟨⟨by simpa using S.len, S.hlen, fun j e h => ?_, fun j c h => ?_, fun n c h => ?_, S.nod, fun j k c c' a h1 h2 h3 h4 => ?_, S.zin, S.fxk l fun j h => by
    obtain ⟨ne, h2⟩ := un_set (by simp) h
    exact ⟨h2, List.getElem?_set_ne ne⟩⟩, l⟩
  · rcases set_get h with ⟨rfl, z, hl⟩ | ⟨ne, h⟩
    · cases z
      exact ⟨v, List.getElem?_set_self (by rw [← S.len]; exact hl), l.rep r⟩
    · obtain ⟨u, h1, h2⟩ := S.val j e h
      exact ⟨u, (List.getElem?_set_ne ne).trans h1, l.rep h2⟩
  · rcases set_get h with ⟨_, z, _⟩ | ⟨ne, h⟩
    · cases z
    · obtain ⟨a, h1, h2, h3⟩ := S.own j c h
      exact ⟨a, (List.getElem?_set_ne ne).trans h1, CellAt.keep l h2 rfl, h3⟩
  · obtain ⟨a, h1, h2, h3⟩ := S.cellQ n c h
    exact ⟨a, h1, CellQ.at S l h2 rfl, h3⟩
  · rcases set_get h1 with ⟨_, z, _⟩ | ⟨ne, h1⟩
    · cases z
    · rcases set_get h2 with ⟨_, z, _⟩ | ⟨ne2, h2⟩
      · cases z
      · have h3' : (p.sg.set i (some v))[j]? = some (some (V.ref a)) := h3
        have h4' : (p.sg.set i (some v))[k]? = some (some (V.ref a)) := h4
        rw [List.getElem?_set_ne ne] at h3'
        rw [List.getElem?_set_ne ne2] at h4'
        exact S.dis j k c c' a h1 h2 h3' h4'

def fxNe (x : Option (Nat × Addr × FxO)) (i : Nat) : Bool := match x with
  | none => true
  | some (j, _, _) => j != i
theorem SR.setUn (S : SR G Z p) {i : Nat} (hx : fxNe G.fx i = true) :
    SR G Z ⟨p.rho, ⟨p.st.sl.set i .un, p.st.hp⟩, p.sg.set i none, p.H⟩ ∧ Le p ⟨p.rho, ⟨p.st.sl.set i .un, p.st.hp⟩, p.sg.set i none, p.H⟩ := by
  have hm : ∀ a, Pt.M ⟨p.rho, ⟨p.st.sl.set i .un, p.st.hp⟩, p.sg.set i none, p.H⟩ a → p.M a := fun a h => by
    rcases h with h | ⟨j, c, h, k⟩
    · exact .inl h
    · rcases set_get h with ⟨_, z, _⟩ | ⟨ne, h⟩
      · cases z
      · have k' : (p.sg.set i none)[j]? = some (some (V.ref a)) := k
        rw [List.getElem?_set_ne ne] at k'
        exact .inr ⟨j, c, h, k'⟩
  have l : Le p ⟨p.rho, ⟨p.st.sl.set i .un, p.st.hp⟩, p.sg.set i none, p.H⟩ := ⟨fun _ _ h => h, fun a o h k => ⟨h, fun z => k (hm a z)⟩, fun _ _ h => h, fun _ h => h⟩
  refine ⟨⟨by simpa using S.len, S.hlen, fun j e h => ?_, fun j c h => ?_, fun n c h => ?_, S.nod, fun j k c c' a h1 h2 h3 h4 => ?_, S.zin, ?_⟩, l⟩
  · rcases set_get h with ⟨rfl, z, hl⟩ | ⟨ne, h⟩
    · cases z
    · obtain ⟨u, h1, h2⟩ := S.val j e h
      exact ⟨u, (List.getElem?_set_ne ne).trans h1, l.rep h2⟩
  · rcases set_get h with ⟨_, z, _⟩ | ⟨ne, h⟩
    · cases z
    · obtain ⟨a, h1, h2, h3⟩ := S.own j c h
      exact ⟨a, (List.getElem?_set_ne ne).trans h1, CellAt.keep l h2 rfl, h3⟩
  · obtain ⟨a, h1, h2, h3⟩ := S.cellQ n c h
    exact ⟨a, h1, CellQ.at S l h2 rfl, h3⟩
  · rcases set_get h1 with ⟨_, z, _⟩ | ⟨ne, h1⟩
    · cases z
    · rcases set_get h2 with ⟨_, z, _⟩ | ⟨ne2, h2⟩
      · cases z
      · have h3' : (p.sg.set i none)[j]? = some (some (V.ref a)) := h3
        have h4' : (p.sg.set i none)[k]? = some (some (V.ref a)) := h4
        rw [List.getElem?_set_ne ne] at h3'
        rw [List.getElem?_set_ne ne2] at h4'
        exact S.dis j k c c' a h1 h2 h3' h4'
  · intro j f o e1 e2
    have ne : i ≠ j := fun z => by
      subst z
      unfold fxNe at hx
      rw [e1] at hx
      simp at hx
    have e2' : p.st.sl[j]? = some SV.un := by
      have := e2
      simp only [List.getElem?_set_ne ne] at this
      exact this
    obtain ⟨h1, hf⟩ := S.fxo j f o e1 e2'
    exact ⟨(List.getElem?_set_ne ne).trans h1, fun b u hb => ⟨(hf b u hb).1, fun z => z.elim (fun z => (hf b u hb).2 (.inl (hm b z))) fun z => (hf b u hb).2 (.inr z)⟩⟩

theorem upd_has {H : Hp} {a : Addr} {o : HO} {b : Addr} (h : H b ≠ none) : upd H a o b ≠ none := by
  by_cases e : b = a
  · subst e; rw [upd_same]; exact fun z => by cases z
  · rw [upd_ne e]; exact h
theorem Le.write (S : SR G Z p) {a : Addr} {o : HO} {st : DSt} (m : p.M a) (hM : ∀ b, Pt.M ⟨p.rho, st, p.sg, upd p.H a o⟩ b → p.M b) : Le p ⟨p.rho, st, p.sg, upd p.H a o⟩ :=
  ⟨fun _ _ h => h, fun b u h k => ⟨(upd_ne fun e => k (by rw [e]; exact m)).trans h, fun z => k (hM b z)⟩, fun b vs h => by
    have ne : b ≠ a := fun e => S.notTup m (by rw [← e]; exact h.rd)
    exact h.by fun u h => (upd_ne ne).trans h, fun b h => upd_has h⟩
theorem SR.writeOwn (S : SR G Z p) {i : Nat} {a : Addr} {o : HO} {c c' : Cell} (hi : p.st.sl[i]? = some (.own c)) (hs : p.sg[i]? = some (some (.ref a))) (hc : CellO G Z p o c') :
    SR G Z ⟨p.rho, ⟨p.st.sl.set i (.own c'), p.st.hp⟩, p.sg, upd p.H a o⟩ ∧ Le p ⟨p.rho, ⟨p.st.sl.set i (.own c'), p.st.hp⟩, p.sg, upd p.H a o⟩ := by
  have m : p.M a := .inr ⟨i, c, hi, hs⟩
  obtain ⟨a', hs', ca, nr, nz⟩ := S.own i c hi
  rw [hs] at hs'; cases hs'
  have l : Le p ⟨p.rho, ⟨p.st.sl.set i (.own c'), p.st.hp⟩, p.sg, upd p.H a o⟩ := Le.write S m fun b h => by
    rcases h with h | ⟨j, c1, h, k⟩
    · exact .inl h
    · rcases set_get h with ⟨rfl, z, _⟩ | ⟨ne, h⟩
      · exact .inr ⟨i, c, hi, k⟩
      · exact .inr ⟨j, c1, h, k⟩
  refine ⟨⟨by simpa using S.len, S.hlen, fun j e h => ?_, fun j c1 h => ?_, fun n c1 h => ?_, S.nod, fun j k c1 c2 b h1 h2 h3 h4 => ?_, fun b h => upd_has (S.zin b h), S.fxk l fun j h => ⟨(un_set (by simp) h).2, rfl⟩⟩, l⟩
  · rcases set_get h with ⟨rfl, z, hl⟩ | ⟨ne, h⟩
    · cases z
    · obtain ⟨u, h1, h2⟩ := S.val j e h
      exact ⟨u, h1, l.rep h2⟩
  · rcases set_get h with ⟨rfl, z, hl⟩ | ⟨ne, h⟩
    · cases z
      exact ⟨a, hs, hc.at l upd_same, nr, nz⟩
    · obtain ⟨b, h1, h2, h3⟩ := S.own j c1 h
      refine ⟨b, h1, CellAt.keep l h2 (upd_ne fun e => ?_), h3⟩
      exact ne (S.dis i j c c1 a hi h hs (e ▸ h1))
  · obtain ⟨b, h1, h2, h3⟩ := S.cellQ n c1 h
    refine ⟨b, h1, CellQ.at S l h2 (upd_ne fun e => ?_), h3⟩
    subst e
    exact nr (List.mem_of_getElem? h1)
  · have g1 : ∃ c1', p.st.sl[j]? = some (SV.own c1') := by
      rcases set_get h1 with ⟨rfl, _, _⟩ | ⟨_, h⟩
      · exact ⟨c, hi⟩
      · exact ⟨c1, h⟩
    have g2 : ∃ c2', p.st.sl[k]? = some (SV.own c2') := by
      rcases set_get h2 with ⟨rfl, _, _⟩ | ⟨_, h⟩
      · exact ⟨c, hi⟩
      · exact ⟨c2, h⟩
    obtain ⟨x, hx⟩ := g1
    obtain ⟨y, hy⟩ := g2
    exact S.dis j k x y b hx hy h3 h4
theorem SR.writeCell (S : SR G Z p) {n : Nat} {a : Addr} {o : HO} {c' : Cell} (hs : p.rho[n]? = some a) (hc : CellO G Z p o c') :
    SR G Z ⟨p.rho, ⟨p.st.sl, p.st.hp.set n c'⟩, p.sg, upd p.H a o⟩ ∧ Le p ⟨p.rho, ⟨p.st.sl, p.st.hp.set n c'⟩, p.sg, upd p.H a o⟩ := by
  have hmem : a ∈ p.rho := List.mem_of_getElem? hs
  have m : p.M a := .inl hmem
  have l : Le p ⟨p.rho, ⟨p.st.sl, p.st.hp.set n c'⟩, p.sg, upd p.H a o⟩ := Le.write S m fun b h => h
  have nl : n < p.rho.length := (List.getElem?_eq_some_iff.mp hs).1
  refine ⟨⟨S.len, by simpa using S.hlen, fun j e h => ?_, fun j c1 h => ?_, fun k c1 h => ?_, S.nod, S.dis, fun b h => upd_has (S.zin b h), S.fxk l fun _ h => ⟨h, rfl⟩⟩, l⟩
  · obtain ⟨u, h1, h2⟩ := S.val j e h
    exact ⟨u, h1, l.rep h2⟩
  · obtain ⟨b, h1, h2, h3⟩ := S.own j c1 h
    refine ⟨b, h1, CellAt.keep l h2 (upd_ne fun e => ?_), h3⟩
    subst e
    exact h3.1 hmem
  · rcases set_get h with ⟨rfl, z, hl⟩ | ⟨ne, h⟩
    · cases z
      obtain ⟨b, h1, h2, h3⟩ := S.cellQ n _ (List.getElem?_eq_getElem hl)
      rw [hs] at h1; cases h1
      exact ⟨a, hs, .inl (hc.at l upd_same), h3⟩
    · obtain ⟨b, h1, h2, h3⟩ := S.cellQ k c1 h
      refine ⟨b, h1, CellQ.at S l h2 (upd_ne fun e => ?_), h3⟩
      subst e
      have kl : k < p.rho.length := (List.getElem?_eq_some_iff.mp h1).1
      have e1 := (List.getElem?_eq_some_iff.mp hs).2
      have e2 := (List.getElem?_eq_some_iff.mp h1).2
      exact ne ((List.getElem_inj S.nod).mp (e1.trans e2.symm))
theorem SR.freeze (S : SR G Z p) {i : Nat} {a : Addr} {c : Cell} (hd : isDct c = false) (hi : p.st.sl[i]? = some (.own c)) (hs : p.sg[i]? = some (some (.ref a))) :
    SR G Z (p.setSl i (.val c.frz)) ∧ Le p (p.setSl i (.val c.frz)) ∧ RepP G Z (p.setSl i (.val c.frz)) c.frz (.ref a) := by
  have hm : ∀ b, (p.setSl i (.val c.frz)).M b → p.M b ∧ b ≠ a := fun b h => by
    obtain ⟨a', hs', _, nr, _⟩ := S.own i c hi
    rw [hs] at hs'; cases hs'
    rcases h with h | ⟨j, c1, h, k⟩
    · exact ⟨.inl h, fun e => nr (e ▸ h)⟩
    · rcases set_get h with ⟨_, z, _⟩ | ⟨ne, h⟩
      · cases z
      · refine ⟨.inr ⟨j, c1, h, k⟩, fun e => ?_⟩
        have k' : p.sg[j]? = some (some (V.ref b)) := k
        rw [e] at k'
        exact ne (S.dis i j c c1 a hi h hs k')
  have l : Le p (p.setSl i (.val c.frz)) := ⟨fun _ _ h => h, fun b o h k => ⟨h, fun z => k (hm b z).1⟩, fun _ _ h => h, fun _ h => h⟩
  obtain ⟨a', hs', ca, nr, nz⟩ := S.own i c hi
  rw [hs] at hs'; cases hs'
  have rp : RepP G Z (p.setSl i (.val c.frz)) c.frz (.ref a) := CellAt.frz hd ca l rfl (by
    rintro (z | z)
    · exact (hm a z).2 rfl
    · exact nz z)
  refine ⟨⟨by simpa using S.len, S.hlen, fun j e h => ?_, fun j c1 h => ?_, fun n c1 h => ?_, S.nod, fun j k c1 c2 b h1 h2 h3 h4 => ?_, S.zin, S.fxk l fun j h => ⟨(un_set (by simp) h).2, rfl⟩⟩, l, rp⟩
  · rcases set_get h with ⟨rfl, z, hl⟩ | ⟨ne, h⟩
    · cases z
      exact ⟨.ref a, hs, rp⟩
    · obtain ⟨u, h1, h2⟩ := S.val j e h
      exact ⟨u, h1, l.rep h2⟩
  · rcases set_get h with ⟨_, z, _⟩ | ⟨ne, h⟩
    · cases z
    · obtain ⟨b, h1, h2, h3⟩ := S.own j c1 h
      exact ⟨b, h1, CellAt.keep l h2 rfl, h3⟩
  · obtain ⟨b, h1, h2, h3⟩ := S.cellQ n c1 h
    exact ⟨b, h1, CellQ.at S l h2 rfl, h3⟩
  · rcases set_get h1 with ⟨_, z, _⟩ | ⟨ne, h1⟩
    · cases z
    · rcases set_get h2 with ⟨_, z, _⟩ | ⟨ne2, h2⟩
      · cases z
      · exact S.dis j k c1 c2 b h1 h2 h3 h4
theorem SR.freezeD (S : SR G Z p) {i : Nat} {a : Addr} {c : Cell} {o : HO} {od : Obj} (hd : isDct c = true) (hi : p.st.sl[i]? = some (.own c)) (hs : p.sg[i]? = some (some (.ref a))) (ho : p.H a = some o) :
    SR G Z { p.setSl i (.val c.frz) with H := upd p.H a (.frz od o) } ∧ Le p { p.setSl i (.val c.frz) with H := upd p.H a (.frz od o) } ∧ RepP G Z { p.setSl i (.val c.frz) with H := upd p.H a (.frz od o) } c.frz (.ref a) := by
  have ma : p.M a := .inr ⟨i, c, hi, hs⟩
  have hm : ∀ b, (p.setSl i (.val c.frz)).M b → p.M b ∧ b ≠ a := fun b h => by
    obtain ⟨a', hs', _, nr, _⟩ := S.own i c hi
    rw [hs] at hs'; cases hs'
    rcases h with h | ⟨j, c1, h, k⟩
    · exact ⟨.inl h, fun e => nr (e ▸ h)⟩
    · rcases set_get h with ⟨_, z, _⟩ | ⟨ne, h⟩
      · cases z
      · refine ⟨.inr ⟨j, c1, h, k⟩, fun e => ?_⟩
        have k' : p.sg[j]? = some (some (V.ref b)) := k
        rw [e] at k'
        exact ne (S.dis i j c c1 a hi h hs k')
  have l : Le p { p.setSl i (.val c.frz) with H := upd p.H a (.frz od o) } := ⟨fun _ _ h => h, fun b u h k => by
    have ne : b ≠ a := fun e => k (e ▸ ma)
    exact ⟨(upd_ne ne).trans h, fun z => k (hm b z).1⟩, fun b vs h => by
    have ne : b ≠ a := fun e => S.notTup ma (by rw [← e]; exact h.rd)
    exact h.by fun u h => (upd_ne ne).trans h, fun b h => upd_has h⟩
  obtain ⟨a', hs', ca, nr, nz⟩ := S.own i c hi
  rw [hs] at hs'; cases hs'
  have nL : ¬ Pt.L Z { p.setSl i (.val c.frz) with H := upd p.H a (.frz od o) } a := by
    rintro (z | z)
    · exact (hm a z).2 rfl
    · exact nz z
  have rp : RepP G Z { p.setSl i (.val c.frz) with H := upd p.H a (.frz od o) } c.frz (.ref a) := by
    cases c with
    | dk ks ds =>
      obtain ⟨vs, e, hz, h⟩ := ca
      rw [ho] at e
      cases e
      exact .dk upd_same nL hz (l.repL h)
    | dt ks ds =>
      obtain ⟨vs, e, hz, h⟩ := ca
      rw [ho] at e
      cases e
      exact .dt upd_same nL hz (l.repL h)
    | lst _ => cases hd
    | ins _ _ => cases hd
    | tab _ => cases hd
  refine ⟨⟨by simpa using S.len, S.hlen, fun j e h => ?_, fun j c1 h => ?_, fun n c1 h => ?_, S.nod, fun j k c1 c2 b h1 h2 h3 h4 => ?_, fun b z => upd_has (S.zin b z), S.fxk l fun j h => ⟨(un_set (by simp) h).2, rfl⟩⟩, l, rp⟩
  · rcases set_get h with ⟨rfl, z, hl⟩ | ⟨ne, h⟩
    · cases z
      exact ⟨.ref a, hs, rp⟩
    · obtain ⟨u, h1, h2⟩ := S.val j e h
      exact ⟨u, h1, l.rep h2⟩
  · rcases set_get h with ⟨_, z, _⟩ | ⟨ne, h⟩
    · cases z
    · obtain ⟨b, h1, h2, h3⟩ := S.own j c1 h
      exact ⟨b, h1, CellAt.keep l h2 (upd_ne fun e => ne (S.dis i j c c1 a hi h hs (e ▸ h1))), h3⟩
  · obtain ⟨b, h1, h2, h3⟩ := S.cellQ n c1 h
    exact ⟨b, h1, CellQ.at S l h2 (upd_ne fun e => nr (e ▸ List.mem_of_getElem? h1)), h3⟩
  · rcases set_get h1 with ⟨_, z, _⟩ | ⟨ne, h1⟩
    · cases z
    · rcases set_get h2 with ⟨_, z, _⟩ | ⟨ne2, h2⟩
      · cases z
      · exact S.dis j k c1 c2 b h1 h2 h3 h4
theorem SR.newCell (S : SR G Z p) {a : Addr} {o : HO} {c : Cell} (na : p.H a = none) (hc : CellO G Z p o c) :
    SR G Z ⟨p.rho ++ [a], ⟨p.st.sl, p.st.hp ++ [c]⟩, p.sg, upd p.H a o⟩ ∧ Le p ⟨p.rho ++ [a], ⟨p.st.sl, p.st.hp ++ [c]⟩, p.sg, upd p.H a o⟩ := by
  have nr : a ∉ p.rho := fun h => S.has (.inl h) na
  have hm : ∀ b, Pt.M ⟨p.rho ++ [a], ⟨p.st.sl, p.st.hp ++ [c]⟩, p.sg, upd p.H a o⟩ b → b = a ∨ p.M b := fun b h => by
    rcases h with h | h
    · rcases List.mem_append.mp h with h | h
      · exact .inr (.inl h)
      · exact .inl (by simpa using h)
    · exact .inr (.inr h)
  have ra : ∀ n b, p.rho[n]? = some b → (p.rho ++ [a])[n]? = some b := fun n b h => by
    rw [List.getElem?_append_left (List.getElem?_eq_some_iff.mp h).1]; exact h
  have l : Le p ⟨p.rho ++ [a], ⟨p.st.sl, p.st.hp ++ [c]⟩, p.sg, upd p.H a o⟩ :=
    ⟨ra, fun b u h k => ⟨same_upd na b u h, fun z => by
      rcases hm b z with e | z
      · rw [e, na] at h; cases h
      · exact k z⟩, fun b vs h => h.by (same_upd na b), fun b h => upd_has h⟩
  have kp : ∀ b c', CellP G Z p b c' → upd p.H a o b = p.H b := fun b c' h => upd_ne fun e => CellAt.some h (e ▸ na)
  refine ⟨⟨S.len, by simp [S.hlen], fun j e h => ?_, fun j c1 h => ?_, fun k c1 h => ?_, ?_, S.dis, fun b h => upd_has (S.zin b h), S.fxk l fun _ h => ⟨h, rfl⟩⟩, l⟩
  · obtain ⟨u, h1, h2⟩ := S.val j e h
    exact ⟨u, h1, l.rep h2⟩
  · obtain ⟨b, h1, h2, h3, h4⟩ := S.own j c1 h
    refine ⟨b, h1, CellAt.keep l h2 (kp b c1 h2), fun z => ?_, h4⟩
    rcases List.mem_append.mp z with z | z
    · exact h3 z
    · have e : b = a := by simpa using z
      exact CellAt.some h2 (e ▸ na)
  · have h' : (p.st.hp ++ [c])[k]? = some c1 := h
    by_cases hk : k < p.st.hp.length
    · rw [List.getElem?_append_left hk] at h'
      obtain ⟨b, h1, h2, h3⟩ := S.cellQ k c1 h'
      exact ⟨b, ra k b h1, CellQ.at S l h2 (upd_ne fun e => CellQ.some h2 (e ▸ na)), h3⟩
    · have hk' : k = p.st.hp.length := by
        have := (List.getElem?_eq_some_iff.mp h').1
        simp at this
        omega
      subst hk'
      rw [List.getElem?_append_right (Nat.le_refl _)] at h'
      simp at h'
      subst h'
      refine ⟨a, ?_, .inl (hc.at l upd_same), fun z => S.zin a (.inl z) na⟩
      show (p.rho ++ [a])[p.st.hp.length]? = some a
      rw [← S.hlen, List.getElem?_append_right (Nat.le_refl _)]
      simp
  · exact List.nodup_append.mpr ⟨S.nod, by simp, fun x hx y hy e => by
      have : y = a := by simpa using hy
      exact nr (this ▸ e ▸ hx)⟩
end
end DP

set_option Elab.async false
set_option linter.all false
set_option maxRecDepth 100000
set_option maxHeartbeats 4000000
namespace DP
open PySem L2

structure CT where
  ca : Nat → Addr
  cf : Nat → List Str
  xa : Option (Addr × Option Addr × Nat)
  tbs : List (Str × Addr)
  w : World
  fx : Option (Nat × Addr × FxO) := none
abbrev wd (K : PySem.W.Frag) (C : CT) : Wd := ⟨K, C.ca, C.cf, C.xa, C.tbs, C.w, C.fx⟩

def bnd {α β : Type} (f : DM α) (k : α → DM β) : DM β := fun s => match f s with
  | .ok a s' => k a s'
  | .err x s' => .err x s'
  | .stuck => .stuck
def ret {α : Type} (a : α) : DM α := fun s => .ok a s
def lift {α : Type} (o : Option α) : DM α := fun s => match o with
  | some a => .ok a s
  | none => .stuck
def XRel (G : Wd) (Z : Addr → Prop) (p : Pt) (x : XD) (cls : Value) (d : Option Addr) : Prop :=
  cls = .ref (G.ca x.c) ∧ match x.arg with
    | none => d = none
    | some g => ∃ dd v, d = some dd ∧ p.H dd = some (.xd ((G.cf x.c).zip [v])) ∧ ¬ p.L Z dd ∧ RepP G Z p g v

section
variable {α β γ δ : Type}
def Fin (G : Wd) (Z : Addr → Prop) (W : WX) (rel : Pt → α → β → Prop) (p : Pt) (r : R α) (Q : β → Hp → Prop) : Prop := match r with
  | .ok a st => ∀ (rho : List Addr) (H : Hp) (b : β), SR G Z ⟨rho, st, p.sg, H⟩ → Le p ⟨rho, st, p.sg, H⟩ → rel ⟨rho, st, p.sg, H⟩ a b → Q b H
  | .err x st => ∀ (rho : List Addr) (H : Hp) (cls : Value) (d : Option Addr), SR G Z ⟨rho, st, p.sg, H⟩ → Le p ⟨rho, st, p.sg, H⟩ → XRel G Z ⟨rho, st, p.sg, H⟩ x cls d → W cls d p.sg H
  | .stuck => False
abbrev relD (G : Wd) (Z : Addr → Prop) : Pt → D → V → Prop := fun p d v => RepP G Z p d v
abbrev relB : Pt → α → α → Prop := fun _ a b => a = b
abbrev relL (G : Wd) (Z : Addr → Prop) : Pt → List D → List V → Prop := fun p d v => RepLP G Z p d v
def tG (G : Wd) (W : WX) (rel : (Addr → Prop) → Pt → α → β → Prop) (f : DM α) : L2.St → Hp → (β → Hp → Prop) → Prop := fun σ H Q => ∃ Z p, p.sg = σ ∧ p.H = H ∧ SR G Z p ∧ Fin G Z W (rel Z) p (f p.st) Q
abbrev tD (G : Wd) (W : WX) (f : DM D) : TE := tG G W (relD G) f
abbrev tT (G : Wd) (W : WX) (f : DM Bool) : TT := tG G W (fun _ => relB) f
abbrev tL (G : Wd) (W : WX) (f : DM (List D)) : TA := tG G W (relL G) f

variable {G : Wd} {Z : Addr → Prop} {W : WX} {rel : Pt → α → β → Prop} {rel' : Pt → γ → δ → Prop} {p q : Pt}
theorem Fin.mono {r : R α} {Q Q' : β → Hp → Prop} (h : Fin G Z W rel p r Q) (k : ∀ b H, Q b H → Q' b H) : Fin G Z W rel p r Q' := by
  cases r with
  | ok a st => exact fun rho H b S l r => k _ _ (h rho H b S l r)
  | err x st => exact h
  | stuck => exact h
theorem Fin.later {r : R α} {Q : β → Hp → Prop} (h : Fin G Z W rel p r Q) (l : Le p q) (e : q.sg = p.sg) : Fin G Z W rel q r Q := by
  cases r with
  | ok a st => intro rho H b S l' r; rw [e] at S l' r; exact h rho H b S (l.trans l') r
  | err x st => intro rho H cls d S l' r; rw [e] at S l' r ⊢; exact h rho H cls d S (l.trans l') r
  | stuck => exact h
theorem Fin.bnd {f : DM α} {k : α → DM γ} {Q : δ → Hp → Prop} (h : Fin G Z W rel' p (bnd f k p.st) Q) :
    Fin G Z W rel p (f p.st) (fun b H => ∃ q a, q.sg = p.sg ∧ q.H = H ∧ SR G Z q ∧ Le p q ∧ rel q a b ∧ Fin G Z W rel' q (k a q.st) Q) := by
  unfold DP.bnd at h
  cases e : f p.st with
  | ok a st =>
    rw [e] at h
    intro rho H b S l r
    exact ⟨⟨rho, st, p.sg, H⟩, a, rfl, rfl, S, l, r, Fin.later h l rfl⟩
  | err x st => rw [e] at h; exact h
  | stuck => rw [e] at h; exact h
theorem Fin.bndB {f : DM Bool} {k : Bool → DM γ} {Q : δ → Hp → Prop} (h : Fin G Z W rel' p (DP.bnd f k p.st) Q) :
    Fin G Z W relB p (f p.st) (fun b H => ∃ q, q.sg = p.sg ∧ q.H = H ∧ SR G Z q ∧ Le p q ∧ Fin G Z W rel' q (k b q.st) Q) :=
  (Fin.bnd (rel := relB) h).mono fun b H ⟨q, a, e1, e2, S, l, r, h⟩ => ⟨q, e1, e2, S, l, by cases r; exact h⟩
theorem Fin.ok {a : α} {b : β} {Q : β → Hp → Prop} (h : Fin G Z W rel p (.ok a p.st) Q) (S : SR G Z p) (r : rel p a b) : Q b p.H := h p.rho p.H b S (Le.refl p) r
theorem Fin.more {a : α} {b : β} {H : Hp} {Q : β → Hp → Prop} (h : Fin G Z W rel p (.ok a p.st) Q) (S : SR G Z p) (e : Same p.H H) (r : rel { p with H := H } a b) : Q b H :=
  h p.rho H b (S.ext e).1 (S.ext e).2 r
end

section
variable (X : Cx) (C : CT) (W : WX)
structure DE (e : Expr) (f : DM D) : Prop where
  pe : PE X e (tD (wd X.K C) W f)
structure DT (e : Expr) (f : DM Bool) : Prop where
  pt : PT X e (tT (wd X.K C) W f)
structure DA (es : List Expr) (f : DM (List D)) : Prop where
  pa : PA X es (tL (wd X.K C) W f)
end
section
variable {X : Cx} {C : CT} {W : WX}
theorem peImp {e : Expr} {t t' : TE} (h : PE X e t) (k : ∀ σ H Q, t' σ H Q → t σ H Q) : PE X e t' := ⟨fun pins s σ H Q I q => h.run pins s σ H Q I (k σ H Q q)⟩
theorem ptImp {e : Expr} {t t' : TT} (h : PT X e t) (k : ∀ σ H Q, t' σ H Q → t σ H Q) : PT X e t' := ⟨fun pins s σ H Q I q => h.run pins s σ H Q I (k σ H Q q)⟩
theorem paImp {es : List Expr} {t t' : TA} (h : PA X es t) (k : ∀ σ H Q, t' σ H Q → t σ H Q) : PA X es t' := ⟨fun pos pins s σ H Q I q => h.run pos pins s σ H Q I (k σ H Q q)⟩
theorem psImp {st : Stmt} {t t' : TS} (h : PS X st t) (k : ∀ D σ H, t' D σ H → t D σ H) : PS X st t' := ⟨fun pins s σ H D I q => h.run pins s σ H D I (k D σ H q)⟩
theorem pssImp {st : List Stmt} {t t' : TS} (h : PSs X st t) (k : ∀ D σ H, t' D σ H → t D σ H) : PSs X st t' := ⟨fun pins s σ H D I q => h.run pins s σ H D I (k D σ H q)⟩

def varM (i : Nat) : DM D := fun s => match s.sl[i]? with
  | some (.val d) => .ok d s
  | some (.own c) => .ok c.frz { s with sl := s.sl.set i (.val c.frz) }
  | _ => .stuck
def orFrz (Q : VK) : VK := fun x H1 => Q x H1 ∨ ∃ a u, x = .ref a ∧ H1 a = some u ∧ Mut (some u) ∧ ∀ od, Q x (upd H1 a (.frz od u))
theorem pe_locks {e : Expr} {t : TE} (h : PE X e t) : PE X e (fun σ H Q => t σ H (orFrz Q)) := by
  refine ⟨fun pins s σ H Q I hw => ?_⟩
  refine thn (h.run pins s σ H _ I hw) fun v s1 ⟨x, H1, I1, r, q⟩ => ?_
  rcases q with q | ⟨a, u, rfl, ha, mu, q⟩
  · exact ⟨x, H1, I1, r, q⟩
  · obtain ⟨od, I2⟩ := I1.lock ha mu
    exact ⟨_, _, I2, r, q od⟩
theorem de_var (i : Nat) {x : Str} {pos : Pos} (hN : X.N[i]? = some x) (hv : Vis X.env.scope x) (hd : (x == ("__debug__" : Str)) = false := by decide) (hcd : (x == ("__classdict__" : Str)) = false := by decide) : DE X C W (.Name x pos) (varM i) := by
  refine ⟨peImp (pe_locks (pe_var hN hv hd hcd)) fun σ H Q h => ?_⟩
  obtain ⟨Z, p, rfl, rfl, S, h⟩ := h
  unfold varM at h
  cases e : p.st.sl[i]? with
  | none => rw [e] at h; exact h.elim
  | some x =>
    rw [e] at h
    cases x with
    | un => exact h.elim
    | val d =>
      obtain ⟨v, hv, r⟩ := S.val i d e
      exact ⟨v, hv, .inl (Fin.ok h S r)⟩
    | own c =>
      obtain ⟨a, hs, ca, _⟩ := S.own i c e
      by_cases hdc : isDct c = true
      · obtain ⟨o, ho, hco⟩ := cellTo ca
        refine ⟨.ref a, hs, .inr ⟨a, o, rfl, ho, hco.mut, fun od => ?_⟩⟩
        obtain ⟨S', l, r⟩ := S.freezeD (od := od) hdc e hs ho
        exact h p.rho _ _ S' l r
      · obtain ⟨S', l, r⟩ := S.freeze (Bool.eq_false_iff.mpr hdc) e hs
        exact ⟨.ref a, hs, .inl (h p.rho p.H _ S' l r)⟩
theorem de_const {e : Expr} {d : D} {v : V} (h : PE X e (tC v)) (r : ∀ rho L H, Rep (wd X.K C) rho L H d v) : DE X C W e (ret d) := by
  refine ⟨peImp h fun σ H Q h => ?_⟩
  obtain ⟨Z, p, rfl, rfl, S, h⟩ := h
  exact Fin.ok h S (r _ _ _)
theorem de_int {i : Int} {j pos} : DE X C W (.Constant (.int i) j pos) (ret (.int i)) := de_const pe_int fun _ _ _ => .int i
theorem de_bl {b : Bool} {j pos} : DE X C W (.Constant (.bool b) j pos) (ret (.bl b)) := de_const pe_bl fun _ _ _ => .bl b
theorem de_non {j pos} : DE X C W (.Constant .none j pos) (ret .non) := de_const pe_non fun _ _ _ => .non
theorem de_str {x : Str} {j pos} : DE X C W (.Constant (.str x) j pos) (ret (.str x)) := de_const pe_str fun _ _ _ => .str x

def rD (G : Wd) (g : D → D → Option D) : R2 := fun x y H Q => ∃ (Z : Addr → Prop) (p : Pt) (d e f : D), p.H = H ∧ SR G Z p ∧ RepP G Z p d x ∧ RepP G Z p e y ∧ g d e = some f ∧ ∀ v H', Same H H' → RepP G Z { p with H := H' } f v → Q v H'
abbrev OpD (X : Cx) (C : CT) (op : Value → Value → Sem Value) (g : D → D → Option D) : Prop := OpR X op (rD (wd X.K C) g)
theorem OpR.imp {op : Value → Value → Sem Value} {r r' : R2} (h : OpR X op r) (k : ∀ x y H Q, r' x y H Q → r x y H Q) : OpR X op r' := fun pins s σ H x y v u Q I rx ry q => h pins s σ H x y v u Q I rx ry (k x y H Q q)
theorem OpR.or {op : Value → Value → Sem Value} {r r' : R2} (h : OpR X op r) (h' : OpR X op r') : OpR X op (fun x y H Q => r x y H Q ∨ r' x y H Q) := fun pins s σ H x y v u Q I rx ry q => by
  rcases q with q | q
  · exact h pins s σ H x y v u Q I rx ry q
  · exact h' pins s σ H x y v u Q I rx ry q
def bin (g : D → D → Option D) (fa fb : DM D) : DM D := bnd fa fun x => bnd fb fun y => lift (g x y)
theorem tOp_of {g : D → D → Option D} {fa fb : DM D} {σ : L2.St} {H : Hp} {Q : VK} (h : tD (wd X.K C) W (bin g fa fb) σ H Q) : tOp (rD (wd X.K C) g) (tD (wd X.K C) W fa) (tD (wd X.K C) W fb) σ H Q := by
  obtain ⟨Z, p, rfl, rfl, S, h⟩ := h
  refine ⟨Z, p, rfl, rfl, S, (Fin.bnd h).mono fun x H1 ⟨q1, d1, e1, e2, S1, l1, r1, h1⟩ => ?_⟩
  refine ⟨Z, q1, e1, e2, S1, (Fin.bnd h1).mono fun y H2 ⟨q2, d2, e3, e4, S2, l2, r2, h2⟩ => ?_⟩
  unfold lift at h2
  cases hg : g d1 d2 with
  | none => rw [hg] at h2; exact h2.elim
  | some f =>
    rw [hg] at h2
    refine ⟨Z, q2, d1, d2, f, e4, S2, l2.rep r1, r2, hg, fun v H' sm rv => Fin.more h2 S2 (e4 ▸ sm) rv⟩
theorem de_op {op : Operator} {a b : Expr} {pos : Pos} {g : D → D → Option D} {fa fb : DM D} (ho : OpD X C (binaryOp op) g) (ha : DE X C W a fa) (hb : DE X C W b fb) : DE X C W (.BinOp a op b pos) (bin g fa fb) :=
  ⟨peImp (pe_op ho ha.pe hb.pe) fun _ _ _ h => tOp_of h⟩
theorem de_cmp {op : CmpOp} {a b : Expr} {pos : Pos} {g : D → D → Option D} {fa fb : DM D} (ho : OpD X C (compareOp op) g) (ha : DE X C W a fa) (hb : DE X C W b fb) (hm : behindInMarks op b = false) : DE X C W (.Compare a [op] [b] pos) (bin g fa fb) :=
  ⟨peImp (pe_cmpR ho ha.pe hb.pe hm) fun _ _ _ h => tOp_of h⟩

def asB : D → Option Bool
  | .bl b => some b
  | _ => none
def tst (f : DM D) : DM Bool := bnd f fun d => lift (asB d)
theorem asB_rep {G : Wd} {rho : List Addr} {L : Addr → Prop} {H : Hp} {d : D} {v : V} {b : Bool} (r : Rep G rho L H d v) (h : asB d = some b) : v = .bl b := by
  cases d with
  | bl b' => cases r; cases h; rfl
  | _ => cases h
theorem tB_of {f : DM D} {σ : L2.St} {H : Hp} {Q : Bool → Hp → Prop} (h : tT (wd X.K C) W (tst f) σ H Q) : tB (tD (wd X.K C) W f) σ H Q := by
  obtain ⟨Z, p, rfl, rfl, S, h⟩ := h
  refine ⟨Z, p, rfl, rfl, S, (Fin.bnd h).mono fun x H1 ⟨q1, d1, e1, e2, S1, l1, r1, h1⟩ => ?_⟩
  unfold lift at h1
  cases hg : asB d1 with
  | none => rw [hg] at h1; exact h1.elim
  | some b =>
    rw [hg] at h1
    exact ⟨b, asB_rep r1 hg, e2 ▸ Fin.ok h1 S1 rfl⟩
theorem dt_val {e : Expr} {f : DM D} (h : DE X C W e f) (he : ∀ whole, isTrue e X.env whole = (do let v ← whole; standAt e.pos; holding [v] (truthy v)) := by intro _; rfl) : DT X C W e (tst f) :=
  ⟨ptImp (pt_val h.pe he) fun _ _ _ h => tB_of h⟩
theorem dt_cmp {op : CmpOp} {a b : Expr} {pos : Pos} {g : D → D → Option D} {fa fb : DM D} (ho : OpD X C (compareOp op) g) (ha : DE X C W a fa) (hb : DE X C W b fb) (hm : behindInMarks op b = false) : DT X C W (.Compare a [op] [b] pos) (tst (bin g fa fb)) := by
  refine ⟨ptImp (pt_cmpR ho ha.pe hb.pe hm) fun σ H Q h => ?_⟩
  have h' := tB_of h
  obtain ⟨Z, p, e1, e2, S, h'⟩ := h'
  exact tOp_of ⟨Z, p, e1, e2, S, h'.mono fun b H ⟨c, e, q⟩ => ⟨c, e, q⟩⟩
def notT (f : DM Bool) : DM Bool := bnd f fun b => ret (!b)
structure DW (X : Cx) (C : CT) (W : WX) (e : Expr) (f : DM Bool) : Prop where
  pw : PW X e (tT (wd X.K C) W f)
theorem pwImp {e : Expr} {t t' : TT} (h : PW X e t) (k : ∀ σ H Q, t' σ H Q → t σ H Q) : PW X e t' := ⟨fun wh pins s σ H Q I q => h.run wh pins s σ H Q I (k σ H Q q)⟩
theorem DW.t {e : Expr} {f : DM Bool} (h : DW X C W e f) : DT X C W e f := ⟨h.pw.pt⟩
def andT (f g : DM Bool) : DM Bool := bnd f fun b => if b = true then g else ret false
def orT (f g : DM Bool) : DM Bool := bnd f fun b => if b = true then ret true else g
theorem dw_or1 {a : Expr} {pos : Pos} {f : DM Bool} (h : DT X C W a f) : DW X C W (.BoolOp .Or [a] pos) f := ⟨pw_or1 h.pt⟩
theorem dw_or {a b : Expr} {rest : List Expr} {pos : Pos} {f g : DM Bool} (ha : DT X C W a f) (hb : DW X C W (.BoolOp .Or (b :: rest) pos) g) : DW X C W (.BoolOp .Or (a :: b :: rest) pos) (orT f g) := by
  refine ⟨pwImp (pw_or ha.pt hb.pw) fun σ H Q h => ?_⟩
  obtain ⟨Z, p, rfl, rfl, S, h⟩ := h
  unfold orT at h
  refine ⟨Z, p, rfl, rfl, S, (Fin.bndB h).mono fun d1 H1 ⟨q1, e1, e2, S1, l1, h1⟩ => ?_⟩
  cases d1 with
  | true => exact iteT (e2 ▸ Fin.ok h1 S1 rfl)
  | false => exact iteF ⟨Z, q1, e1, e2, S1, h1⟩
def andV (f g : DM D) : DM D := bnd f fun d => bnd (lift (asB d)) fun b => if b = true then g else ret (.bl false)
def orV (f g : DM D) : DM D := bnd f fun d => bnd (lift (asB d)) fun b => if b = true then ret (.bl true) else g
def notV (f : DM D) : DM D := bnd f fun d => bnd (lift (asB d)) fun b => ret (.bl (!b))
theorem Fin.asB {α : Type} {β : Type} {rel : Pt → α → β → Prop} {G : Wd} {Z : Addr → Prop} {q : Pt} {d : D} {v : V} {k : Bool → DM α} {Q : β → Hp → Prop} (r : RepP G Z q d v) (h : Fin G Z W rel q (DP.bnd (lift (asB d)) k q.st) Q) :
    ∃ b, d = .bl b ∧ v = .bl b ∧ Fin G Z W rel q (k b q.st) Q := by
  unfold DP.bnd lift at h
  cases hg : DP.asB d with
  | none => rw [hg] at h; exact h.elim
  | some b =>
    rw [hg] at h
    refine ⟨b, ?_, asB_rep r hg, h⟩
    cases d with
    | bl b' => cases hg; rfl
    | _ => cases hg
def ifM (c : DM Bool) (f g : DM D) : DM D := bnd c fun b => if b = true then f else g
def chain (g g' : D → D → Option D) (fa fb fc : DM D) : DM D := bnd fa fun x => bnd fb fun y => bnd (lift ((g x y).bind asB)) fun b => if b = true then bnd fc fun z => lift (g' y z) else ret (.bl false)
def nilM : DM (List D) := ret []
def consM (f : DM D) (g : DM (List D)) : DM (List D) := bnd f fun x => bnd g fun xs => ret (x :: xs)
theorem da_nil : DA X C W [] nilM := ⟨paImp pa_nil fun σ H Q h => by
  obtain ⟨Z, p, rfl, rfl, S, h⟩ := h
  exact Fin.ok h S .nil⟩
theorem da_cons {e : Expr} {es : List Expr} {f : DM D} {g : DM (List D)} (h1 : DE X C W e f) (h2 : DA X C W es g) (hs : starEach (e :: es) X.env = (false, eval e X.env) :: starEach es X.env := by rfl) : DA X C W (e :: es) (consM f g) := by
  refine ⟨paImp (pa_cons h1.pe h2.pa hs) fun σ H Q h => ?_⟩
  obtain ⟨Z, p, rfl, rfl, S, h⟩ := h
  refine ⟨Z, p, rfl, rfl, S, (Fin.bnd h).mono fun x H1 ⟨q1, d1, e1, e2, S1, l1, r1, h1⟩ => ?_⟩
  refine ⟨Z, q1, e1, e2, S1, (Fin.bnd h1).mono fun y H2 ⟨q2, d2, e3, e4, S2, l2, r2, h2⟩ => ?_⟩
  exact e4 ▸ Fin.ok h2 S2 (.cons (l2.rep r1) r2)
def small (xs : List D) : Option (List D) := if xs.length ≤ sizeLine then some xs else none
def tupM (f : DM (List D)) : DM D := bnd f fun xs => bnd (lift (small xs)) fun xs => ret (.tup xs)
def lstM (f : DM (List D)) : DM D := bnd f fun xs => bnd (lift (small xs)) fun xs => ret (.lst xs)
theorem small_of {α β : Type} {rel : Pt → α → β → Prop} {G : Wd} {Z : Addr → Prop} {q : Pt} {ds : List D} {k : List D → DM α} {Q : β → Hp → Prop} (h : Fin G Z W rel q (DP.bnd (lift (small ds)) k q.st) Q) : ds.length ≤ sizeLine ∧ Fin G Z W rel q (k ds q.st) Q := by
  unfold small at h
  by_cases hl : ds.length ≤ sizeLine
  · rw [if_pos hl] at h; exact ⟨hl, h⟩
  · rw [if_neg hl] at h; exact h.elim
theorem repTup {G : Wd} {Z : Addr → Prop} {q : Pt} {ds : List D} {vs : List V} {a : Addr} {o : Obj} (S : SR G Z q) (po : Plain o) (na : q.H a = none) (r : RepLP G Z q ds vs) : RepP G Z { q with H := upd q.H a (.frz o (.tup vs)) } (.tup ds) (.ref a) :=
  .tup (.inl (.inl ⟨o, upd_same, po⟩)) ((S.ext (same_upd na)).2.repL r)
theorem repLst {G : Wd} {Z : Addr → Prop} {q : Pt} {ds : List D} {vs : List V} {a : Addr} (S : SR G Z q) (na : q.H a = none) (r : RepLP G Z q ds vs) : RepP G Z { q with H := upd q.H a (.lst vs) } (.lst ds) (.ref a) :=
  .lst (.inl ⟨.inl upd_same, S.freeL na⟩) ((S.ext (same_upd na)).2.repL r)
theorem de_lst {es : List Expr} {pos : Pos} {f : DM (List D)} (h : DA X C W es f) : DE X C W (.List es pos) (lstM f) := by
  refine ⟨peImp (pe_lst h.pa) fun σ H Q h => ?_⟩
  obtain ⟨Z, p, rfl, rfl, S, h⟩ := h
  refine ⟨Z, p, rfl, rfl, S, (Fin.bnd h).mono fun x H1 ⟨q1, d1, e1, e2, S1, l1, r1, h1⟩ => ?_⟩
  obtain ⟨hl, h2⟩ := small_of h1
  subst e2
  exact ⟨by rw [← RepL.length r1]; exact hl, fun a na => Fin.more h2 S1 (same_upd na) (repLst S1 na r1)⟩
end
end DP

set_option Elab.async false
set_option linter.all false
set_option maxRecDepth 100000
set_option maxHeartbeats 4000000
namespace DP
open PySem L2

mutual
def D.pd : D → PyData
  | .non => .none
  | .bl b => .bool b
  | .int i => .int i
  | .str x => .str x
  | .tup xs => .tuple (pdL xs)
  | .lst xs => .list (pdL xs)
  | .dk _ _ => .none
  | .dt _ _ => .none
  | .dx _ _ => .none
  | .exc _ _ => .none
  | .ins _ _ => .none
  | .ref _ => .none
def pdL : List D → List PyData
  | [] => []
  | x :: xs => x.pd :: pdL xs
end
def D.ok : Nat → D → Bool
  | _, .non => true
  | _, .bl _ => true
  | _, .int _ => true
  | _, .str x => x.cps.all (· < 0x110000)
  | n + 1, .tup xs => xs.all (D.ok n)
  | n + 1, .lst xs => xs.all (D.ok n)
  | _, _ => false
mutual
def D.eqv : D → D → Bool
  | .non, .non => true
  | .bl a, .bl b => a == b
  | .bl a, .int j => (if a then 1 else 0) == j
  | .int i, .bl b => i == (if b then 1 else 0)
  | .int i, .int j => i == j
  | .str x, .str y => x == y
  | .lst xs, .lst ys => eqvL xs ys
  | .tup xs, .tup ys => eqvL xs ys
  | _, _ => false
def eqvL : List D → List D → Bool
  | [], [] => true
  | x :: xs, y :: ys => x.eqv y && eqvL xs ys
  | _, _ => false
end
theorem pdL_map : ∀ xs : List D, pdL xs = xs.map D.pd
  | [] => rfl
  | x :: xs => by simp [pdL, pdL_map xs]
section
variable {G : Wd} {rho : List Addr} {L : Addr → Prop} {H : Hp}
theorem ok_dp : ∀ (n : Nat), (∀ (d : D) (v : V), d.ok n = true → Rep G rho L H d v → Dp G.K H v d.pd) ∧ (∀ (ds : List D) (vs : List V), ds.all (D.ok n) = true → RepL G rho L H ds vs → DpAll G.K H vs (pdL ds))
  | 0 => by
    have one : ∀ (d : D) (v : V), d.ok 0 = true → Rep G rho L H d v → Dp G.K H v d.pd := fun d v h r => by
      cases d with
      | non => cases r; exact .non
      | bl b => cases r; exact .bl b
      | int i => cases r; exact .int i
      | str x => cases r; exact .str x
      | _ => simp [D.ok] at h
    refine ⟨one, fun ds => ?_⟩
    induction ds with
    | nil => intro vs _ r; cases r; exact .nil
    | cons d ds ih =>
      intro vs h r
      simp only [List.all_cons, Bool.and_eq_true] at h
      cases r with
      | cons r1 r2 => exact .cons (one d _ h.1 r1) (ih _ h.2 r2)
  | n + 1 => by
    obtain ⟨i1, i2⟩ := ok_dp n
    have one : ∀ (d : D) (v : V), d.ok (n + 1) = true → Rep G rho L H d v → Dp G.K H v d.pd := fun d v h r => by
      cases d with
      | non => cases r; exact .non
      | bl b => cases r; exact .bl b
      | int i => cases r; exact .int i
      | str x => cases r; exact .str x
      | tup xs =>
        cases r with
        | tup ht ha => exact .tup ht.sq (i2 xs _ h ha)
      | lst xs =>
        cases r with
        | lst hl ha => exact .lst hl.sq (i2 xs _ h ha)
      | _ => simp [D.ok] at h
    refine ⟨one, fun ds => ?_⟩
    induction ds with
    | nil => intro vs _ r; cases r; exact .nil
    | cons d ds ih =>
      intro vs h r
      simp only [List.all_cons, Bool.and_eq_true] at h
      cases r with
      | cons r1 r2 => exact .cons (one d _ h.1 r1) (ih _ h.2 r2)
theorem ok_shape : ∀ (n : Nat), (∀ (d : D), d.ok n = true → PyData.canLay0 d.pd = true ∧ d.pd.depth ≤ n) ∧ (∀ (ds : List D), ds.all (D.ok n) = true → PyData.canLayAll0 (pdL ds) = true ∧ PyData.depthAll (pdL ds) ≤ n)
  | 0 => by
    have one : ∀ (d : D), d.ok 0 = true → PyData.canLay0 d.pd = true ∧ d.pd.depth ≤ 0 := fun d h => by
      cases d with
      | non => exact ⟨rfl, Nat.le_refl _⟩
      | bl b => exact ⟨rfl, Nat.le_refl _⟩
      | int i => exact ⟨rfl, Nat.le_refl _⟩
      | str x => exact ⟨h, Nat.le_refl _⟩
      | _ => simp [D.ok] at h
    refine ⟨one, fun ds => ?_⟩
    induction ds with
    | nil => intro _; exact ⟨rfl, Nat.le_refl _⟩
    | cons d ds ih =>
      intro h
      simp only [List.all_cons, Bool.and_eq_true] at h
      have a := one d h.1
      have b := ih h.2
      simp only [pdL, PyData.canLayAll0, PyData.depthAll, Bool.and_eq_true]
      exact ⟨⟨a.1, b.1⟩, by omega⟩
  | n + 1 => by
    obtain ⟨i1, i2⟩ := ok_shape n
    have one : ∀ (d : D), d.ok (n + 1) = true → PyData.canLay0 d.pd = true ∧ d.pd.depth ≤ n + 1 := fun d h => by
      cases d with
      | non => exact ⟨rfl, Nat.zero_le _⟩
      | bl b => exact ⟨rfl, Nat.zero_le _⟩
      | int i => exact ⟨rfl, Nat.zero_le _⟩
      | str x => exact ⟨h, Nat.zero_le _⟩
      | tup xs =>
        have := i2 xs h
        simp only [D.pd, PyData.canLay0, PyData.depth]
        exact ⟨this.1, by omega⟩
      | lst xs =>
        have := i2 xs h
        simp only [D.pd, PyData.canLay0, PyData.depth]
        exact ⟨this.1, by omega⟩
      | _ => simp [D.ok] at h
    refine ⟨one, fun ds => ?_⟩
    induction ds with
    | nil => intro _; exact ⟨rfl, Nat.zero_le _⟩
    | cons d ds ih =>
      intro h
      simp only [List.all_cons, Bool.and_eq_true] at h
      have a := one d h.1
      have b := ih h.2
      simp only [pdL, PyData.canLayAll0, PyData.depthAll, Bool.and_eq_true]
      exact ⟨⟨a.1, b.1⟩, by omega⟩
theorem ok_shaped {n : Nat} {d : D} (h : d.ok n = true) (hn : n ≤ 64) : SeqAt.shaped d.pd = true := by
  have := (ok_shape n).1 d h
  unfold SeqAt.shaped
  rw [this.1]
  simp
  omega
theorem ok_eqv : ∀ (n : Nat) , (∀ (d e : D), d.ok n = true → e.ok n = true → D.eqv d e = PyData.eqv d.pd e.pd) ∧ (∀ (ds es : List D), ds.all (D.ok n) = true → es.all (D.ok n) = true → eqvL ds es = PyData.eqvAll (pdL ds) (pdL es))
  | 0 => by
    have one : ∀ (d e : D), d.ok 0 = true → e.ok 0 = true → D.eqv d e = PyData.eqv d.pd e.pd := fun d e h k => by
      cases d <;> simp [D.ok] at h <;> cases e <;> simp [D.ok] at k <;> simp [D.eqv, D.pd, PyData.eqv]
    refine ⟨one, fun ds => ?_⟩
    induction ds with
    | nil => intro es _ k; cases es <;> simp [eqvL, pdL, PyData.eqvAll]
    | cons d ds ih =>
      intro es h k
      cases es with
      | nil => simp [eqvL, pdL, PyData.eqvAll]
      | cons e es =>
        simp only [List.all_cons, Bool.and_eq_true] at h k
        simp only [eqvL, pdL, PyData.eqvAll, one d e h.1 k.1, ih es h.2 k.2]
  | n + 1 => by
    obtain ⟨i1, i2⟩ := ok_eqv n
    have one : ∀ (d e : D), d.ok (n + 1) = true → e.ok (n + 1) = true → D.eqv d e = PyData.eqv d.pd e.pd := fun d e h k => by
      cases d <;> simp only [D.ok] at h <;> cases e <;> simp only [D.ok] at k <;> first | (simp [D.eqv, D.pd, PyData.eqv]; done) | (simp only [D.eqv, D.pd, PyData.eqv]; exact i2 _ _ h k) | (exact Bool.noConfusion h) | (exact Bool.noConfusion k)
    refine ⟨one, fun ds => ?_⟩
    induction ds with
    | nil => intro es _ k; cases es <;> simp [eqvL, pdL, PyData.eqvAll]
    | cons d ds ih =>
      intro es h k
      cases es with
      | nil => simp [eqvL, pdL, PyData.eqvAll]
      | cons e es =>
        simp only [List.all_cons, Bool.and_eq_true] at h k
        simp only [eqvL, pdL, PyData.eqvAll, one d e h.1 k.1, ih es h.2 k.2]
end

section
variable {X : Cx} {C : CT}
theorem OpD.or {op : Value → Value → Sem Value} {g g' : D → D → Option D} (h : OpD X C op g) (h' : OpD X C op g') : OpD X C op (fun x y => (g x y).orElse fun _ => g' x y) :=
  OpR.imp (OpR.or h h') fun x y H Q ⟨Z, p, d, e, f, e1, S, r1, r2, hg, k⟩ => by
    cases q : g d e with
    | some f' =>
      simp only [q, Option.orElse] at hg
      cases hg
      exact .inl ⟨Z, p, d, e, f, e1, S, r1, r2, q, k⟩
    | none =>
      simp only [q, Option.orElse] at hg
      exact .inr ⟨Z, p, d, e, f, e1, S, r1, r2, hg, k⟩
def intOp (g : Int → Int → Option D) : D → D → Option D := fun x y => match x, y with
  | .int i, .int j => g i j
  | _, _ => none
theorem intOp_str {g : Int → Int → Option D} {x : Str} {y : D} : intOp g (.str x) y = none := rfl
theorem intOp_tup {g : Int → Int → Option D} {x : List D} {y : D} : intOp g (.tup x) y = none := rfl
theorem intOp_lst {g : Int → Int → Option D} {x : List D} {y : D} : intOp g (.lst x) y = none := rfl
theorem opInt {op : Value → Value → Sem Value} {Cc : Int → Int → Prop} {gv : Int → Int → V} {g : Int → Int → Option D} (h : OpR X op (rI Cc gv)) (k : ∀ i j d, g i j = some d → Cc i j ∧ ∀ G rho L H, Rep G rho L H d (gv i j)) : OpD X C op (intOp g) :=
  OpR.imp h fun x y H Q ⟨Z, p, d, e, f, e1, S, r1, r2, hg, q⟩ => by
    unfold intOp at hg
    split at hg
    · cases r1
      cases r2
      obtain ⟨c, r⟩ := k _ _ _ hg
      exact ⟨_, _, rfl, rfl, c, q _ _ (Same.refl H) (r _ _ _ _)⟩
    · cases hg
theorem rI_of {op : Value → Value → Sem Value} {gv : Int → Int → V} (h : OpR X op (rI0 gv)) : OpR X op (rI (fun _ _ => True) gv) := OpR.imp h fun x y H Q ⟨i, j, e1, e2, _, q⟩ => ⟨i, j, e1, e2, q⟩
def addI : D → D → Option D := intOp fun i j => some (.int (i + j))
def subI : D → D → Option D := intOp fun i j => some (.int (i - j))
def powI : D → D → Option D := intOp fun i j => if 0 ≤ j ∧ j ≤ 1000000 ∧ i.natAbs < 2 ^ 64 then some (.int (i ^ j.toNat)) else none
def ltI : D → D → Option D := intOp fun i j => some (.bl (decide (i < j)))
def leI : D → D → Option D := intOp fun i j => some (.bl (decide (i ≤ j)))
def gtI : D → D → Option D := intOp fun i j => some (.bl (decide (j < i)))
def geI : D → D → Option D := intOp fun i j => some (.bl (decide (j ≤ i)))
theorem o_addI : OpD X C (binaryOp .Add) addI := opInt (rI_of op_add) fun i j d h => by cases h; exact ⟨trivial, fun _ _ _ _ => .int _⟩
theorem o_powI : OpD X C (binaryOp .Pow) powI := opInt op_pow fun i j d h => by
  split at h
  · rename_i hc
    cases h
    exact ⟨hc, fun _ _ _ _ => .int _⟩
  · cases h
def strOp (g : Str → Str → Option D) : D → D → Option D := fun x y => match x, y with
  | .str i, .str j => g i j
  | _, _ => none
theorem opStr {op : Value → Value → Sem Value} {Cc : Str → Str → Prop} {gv : Str → Str → V} {g : Str → Str → Option D} (h : OpR X op (fun x y H Q => ∃ i j, x = .str i ∧ y = .str j ∧ Cc i j ∧ Q (gv i j) H)) (k : ∀ i j d, g i j = some d → Cc i j ∧ ∀ G rho L H, Rep G rho L H d (gv i j)) : OpD X C op (strOp g) :=
  OpR.imp h fun x y H Q ⟨Z, p, d, e, f, e1, S, r1, r2, hg, q⟩ => by
    unfold strOp at hg
    split at hg
    · cases r1
      cases r2
      obtain ⟨c, r⟩ := k _ _ _ hg
      exact ⟨_, _, rfl, rfl, c, q _ _ (Same.refl H) (r _ _ _ _)⟩
    · cases hg
def addS : D → D → Option D := strOp fun i j => if i.length + j.length ≤ sizeLine then some (.str (i ++ j)) else none
def ltS : D → D → Option D := strOp fun i j => some (.bl (decide (i.cps.toList < j.cps.toList)))
def leS : D → D → Option D := strOp fun i j => some (.bl (!decide (j.cps.toList < i.cps.toList)))
def gtS : D → D → Option D := strOp fun i j => some (.bl (decide (j.cps.toList < i.cps.toList)))
def geS : D → D → Option D := strOp fun i j => some (.bl (!decide (i.cps.toList < j.cps.toList)))
theorem o_addS : OpD X C (binaryOp .Add) addS := opStr op_add_str fun i j d h => by
  split at h
  · rename_i hc
    cases h
    exact ⟨hc, fun _ _ _ _ => .str _⟩
  · cases h
def inStr (i j : Str) : Bool := match i.cps with
  | ⟨[c]⟩ => decide (c ∈ j.cps.toList)
  | _ => !(Builtin.Str.occurrences j i 0 j.length 1).isEmpty
def ninS : D → D → Option D := strOp fun i j => some (.bl (!inStr i j))
def catL : D → D → Option D := fun x y => match x, y with
  | .lst xs, .lst ys => if xs.length + ys.length ≤ sizeLine then some (.lst (xs ++ ys)) else none
  | _, _ => none
def catT : D → D → Option D := fun x y => match x, y with
  | .tup xs, .tup ys => if xs.length + ys.length ≤ sizeLine then some (.tup (xs ++ ys)) else none
  | _, _ => none
def rCatS (K : PySem.W.Frag) : R2 := fun x y H Q => ∃ l b xs zs, x = .ref l ∧ y = .ref b ∧ SqL K H l xs ∧ SqL K H b zs ∧ xs.length + zs.length ≤ sizeLine ∧ ∀ p, H p = none → Q (.ref p) (upd H p (.lst (xs ++ zs)))
theorem op_catS : OpR X (binaryOp .Add) (rCatS X.K) := by
  intro pins s σ H x y v u Q I rx ry h
  obtain ⟨l, b, xs, zs, rfl, rfl, hH, hB, hz, q⟩ := h
  cases rx
  cases ry
  obtain ⟨its, r, ⟨⟨cls, dd, data, sl⟩, n, ho, hc, hd0, hd⟩, _⟩ := I.list hH
  obtain ⟨its2, r2, ⟨⟨cls2, dd2, data2, sl2⟩, n2, ho2, hc2, hd02, hd2⟩, _⟩ := I.list hB
  simp only at hc hd hc2 hd2
  subst hc hd hc2 hd2
  have hl := r.length
  have hl2 := r2.length
  refine concat_meets ⟨_, ho, rfl⟩ ⟨_, ho2, rfl⟩ noFill_list_add seq_list_add PySem.F.slot_list_add PySem.F.entry_list_add (PySem.F.args_list_add_2 _ _) (PyProof.Rows.list_addW l b its.toArray its2.toArray n n2 dd dd2 sl sl2 (by rw [List.size_toArray, List.size_toArray]; omega)) ⟨ho, ho2, ?_⟩
  have ea : its.toArray ++ its2.toArray = (its ++ its2).toArray := by simp
  rw [ea]
  exact ⟨.ref _, _, I.lnew (t' := s.toks) (r.append r2) (by rw [List.length_append]; omega), rfl, q _ I.fresh⟩
theorem o_catL : OpD X C (binaryOp .Add) catL := by
  refine OpR.imp (op_catS (X := X)) fun x y H Q ⟨Z, p, d, e, f, e1, S, r1, r2, hg, q⟩ => ?_
  subst e1
  unfold catL at hg
  split at hg
  · split at hg
    · rename_i hc
      cases hg
      cases r1 with
      | lst h1 a1 =>
        cases r2 with
        | lst h2 a2 =>
          have z1 := RepL.length a1
          have z2 := RepL.length a2
          exact ⟨_, _, _, _, rfl, rfl, h1.sq, h2.sq, by omega, fun b nb => q _ _ (same_upd nb) (repLst S nb (a1.append a2))⟩
    · cases hg
  · cases hg
theorem o_catT : OpD X C (binaryOp .Add) catT := by
  refine OpR.imp (op_catF (X := X)) fun x y H Q ⟨Z, p, d, e, f, e1, S, r1, r2, hg, q⟩ => ?_
  subst e1
  unfold catT at hg
  split at hg
  · split at hg
    · rename_i hc
      cases hg
      cases r1 with
      | tup h1 a1 =>
        cases r2 with
        | tup h2 a2 =>
          have z1 := RepL.length a1
          have z2 := RepL.length a2
          refine ⟨_, _, _, _, rfl, rfl, h1.sq, h2.sq, by omega, fun e => ?_, fun e e' => ?_, fun e e' b o po nb => q _ _ (same_upd nb) (repTup S po nb (a1.append a2))⟩
          · subst e
            cases a1
            exact q _ _ (Same.refl _) (.tup h2 a2)
          · subst e'
            cases a2
            refine q _ _ (Same.refl _) ?_
            rw [List.append_nil]
            exact .tup h1 a1
    · cases hg
  · cases hg
def addD : D → D → Option D := fun x y => match x with
  | .int _ => addI x y
  | .str _ => addS x y
  | .tup _ => catT x y
  | .lst _ => catL x y
  | _ => none
theorem OpD.of {op : Value → Value → Sem Value} {g g' : D → D → Option D} (h : OpD X C op g) (k : ∀ x y d, g' x y = some d → g x y = some d) : OpD X C op g' := OpR.imp h fun x y H Q ⟨Z, p, d, e, f, e1, S, r1, r2, hg, q⟩ => ⟨Z, p, d, e, f, e1, S, r1, r2, k _ _ _ hg, q⟩
theorem o_add : OpD X C (binaryOp .Add) addD := by
  refine ((o_addI.or o_addS).or (o_catT.or o_catL)).of fun x y d h => ?_
  unfold addD at h
  cases x <;> first | (cases h; done) | skip
  · simp [h]
  · simp [addI, intOp_str, h]
  · have h2 : ∀ xs, addS (.tup xs) y = none := fun _ => rfl
    simp [addI, intOp_tup, h2, h]
  · have h2 : ∀ xs, addS (.lst xs) y = none := fun _ => rfl
    have h3 : ∀ xs, catT (.lst xs) y = none := fun _ => rfl
    simp [addI, intOp_lst, h2, h3, h]
end
section
variable {X : Cx} {C : CT}
def ltD : D → D → Option D := fun x y => match x with
  | .int _ => ltI x y
  | _ => ltS x y
def leD : D → D → Option D := fun x y => match x with
  | .int _ => leI x y
  | _ => leS x y
def gtD : D → D → Option D := fun x y => match x with
  | .int _ => gtI x y
  | _ => gtS x y
def geD : D → D → Option D := fun x y => match x with
  | .int _ => geI x y
  | _ => geS x y
def deepest : Nat := 24
def eqD : D → D → Option D := fun x y => if x.ok deepest && y.ok deepest then some (.bl (x.eqv y)) else none
def neD : D → D → Option D := fun x y => if x.ok deepest && y.ok deepest then some (.bl (!x.eqv y)) else none
theorem o_eqD (hu : X.A.units + 64 < cLine) : OpD X C (compareOp .Eq) eqD := by
  refine OpR.imp (op_eqD (X := X) hu) fun x y H Q ⟨Z, p, d, e, f, e1, S, r1, r2, hg, q⟩ => ?_
  unfold eqD at hg
  split at hg
  · rename_i hc
    rw [Bool.and_eq_true] at hc
    cases hg
    refine ⟨d.pd, e.pd, e1 ▸ (ok_dp _).1 d x hc.1 r1, e1 ▸ (ok_dp _).1 e y hc.2 r2, ok_shaped hc.1 (by decide), ok_shaped hc.2 (by decide), ?_⟩
    rw [← (ok_eqv _).1 d e hc.1 hc.2]
    exact q _ _ (Same.refl H) (.bl _)
  · cases hg
theorem o_neD (hu : X.A.units + 64 < cLine) : OpD X C (compareOp .NotEq) neD := by
  refine OpR.imp (op_neD (X := X) hu) fun x y H Q ⟨Z, p, d, e, f, e1, S, r1, r2, hg, q⟩ => ?_
  unfold neD at hg
  split at hg
  · rename_i hc
    rw [Bool.and_eq_true] at hc
    cases hg
    refine ⟨d.pd, e.pd, e1 ▸ (ok_dp _).1 d x hc.1 r1, e1 ▸ (ok_dp _).1 e y hc.2 r2, ok_shaped hc.1 (by decide), ok_shaped hc.2 (by decide), ?_⟩
    rw [← (ok_eqv _).1 d e hc.1 hc.2]
    exact q _ _ (Same.refl H) (.bl _)
  · cases hg

def memD (x : D) (ys : List D) : Bool := ys.any fun z => z.eqv x
def inQ (neg : Bool) : D → D → Option D := fun x y => match y with
  | .lst ys => if x.ok deepest && ys.all (D.ok deepest) then some (.bl (if neg then !memD x ys else memD x ys)) else none
  | .tup ys => if x.ok deepest && ys.all (D.ok deepest) then some (.bl (if neg then !memD x ys else memD x ys)) else none
  | _ => none
def isNoneD : D → D → Option D := fun x y => match y with
  | .non => some (.bl (match x with | .non => true | _ => false))
  | _ => none
def notNoneD : D → D → Option D := fun x y => match y with
  | .non => some (.bl (match x with | .non => false | _ => true))
  | _ => none
theorem o_notN : OpD X C (compareOp .IsNot) notNoneD := by
  refine OpR.imp (op_notN (X := X)) fun x y H Q ⟨Z, p, d, e, f, e1, S, r1, r2, hg, q⟩ => ?_
  unfold notNoneD at hg
  split at hg
  · cases r2
    cases hg
    refine ⟨rfl, ?_⟩
    cases r1 <;> exact q _ _ (Same.refl H) (.bl _)
  · cases hg
end
end DP

set_option Elab.async false
set_option linter.all false
set_option maxRecDepth 100000
set_option maxHeartbeats 4000000
namespace DP
open PySem PySem.Spec PyProof.Rows L2

def FinF (G : Wd) (Z : Addr → Prop) (p : Pt) (r : RF) (Q : VK) (E : XK) : Prop := match r with
  | .ok d hp => ∀ (rho : List Addr) (H : Hp) (v : V), SR G Z ⟨rho, ⟨[], hp⟩, [], H⟩ → Le p ⟨rho, ⟨[], hp⟩, [], H⟩ → RepP G Z ⟨rho, ⟨[], hp⟩, [], H⟩ d v → Q v H
  | .err x hp => ∀ (rho : List Addr) (H : Hp) (cls : Value) (d : Option Addr), SR G Z ⟨rho, ⟨[], hp⟩, [], H⟩ → Le p ⟨rho, ⟨[], hp⟩, [], H⟩ → XRel G Z ⟨rho, ⟨[], hp⟩, [], H⟩ x cls d → E cls d H
  | .stuck => False
def spD (G : Wd) (m : DF) : Sp := fun vs H Q E => ∃ (Z : Addr → Prop) (rho : List Addr) (hp : List Cell) (ds : List D), SR G Z ⟨rho, ⟨[], hp⟩, [], H⟩ ∧ RepLP G Z ⟨rho, ⟨[], hp⟩, [], H⟩ ds vs ∧ FinF G Z ⟨rho, ⟨[], hp⟩, [], H⟩ (m ds hp) Q E
structure FnG (P : Program) (w : World) (K : PySem.W.Frag) (mg : Str → Option Value) (base : Heap) (C : CT) (k : Nat) (f : Addr) (fd : FuncData) (ps : List Str) (m : DF) : Prop where
  run : ∀ (A : Around) (outer : List Env) (s : Shared) (H : Hp) (args : Args) (us : List Value) (vs : List V) (Q : VK) (E : XK), Room k A → A.guards = some [] → Env0 P w K mg base A outer s H → BindsTo s fd args (ps.zip us) → Vals vs us → vs.length = ps.length → spD (wd K C) m vs H Q E →
    codeAny (model P w) A (.call (.ref f) args) (CR (L2.CX P w) outer P w H s Q E) s
theorem FnG.mono {P : Program} {w : World} {K : PySem.W.Frag} {mg : Str → Option Value} {base : Heap} {C : CT} {j k : Nat} {f : Addr} {fd : FuncData} {ps : List Str} {m : DF} (F : FnG P w K mg base C j f fd ps m) (h : j ≤ k) : FnG P w K mg base C k f fd ps m :=
  ⟨fun A outer s H args us vs Q E hr => F.run A outer s H args us vs Q E (hr.mono h)⟩
theorem FnG.imp {P : Program} {w : World} {K : PySem.W.Frag} {mg : Str → Option Value} {base : Heap} {C : CT} {k : Nat} {f : Addr} {fd : FuncData} {ps : List Str} {m m' : DF} (F : FnG P w K mg base C k f fd ps m) (h : ∀ ds hp, m' ds hp = .stuck ∨ m' ds hp = m ds hp) : FnG P w K mg base C k f fd ps m' :=
  ⟨fun A outer s H args us vs Q E hr hg e0 hb r hl ⟨Z, rho, hp, ds, S, rd, q⟩ => F.run A outer s H args us vs Q E hr hg e0 hb r hl ⟨Z, rho, hp, ds, S, rd, by
    rcases h ds hp with e | e
    · rw [e] at q; exact q.elim
    · rw [← e]; exact q⟩⟩

section
variable {G : Wd} {Z : Addr → Prop} {p : Pt}
def Pt.own (p : Pt) (a : Addr) : Prop := ∃ (i : Nat) (c : Cell), p.st.sl[i]? = some (SV.own c) ∧ p.sg[i]? = some (some (V.ref a))
abbrev Pt.in (p : Pt) : Pt := ⟨p.rho, ⟨[], p.st.hp⟩, [], p.H⟩
abbrev Zin (Z : Addr → Prop) (p : Pt) : Addr → Prop := fun a => Z a ∨ p.own a
theorem in_M (a : Addr) : p.in.M a ↔ a ∈ p.rho := by
  constructor
  · rintro (h | ⟨i, c, h, _⟩)
    · exact h
    · simp at h
  · exact .inl
theorem in_L (a : Addr) : p.in.L (Zin Z p) a ↔ p.L Z a := by
  constructor
  · rintro (h | h | h)
    · exact .inl (.inl ((in_M a).mp h))
    · exact .inr h
    · exact .inl (.inr h)
  · rintro ((h | h) | h)
    · exact .inl ((in_M a).mpr h)
    · exact .inr (.inr h)
    · exact .inr (.inl h)
theorem car_L {rho : List Addr} {L L' : Addr → Prop} {H : Hp} (h : ∀ a, L' a → L a) : Car rho L H rho L' H := ⟨fun _ _ h => h, fun _ _ _ h => h, fun _ _ _ _ _ h => h, fun a n _ z => n (h a z), fun _ _ h => h, fun _ _ _ _ h => h, fun _ _ _ h => h⟩
theorem CellAt.car {rho : List Addr} {L L' : Addr → Prop} {H : Hp} {a : Addr} {c : Cell} (k : Car rho L H rho L' H) (h : CellAt G rho L H a c) : CellAt G rho L' H a c := by
  cases c with
  | lst ds => obtain ⟨vs, e, r⟩ := h; exact ⟨vs, e, RepL.car k r⟩
  | dk ks ds => obtain ⟨vs, e, z, r⟩ := h; exact ⟨vs, e, z, RepL.car k r⟩
  | dt ks ds => obtain ⟨vs, e, z, r⟩ := h; exact ⟨vs, e, z, RepL.car k r⟩
  | ins c ds => obtain ⟨dx, vs, e, r⟩ := h; exact ⟨dx, vs, e, RepL.car k r⟩
  | tab _ => exact h.elim
theorem CellQ.car {rho : List Addr} {L L' : Addr → Prop} {H : Hp} {a : Addr} {c : Cell} (k : Car rho L H rho L' H) (h : CellQ G rho L H a c) : CellQ G rho L' H a c := by
  rcases h with h | ⟨q, h1, h2, h3⟩
  · exact .inl (CellAt.car k h)
  · exact .inr ⟨q, h1, h2, h3.car rfl k.all k.dead⟩
theorem SR.in (S : SR G Z p) : SR G (Zin Z p) p.in := by
  refine ⟨rfl, S.hlen, fun i d h => by simp at h, fun i c h => by simp at h, fun n c h => ?_, S.nod, fun i j c c' a h => by simp at h, fun a h => ?_, fun i f o _ h => by simp at h⟩
  · obtain ⟨a, h1, h2, h3⟩ := S.cellQ n c h
    refine ⟨a, h1, CellQ.car (car_L fun a z => (in_L a).mp z) h2, ?_⟩
    rintro (z | ⟨i, c', z, z2⟩)
    · exact h3 z
    · obtain ⟨b, e, _, nb, _⟩ := S.own i c' z
      rw [z2] at e
      cases e
      exact nb (List.mem_of_getElem? h1)
  · rcases h with (h | h) | h
    · exact S.zin a (.inl h)
    · exact S.has (.inr h)
    · exact S.zin a (.inr h)
theorem RepLP.in {ds : List D} {vs : List V} (h : RepLP G Z p ds vs) : RepLP G (Zin Z p) p.in ds vs := RepL.car (car_L fun a z => (in_L a).mp z) h
theorem SR.out (S : SR G Z p) {rho : List Addr} {hp : List Cell} {H : Hp} (S' : SR G (Zin Z p) ⟨rho, ⟨[], hp⟩, [], H⟩) (l : Le p.in ⟨rho, ⟨[], hp⟩, [], H⟩) :
    SR G Z ⟨rho, ⟨p.st.sl, hp⟩, p.sg, H⟩ ∧ Le p ⟨rho, ⟨p.st.sl, hp⟩, p.sg, H⟩ ∧ ∀ d v, RepP G (Zin Z p) ⟨rho, ⟨[], hp⟩, [], H⟩ d v → RepP G Z ⟨rho, ⟨p.st.sl, hp⟩, p.sg, H⟩ d v := by
  have nM : ∀ a, ¬ p.M a → ¬ p.in.M a := fun a h z => h (.inl ((in_M a).mp z))
  have l' : Le p ⟨rho, ⟨p.st.sl, hp⟩, p.sg, H⟩ := by
    refine ⟨l.rho, fun a o h k => ?_, l.tup, l.has⟩
    obtain ⟨h1, h2⟩ := l.keep a o h (nM a k)
    refine ⟨h1, ?_⟩
    rintro (z | z)
    · exact h2 (.inl z)
    · exact k (.inr z)
  have eL : ∀ a, Pt.L Z ⟨rho, ⟨p.st.sl, hp⟩, p.sg, H⟩ a → Pt.L (Zin Z p) ⟨rho, ⟨[], hp⟩, [], H⟩ a := fun a z => by
    rcases z with (z | z) | z
    · exact .inl (.inl z)
    · exact .inr (.inr z)
    · exact .inr (.inl z)
  refine ⟨⟨S.len, S'.hlen, fun i d h => ?_, fun i c h => ?_, fun n c h => ?_, S'.nod, S.dis, fun a h => S'.zin a (h.imp .inl id), S.fxk l' fun _ h => ⟨h, rfl⟩⟩, l', fun d v r => Rep.car (car_L eL) r⟩
  · obtain ⟨v, h1, h2⟩ := S.val i d h
    exact ⟨v, h1, l'.rep h2⟩
  · obtain ⟨a, h1, h2, h3, h4⟩ := S.own i c h
    cases e : p.H a with
    | none => exact absurd e (CellAt.some h2)
    | some o =>
      obtain ⟨k1, k2⟩ := l.keep a o e fun z => h3 ((in_M a).mp z)
      exact ⟨a, h1, CellAt.keep l' h2 (k1.trans e.symm), fun z => k2 (.inl z), h4⟩
  · obtain ⟨a, h1, h2, h3⟩ := S'.cellQ n c h
    exact ⟨a, h1, CellQ.car (car_L eL) h2, fun z => h3 (.inl z)⟩
end

def callM (m : DF) (f : DM (List D)) : DM D := bnd f fun xs s => match m xs s.hp with
  | .ok d hp => .ok d ⟨s.sl, hp⟩
  | .err x hp => .err x ⟨s.sl, hp⟩
  | .stuck => .stuck
section
variable {X : Cx} {C : CT} {W : WX} {k : Nat} {f : Addr} {fd : FuncData} {ps : List Str} {m : DF}
theorem run_fnG {pins : List (Addr × Obj)} {σ : L2.St} {H : Hp} {s : Shared} {Q : VK} {args : Args} {us : List Value} {vs : List V} {p : Pt} {Z : Addr → Prop} {ds : List D} (F : FnG X.prog X.w X.K X.mg X.base C k f fd ps m) (hr : Room k X.A) (hg : X.A.guards = some []) (tk : Takes X W)
    (hb : BindsTo s fd args (ps.zip us)) (hl : vs.length = ps.length) (I : Inv X pins σ H s) (r : Vals vs us) (e1 : p.sg = σ) (e2 : p.H = H) (S : SR (wd X.K C) Z p) (rd : RepLP (wd X.K C) Z p ds vs)
    (h : Fin (wd X.K C) Z W (relD (wd X.K C) Z) p (match m ds p.st.hp with
      | .ok d hp => R.ok d ⟨p.st.sl, hp⟩
      | .err x hp => .err x ⟨p.st.sl, hp⟩
      | .stuck => .stuck) Q) :
    codeAny (model X.prog X.w) X.A (.call (.ref f) args) (fun r s' => match r with
      | .ok (.ret u) => EP X pins σ Q u s'
      | .ok _ => False
      | .error e => X.xe e s') s := by
  subst e1 e2
  refine codeAny_mono (F.run X.A X.stack s p.H args us vs Q (fun cls d H' => W cls d p.sg H') hr hg I.env0 hb r hl ⟨Zin Z p, p.rho, p.st.hp, ds, S.in, RepLP.in rd, ?_⟩) fun r s' hq => ?_
  · cases e : m ds p.st.hp with
    | ok d hp =>
      rw [e] at h
      intro rho H v S' l rv
      obtain ⟨S2, l2, r2⟩ := S.out S' l
      exact h rho H v S2 l2 (r2 d v rv)
    | err x hp =>
      rw [e] at h
      intro rho H cls d S' l xr
      obtain ⟨S2, l2, r2⟩ := S.out S' l
      refine h rho H cls d S2 l2 ⟨xr.1, ?_⟩
      have x2 := xr.2
      cases q : x.arg with
      | none => rw [q] at x2; exact x2
      | some g =>
        rw [q] at x2
        obtain ⟨dd, v, y1, y2, y3, y4⟩ := x2
        refine ⟨dd, v, y1, y2, fun z => y3 ?_, r2 g v y4⟩
        rcases z with (z | z) | z
        · exact .inl (.inl z)
        · exact .inr (.inr z)
        · exact .inr (.inl z)
    | stuck => rw [e] at h; exact h
  · cases r with
    | error e => exact tk e s' (XE.of_call I (fun _ _ _ h => h) hq)
    | ok fl =>
      cases fl with
      | ret u => exact I.after hq
      | next => exact hq
      | brk => exact hq
      | cont => exact hq
theorem run_fnC {pins : List (Addr × Obj)} {σ : L2.St} {H : Hp} {s : Shared} {Q : VK} {us : List Value} {kw : List (Str × Value)} {us' : List Value} {vs : List V} {p : Pt} {Z : Addr → Prop} {ds : List D} (F : FnG X.prog X.w X.K X.mg X.base C k f fd ps m) (hr : Room k X.A) (hg : X.A.guards = some []) (tk : Takes X W)
    (hb : BindsTo s fd ⟨us, kw⟩ (ps.zip us')) (hl : vs.length = ps.length) (I : Inv X pins σ H s) (r : Vals vs us') (e1 : p.sg = σ) (e2 : p.H = H) (S : SR (wd X.K C) Z p) (rd : RepLP (wd X.K C) Z p ds vs)
    (h : Fin (wd X.K C) Z W (relD (wd X.K C) Z) p (match m ds p.st.hp with
      | .ok d hp => R.ok d ⟨p.st.sl, hp⟩
      | .err x hp => .err x ⟨p.st.sl, hp⟩
      | .stuck => .stuck) Q) : wpAny (model X.prog X.w) X.A (call (.ref f) us kw) (EP X pins σ Q) X.xe s := by
  refine wpAny_call (codeAny_mono (run_fnG F hr hg tk hb hl I r e1 e2 S rd h) fun r s' hq => ?_)
  cases r with
  | error e => exact hq
  | ok fl =>
    cases fl with
    | ret u => exact hq
    | next => exact hq.elim
    | brk => exact hq.elim
    | cont => exact hq.elim

structure Fnx (X : Cx) (C : CT) (x : Str) (n : Nat) (m : DF) : Prop where
  ex : ∃ (k : Nat) (f : Addr) (fd : FuncData) (ps : List Str), FnG X.prog X.w X.K X.mg X.base C k f fd ps m ∧ Room k X.A ∧ X.mg x = some (.ref f) ∧ PySem.W.keepIn X.K (.ref f) = true ∧ Binds X.K fd ps [] ∧ ps.length = n
theorem de_call {x : Str} {n : Nat} {p pos : Pos} {e : Expr} {es : List Expr} {f : DM (List D)} (F : Fnx X C x n m) (tk : Takes X W) (hgd : X.A.guards = some []) (hg : Gl X x) (ha : DA X C W (e :: es) f) (hn : (e :: es).length = n)
    (hdb : (x == ("__debug__" : Str)) = false := by decide) (he : starEach (e :: es) X.env = (false, eval e X.env) :: starEach es X.env := by rfl) (hpl : (backTo pos (starEach es X.env)).any (·.1) = false := by rfl)
    (hlen : ∀ s ds s', f s = .ok ds s' → ds.length = (e :: es).length) : DE X C W (.Call (.Name x p) (e :: es) [] pos) (callM m f) := by
  obtain ⟨k, a, fd, ps, F, hr, hm, hk, hb, hps⟩ := F.ex
  refine ⟨⟨fun pins s σ H Q I h => ?_⟩⟩
  obtain ⟨Z, q, rfl, rfl, S, h⟩ := h
  refine wpAny_Call_Name_kw (ld_glob I hg hm ?_ hdb)
  refine PySem.W.callWith_K (h₀ := X.base) I.ok.mod.kin hk (thn (ha.pa.run pos pins s _ _ (fun vs H1 => vs.length = ps.length ∧ ∃ q1 ds, q1.sg = q.sg ∧ q1.H = H1 ∧ SR (wd X.K C) Z q1 ∧ RepLP (wd X.K C) Z q1 ds vs ∧ Fin (wd X.K C) Z W (relD (wd X.K C) Z) q1 (match m ds q1.st.hp with
      | .ok d hp => R.ok d ⟨q1.st.sl, hp⟩
      | .err x hp => .err x ⟨q1.st.sl, hp⟩
      | .stuck => .stuck) Q) I ⟨Z, q, rfl, rfl, S, ?_⟩) fun us s1 ⟨vs, H1, I1, r, hl, q1, ds, e1, e2, S1, rd, h1⟩ => ⟨I1.kIn, ?_⟩) he hpl
  · unfold callM bnd at h
    cases ef : f q.st with
    | ok ds st =>
      rw [ef] at h
      intro rho H1 vs S1 l1 r1
      refine ⟨?_, ⟨rho, st, q.sg, H1⟩, ds, rfl, rfl, S1, r1, Fin.later h l1 rfl⟩
      rw [← RepL.length r1, hlen _ _ _ ef, hn, hps]
    | err x st => rw [ef] at h; exact h
    | stuck => rw [ef] at h; exact h
  · have hus : (us ++ ([] : List Value)).length = ps.length := by rw [List.append_nil, ← r.length]; exact hl
    have hb1 := hb s1 us I1.kIn hus
    rw [List.append_nil] at hb1
    exact run_fnC F hr hgd tk hb1 hl I1 r e1 e2 S1 rd h1
end
end DP

set_option Elab.async false
set_option linter.all false
set_option maxRecDepth 100000
set_option maxHeartbeats 4000000
namespace DP
open PySem PySem.Spec PyProof.Rows L2

def FinS (G : Wd) (Z : Addr → Prop) (W : WX) (p : Pt) (r : RS) (D : Ends) : Prop := match r with
  | .nx st => ∀ (rho : List Addr) (sg : L2.St) (H : Hp), SR G Z ⟨rho, st, sg, H⟩ → Le p ⟨rho, st, sg, H⟩ → D.nx sg H
  | .rt d st => ∀ (rho : List Addr) (sg : L2.St) (H : Hp) (v : V), SR G Z ⟨rho, st, sg, H⟩ → Le p ⟨rho, st, sg, H⟩ → RepP G Z ⟨rho, st, sg, H⟩ d v → D.rt v H
  | .bk st => ∀ (rho : List Addr) (sg : L2.St) (H : Hp), SR G Z ⟨rho, st, sg, H⟩ → Le p ⟨rho, st, sg, H⟩ → D.bk sg H
  | .ct st => ∀ (rho : List Addr) (sg : L2.St) (H : Hp), SR G Z ⟨rho, st, sg, H⟩ → Le p ⟨rho, st, sg, H⟩ → D.ct sg H
  | .err x st => ∀ (rho : List Addr) (sg : L2.St) (H : Hp) (cls : Value) (d : Option Addr), SR G Z ⟨rho, st, sg, H⟩ → Le p ⟨rho, st, sg, H⟩ → XRel G Z ⟨rho, st, sg, H⟩ x cls d → W cls d sg H
  | .stuck => False
def tS (G : Wd) (W : WX) (f : DS) : TS := fun D σ H => ∃ Z p, p.sg = σ ∧ p.H = H ∧ SR G Z p ∧ FinS G Z W p (f p.st) D
structure ST (X : Cx) (C : CT) (W : WX) (st : Stmt) (f : DS) : Prop where
  ps : PS X st (tS (wd X.K C) W f)
structure STs (X : Cx) (C : CT) (W : WX) (st : List Stmt) (f : DS) : Prop where
  pss : PSs X st (tS (wd X.K C) W f)
section
variable {G : Wd} {Z : Addr → Prop} {W : WX} {p q : Pt}
theorem FinS.later {r : RS} {D : Ends} (h : FinS G Z W p r D) (l : Le p q) : FinS G Z W q r D := by
  cases r with
  | nx st => exact fun rho sg H S l' => h rho sg H S (l.trans l')
  | rt d st => exact fun rho sg H v S l' => h rho sg H v S (l.trans l')
  | bk st => exact fun rho sg H S l' => h rho sg H S (l.trans l')
  | ct st => exact fun rho sg H S l' => h rho sg H S (l.trans l')
  | err x st => exact fun rho sg H cls d S l' => h rho sg H cls d S (l.trans l')
  | stuck => exact h
def bndS {α : Type} (f : DM α) (k : α → DS) : DS := fun s => match f s with
  | .ok a s' => k a s'
  | .err x s' => .err x s'
  | .stuck => .stuck
theorem FinS.bnd {α β : Type} {rel : Pt → α → β → Prop} {f : DM α} {k : α → DS} {D : Ends} (h : FinS G Z W p (bndS f k p.st) D) :
    Fin G Z W rel p (f p.st) (fun b H => ∃ q a, q.sg = p.sg ∧ q.H = H ∧ SR G Z q ∧ Le p q ∧ rel q a b ∧ FinS G Z W q (k a q.st) D) := by
  unfold bndS at h
  cases e : f p.st with
  | ok a st =>
    rw [e] at h
    intro rho H b S l r
    exact ⟨⟨rho, st, p.sg, H⟩, a, rfl, rfl, S, l, r, FinS.later h l⟩
  | err x st => rw [e] at h; exact fun rho H cls d S l x => h rho p.sg H cls d S l x
  | stuck => rw [e] at h; exact h
theorem FinS.bndB {f : DM Bool} {k : Bool → DS} {D : Ends} (h : FinS G Z W p (bndS f k p.st) D) :
    Fin G Z W relB p (f p.st) (fun b H => ∃ q, q.sg = p.sg ∧ q.H = H ∧ SR G Z q ∧ Le p q ∧ FinS G Z W q (k b q.st) D) :=
  (FinS.bnd (rel := relB) h).mono fun b H ⟨q, a, e1, e2, S, l, r, h⟩ => ⟨q, e1, e2, S, l, by cases r; exact h⟩
theorem FinS.nxt {D : Ends} (h : FinS G Z W p (.nx p.st) D) (S : SR G Z p) : D.nx p.sg p.H := h p.rho p.sg p.H S (Le.refl p)
end
def seqS (f g : DS) : DS := fun s => match f s with
  | .nx s' => g s'
  | r => r
def nxS : DS := fun s => .nx s
section
variable {X : Cx} {C : CT} {W : WX}
theorem sts_nil : STs X C W [] nxS := ⟨pssImp pss_nil fun D σ H ⟨Z, p, e1, e2, S, h⟩ => by
  subst e1 e2
  exact FinS.nxt h S⟩
theorem tSeq_of {f g : DS} {D : Ends} {σ : L2.St} {H : Hp} (h : tS (wd X.K C) W (seqS f g) D σ H) : tSeq (tS (wd X.K C) W f) (tS (wd X.K C) W g) D σ H := by
  obtain ⟨Z, p, rfl, rfl, S, h⟩ := h
  refine ⟨Z, p, rfl, rfl, S, ?_⟩
  unfold seqS at h
  cases e : f p.st with
  | nx st =>
    rw [e] at h
    exact fun rho sg H S' l => ⟨Z, ⟨rho, st, sg, H⟩, rfl, rfl, S', FinS.later h l⟩
  | rt d st => rw [e] at h; exact h
  | bk st => rw [e] at h; exact h
  | ct st => rw [e] at h; exact h
  | err x st => rw [e] at h; exact h
  | stuck => rw [e] at h; exact h
theorem sts_cons {st : Stmt} {rest : List Stmt} {f g : DS} (h1 : ST X C W st f) (h2 : STs X C W rest g) : STs X C W (st :: rest) (seqS f g) := ⟨pssImp (pss_cons h1.ps h2.pss) fun _ _ _ h => tSeq_of h⟩
theorem sts_one {st : Stmt} {f : DS} (h1 : ST X C W st f) : STs X C W [st] f := ⟨pss_one h1.ps⟩
def exprS (f : DM D) : DS := bndS f fun _ s => .nx s
def retS (f : DM D) : DS := bndS f fun d s => .rt d s
theorem st_ret {e : Expr} {pos : Pos} {f : DM D} (h : DE X C W e f) : ST X C W (.Return (some e) pos) (retS f) := ⟨psImp (ps_ret h.pe) fun D σ H ⟨Z, p, e1, e2, S, h⟩ => by
  subst e1 e2
  refine ⟨Z, p, rfl, rfl, S, (FinS.bnd h).mono fun x H1 ⟨q1, d1, e1, e2, S1, l1, r1, h1⟩ => ?_⟩
  exact e2 ▸ h1 q1.rho q1.sg q1.H x S1 (Le.refl q1) r1⟩
def ifS (c : DM Bool) (f g : DS) : DS := bndS c fun b => if b = true then f else g
theorem st_if {c : Expr} {a b : List Stmt} {pos : Pos} {fc : DM Bool} {fa fb : DS} (hc : DT X C W c fc) (ha : STs X C W a fa) (hb : STs X C W b fb) : ST X C W (.If c a b pos) (ifS fc fa fb) := ⟨psImp (ps_if hc.pt ha.pss hb.pss) fun D σ H ⟨Z, p, e1, e2, S, h⟩ => by
  subst e1 e2
  unfold ifS at h
  refine ⟨Z, p, rfl, rfl, S, (FinS.bndB h).mono fun d1 H1 ⟨q1, e1, e2, S1, l1, h1⟩ => ?_⟩
  cases d1 with
  | true => exact iteT ⟨Z, q1, e1, e2, S1, h1⟩
  | false => exact iteF ⟨Z, q1, e1, e2, S1, h1⟩⟩

abbrev DG := D → DSt → Option DSt
structure TGd (X : Cx) (C : CT) (tg : Expr) (t : TG) (g : DG) (ws : List Nat) : Prop where
  pg : PG X tg t
  k : ∀ (Z : Addr → Prop) (p : Pt) (d : D) (v : V) (st : DSt) (Q : L2.St → Hp → Prop), SR (wd X.K C) Z p → RepP (wd X.K C) Z p d v → g d p.st = some st →
    (∀ rho sg H, SR (wd X.K C) Z ⟨rho, st, sg, H⟩ → Le p ⟨rho, st, sg, H⟩ → sg.length = p.sg.length → (∀ i, i ∉ ws → sg[i]? = p.sg[i]?) → Q sg H) → t v p.sg p.H Q
def nameG (i : Nat) : DG := fun d s => some ⟨s.sl.set i (.val d), s.hp⟩
theorem tg_name {i : Nat} {x : Str} {pos : Pos} (hN : X.N.Nodup) (hi : X.N[i]? = some x) (hx : Loc X.env.scope x) (hf : X.fn x = true ∨ X.env.scope.names.lookup x = some .local := by first | exact .inl rfl | exact .inr rfl | assumption) : TGd X C (.Name x pos) (gName i) (nameG i) [i] :=
  ⟨pg_name hN hi hx hf, fun Z p d v st Q S r e k => by
    cases e
    obtain ⟨S', l⟩ := S.setVal (i := i) r
    exact k _ _ _ S' l (by simp) fun j hj => List.getElem?_set_ne fun e => hj (by simp [e])⟩
def tupG : List DG → List D → DSt → Option DSt
  | [], [], s => some s
  | g :: gs, d :: ds, s => (g d s).bind (tupG gs ds)
  | _, _, _ => none
structure TGs (X : Cx) (C : CT) (tgs : List Expr) (t : L2.TGs) (gs : List DG) (ws : List Nat) : Prop where
  pg : PGs X tgs t
  k : ∀ (Z : Addr → Prop) (p : Pt) (ds : List D) (vs : List V) (st : DSt) (Q : L2.St → Hp → Prop), SR (wd X.K C) Z p → RepLP (wd X.K C) Z p ds vs → tupG gs ds p.st = some st →
    (∀ rho sg H, SR (wd X.K C) Z ⟨rho, st, sg, H⟩ → Le p ⟨rho, st, sg, H⟩ → sg.length = p.sg.length → (∀ i, i ∉ ws → sg[i]? = p.sg[i]?) → Q sg H) → t vs p.sg p.H Q
def asgS (g : DG) (f : DM D) : DS := bndS f fun d s => match g d s with
  | some s' => .nx s'
  | none => .stuck
def setS (i : Nat) (f : DM D) : DS := asgS (nameG i) f
theorem st_set {i : Nat} {x : Str} {e : Expr} {pos pos' : Pos} {f : DM D} (hN : X.N.Nodup) (hi : X.N[i]? = some x) (hx : Loc X.env.scope x) (he : DE X C W e f) (hs : swapsWith e (some (.Name x pos')) pos.line X.env = pure false := by rfl)
    (hf : X.fn x = true ∨ X.env.scope.names.lookup x = some .local := by first | exact .inl rfl | exact .inr rfl | assumption) : ST X C W (.Assign [.Name x pos'] e pos) (setS i f) := by
  refine ⟨psImp (ps_set hN hi hx he.pe hs hf) fun D σ H ⟨Z, p, e1, e2, S, h⟩ => ?_⟩
  subst e1 e2
  refine ⟨Z, p, rfl, rfl, S, (FinS.bnd h).mono fun x H1 ⟨q1, d1, e1, e2, S1, l1, r1, h1⟩ => ?_⟩
  rw [← e1, ← e2]
  obtain ⟨S', l⟩ := S1.setVal (i := i) r1
  exact h1 _ _ _ S' l
def parS (i j : Nat) (f : DM (List D)) : DS := bndS f fun ds s => match ds with
  | [d, e] => .nx ⟨(s.sl.set i (.val d)).set j (.val e), s.hp⟩
  | _ => .stuck
structure LeZ (Z : Addr → Prop) (p p' : Pt) : Prop where
  rho : ∀ (n : Nat) (a : Addr), p.rho[n]? = some a → p'.rho[n]? = some a
  keep : ∀ (a : Addr) (o : HO), p.H a = some o → ¬ p.M a → ¬ Z a → p'.H a = some o ∧ ¬ p'.M a
  tup : ∀ (a : Addr) (vs : List V), TupH p.H a vs → TupH p'.H a vs
  has : ∀ (a : Addr), p.H a ≠ none → p'.H a ≠ none
theorem Le.toZ {Z : Addr → Prop} {p q : Pt} (l : Le p q) : LeZ Z p q := ⟨l.rho, fun a o h k _ => l.keep a o h k, l.tup, l.has⟩
theorem LeZ.car {Z : Addr → Prop} {p q : Pt} (a : LeZ Z p q) : Car p.rho (p.L Z) p.H q.rho (q.L Z) q.H where
  rho := a.rho
  rd := fun x o hn h => by
    have hm : ¬ p.M x := fun z => hn (.inl z)
    have hz : ¬ Z x := fun z => hn (.inr z)
    rcases h with h | ⟨u, h⟩
    · exact .inl (a.keep x _ h hm hz).1
    · exact .inr ⟨u, (a.keep x _ h hm hz).1⟩
  ins := fun x C dx fs hn h => (a.keep x _ h (fun z => hn (.inl z)) fun z => hn (.inr z)).1
  dead := fun x hn h => by
    cases e : p.H x with
    | none => exact absurd e h
    | some o =>
      rintro (z | z)
      · exact (a.keep x o e (fun z => hn (.inl z)) fun z => hn (.inr z)).2 z
      · exact hn (.inr z)
  tup := a.tup
  frz := fun x o u hn h => (a.keep x _ h (fun z => hn (.inl z)) fun z => hn (.inr z)).1
  all := fun x o hn h => (a.keep x _ h (fun z => hn (.inl z)) fun z => hn (.inr z)).1
def Iters (G : Wd) (Z : Addr → Prop) (J : It) (ds : List D) (p : Pt) : Prop := ∃ (Gd : Hp → Prop) (Y : Nat → Hp → V → Hp → Prop), Walk J ds.length Gd Y ∧ (∀ q, LeZ Z p q → Gd q.H) ∧
  ∀ (Z' : Addr → Prop) q i x H', (∀ a, Z' a → Z a ∨ p.H a = none) → SR G Z' q → LeZ Z p q → i < ds.length → Y i q.H x H' → ∃ d, ds[i]? = some d ∧ Same q.H H' ∧ RepP G Z' { q with H := H' } d x
theorem LeZ.carZ {p q : Pt} {Z Z' : Addr → Prop} (a : LeZ Z p q) (hz : ∀ a, Z' a → Z a ∨ p.H a = none) : Car p.rho (p.L Z) p.H q.rho (q.L Z') q.H :=
  let c := a.car
  ⟨c.rho, c.rd, c.ins, fun x n h z => by
    rcases z with z | z
    · exact c.dead x n h (.inl z)
    · rcases hz x z with w | w
      · exact n (.inr w)
      · exact h w, c.tup, c.frz, c.all⟩
def tI (G : Wd) (W : WX) (f : DM (List D)) : TI := fun σ H R => ∃ Z p, p.sg = σ ∧ p.H = H ∧ SR G Z p ∧ Fin G Z W (fun q ds J => Iters G Z J ds q) p (f p.st) R
structure DI (X : Cx) (C : CT) (W : WX) (tg it : Expr) (f : DM (List D)) : Prop where
  pi : PI X tg it (tI (wd X.K C) W f)
theorem piImp {tg l : Expr} {t t' : TI} (h : PI X tg l t) (k : ∀ σ H R, t' σ H R → t σ H R) : PI X tg l t' := ⟨fun pins s σ H R I q => h.run pins s σ H R I (k σ H R q)⟩
theorem piOr {tg l : Expr} {t t' : TI} (h : PI X tg l t) (h' : PI X tg l t') : PI X tg l (fun σ H R => t σ H R ∨ t' σ H R) := ⟨fun pins s σ H R I q => by
  rcases q with q | q
  · exact h.run pins s σ H R I q
  · exact h'.run pins s σ H R I q⟩
def forL (g : DG) (b : DS) : List D → DS
  | [], s => .nx s
  | d :: ds, s => match g d s with
    | none => .stuck
    | some s1 => match b s1 with
      | .nx s2 => forL g b ds s2
      | .ct s2 => forL g b ds s2
      | .bk s2 => .nx s2
      | r => r
def forS (g : DG) (f : DM (List D)) (b : DS) : DS := bndS f fun ds => forL g b ds
end

def defF (n : Nat) (b : DS) : DF := fun ds hp => match b ⟨ds.map .val ++ List.replicate (n - ds.length) .un, hp⟩ with
  | .nx s => .ok .non s.hp
  | .rt d s => .ok d s.hp
  | .err x s => .err x s.hp
  | _ => .stuck
theorem start_SR {G : Wd} {Z : Addr → Prop} {rho : List Addr} {hp : List Cell} {H : Hp} {ds : List D} {vs : List V} {N : List Str} (S : SR G Z ⟨rho, ⟨[], hp⟩, [], H⟩) (r : RepLP G Z ⟨rho, ⟨[], hp⟩, [], H⟩ ds vs) (hx : G.fx = none) :
    SR G Z ⟨rho, ⟨ds.map .val ++ List.replicate (N.length - ds.length) .un, hp⟩, L2.start N vs, H⟩ ∧ Le ⟨rho, ⟨[], hp⟩, [], H⟩ ⟨rho, ⟨ds.map .val ++ List.replicate (N.length - ds.length) .un, hp⟩, L2.start N vs, H⟩ := by
  have hz := RepL.length r
  have noown : ∀ (i : Nat) (c : Cell), (ds.map SV.val ++ List.replicate (N.length - ds.length) .un)[i]? ≠ some (SV.own c) := fun i c h => by
    by_cases hi : i < ds.length
    · rw [List.getElem?_append_left (by simpa using hi), List.getElem?_map] at h
      cases q : ds[i]? with
      | none => rw [q] at h; cases h
      | some d => rw [q] at h; cases h
    · rw [List.getElem?_append_right (by simpa using hi), List.getElem?_replicate] at h
      split at h <;> cases h
  have hm : ∀ a, Pt.M ⟨rho, ⟨ds.map .val ++ List.replicate (N.length - ds.length) .un, hp⟩, L2.start N vs, H⟩ a → Pt.M ⟨rho, ⟨[], hp⟩, [], H⟩ a := fun a h => by
    rcases h with h | ⟨i, c, h, _⟩
    · exact .inl h
    · exact (noown i c h).elim
  have l : Le ⟨rho, ⟨[], hp⟩, [], H⟩ ⟨rho, ⟨ds.map .val ++ List.replicate (N.length - ds.length) .un, hp⟩, L2.start N vs, H⟩ := ⟨fun _ _ h => h, fun a o h k => ⟨h, fun z => k (hm a z)⟩, fun _ _ h => h, fun _ h => h⟩
  refine ⟨⟨?_, S.hlen, fun i d h => ?_, fun i c h => (noown i c h).elim, fun n c h => ?_, S.nod, fun i j c c' a h => (noown i c h).elim, S.zin, fun i f o e => by rw [hx] at e; cases e⟩, l⟩
  · unfold L2.start
    simp only [List.length_append, List.length_map, List.length_replicate]
    omega
  · have h' : (ds.map SV.val ++ List.replicate (N.length - ds.length) .un)[i]? = some (.val d) := h
    by_cases hi : i < ds.length
    · rw [List.getElem?_append_left (by simpa using hi), List.getElem?_map] at h'
      cases q : ds[i]? with
      | none => rw [q] at h'; cases h'
      | some d' =>
        rw [q] at h'
        cases h'
        obtain ⟨v, hv, rv⟩ := RepL.get' r q
        refine ⟨v, ?_, l.rep rv⟩
        show (L2.start N vs)[i]? = _
        unfold L2.start
        rw [List.getElem?_append_left (by simp; omega), List.getElem?_map, hv]
        rfl
    · rw [List.getElem?_append_right (by simpa using hi), List.getElem?_replicate] at h'
      split at h' <;> cases h'
  · obtain ⟨a, h1, h2, h3⟩ := S.cellQ n c h
    exact ⟨a, h1, CellQ.at S l h2 rfl, h3⟩
theorem SR.leave {G : Wd} {Z : Addr → Prop} {rho : List Addr} {st : DSt} {sg : L2.St} {H : Hp} {p : Pt} (S : SR G Z ⟨rho, st, sg, H⟩) (l : Le p ⟨rho, st, sg, H⟩) :
    SR G Z ⟨rho, ⟨[], st.hp⟩, [], H⟩ ∧ Le p ⟨rho, ⟨[], st.hp⟩, [], H⟩ ∧ ∀ d v, RepP G Z ⟨rho, st, sg, H⟩ d v → RepP G Z ⟨rho, ⟨[], st.hp⟩, [], H⟩ d v := by
  have hm : ∀ a, Pt.M ⟨rho, ⟨[], st.hp⟩, [], H⟩ a → Pt.M ⟨rho, st, sg, H⟩ a := fun a h => by
    rcases h with h | ⟨i, c, h, _⟩
    · exact .inl h
    · simp at h
  have l1 : Le ⟨rho, st, sg, H⟩ ⟨rho, ⟨[], st.hp⟩, [], H⟩ := ⟨fun _ _ h => h, fun a o h k => ⟨h, fun z => k (hm a z)⟩, fun _ _ h => h, fun _ h => h⟩
  refine ⟨⟨rfl, S.hlen, fun i d h => by simp at h, fun i c h => by simp at h, fun n c h => ?_, S.nod, fun i j c c' a h => by simp at h, S.zin, fun i f o _ h => by simp at h⟩, l.trans l1, fun d v r => l1.rep r⟩
  obtain ⟨a, h1, h2, h3⟩ := S.cellQ n c h
  exact ⟨a, h1, CellQ.at S l1 h2 rfl, h3⟩
abbrev cxD (P : Program) (w : World) (K : PySem.W.Frag) (mg : Str → Option Value) (base : Heap) (N : List Str) (qual : Str) (scope : Scope) (f : Addr) (cd : Value) (A : Around) (outer : List Env) (s : Shared) (H : Hp) (E : XK) : Cx := cxOf (L2.CX P w) P w K mg base N qual scope f cd A outer s H E
abbrev wE (E : XK) : WX := fun cls d _ H => E cls d H
theorem fn_ofD {P : Program} {w : World} {K : PySem.W.Frag} {mg : Str → Option Value} {base : Heap} {C : CT} {k : Nat} {x qual : Str} {st : Stmt} {f : Addr} {fd : FuncData} {N ps : List Str} {b : DS} (F : Fun K x qual st f fd) (S : FnScope N ps (defScope st)) 
    (hbody : ∀ (cdv : Value) (A : Around) (outer : List Env) (s : Shared) (H : Hp) (E : XK), Room k (A.deeper (envOfC qual (defScope st) s.heap.objs.size f cdv)) → A.guards = some [] →
      STs (cxD P w K mg base N qual (defScope st) f cdv A outer s H E) C (wE E) (defBody st) b) (hx : C.fx = none := by rfl) : FnG P w K mg base C (k + 1) f fd ps (defF N.length b) := by
  obtain ⟨oc, od, kV, doc, pm, an, cdv, ct, osl, rfl, lk, hcd⟩ := F.ex
  refine ⟨fun A outer s H args us vs Q E hr hgd e0 hb r hl hsp => ?_⟩
  have KX : K.In s.heap := e0.mod.kin.keeps fun b o e => (e0.bs b o e).1
  have lim : s.heap.NoLimit := e0.mod.nolimit.keeps fun b o e => (e0.bs b o e).1
  have hkind : ∀ y ∈ ps.zip us, (defScope st).names.lookup y.1 = some .local ∨ ((defScope st).names.lookup y.1 = some .cell ∧ ((cellsFrom (s.heap.objs.size + 1) (defScope st).names []).lookup y.1).isSome = true) := fun ⟨n, v⟩ hy => by
    rcases S.par n (List.of_mem_zip hy).1 with q | q
    · exact .inl q
    · exact .inr ⟨q, PySem.W.cellsFrom_some _ _ _ (.inl q)⟩
  refine codeAny_call_function hr.depth (KX _ _ lk) rfl S.co S.gen rfl (PySem.W.codeRec_of KX hcd) (hb _ _ _ _ ?_)
  refine wpAny_newFunctionEnv_cells S.kind hkind fun env he s1 x => ?_
  subst he
  refine ⟨lim.keeps x.toInCall.keep, codeAny_func ?_⟩
  have hB := hbody cdv A outer s H E (hr.deeper _) hgd
  have I : L2.Inv (cxD P w K mg base N qual (defScope st) f cdv A outer s H E) [] (L2.start N vs) H s1 := inv_start S hr.hd e0 hl r x
  obtain ⟨Z, rho, hp, ds, S0, rd, hq⟩ := hsp
  obtain ⟨S1, l1⟩ := start_SR (N := N) S0 rd hx
  have hres : FinS (wd K C) Z (wE E) ⟨rho, ⟨ds.map .val ++ List.replicate (N.length - ds.length) .un, hp⟩, L2.start N vs, H⟩ (b ⟨ds.map .val ++ List.replicate (N.length - ds.length) .un, hp⟩) { nx := fun _ H' => Q .non H', rt := Q } := by
    unfold defF at hq
    cases e : b ⟨ds.map .val ++ List.replicate (N.length - ds.length) .un, hp⟩ with
    | nx s2 =>
      rw [e] at hq
      intro rho2 sg2 H2 S2 l2
      obtain ⟨S3, l3, _⟩ := S2.leave (l1.trans l2)
      exact hq rho2 H2 .non S3 l3 .non
    | rt d s2 =>
      rw [e] at hq
      intro rho2 sg2 H2 v S2 l2 rv
      obtain ⟨S3, l3, k3⟩ := S2.leave (l1.trans l2)
      exact hq rho2 H2 v S3 l3 (k3 d v rv)
    | err x s2 =>
      rw [e] at hq
      intro rho2 sg2 H2 cls d S2 l2 xr
      obtain ⟨S3, l3, k3⟩ := S2.leave (l1.trans l2)
      refine hq rho2 H2 cls d S3 l3 ⟨xr.1, ?_⟩
      have x2 := xr.2
      cases q : x.arg with
      | none => rw [q] at x2; exact x2
      | some g =>
        rw [q] at x2
        obtain ⟨dd, v, y1, y2, y3, y4⟩ := x2
        refine ⟨dd, v, y1, y2, fun z => y3 ?_, k3 g v y4⟩
        rcases z with (z | ⟨i, c, z, _⟩) | z
        · exact .inl (.inl z)
        · simp at z
        · exact .inr z
    | bk s2 => rw [e] at hq; exact hq.elim
    | ct s2 => rw [e] at hq; exact hq.elim
    | stuck => rw [e] at hq; exact hq.elim
  refine wpAny_mono (hB.pss.run [] s1 (L2.start N vs) H _ I ⟨Z, _, rfl, rfl, S1, hres⟩) (fun fl s' hs => ?_) fun e s' hs => hs
  have fin : ∀ {σ' : L2.St} {H' : Hp} {v : V} {u : Value}, L2.Inv (cxD P w K mg base N qual (defScope st) f cdv A outer s H E) [] σ' H' s' → RelV v u → Q v H' → CE outer P w H s Q u s' :=
    fun {σ' H' v u} J rv q => ⟨v, H', J.os, J.bare, J.base, J.hok, rv, q⟩
  cases fl with
  | ret u =>
    obtain ⟨v, σ', H', J, rv, q⟩ := hs
    exact fin J rv q
  | next =>
    obtain ⟨σ', H', J, q⟩ := hs
    exact fin (v := V.non) (u := Value.none) J rfl q
  | brk =>
    obtain ⟨_, _, _, q⟩ := hs
    exact False.elim q
  | cont =>
    obtain ⟨_, _, _, q⟩ := hs
    exact False.elim q
end DP

set_option Elab.async false
set_option linter.all false
set_option maxRecDepth 100000
set_option maxHeartbeats 4000000
namespace DP
open PySem PySem.Spec PyProof.Rows L2

def FinC (G : Wd) (Z : Addr → Prop) (W : WX) (p : Pt) (r : R Cell) (Q : VK) : Prop := match r with
  | .ok c st => ∀ (rho : List Addr) (H0 : Hp) (a : Addr) (o : HO), SR G Z ⟨rho, st, p.sg, H0⟩ → Le p ⟨rho, st, p.sg, H0⟩ → H0 a = none → CellO G Z ⟨rho, st, p.sg, H0⟩ o c → Q (.ref a) (upd H0 a o)
  | .err x st => ∀ (rho : List Addr) (H : Hp) (cls : Value) (d : Option Addr), SR G Z ⟨rho, st, p.sg, H⟩ → Le p ⟨rho, st, p.sg, H⟩ → XRel G Z ⟨rho, st, p.sg, H⟩ x cls d → W cls d p.sg H
  | .stuck => False
def tF (G : Wd) (W : WX) (f : DM Cell) : TE := fun σ H Q => ∃ Z p, p.sg = σ ∧ p.H = H ∧ SR G Z p ∧ FinC G Z W p (f p.st) Q
structure FE (X : Cx) (C : CT) (W : WX) (e : Expr) (f : DM Cell) : Prop where
  pe : PE X e (tF (wd X.K C) W f)
section
variable {G : Wd} {Z : Addr → Prop} {W : WX} {p q : Pt}
theorem FinC.later {r : R Cell} {Q : VK} (h : FinC G Z W p r Q) (l : Le p q) (e : q.sg = p.sg) : FinC G Z W q r Q := by
  cases r with
  | ok a st => intro rho H b o S l' ha hc; rw [e] at S l' hc; exact h rho H b o S (l.trans l') ha hc
  | err x st => intro rho H cls d S l' r; rw [e] at S l' r ⊢; exact h rho H cls d S (l.trans l') r
  | stuck => exact h
theorem FinC.bnd {α β : Type} {rel : Pt → α → β → Prop} {f : DM α} {k : α → DM Cell} {Q : VK} (h : FinC G Z W p (DP.bnd f k p.st) Q) :
    Fin G Z W rel p (f p.st) (fun b H => ∃ q a, q.sg = p.sg ∧ q.H = H ∧ SR G Z q ∧ Le p q ∧ rel q a b ∧ FinC G Z W q (k a q.st) Q) := by
  unfold DP.bnd at h
  cases e : f p.st with
  | ok a st =>
    rw [e] at h
    intro rho H b S l r
    exact ⟨⟨rho, st, p.sg, H⟩, a, rfl, rfl, S, l, r, FinC.later h l rfl⟩
  | err x st => rw [e] at h; exact h
  | stuck => rw [e] at h; exact h
theorem FinC.ok {c : Cell} {a : Addr} {o : HO} {Q : VK} (h : FinC G Z W p (.ok c p.st) Q) (S : SR G Z p) (ha : p.H a = none) (hc : CellO G Z p o c) : Q (.ref a) (upd p.H a o) := h p.rho p.H a o S (Le.refl p) ha hc
end
def frzM (f : DM Cell) : DM D := bnd f fun c => ret c.frz
section
variable {X : Cx} {C : CT} {W : WX}
theorem frz_go {f : DM Cell} {σ : L2.St} {H : Hp} {Q : VK} (h : tD (wd X.K C) W (frzM f) σ H Q) : tF (wd X.K C) W f σ H (orFrz Q) := by
  obtain ⟨Z, p, rfl, rfl, S, h⟩ := h
  refine ⟨Z, p, rfl, rfl, S, ?_⟩
  unfold frzM bnd ret at h
  cases ef : f p.st with
  | ok c st =>
    rw [ef] at h
    intro rho H0 a o S0 l0 ha hc
    by_cases hd : isDct c = true
    · refine .inr ⟨a, o, rfl, upd_same, hc.mut, fun od => ?_⟩
      have eu : upd (upd H0 a o) a (.frz od o) = upd H0 a (.frz od o) := by
        funext b
        by_cases e : b = a
        · subst e; rw [upd_same, upd_same]
        · rw [upd_ne e, upd_ne e, upd_ne e]
      rw [eu]
      obtain ⟨S1, l1⟩ := S0.ext (same_upd (o := .frz od o) ha)
      refine h rho _ _ S1 (l0.trans l1) ?_
      have nL : ¬ Pt.L Z ⟨rho, st, p.sg, upd H0 a (.frz od o)⟩ a := fun z => S0.freeL ha z
      cases c with
      | dk ks ds =>
        obtain ⟨vs, rfl, hz, r⟩ := hc
        exact .dk upd_same nL hz (l1.repL r)
      | dt ks ds =>
        obtain ⟨vs, rfl, hz, r⟩ := hc
        exact .dt upd_same nL hz (l1.repL r)
      | lst _ => cases hd
      | ins _ _ => cases hd
      | tab _ => cases hd
    · refine .inl ?_
      obtain ⟨S1, l1⟩ := S0.ext (same_upd (o := o) ha)
      have hq : CellP (wd X.K C) Z ⟨rho, st, p.sg, upd H0 a o⟩ a c := hc.at l1 upd_same
      exact h rho _ _ S1 (l0.trans l1) (CellAt.frz (Bool.eq_false_iff.mpr hd) hq (Le.refl _) rfl fun z => S0.freeL ha z)
  | err x st => rw [ef] at h; exact h
  | stuck => rw [ef] at h; exact h
theorem FE.de {e : Expr} {f : DM Cell} (h : FE X C W e f) : DE X C W e (frzM f) := ⟨peImp (pe_locks h.pe) fun _ _ _ h => frz_go h⟩
def ownS (i : Nat) (f : DM Cell) : DS := bndS f fun c s => .nx ⟨s.sl.set i (.own c), s.hp⟩
def lstC (f : DM (List D)) : DM Cell := bnd f fun xs => bnd (lift (small xs)) fun xs => ret (.lst xs)
end

def unL (sl : List SV) : List Nat → List SV
  | [] => sl
  | v :: vs => (unL sl vs).set v .un
def backL (sl0 sl : List SV) : List Nat → List SV
  | [] => sl
  | v :: vs => (backL sl0 sl vs).set v (sl0.getD v .un)
theorem backL_length (sl0 sl : List SV) : ∀ vs, (backL sl0 sl vs).length = sl.length
  | [] => rfl
  | v :: vs => by simp [backL, backL_length sl0 sl vs]
theorem backL_out {sl0 sl : List SV} {i : Nat} : ∀ {vs : List Nat}, i ∉ vs → (backL sl0 sl vs)[i]? = sl[i]?
  | [], _ => rfl
  | v :: vs, h => by
    simp only [List.mem_cons, not_or] at h
    unfold backL
    rw [List.getElem?_set_ne (fun e => h.1 e.symm)]
    exact backL_out h.2
theorem backL_in {sl0 sl : List SV} {i : Nat} (hi : i < sl.length) (h0 : sl0.length = sl.length) : ∀ {vs : List Nat}, i ∈ vs → (backL sl0 sl vs)[i]? = sl0[i]?
  | v :: vs, h => by
    unfold backL
    by_cases e : v = i
    · subst e
      rw [List.getElem?_set_self (by rw [backL_length]; exact hi), List.getD_eq_getElem?_getD]
      cases q : sl0[v]? with
      | none => rw [List.getElem?_eq_none_iff] at q; omega
      | some x => rfl
    · rw [List.getElem?_set_ne e]
      exact backL_in hi h0 (by rcases List.mem_cons.mp h with h | h; exact absurd h.symm e; exact h)
theorem wipe_out {σ : L2.St} {i : Nat} : ∀ {vs : List Nat}, i ∉ vs → (wipe σ vs)[i]? = σ[i]?
  | [], _ => rfl
  | v :: vs, h => by
    simp only [List.mem_cons, not_or] at h
    unfold wipe
    rw [List.getElem?_set_ne (fun e => h.1 e.symm)]
    exact wipe_out h.2
theorem wipe_wipe (σ : L2.St) (vs : List Nat) : wipe (wipe σ vs) vs = wipe σ vs := by
  apply List.ext_getElem?
  intro i
  by_cases h : i ∈ vs
  · have key : ∀ (τ : L2.St) (ws : List Nat), i ∈ ws → (wipe τ ws)[i]? = if i < τ.length then some none else none := by
      intro τ ws
      induction ws with
      | nil => intro h; cases h
      | cons v ws ih =>
        intro h
        unfold wipe
        by_cases e : v = i
        · subst e
          by_cases hl : v < τ.length
          · rw [List.getElem?_set_self (by rw [wipe_length]; exact hl), if_pos hl]
          · rw [List.getElem?_eq_none (by simpa [wipe_length] using hl), if_neg hl]
        · rw [List.getElem?_set_ne e]
          exact ih (by rcases List.mem_cons.mp h with h | h; exact absurd h.symm e; exact h)
    rw [key _ _ h, key _ _ h, wipe_length]
  · rw [wipe_out h]
section
variable {G : Wd} {Z : Addr → Prop} {p : Pt}
theorem SR.wipe (S : SR G Z p) : ∀ vs : List Nat, (vs.all fun v => fxNe G.fx v) = true → SR G Z ⟨p.rho, ⟨unL p.st.sl vs, p.st.hp⟩, L2.wipe p.sg vs, p.H⟩ ∧ Le p ⟨p.rho, ⟨unL p.st.sl vs, p.st.hp⟩, L2.wipe p.sg vs, p.H⟩
  | [], _ => ⟨S, Le.refl p⟩
  | v :: vs, hx => by
    rw [List.all_cons, Bool.and_eq_true] at hx
    obtain ⟨S1, l1⟩ := SR.wipe S vs hx.2
    obtain ⟨S2, l2⟩ := S1.setUn (i := v) hx.1
    exact ⟨S2, l1.trans l2⟩
def freeOf (sl : List SV) (vs : List Nat) : Bool := vs.all fun v => match sl[v]? with
  | some (.own _) => false
  | _ => true
theorem freeOf_no {sl : List SV} {vs : List Nat} (h : freeOf sl vs = true) {i : Nat} {c : Cell} (hi : i ∈ vs) : sl[i]? ≠ some (.own c) := fun e => by
  have := List.all_eq_true.mp h i hi
  rw [e] at this
  cases this
theorem SR.unwipe (S : SR G Z p) {vs : List Nat} (hf : freeOf p.st.sl vs = true) {rho : List Addr} {st : DSt} {H : Hp} {p0 : Pt} (hp0 : Le p p0) (S' : SR G Z ⟨rho, st, L2.wipe p.sg vs, H⟩) (l : Le p ⟨rho, st, L2.wipe p.sg vs, H⟩) :
    SR G Z ⟨rho, ⟨backL p.st.sl st.sl vs, st.hp⟩, p.sg, H⟩ ∧ Le p ⟨rho, ⟨backL p.st.sl st.sl vs, st.hp⟩, p.sg, H⟩ ∧ (∀ d v, RepP G Z ⟨rho, st, L2.wipe p.sg vs, H⟩ d v → RepP G Z ⟨rho, ⟨backL p.st.sl st.sl vs, st.hp⟩, p.sg, H⟩ d v) := by
  have hlen : p.st.sl.length = st.sl.length := by rw [S.len, S'.len]; exact (wipe_length _ _).symm
  have hown : ∀ (i : Nat) (c : Cell), (backL p.st.sl st.sl vs)[i]? = some (SV.own c) → i ∉ vs ∧ st.sl[i]? = some (SV.own c) := fun i c h => by
    by_cases hi : i ∈ vs
    · by_cases hl : i < st.sl.length
      · rw [backL_in hl hlen hi] at h
        exact (freeOf_no hf hi h).elim
      · rw [List.getElem?_eq_none (by rw [backL_length]; omega)] at h
        cases h
    · rw [backL_out hi] at h
      exact ⟨hi, h⟩
  have hm : ∀ a, Pt.M ⟨rho, ⟨backL p.st.sl st.sl vs, st.hp⟩, p.sg, H⟩ a → Pt.M ⟨rho, st, L2.wipe p.sg vs, H⟩ a := fun a h => by
    rcases h with h | ⟨i, c, h, k⟩
    · exact .inl h
    · obtain ⟨hi, h'⟩ := hown i c h
      exact .inr ⟨i, c, h', (wipe_out hi).trans k⟩
  have l1 : Le ⟨rho, st, L2.wipe p.sg vs, H⟩ ⟨rho, ⟨backL p.st.sl st.sl vs, st.hp⟩, p.sg, H⟩ := ⟨fun _ _ h => h, fun a o h k => ⟨h, fun z => k (hm a z)⟩, fun _ _ h => h, fun _ h => h⟩
  have l2 := l.trans l1
  refine ⟨⟨?_, S'.hlen, fun i d h => ?_, fun i c h => ?_, fun n c h => ?_, S'.nod, fun i j c c' a h1 h2 h3 h4 => ?_, S'.zin, fun i f o e h => ?_⟩, l2, fun d v r => l1.rep r⟩
  · show (backL p.st.sl st.sl vs).length = p.sg.length
    rw [backL_length, ← hlen]
    exact S.len
  · have h' : (backL p.st.sl st.sl vs)[i]? = some (SV.val d) := h
    by_cases hi : i ∈ vs
    · by_cases hl : i < st.sl.length
      · rw [backL_in hl hlen hi] at h'
        obtain ⟨v, h1, h2⟩ := S.val i d h'
        exact ⟨v, h1, l2.rep h2⟩
      · rw [List.getElem?_eq_none (by rw [backL_length]; omega)] at h'
        cases h'
    · rw [backL_out hi] at h'
      obtain ⟨v, h1, h2⟩ := S'.val i d h'
      exact ⟨v, (wipe_out hi).symm.trans h1, l1.rep h2⟩
  · obtain ⟨hi, h'⟩ := hown i c h
    obtain ⟨a, h1, h2, h3⟩ := S'.own i c h'
    exact ⟨a, (wipe_out hi).symm.trans h1, CellAt.keep l1 h2 rfl, h3⟩
  · obtain ⟨a, h1, h2, h3⟩ := S'.cellQ n c h
    exact ⟨a, h1, CellQ.at S' l1 h2 rfl, h3⟩
  · obtain ⟨hi, h1'⟩ := hown i c h1
    obtain ⟨hj, h2'⟩ := hown j c' h2
    exact S'.dis i j c c' a h1' h2' ((wipe_out hi).trans h3) ((wipe_out hj).trans h4)
  · have h' : (backL p.st.sl st.sl vs)[i]? = some SV.un := h
    by_cases hi : i ∈ vs
    · by_cases hl : i < st.sl.length
      · rw [backL_in hl hlen hi] at h'
        obtain ⟨h1, hf⟩ := S.fxo i f o e h'
        refine ⟨h1, fun b u hb => ?_⟩
        obtain ⟨h2, h3⟩ := hf b u hb
        obtain ⟨k1, k2⟩ := l2.keep b u h2 fun z => h3 (.inl z)
        exact ⟨k1, fun z => z.elim k2 fun z => h3 (.inr z)⟩
      · rw [List.getElem?_eq_none (by rw [backL_length]; omega)] at h'
        cases h'
    · rw [backL_out hi] at h'
      obtain ⟨h1, hf⟩ := S'.fxo i f o e h'
      refine ⟨(wipe_out hi).symm.trans h1, fun b u hb => ?_⟩
      obtain ⟨h2, h3⟩ := hf b u hb
      obtain ⟨k1, k2⟩ := l1.keep b u h2 fun z => h3 (.inl z)
      exact ⟨k1, fun z => z.elim k2 fun z => h3 (.inr z)⟩

theorem SR.unwipe_le (S : SR G Z p) {vs : List Nat} (hf : freeOf p.st.sl vs = true) {rho : List Addr} {st : DSt} {H : Hp} (S' : SR G Z ⟨rho, st, L2.wipe p.sg vs, H⟩) : Le ⟨rho, st, L2.wipe p.sg vs, H⟩ ⟨rho, ⟨backL p.st.sl st.sl vs, st.hp⟩, p.sg, H⟩ := by
  have hlen : p.st.sl.length = st.sl.length := by rw [S.len, S'.len]; exact (wipe_length _ _).symm
  refine ⟨fun _ _ h => h, fun a o h k => ⟨h, fun z => k ?_⟩, fun _ _ h => h, fun _ h => h⟩
  rcases z with z | ⟨i, c, z, z2⟩
  · exact .inl z
  · have z' : (backL p.st.sl st.sl vs)[i]? = some (SV.own c) := z
    by_cases hi : i ∈ vs
    · by_cases hl : i < st.sl.length
      · rw [backL_in hl hlen hi] at z'
        exact (freeOf_no hf hi z').elim
      · rw [List.getElem?_eq_none (by rw [backL_length]; omega)] at z'
        cases z'
    · rw [backL_out hi] at z'
      exact .inr ⟨i, c, z', (wipe_out hi).trans z2⟩
abbrev Zp (Z : Addr → Prop) (a : Addr) : Addr → Prop := fun b => Z b ∨ b = a
theorem hide_car {L : Addr → Prop} {rho : List Addr} {H : Hp} {a : Addr} {o : HO} (na : H a = none) : Car rho L H rho (fun b => L b ∨ b = a) (upd H a o) :=
  ⟨fun _ _ h => h, fun b u _ h => by
    rcases h with h | ⟨w, h⟩
    · exact .inl (same_upd na b _ h)
    · exact .inr ⟨w, same_upd na b _ h⟩, fun b C dx fs _ h => same_upd na b _ h, fun b n h z => by
    rcases z with z | z
    · exact n z
    · exact h (z ▸ na), fun b vs h => h.by (same_upd na b), fun b w u _ h => same_upd na b _ h, fun b u _ h => same_upd na b u h⟩
theorem Car.eqL {rho rho' : List Addr} {L L' M' : Addr → Prop} {H H' : Hp} (c : Car rho L H rho' L' H') (h : ∀ a, M' a → L' a) : Car rho L H rho' M' H' := ⟨c.rho, c.rd, c.ins, fun a n x z => c.dead a n x (h a z), c.tup, c.frz, c.all⟩
theorem Car.src {rho rho' : List Addr} {L L' M : Addr → Prop} {H H' : Hp} (c : Car rho L H rho' L' H') (h : ∀ a, L a → M a) : Car rho M H rho' L' H' := ⟨c.rho, fun a o n => c.rd a o fun z => n (h a z), fun a C dx fs n => c.ins a C dx fs fun z => n (h a z), fun a n => c.dead a fun z => n (h a z), c.tup, fun a o u n => c.frz a o u fun z => n (h a z), fun a o n => c.all a o fun z => n (h a z)⟩
theorem SR.carry {Z' : Addr → Prop} {H' : Hp} (S : SR G Z p) (c : Car p.rho (p.L Z) p.H p.rho (p.L Z') H') (hc : ∀ a, p.M a → H' a = p.H a) (hz : ∀ a, Z' a → H' a ≠ none ∧ ¬ p.M a) (ht : ∀ a, G.isTb a → H' a ≠ none) (hf : ∀ f, p.H f ≠ none → ¬ p.L Z f → ¬ Z' f) : SR G Z' { p with H := H' } := by
  have cc : ∀ a k, p.M a → CellP G Z p a k → CellP G Z' { p with H := H' } a k := fun a k m h => by
    have e := hc a m
    cases k with
    | lst ds => obtain ⟨vs, h1, h2⟩ := h; exact ⟨vs, e.trans h1, RepL.car c h2⟩
    | dk ks ds => obtain ⟨vs, h1, z, h2⟩ := h; exact ⟨vs, e.trans h1, z, RepL.car c h2⟩
    | dt ks ds => obtain ⟨vs, h1, z, h2⟩ := h; exact ⟨vs, e.trans h1, z, RepL.car c h2⟩
    | ins k ds => obtain ⟨dx, vs, h1, h2⟩ := h; exact ⟨dx, vs, e.trans h1, RepL.car c h2⟩
    | tab _ => exact h.elim
  refine ⟨S.len, S.hlen, fun i d h => ?_, fun i k h => ?_, fun n k h => ?_, S.nod, S.dis, fun a h => h.elim (fun h => (hz a h).1) (ht a), fun i f o e h => let ⟨h1, h0⟩ := S.fxo i f o e h; ⟨h1, fun b u hb => let ⟨h2, h3⟩ := h0 b u hb; ⟨c.all b u h3 h2, fun z => z.elim (fun z => h3 (.inl z)) (hf b (by rw [h2]; exact fun z => by cases z) h3)⟩⟩⟩
  · obtain ⟨v, h1, h2⟩ := S.val i d h
    exact ⟨v, h1, Rep.car c h2⟩
  · obtain ⟨a, h1, h2, h3, h4⟩ := S.own i k h
    have m : p.M a := .inr ⟨i, k, h, h1⟩
    exact ⟨a, h1, cc a k m h2, h3, fun z => (hz a z).2 m⟩
  · obtain ⟨a, h1, h2, h3⟩ := S.cellQ n k h
    have m : p.M a := .inl (List.mem_of_getElem? h1)
    refine ⟨a, h1, ?_, fun z => (hz a z).2 m⟩
    rcases h2 with h2 | ⟨q, e1, e2, e3⟩
    · exact .inl (cc a k m h2)
    · exact .inr ⟨q, e1, e2, e3.car (hc a m) c.all c.dead⟩
theorem L_split {Z : Addr → Prop} {a : Addr} (b : Addr) : p.L (Zp Z a) b ↔ (p.L Z b ∨ b = a) := by
  constructor
  · rintro (h | h | h)
    · exact .inl (.inl h)
    · exact .inl (.inr h)
    · exact .inr h
  · rintro ((h | h) | h)
    · exact .inl h
    · exact .inr (.inl h)
    · exact .inr (.inr h)
theorem SR.hide (S : SR G Z p) {a : Addr} {o : HO} (na : p.H a = none) : SR G (Zp Z a) { p with H := upd p.H a o } := by
  refine S.carry ((hide_car na).eqL fun b z => (L_split b).mp z) (fun b m => upd_ne fun e => S.has m (e ▸ na)) (fun b z => ?_) (fun b z => upd_has (S.zin b (.inr z))) fun f hf h3 z => z.elim (fun z => h3 (.inr z)) fun z => hf (z ▸ na)
  rcases z with z | z
  · exact ⟨upd_has (S.zin b (.inl z)), fun m => by
      cases m with
      | inl m =>
        obtain ⟨n, hn, rfl⟩ := List.getElem_of_mem m
        obtain ⟨x, e, _, h3⟩ := S.cellQ n _ (List.getElem?_eq_getElem (by rw [← S.hlen]; exact hn))
        rw [List.getElem?_eq_getElem hn] at e
        cases e
        exact h3 z
      | inr m =>
        obtain ⟨i, c, h1, h2⟩ := m
        obtain ⟨x, e, _, _, h4⟩ := S.own i c h1
        rw [h2] at e
        cases e
        exact h4 z⟩
  · exact ⟨by rw [z, upd_same]; exact fun q => (by cases q), fun m => S.has m (z ▸ na)⟩
theorem SR.noZ (S : SR G Z p) {a : Addr} (z : Z a) : ¬ p.M a := fun m => by
  cases m with
  | inl m =>
    obtain ⟨n, hn, rfl⟩ := List.getElem_of_mem m
    obtain ⟨x, e, _, h3⟩ := S.cellQ n _ (List.getElem?_eq_getElem (by rw [← S.hlen]; exact hn))
    rw [List.getElem?_eq_getElem hn] at e
    cases e
    exact h3 z
  | inr m =>
    obtain ⟨i, c, h1, h2⟩ := m
    obtain ⟨x, e, _, _, h4⟩ := S.own i c h1
    rw [h2] at e
    cases e
    exact h4 z
theorem poke_car {L : Addr → Prop} {rho : List Addr} {H : Hp} {a : Addr} {o : HO} {xs : List V} (ha : H a = some (.lst xs)) (hL : L a) : Car rho L H rho L (upd H a o) := by
  have nt : ∀ (b : Addr) (vs : List V), TupH H b vs → b ≠ a := fun b vs h e => by
    subst e
    rcases h.get ha with ⟨_, h⟩ | h <;> cases h
  refine ⟨fun _ _ h => h, fun b u n h => ?_, fun b C dx fs n h => ?_, fun b n _ => n, fun b vs h => ?_, fun b w u n h => (upd_ne fun e => n (by rw [e]; exact hL)).trans h, fun b u n h => (upd_ne fun e => n (by rw [e]; exact hL)).trans h⟩
  · have ne : b ≠ a := fun e => n (e ▸ hL)
    rcases h with h | ⟨w, h⟩
    · exact .inl ((upd_ne ne).trans h)
    · exact .inr ⟨w, (upd_ne ne).trans h⟩
  · have ne : b ≠ a := fun e => n (e ▸ hL)
    exact (upd_ne ne).trans h
  · have ne := nt b vs h
    exact h.by fun u h => (upd_ne ne).trans h
theorem SR.poke (S : SR G Z p) {a : Addr} {o : HO} {xs : List V} (z : Z a) (ha : p.H a = some (.lst xs)) : SR G Z { p with H := upd p.H a o } :=
  S.carry (poke_car ha (.inr z)) (fun b m => upd_ne fun e => S.noZ z (e ▸ m)) (fun b zb => ⟨upd_has (S.zin b (.inl zb)), S.noZ zb⟩) (fun b z => upd_has (S.zin b (.inr z))) fun f _ h3 z => h3 (.inr z)
def del (H : Hp) (a : Addr) : Hp := fun b => if b = a then none else H b
theorem del_same {H : Hp} {a : Addr} : del H a a = none := by unfold del; rw [if_pos rfl]
theorem del_ne {H : Hp} {a b : Addr} (h : b ≠ a) : del H a b = H b := by unfold del; rw [if_neg h]
theorem upd_del {H : Hp} {a : Addr} {o : HO} (h : H a = some o) : upd (del H a) a o = H := by
  funext b
  by_cases e : b = a
  · subst e; rw [upd_same, h]
  · rw [upd_ne e, del_ne e]
theorem del_car {L : Addr → Prop} {rho : List Addr} {H : Hp} {a : Addr} {xs : List V} (ha : H a = some (.lst xs)) : Car rho (fun b => L b ∨ b = a) H rho L (del H a) := by
  have nt : ∀ (b : Addr) (vs : List V), TupH H b vs → b ≠ a := fun b vs h e => by
    subst e
    rcases h.get ha with ⟨_, h⟩ | h <;> cases h
  refine ⟨fun _ _ h => h, fun b u n h => ?_, fun b C dx fs n h => ?_, fun b n _ z => n (.inl z), fun b vs h => ?_, fun b w u n h => (del_ne fun e => n (.inr e)).trans h, fun b u n h => (del_ne fun e => n (.inr e)).trans h⟩
  · have ne : b ≠ a := fun e => n (.inr e)
    rcases h with h | ⟨w, h⟩
    · exact .inl ((del_ne ne).trans h)
    · exact .inr ⟨w, (del_ne ne).trans h⟩
  · have ne : b ≠ a := fun e => n (.inr e)
    exact (del_ne ne).trans h
  · have ne := nt b vs h
    exact h.by fun u h => (del_ne ne).trans h
theorem SR.light {a : Addr} (S : SR G (Zp Z a) p) {xs : List V} (ha : p.H a = some (.lst xs)) (hZ : ¬ (Z a ∨ G.isTb a)) : SR G Z { p with H := del p.H a } := by
  have na : ¬ p.M a := S.noZ (Z := Zp Z a) (.inr rfl)
  refine S.carry (Car.src (del_car (L := p.L Z) ha) fun b z => (L_split b).mpr z) (fun b m => del_ne fun e => na (e ▸ m)) (fun b z => ⟨?_, S.noZ (Z := Zp Z a) (.inl z)⟩) (fun b z => ?_) fun f _ h3 z => h3 (.inr (.inl z))
  · have ne : b ≠ a := fun e => hZ (.inl (e ▸ z))
    rw [del_ne ne]
    exact S.zin b (.inl (.inl z))
  · have ne : b ≠ a := fun e => hZ (.inr (e ▸ z))
    rw [del_ne ne]
    exact S.zin b (.inr z)
end

def lcL (g : DG) (t : DM Bool) (e : DM D) (vs : List Nat) : List D → DM (List D)
  | [], s => .ok [] s
  | d :: ds, s => match g d s with
    | none => .stuck
    | some s1 => match t s1 with
      | .ok true s2 => (match e s2 with
        | .ok y s3 => (match lcL g t e vs ds ⟨unL s3.sl vs, s3.hp⟩ with
          | .ok ys s4 => .ok (y :: ys) s4
          | _ => .stuck)
        | _ => .stuck)
      | .ok false s2 => lcL g t e vs ds ⟨unL s2.sl vs, s2.hp⟩
      | _ => .stuck
def lcC (vs : List Nat) (f : DM (List D)) (g : DG) (t : DM Bool) (e : DM D) : DM Cell := bnd f fun ds s =>
  if ds.length ≤ sizeLine ∧ freeOf s.sl vs = true then (match lcL g t e vs ds ⟨unL s.sl vs, s.hp⟩ with
    | .ok ys s' => .ok (.lst ys) ⟨backL s.sl s'.sl vs, s'.hp⟩
    | _ => .stuck) else .stuck
abbrev W0 : WX := fun _ _ _ _ => False
structure DTs (X : Cx) (C : CT) (ifs : List Expr) (f : DM Bool) : Prop where
  pts : PTs X ifs (tT (wd X.K C) W0 f)
section
variable {X : Cx} {C : CT} {W : WX}
theorem dts_nil : DTs X C [] (ret true) := ⟨⟨fun pins s σ H Q I h => by
  obtain ⟨Z, p, rfl, rfl, S, h⟩ := h
  exact pts_nil.run pins s _ _ Q I (Fin.ok h S rfl)⟩⟩
theorem dts_one {c : Expr} {f : DM Bool} (h : DT X C W0 c f) : DTs X C [c] f := ⟨pts_one h.pt⟩
theorem wipe_same {σ τ : L2.St} {vs ws : List Nat} (hl : σ.length = τ.length) (hs : ∀ i ∈ ws, i ∈ vs) (h : ∀ i, i ∉ ws → σ[i]? = τ[i]?) : wipe σ vs = wipe τ vs := by
  apply List.ext_getElem?
  intro i
  by_cases hi : i ∈ vs
  · have key : ∀ (τ : L2.St) (ws : List Nat), i ∈ ws → (wipe τ ws)[i]? = if i < τ.length then some none else none := by
      intro τ ws
      induction ws with
      | nil => intro h; cases h
      | cons v ws ih =>
        intro h
        unfold wipe
        by_cases e : v = i
        · subst e
          by_cases hl : v < τ.length
          · rw [List.getElem?_set_self (by rw [wipe_length]; exact hl), if_pos hl]
          · rw [List.getElem?_eq_none (by simpa [wipe_length] using hl), if_neg hl]
        · rw [List.getElem?_set_ne e]
          exact ih (by rcases List.mem_cons.mp h with h | h; exact absurd h.symm e; exact h)
    rw [key _ _ hi, key _ _ hi, hl]
  · rw [wipe_out hi, wipe_out hi]
    exact h i fun z => hi (hs i z)
theorem lc_go {tg : Expr} {scope : Scope} {own : List (Str × Nat)} {t : TG} {g : DG} {ws : List Nat} {f : DM (List D)} {ft : DM Bool} {fe : DM D} (hg : ∀ (s : Shared) (H : Hp) (B : Addr) (cl : List (Str × Addr)) (fp : List Addr), TGd (X.blk s H scope (compEnvC scope cl B X.env) fp) C tg t g ws) 
    (hws : ∀ i ∈ ws, i ∈ own.map (·.2)) (hx : ((own.map (·.2)).all fun v => fxNe C.fx v) = true) {σ : L2.St} {H : Hp} {Q : VK} (h : tF (wd X.K C) W (lcC (own.map (·.2)) f g ft fe) σ H Q) :
    tLc (tI (wd X.K C) W f) t (tT (wd X.K C) W0 ft) (tD (wd X.K C) W0 fe) (own.map (·.2)) σ H Q := by
  have hk := fun (s : Shared) (H : Hp) (B : Addr) (cl : List (Str × Addr)) (fp : List Addr) => (hg s H B cl fp).k
  replace hk := hk ({ } : Shared) (fun _ => none) 0 [] []
  generalize hvs : own.map (·.2) = vs at *
  obtain ⟨Z, p, rfl, rfl, S, h⟩ := h
  refine ⟨Z, p, rfl, rfl, S, (FinC.bnd h).mono fun J H1 ⟨q1, ds, e1, e2, S1, l1, ⟨Gd, Y, wk, hG, hY⟩, h1⟩ => fun D nD => ?_⟩
  subst e2

  have hcc : ds.length ≤ sizeLine ∧ freeOf q1.st.sl vs = true := by
    by_cases hcc : ds.length ≤ sizeLine ∧ freeOf q1.st.sl vs = true
    · exact hcc
    · rw [if_neg hcc] at h1; exact h1.elim
  rw [if_pos hcc] at h1
  obtain ⟨hsz, hfr⟩ := hcc
  cases eL : lcL g ft fe vs ds ⟨unL q1.st.sl vs, q1.st.hp⟩ with
  | err x st => rw [eL] at h1; exact h1.elim
  | stuck => rw [eL] at h1; exact h1.elim
  | ok ys st' =>
    rw [eL] at h1
    have hzD : ∀ a, Zp Z D a → Z a ∨ q1.H a = none := fun a z => by
      rcases z with z | z
      · exact .inl z
      · exact .inr (z ▸ nD)
    have nZD : ¬ (Z D ∨ (wd X.K C).isTb D) := fun z => S1.zin D z nD
    rw [← e1]
    refine lc_it wk (fun i H => ∃ (q : Pt) (acc : List V) (done rest : List DP.D), q.H = H ∧ q.sg = wipe q1.sg vs ∧ SR (wd X.K C) (Zp Z D) q ∧ Le q1 q ∧ q.H D = some (.lst acc) ∧ RepLP (wd X.K C) (Zp Z D) q done acc ∧ acc.length ≤ i ∧ lcL g ft fe vs (ds.drop i) q.st = .ok rest st' ∧ ys = done ++ rest) ?_ ?_ ?_ ?_
    · obtain ⟨S2, l2⟩ := S1.wipe vs hx
      have nD2 : (⟨q1.rho, ⟨unL q1.st.sl vs, q1.st.hp⟩, wipe q1.sg vs, q1.H⟩ : Pt).H D = none := nD
      refine ⟨⟨q1.rho, ⟨unL q1.st.sl vs, q1.st.hp⟩, wipe q1.sg vs, upd q1.H D (.lst [])⟩, [], [], ys, rfl, rfl, S2.hide nD2, l2.trans (S2.ext (same_upd nD2)).2, upd_same, .nil, Nat.le_refl _, by simpa using eL, rfl⟩
    · rintro i H hi ⟨q, acc, done, rest, rfl, _, _, l2, _⟩
      exact hG q l2.toZ
    · rintro i x H H' hi ⟨q, acc, done, rest, rfl, esg, Sq, lq, hD, hdone, hacc, hrest, hys⟩ y
      obtain ⟨d, hd, sm, rd⟩ := hY (Zp Z D) q i x H' hzD Sq lq.toZ hi y
      obtain ⟨S2, l2⟩ := Sq.ext sm
      have hdr : ds.drop i = d :: ds.drop (i + 1) := by
        obtain ⟨hlt, e⟩ := List.getElem?_eq_some_iff.mp hd
        rw [← e]
        exact List.drop_eq_getElem_cons hlt
      rw [hdr] at hrest
      unfold lcL at hrest
      cases qg : g d q.st with
      | none => rw [qg] at hrest; cases hrest
      | some st1 =>
        rw [qg] at hrest
        dsimp only at hrest
        rw [← esg]
        refine hk (Zp Z D) { q with H := H' } d x st1 _ S2 rd qg fun rho sg H2 S3 l3 hlen hw => ?_
        have ew : wipe sg vs = wipe q.sg vs := wipe_same hlen hws hw
        have eqw : wipe q.sg vs = q.sg := by rw [esg, wipe_wipe]
        refine ⟨ew.trans (by rw [eqw]), Zp Z D, ⟨rho, st1, sg, H2⟩, rfl, rfl, S3, ?_⟩
        have lq3 : Le q ⟨rho, st1, sg, H2⟩ := l2.trans l3
        have nMD : ¬ q.M D := Sq.noZ (Z := Zp Z D) (.inr rfl)
        cases et : ft st1 with
        | err x st => rw [et] at hrest; cases hrest
        | stuck => rw [et] at hrest; cases hrest
        | ok b st2 =>
          rw [et] at hrest
          intro rho3 H3 b3 S4 l4 eb
          cases eb
          have lq4 : Le q ⟨rho3, st2, sg, H3⟩ := lq3.trans l4
          cases b with
          | false =>
            refine iteF ?_
            dsimp only at hrest
            obtain ⟨S5, l5⟩ := S4.wipe vs hx
            have lq5 := lq4.trans l5
            refine ⟨⟨rho3, ⟨unL st2.sl vs, st2.hp⟩, wipe sg vs, H3⟩, acc, done, rest, rfl, ew.trans eqw, S5, lq.trans lq5, (lq4.keep D _ hD nMD).1, lq5.repL hdone, by omega, hrest, hys⟩
          | true =>
            refine iteT ⟨Zp Z D, ⟨rho3, st2, sg, H3⟩, rfl, rfl, S4, ?_⟩
            dsimp only at hrest ⊢
            cases ee : fe st2 with
            | err x st => rw [ee] at hrest; cases hrest
            | stuck => rw [ee] at hrest; cases hrest
            | ok yd st3 =>
              rw [ee] at hrest
              dsimp only at hrest
              intro rho4 H4 yv S5 l5 ry
              have lq5 : Le q ⟨rho4, st3, sg, H4⟩ := lq4.trans l5
              have hD4 : H4 D = some (.lst acc) := (lq5.keep D _ hD nMD).1
              refine ⟨acc, hD4, by omega, ?_⟩
              obtain ⟨S6, l6⟩ := S5.wipe vs hx
              have pc : Car rho4 (Pt.L (Zp Z D) ⟨rho4, ⟨unL st3.sl vs, st3.hp⟩, wipe sg vs, H4⟩) H4 rho4 (Pt.L (Zp Z D) ⟨rho4, ⟨unL st3.sl vs, st3.hp⟩, wipe sg vs, H4⟩) (upd H4 D (.lst (acc ++ [yv]))) := poke_car hD4 (.inr (.inr rfl))
              cases er : lcL g ft fe vs (ds.drop (i + 1)) ⟨unL st3.sl vs, st3.hp⟩ with
              | err x st => rw [er] at hrest; cases hrest
              | stuck => rw [er] at hrest; cases hrest
              | ok ys2 st4 =>
                rw [er] at hrest
                dsimp only at hrest
                cases hrest
                refine ⟨⟨rho4, ⟨unL st3.sl vs, st3.hp⟩, wipe sg vs, upd H4 D (.lst (acc ++ [yv]))⟩, acc ++ [yv], done ++ [yd], ys2, rfl, ew.trans eqw, S6.poke (Z := Zp Z D) (.inr rfl) hD4, ?_, upd_same, RepL.car pc ((l6.repL (lq5.repL hdone)).snoc (l6.rep ry)), by simp; omega, er, by simp [hys]⟩
                have l7 := lq.trans (lq5.trans l6)
                refine ⟨l7.rho, fun a o ha hm => ?_, fun a vs' ha => ?_, fun a ha => upd_has (l7.has a ha)⟩
                · have ne : a ≠ D := fun e => by rw [e, nD] at ha; cases ha
                  exact ⟨(upd_ne ne).trans (l7.keep a o ha hm).1, (l7.keep a o ha hm).2⟩
                · have ne : a ≠ D := fun e => by
                    rw [e] at ha
                    rcases ha with ⟨w, ha, _⟩ | ⟨ha, _⟩ <;> rw [nD] at ha <;> cases ha
                  exact (l7.tup a vs' ha).by fun u h => (upd_ne ne).trans h
    · rintro H ⟨q, acc, done, rest, rfl, esg, Sq, lq, hD, hdone, hacc, hrest, hys⟩
      rw [List.drop_length] at hrest
      unfold lcL at hrest
      cases hrest
      rw [List.append_nil] at hys
      subst hys
      have S2 := Sq.light hD nZD
      have l2 : Le q1 ⟨q.rho, q.st, wipe q1.sg vs, del q.H D⟩ := by
        have el : (⟨q.rho, q.st, wipe q1.sg vs, del q.H D⟩ : Pt).M = q.M := by rw [← esg]; rfl
        refine ⟨lq.rho, fun a o ha hm => ?_, fun a vs' ha => ?_, fun a ha => ?_⟩
        · have ne : a ≠ D := fun e => by rw [e, nD] at ha; cases ha
          exact ⟨(del_ne ne).trans (lq.keep a o ha hm).1, by rw [el]; exact (lq.keep a o ha hm).2⟩
        · have ne : a ≠ D := fun e => by
            rw [e] at ha
            rcases ha with ⟨w, ha, _⟩ | ⟨ha, _⟩ <;> rw [nD] at ha <;> cases ha
          exact (lq.tup a vs' ha).by fun u h => (del_ne ne).trans h
        · have ne : a ≠ D := fun e => ha (e ▸ nD)
          show del q.H D a ≠ none
          rw [del_ne ne]
          exact lq.has a ha
      have S2' : SR (wd X.K C) Z ⟨q.rho, q.st, wipe q1.sg vs, del q.H D⟩ := by rw [← esg]; exact S2
      obtain ⟨S3, l3, k3⟩ := S1.unwipe hfr (Le.refl q1) S2' l2
      have hd2 : RepLP (wd X.K C) Z ⟨q.rho, q.st, wipe q1.sg vs, del q.H D⟩ ys acc := by
        have := RepL.car (Car.src (del_car (L := q.L Z) (rho := q.rho) hD) fun b z => (L_split b).mpr z) hdone
        rw [← esg]
        exact this
      have l4 : Le ⟨q.rho, q.st, wipe q1.sg vs, del q.H D⟩ ⟨q.rho, ⟨backL q1.st.sl q.st.sl vs, q.st.hp⟩, q1.sg, del q.H D⟩ := SR.unwipe_le S1 hfr S2'
      have h2 := h1 q.rho (del q.H D) D (.lst acc) S3 l3 del_same ⟨acc, rfl, l4.repL hd2⟩
      rw [upd_del hD] at h2
      exact h2
theorem fe_lc {elt tg iter : Expr} {ifs : List Expr} {scope : Scope} {own : List (Str × Nat)} {pos : Pos} {t : TG} {g : DG} {ws : List Nat} {f : DM (List D)} {ft : DM Bool} {fe : DM D} (hc : X.calm = true) (hN : X.N.Nodup) (hi : DI X C W tg iter f) (ok : BlkOk X.N X.env.scope scope own)
    (hg : ∀ (s : Shared) (H : Hp) (B : Addr) (cl : List (Str × Addr)) (fp : List Addr), TGd (X.blk s H scope (compEnvC scope cl B X.env) fp) C tg t g ws) (ht : ∀ (s : Shared) (H : Hp) (B : Addr) (cl : List (Str × Addr)) (fp : List Addr), DTs (X.blk s H scope (compEnvC scope cl B X.env) fp) C ifs ft)
    (he : ∀ (s : Shared) (H : Hp) (B : Addr) (cl : List (Str × Addr)) (fp : List Addr), DE (X.blk s H scope (compEnvC scope cl B X.env) fp) C W0 elt fe) (hws : ∀ i ∈ ws, i ∈ own.map (·.2)) (hs : ∀ x, foldedSetIterable iter X.env x = pure x := by intro _; rfl) (hfx : ((own.map (·.2)).all fun v => fxNe C.fx v) = true := by rfl) :
    FE X C W (.ListComp elt [⟨tg, iter, ifs, 0⟩] scope pos) (lcC (own.map (·.2)) f g ft fe) :=
  ⟨peImp (pe_lc (g := t) (tt := tT (wd X.K C) W0 ft) (te := tD (wd X.K C) W0 fe) hc hN hi.pi ok (fun s H B cl fp => (hg s H B cl fp).pg) (fun s H B cl fp => (ht s H B cl fp).pts) (fun s H B cl fp => (he s H B cl fp).pe) hs) fun σ H Q h => lc_go hg hws hfx h⟩
theorem frz_goL {f : DM Cell} (hnd : ∀ s c s', f s = .ok c s' → isDct c = false) {σ : L2.St} {H : Hp} {Q : VK} (h : tD (wd X.K C) W (frzM f) σ H Q) : tF (wd X.K C) W f σ H Q := by
  obtain ⟨Z, p, rfl, rfl, S, h⟩ := h
  refine ⟨Z, p, rfl, rfl, S, ?_⟩
  unfold frzM bnd ret at h
  cases ef : f p.st with
  | ok c st =>
    rw [ef] at h
    intro rho H0 a o S0 l0 ha hc
    obtain ⟨S1, l1⟩ := S0.ext (same_upd (o := o) ha)
    have hq : CellP (wd X.K C) Z ⟨rho, st, p.sg, upd H0 a o⟩ a c := hc.at l1 upd_same
    exact h rho _ _ S1 (l0.trans l1) (CellAt.frz (hnd _ _ _ ef) hq (Le.refl _) rfl fun z => S0.freeL ha z)
  | err x st => rw [ef] at h; exact h
  | stuck => rw [ef] at h; exact h
theorem lcC_nd {vs : List Nat} {f : DM (List D)} {g : DG} {t : DM Bool} {e : DM D} : ∀ s c s', lcC vs f g t e s = .ok c s' → isDct c = false := fun s c s' h => by
  unfold lcC bnd at h
  cases ef : f s with
  | ok ds s1 =>
    rw [ef] at h
    dsimp only at h
    split at h
    · split at h
      · cases h; rfl
      · cases h
    · cases h
  | err x st => rw [ef] at h; cases h
  | stuck => rw [ef] at h; cases h
theorem set_go {i : Nat} {te : TE} {f : DM Cell} (hnd : ∀ s c s', f s = .ok c s' → isDct c = false) (k : ∀ σ H Q, tF (wd X.K C) W f σ H Q → te σ H Q) {D : Ends} {σ : L2.St} {H : Hp} (h : tS (wd X.K C) W (setS i (frzM f)) D σ H) : tAsg te (gName i) D σ H := by
  refine k _ _ _ (frz_goL hnd ?_)
  obtain ⟨Z, p, rfl, rfl, S, h⟩ := h
  refine ⟨Z, p, rfl, rfl, S, (FinS.bnd h).mono fun x H1 ⟨q1, d1, e1, e2, S1, l1, r1, h1⟩ => ?_⟩
  show D.nx (p.sg.set i (some x)) H1
  rw [← e1, ← e2]
  obtain ⟨S', l⟩ := S1.setVal (i := i) r1
  exact h1 _ _ _ S' l
theorem st_setLc {i : Nat} {y : Str} {py spos : Pos} {elt tg iter : Expr} {ifs : List Expr} {scope : Scope} {own : List (Str × Nat)} {pos : Pos} {t : TG} {g : DG} {ws : List Nat} {f : DM (List D)} {ft : DM Bool} {fe : DM D} (hy : X.N[i]? = some y) (hyl : X.env.scope.names.lookup y = some .local)
    (hsw : swapsWith (.ListComp elt [⟨tg, iter, ifs, 0⟩] scope pos) (some (.Name y py)) spos.line X.env = pure true) (hc : X.calm = true) (hN : X.N.Nodup) (hi : DI X C W tg iter f) (ok : BlkOk X.N X.env.scope scope own)
    (hg : ∀ (s : Shared) (H : Hp) (B : Addr) (cl : List (Str × Addr)) (fp : List Addr), TGd (X.blk s H scope (compEnvC scope cl B X.env) fp) C tg t g ws) (ht : ∀ (s : Shared) (H : Hp) (B : Addr) (cl : List (Str × Addr)) (fp : List Addr), DTs (X.blk s H scope (compEnvC scope cl B X.env) fp) C ifs ft)
    (he : ∀ (s : Shared) (H : Hp) (B : Addr) (cl : List (Str × Addr)) (fp : List Addr), DE (X.blk s H scope (compEnvC scope cl B X.env) fp) C W0 elt fe) (hws : ∀ i ∈ ws, i ∈ own.map (·.2)) (hs : ∀ x, foldedSetIterable iter X.env x = pure x := by intro _; rfl) (hfx : ((own.map (·.2)).all fun v => fxNe C.fx v) = true := by rfl) : ST X C W (.Assign [.Name y py] (.ListComp elt [⟨tg, iter, ifs, 0⟩] scope pos) spos) (setS i (frzM (lcC (own.map (·.2)) f g ft fe))) :=
  ⟨psImp (ps_setLc (g := t) (tt := tT (wd X.K C) W0 ft) (te := tD (wd X.K C) W0 fe) hc hN hy hyl hsw hi.pi ok (fun s H B cl fp => (hg s H B cl fp).pg) (fun s H B cl fp => (ht s H B cl fp).pts) (fun s H B cl fp => (he s H B cl fp).pe) hs) fun _ _ _ h => set_go lcC_nd (fun _ _ _ h => lc_go hg hws hfx h) h⟩
end
end DP

set_option Elab.async false
set_option linter.all false
set_option maxRecDepth 100000
set_option maxHeartbeats 4000000
namespace DP
open PySem PySem.Spec PyProof.Rows L2

def D.key : D → Option Key
  | .int i => some (.inl i)
  | .str x => some (.inr x)
  | _ => none
def keysOf : List D → Option (List Key)
  | [] => some []
  | d :: ds => (d.key).bind fun k => (keysOf ds).map fun ks => k :: ks
def valOf {κ : Type} [DecidableEq κ] (ks : List κ) (vs : List D) (k : κ) : Option D := ((ks.zip vs).find? fun kv => decide (kv.1 = k)).map (·.2)
def ixD : D → D → Option D := fun x y => match x, y with
  | .lst xs, .int i => atI xs i
  | .tup xs, .int i => atI xs i
  | .str z, .int i => (atI z.cps.toList i).bind fun c => if z.length ≤ sizeLine then some (.str ⟨#[c]⟩) else none
  | .dk ks vs, y => (D.key y).bind fun k => valOf ks vs k
  | .dt ks vs, .tup ys => (keysOf ys).bind fun k => valOf ks vs k
  | _, _ => none
section
variable {G : Wd} {rho : List Addr} {L : Addr → Prop} {H : Hp}
theorem atI_rep {ds : List D} {vs : List V} {i : Int} {d : D} (r : RepL G rho L H ds vs) (h : atI ds i = some d) : ∃ v, atI vs i = some v ∧ Rep G rho L H d v := by
  unfold atI at h ⊢
  rw [← RepL.length r]
  cases e : ixN ds.length i with
  | none => rw [e] at h; cases h
  | some j => rw [e] at h; exact RepL.get' r h
theorem key_rep {d : D} {v : V} {k : Key} (r : Rep G rho L H d v) (h : d.key = some k) : v = kV k := by
  cases d with
  | int i => cases r; cases h; rfl
  | str x => cases r; cases h; rfl
  | _ => cases h
theorem keys_rep : ∀ {ds : List D} {vs : List V} {ks : List Key}, RepL G rho L H ds vs → keysOf ds = some ks → vs = ks.map kV
  | [], _, _, r, h => by cases r; cases h; rfl
  | d :: ds, _, _, r, h => by
    cases r with
    | cons r1 r2 =>
      unfold keysOf at h
      cases e : d.key with
      | none => rw [e] at h; cases h
      | some k =>
        rw [e] at h
        cases e2 : keysOf ds with
        | none => simp [e2] at h
        | some ks2 =>
          simp [e2] at h
          subst h
          rw [key_rep r1 e, keys_rep r2 e2]
          rfl
theorem val_rep {κ : Type} [DecidableEq κ] {k : κ} : ∀ {ks : List κ} {ds : List D} {vs : List V} {o : Option D}, RepL G rho L H ds vs → ks.length = vs.length → valOf ks ds k = o → (o = none → valV (ks.zip vs) k = none) ∧ (∀ d, o = some d → ∃ v, valV (ks.zip vs) k = some v ∧ Rep G rho L H d v)
  | [], _, _, _, r, hz, h => by subst h; exact ⟨fun _ => rfl, fun d e => by cases e⟩
  | k' :: ks, [], _, _, r, hz, h => by cases r; cases hz
  | k' :: ks, d :: ds, _, o, r, hz, h => by
    cases r with
    | cons r1 r2 =>
      rename_i v vs
      unfold valOf at h
      simp only [List.zip_cons_cons, List.find?_cons] at h
      unfold valV
      simp only [List.zip_cons_cons, List.find?_cons]
      by_cases e : k' = k
      · simp only [e, decide_true, Option.map_some] at h ⊢
        subst h
        refine ⟨(fun z => nomatch z), fun d' e' => ?_⟩
        cases e'
        exact ⟨v, rfl, r1⟩
      · simp only [decide_eq_false e] at h ⊢
        exact val_rep (ks := ks) (ds := ds) (vs := vs) (o := o) r2 (by simpa using hz) h
end
section
variable {X : Cx} {C : CT} {W : WX}
theorem d_getItemS {pins : List (Addr × Obj)} {σ : L2.St} {H : Hp} {s : Shared} {a b : Addr} {u : Value} {A : Around} {E : Value → Shared → Prop} {kvs : List (List Key × V)} {k : List Key} {v : V} {Q : Value → Shared → Prop} (hu : A.units + 1 < cLine) (I : Inv X pins σ H s) (e : Rd H a (.dT kvs)) (eb : SqT X.K H b (k.map kV)) (l : valV kvs k = some v) (ry : RelV (.ref b) u)
    (h : ∀ w' s', Inv X pins σ H s' → RelV v w' → Q w' s') : wpAny (model X.prog X.w) A (getItem (.ref a) u) Q E s := by
  cases (show u = Value.ref b from ry)
  obtain ⟨z, hd, xs, rel, dd⟩ := dt_rd I.hok e
  obtain ⟨w', hw, rw'⟩ := RelO.some_of (v := v) (o := (atKey xs k).map (·.2)) (by rw [← l]; exact rel.val k)
  obtain ⟨p, hp, hp2⟩ := Option.map_eq_some_iff.mp hw
  have hk : (tupleKind (mixKind X.prog X.w)).is s.heap k b := by
    obtain ⟨its, r, ⟨o, h1, h2, n, h3⟩, _⟩ := I.tuple eb
    exact ⟨o, its.toArray, n, h1, h2, h3, by simpa using items_are r⟩
  refine wpAny_getItem_heap (tupleKind_room_in1 hu) hk dd hp ?_
  rw [hp2]
  exact h w' _ (I.tok _) rw'
theorem ix_dk (hu : X.A.units + 1 < cLine) : IxR X (fun x y H Q => ∃ a v, x = .ref a ∧ DGet H a y (some v) ∧ Q v H) := by
  intro value slice pins s σ H x y v u Q I rx ry h hs
  obtain ⟨a, z, rfl, g, q⟩ := h
  cases rx
  exact tail_any (dict_typeIs I g) PySem.F.slot_dict_getitem.lookup (d_getItem hu I g ry fun w' s3 I3 rw' => ⟨z, H, I3, rw', q⟩) hs
theorem ix_dt (hu : X.A.units + 1 < cLine) : IxR X (fun x y H Q => ∃ a b kvs k v, x = .ref a ∧ y = .ref b ∧ Rd H a (.dT kvs) ∧ SqT X.K H b (k.map kV) ∧ valV kvs k = some v ∧ Q v H) := by
  intro value slice pins s σ H x y v u Q I rx ry h hs
  obtain ⟨a, b, kvs, k, z, rfl, rfl, e, eb, l, q⟩ := h
  cases rx
  have ty : s.TypeIs (.ref a) "dict" := by
    obtain ⟨_, hd, xs, rel, dd⟩ := dt_rd I.hok e
    exact dd.typeIs
  exact tail_any ty PySem.F.slot_dict_getitem.lookup (d_getItemS hu I e eb l ry fun w' s3 I3 rw' => ⟨z, H, I3, rw', q⟩) hs
theorem IxR.imp {r r' : R2} (h : IxR X r) (k : ∀ x y H Q, r' x y H Q → r x y H Q) : IxR X r' := fun value slice pins s σ H x y v u Q I rx ry q hs => h value slice pins s σ H x y v u Q I rx ry (k x y H Q q) hs
def inK (neg : Bool) : D → D → Option D := fun x y => match y with
  | .dk ks vs => (x.key).map fun k => .bl (if neg then !(valOf ks vs k).isSome else (valOf ks vs k).isSome)
  | .dt ks vs => (match x with
    | .tup xs => (keysOf xs).map fun k => .bl (if neg then !(valOf ks vs k).isSome else (valOf ks vs k).isSome)
    | _ => none)
  | _ => none
def ninD : D → D → Option D := fun x y => match y with
  | .str _ => ninS x y
  | .lst _ => inQ true x y
  | .tup _ => inQ true x y
  | _ => inK true x y
def cutD {α : Type} (xs : List α) (lo hi : Option Int) : List α := (xs.drop (HT.sIx xs.length 0 lo)).take (HT.sIx xs.length xs.length hi - HT.sIx xs.length 0 lo)
theorem cut_whole {α : Type} {xs : List α} {lo hi : Option Int} (hw : HT.sIx xs.length 0 lo = 0 ∧ HT.sIx xs.length xs.length hi = xs.length) : cutD xs lo hi = xs := by
  unfold cutD
  rw [hw.1, hw.2, List.drop_zero, Nat.sub_zero, List.take_length]
def asI : D → Option Int
  | .int i => some i
  | _ => none
def noPart : DM (Option Int) := ret none
def partM (f : DM D) : DM (Option Int) := bnd f fun d => bnd (lift (asI d)) fun i => ret (some i)
structure DO (X : Cx) (C : CT) (W : WX) (e : Option Expr) (f : DM (Option Int)) : Prop where
  po : PO X e (tG (wd X.K C) W (fun _ => relB) f)
theorem do_none : DO X C W none noPart := ⟨⟨fun pins s σ H Q I ⟨Z, p, e1, e2, S, h⟩ => by
  subst e1 e2
  exact po_none.run pins s _ _ Q I (Fin.ok h S rfl)⟩⟩
theorem do_some {e : Expr} {f : DM D} (h : DE X C W e f) : DO X C W (some e) (partM f) := ⟨⟨fun pins s σ H Q I ⟨Z, p, e1, e2, S, h'⟩ => by
  subst e1 e2
  refine (po_some h.pe).run pins s _ _ Q I ⟨Z, p, rfl, rfl, S, (Fin.bnd h').mono fun x H1 ⟨q1, d1, e1, e2, S1, l1, r1, h1⟩ => ?_⟩
  unfold bnd lift at h1
  cases hg : asI d1 with
  | none => rw [hg] at h1; exact h1.elim
  | some i =>
    rw [hg] at h1
    cases d1 with
    | int j =>
      cases hg
      cases r1
      exact ⟨_, rfl, e2 ▸ Fin.ok h1 S1 rfl⟩
    | _ => cases hg⟩⟩
def sliceD : D → Option Int → Option Int → Option D := fun x lo hi => match x with
  | .lst xs => some (.lst (cutD xs lo hi))
  | .tup xs => some (.tup (cutD xs lo hi))
  | .str z => if z.length ≤ sizeLine then some (.str (cutS z lo hi)) else none
  | _ => none
def sliceM (f : DM D) (l h : DM (Option Int)) : DM D := bnd f fun x => bnd l fun lo => bnd h fun hi => lift (sliceD x lo hi)
theorem repL_cut {G : Wd} {rho : List Addr} {L : Addr → Prop} {H : Hp} {ds : List D} {vs : List V} {lo hi : Option Int} (r : RepL G rho L H ds vs) : RepL G rho L H (cutD ds lo hi) (cutV vs lo hi) := by
  unfold cutD cutV
  rw [RepL.length r]
  exact (r.drop _).take _
theorem SlR.imp {r r' : V → Option Int → Option Int → Hp → VK → Prop} (h : SlR X r) (k : ∀ x lo hi H Q, r' x lo hi H Q → r x lo hi H Q) : SlR X r' := fun pins s σ H x v vl vu lo hi sl Q I rx hs pl pu q => h pins s σ H x v vl vu lo hi sl Q I rx hs pl pu (k _ _ _ _ _ q)
def rSl (G : Wd) : V → Option Int → Option Int → Hp → VK → Prop := fun x lo hi H Q => ∃ (Z : Addr → Prop) (p : Pt) (d f : D), p.H = H ∧ SR G Z p ∧ RepP G Z p d x ∧ sliceD d lo hi = some f ∧ ∀ v H', Same H H' → RepP G Z { p with H := H' } f v → Q v H'
theorem sl_all : SlR X (rSl (wd X.K C)) := by
  refine SlR.imp (SlR.or (sl_list (X := X)) (SlR.or (sl_tupF (X := X)) (sl_str (X := X)))) fun x lo hi H Q ⟨Z, p, d, f, e1, S, r1, hg, q⟩ => ?_
  subst e1
  unfold sliceD at hg
  split at hg
  · cases hg
    cases r1 with
    | lst h1 a1 => exact .inl ⟨_, _, rfl, h1.sq, fun b nb => q _ _ (same_upd nb) (repLst S nb (repL_cut a1))⟩
  · cases hg
    cases r1 with
    | tup h1 a1 =>
      refine .inr (.inl ⟨_, _, rfl, h1.sq, fun hw => q _ _ (Same.refl _) (.tup h1 ?_), fun hw b o po nb => q _ _ (same_upd nb) (repTup S po nb (repL_cut a1))⟩)
      rw [cut_whole (by rw [RepL.length a1]; exact hw)]
      exact a1
  · split at hg
    · rename_i hz
      cases hg
      cases r1
      exact .inr (.inr ⟨_, rfl, hz, q _ _ (Same.refl _) (.str _)⟩)
    · cases hg
  · cases hg
theorem de_slice {e : Expr} {lo hi : Option Expr} {p2 pos : Pos} {f : DM D} {l h : DM (Option Int)} (he : DE X C W e f) (hl : DO X C W lo l) (hh : DO X C W hi h) : DE X C W (.Subscript e (.Slice lo hi none p2) pos) (sliceM f l h) := by
  refine ⟨peImp (pe_slice (sl_all (C := C)) he.pe hl.po hh.po) fun σ H Q h => ?_⟩
  obtain ⟨Z, p, rfl, rfl, S, h⟩ := h
  refine ⟨Z, p, rfl, rfl, S, (Fin.bnd h).mono fun x H1 ⟨q1, d1, e1, e2, S1, l1, r1, h1⟩ => ?_⟩
  refine ⟨Z, q1, e1, e2, S1, (Fin.bnd (rel := relB) h1).mono fun lo H2 ⟨q2, lo', e3, e4, S2, l2, r2, h2⟩ => ?_⟩
  cases r2
  refine ⟨Z, q2, e3.trans e1, e4, S2, (Fin.bnd (rel := relB) h2).mono fun hi H3 ⟨q3, hi', e5, e6, S3, l3, r3, h3⟩ => ?_⟩
  cases r3
  unfold lift at h3
  cases hg : sliceD d1 lo hi with
  | none => rw [hg] at h3; exact h3.elim
  | some f =>
    rw [hg] at h3
    exact ⟨Z, q3, d1, f, e6, S3, l3.rep (l2.rep r1), hg, fun v H' sm rv => Fin.more h3 S3 (e6 ▸ sm) rv⟩
end
end DP

set_option Elab.async false
set_option linter.all false
set_option maxRecDepth 100000
set_option maxHeartbeats 4000000
namespace DP
open PySem PySem.Spec PyProof.Rows L2

def rN (G : Wd) (g : List D → Option D) : List V → Hp → VK → Prop := fun vs H Q => ∃ (Z : Addr → Prop) (p : Pt) (ds : List D) (f : D), p.H = H ∧ SR G Z p ∧ RepLP G Z p ds vs ∧ g ds = some f ∧ ∀ v H', Same H H' → RepP G Z { p with H := H' } f v → Q v H'
abbrev CallD (X : Cx) (C : CT) (f : Value) (g : List D → Option D) : Prop := CallR X f (rN (wd X.K C) g)
def appM (g : List D → Option D) (f : DM (List D)) : DM D := bnd f fun ds => lift (g ds)
def appC (g : List D → Option Cell) (f : DM (List D)) : DM Cell := bnd f fun ds => lift (g ds)
section
variable {X : Cx} {C : CT} {W : WX}
theorem CallR.imp {f : Value} {r r' : List V → Hp → VK → Prop} (h : CallR X f r) (k : ∀ vs H Q, r' vs H Q → r vs H Q) : CallR X f r' := fun pins s σ H vs us Q I r q => h pins s σ H vs us Q I r (k vs H Q q)
theorem CallR.or {f : Value} {r r' : List V → Hp → VK → Prop} (h : CallR X f r) (h' : CallR X f r') : CallR X f (fun vs H Q => r vs H Q ∨ r' vs H Q) := fun pins s σ H vs us Q I r q => by
  rcases q with q | q
  · exact h pins s σ H vs us Q I r q
  · exact h' pins s σ H vs us Q I r q
theorem tCB_of {g : List D → Option D} {f : DM (List D)} {σ : L2.St} {H : Hp} {Q : VK} (h : tD (wd X.K C) W (appM g f) σ H Q) : tCB (rN (wd X.K C) g) (tL (wd X.K C) W f) σ H Q := by
  obtain ⟨Z, p, rfl, rfl, S, h⟩ := h
  refine ⟨Z, p, rfl, rfl, S, (Fin.bnd h).mono fun x H1 ⟨q1, d1, e1, e2, S1, l1, r1, h1⟩ => ?_⟩
  unfold lift at h1
  cases hg : g d1 with
  | none => rw [hg] at h1; exact h1.elim
  | some f =>
    rw [hg] at h1
    exact ⟨Z, q1, d1, f, e2, S1, r1, hg, fun v H' sm rv => Fin.more h1 S1 (e2 ▸ sm) rv⟩
theorem de_callB {id : String} {g : List D → Option D} {x : Str} {p pos : Pos} {e : Expr} {es : List Expr} {f : DM (List D)} (hc : CallD X C (.builtin id) g) (hg : Gl X x) (hm : X.mg x = none) (hv : bootBuiltins x = some (.builtin id)) (ha : DA X C W (e :: es) f)
    (hn : x ≠ "__name__" := by decide) (hdb : (x == ("__debug__" : Str)) = false := by decide) (he : starEach (e :: es) X.env = (false, eval e X.env) :: starEach es X.env := by rfl) (hpl : (backTo pos (starEach es X.env)).any (·.1) = false := by rfl) : DE X C W (.Call (.Name x p) (e :: es) [] pos) (appM g f) :=
  ⟨peImp (pe_callB hc hg hm hv ha.pa hn hdb he hpl) fun _ _ _ h => tCB_of h⟩
section
variable {G : Wd} {rho : List Addr} {L : Addr → Prop} {H : Hp}
theorem repL_one {d : D} {vs : List V} (h : RepL G rho L H [d] vs) : ∃ v, vs = [v] ∧ Rep G rho L H d v := by
  cases h with
  | cons h1 h2 => cases h2; exact ⟨_, rfl, h1⟩
theorem rep_ints : ∀ {is : List Int}, RepL G rho L H (is.map D.int) (is.map V.int)
  | [] => .nil
  | i :: is => .cons (.int i) rep_ints
end

def maxI : List Int → Int
  | [] => 0
  | [x] => x
  | x :: xs => max x (maxI xs)
def minI : List Int → Int
  | [] => 0
  | [x] => x
  | x :: xs => min x (minI xs)
def absN : List D → Option D
  | [.int i] => some (.int (if i < 0 then -i else i))
  | _ => none
def intN : List D → Option D
  | [.int i] => some (.int i)
  | [.bl b] => some (.int (if b then 1 else 0))
  | [.str z] => if z.length ≤ 640 then (PySem.intText? z).map .int else none
  | _ => none
def tupleN : List D → Option D
  | [.lst xs] => some (.tup xs)
  | [.tup xs] => some (.tup xs)
  | _ => none
def keyD : Key → D
  | .inl i => .int i
  | .inr x => .str x
theorem keyD_rep {G : Wd} {rho : List Addr} {L : Addr → Prop} {H : Hp} (k : Key) : Rep G rho L H (keyD k) (kV k) := by
  cases k
  · exact .int _
  · exact .str _
def itemsOf : D → Option (List D)
  | .dk ks _ => some (ks.map keyD)
  | .lst xs => some xs
  | .tup xs => some xs
  | .str z => some (z.cps.toList.map fun c => .str ⟨#[c]⟩)
  | _ => none
def iterM (f : DM D) : DM (List D) := bnd f fun d => lift (itemsOf d)
theorem items_at {G : Wd} {Z : Addr → Prop} {p : Pt} {ds : List D} {vs : List V} {Gd : Hp → Prop} {J : It} (r : RepLP G Z p ds vs) (wk : Walk J vs.length Gd (YAt vs)) (hG : ∀ q, LeZ Z p q → Gd q.H) : Iters G Z J ds p := by
  refine ⟨Gd, YAt vs, by rw [RepL.length r]; exact wk, hG, fun Z' q i x H' hz S l hi y => ?_⟩
  obtain ⟨rfl, hx⟩ := y
  obtain ⟨d, hd, rd⟩ := RepL.get r hx
  exact ⟨d, hd, Same.refl _, Rep.car (l.carZ hz) rd⟩
theorem zipLen0 {α β : Type} {ks : List α} {vs : List β} (h : ks.length = vs.length) : (ks.zip vs).length = ks.length := by simp [h]
theorem di_iter {tg e : Expr} {f : DM D} (he : DE X C W e f) (hs : ∀ {t : TE}, PE X e t → PI X tg e (fun σ H R => t σ H fun x H1 => ∃ z, x = .str z ∧ R (Its z) H1)) : DI X C W tg e (iterM f) := by
  refine ⟨piImp (piOr (pi_list he.pe) (piOr (pi_tup he.pe) (piOr (hs he.pe) (pi_keys he.pe)))) fun σ H R h => ?_⟩
  obtain ⟨Z, p, rfl, rfl, S, h⟩ := h
  unfold iterM bnd lift at h
  cases ef : f p.st with
  | err x st =>
    rw [ef] at h
    exact .inl ⟨Z, p, rfl, rfl, S, by rw [ef]; exact h⟩
  | stuck => rw [ef] at h; exact h.elim
  | ok d st =>
    rw [ef] at h
    cases ei : itemsOf d with
    | none => simp only [ei] at h; exact h.elim
    | some ds =>
      simp only [ei] at h
      unfold itemsOf at ei
      split at ei
      · cases ei
        rename_i ks ds0
        refine .inr (.inr (.inr ⟨Z, p, rfl, rfl, S, ?_⟩))
        rw [ef]
        intro rho H1 v S1 l1 r1
        cases r1 with
        | @dk a _ vs _ o h1 hn hz a1 =>
          refine ⟨_, _, rfl, .inl ⟨_, h1, h rho H1 _ S1 l1 ⟨_, _, (show Walk (Itk a o (ks.zip vs)) (ks.map keyD).length _ _ by
            rw [List.length_map, ← zipLen0 hz]; exact walk_keys), fun q l => (l.keep _ _ h1 (fun m => hn (.inl m)) fun m => hn (.inr m)).1, fun Z' q i x H' hz' S2 l2 hi y => ?_⟩⟩⟩
          obtain ⟨rfl, k, w, hk, rfl⟩ := y
          refine ⟨keyD k, ?_, Same.refl _, keyD_rep k⟩
          rw [List.getElem?_map, (List.getElem?_zip_eq_some.mp hk).1]
          rfl
      · cases ei
        refine .inl ⟨Z, p, rfl, rfl, S, ?_⟩
        rw [ef]
        intro rho H1 v S1 l1 r1
        cases r1 with
        | lst h1 a1 => exact ⟨_, rfl, ⟨_, h1.sq⟩, h rho H1 _ S1 l1 (items_at a1 walk_list fun q l => by
            have hh := Rep.car l.car (Rep.lst h1 a1)
            cases hh with
            | lst h2 a2 =>
              rcases h1 with h1 | h1
              · refine .inl ?_
                rcases h1.1 with z | ⟨o, z⟩
                · exact .inl (l.keep _ _ z (fun m => h1.2 (.inl m)) fun m => h1.2 (.inr m)).1
                · exact .inr ⟨o, (l.keep _ _ z (fun m => h1.2 (.inl m)) fun m => h1.2 (.inr m)).1⟩
              · exact .inr h1)⟩
      · cases ei
        refine .inr (.inl ⟨Z, p, rfl, rfl, S, ?_⟩)
        rw [ef]
        intro rho H1 v S1 l1 r1
        cases r1 with
        | tup h1 a1 => exact ⟨_, rfl, ⟨_, h1.sq⟩, h rho H1 _ S1 l1 (items_at a1 walk_tup fun q l => by
            rcases h1 with z | z
            · exact .inl (l.tup _ _ z).rd
            · exact (show TupP X.K q.H _ _ from .inr z).sq)⟩
      · cases ei
        refine .inr (.inr (.inl ⟨Z, p, rfl, rfl, S, ?_⟩))
        rw [ef]
        intro rho H1 v S1 l1 r1
        cases r1
        rename_i z
        refine ⟨z, rfl, h rho H1 _ S1 l1 ⟨fun _ => True, _, (show Walk (Its z) (z.cps.toList.map fun c => D.str ⟨#[c]⟩).length (fun _ => True) (fun i H v H' => H' = H ∧ ∃ c, z.cps[i]? = some c ∧ v = .str ⟨#[c]⟩) by
          rw [List.length_map, Array.length_toList]; exact walk_str), fun _ _ => trivial, fun Z' q i x H' hz S2 l2 hi y => ?_⟩⟩
        obtain ⟨rfl, c, hc, rfl⟩ := y
        refine ⟨.str ⟨#[c]⟩, ?_, Same.refl _, .str _⟩
        rw [List.getElem?_map, Array.getElem?_toList, hc]
        rfl
      · cases ei
def rangeL (lo : Int) (n : Nat) : List D := (List.range n).map fun i => .int (lo + (i : Nat))
theorem range_iters {G : Wd} {Z : Addr → Prop} {p : Pt} {lo : Int} {n : Nat} : Iters G Z (Itr lo n) (rangeL lo n) p := by
  refine ⟨fun _ => True, YFn fun i => .int (lo + i), by unfold rangeL; rw [List.length_map, List.length_range]; exact walk_range, fun _ _ => trivial, fun Z' q i x H' hz S l hi y => ?_⟩
  obtain ⟨rfl, rfl⟩ := y
  refine ⟨.int (lo + (i : Nat)), ?_, Same.refl _, .int _⟩
  unfold rangeL at hi ⊢
  rw [List.length_map, List.length_range] at hi
  rw [List.getElem?_map, List.getElem?_range hi]
  rfl
def rangeOf : List D → Option (List D)
  | [.int j] => if j.natAbs < 4611686018427387904 then some (rangeL 0 j.toNat) else none
  | [.int i, .int j] => if i.natAbs < 4611686018427387904 ∧ j.natAbs < 4611686018427387904 then some (rangeL i (j - i).toNat) else none
  | _ => none
def rangeM (f : DM (List D)) : DM (List D) := bnd f fun ds => lift (rangeOf ds)
theorem di_range1 {tg a : Expr} {p pos : Pos} {f : DM (List D)} (hg : Gl X "range") (hm : X.mg "range" = none) (ha : DA X C W [a] f) (hl : ∀ s ds s', f s = .ok ds s' → ds.length = 1) (hs : starEach [a] X.env = [(false, eval a X.env)] := by rfl) : DI X C W tg (.Call (.Name "range" p) [a] [] pos) (rangeM f) := by
  refine ⟨piImp (pi_range1 hg hm ha.pa hs) fun σ H R h => ?_⟩
  obtain ⟨Z, p, rfl, rfl, S, h⟩ := h
  refine ⟨Z, p, rfl, rfl, S, ?_⟩
  unfold rangeM bnd lift at h
  cases ef : f p.st with
  | err x st => rw [ef] at h; exact h
  | stuck => rw [ef] at h; exact h
  | ok ds st =>
    rw [ef] at h
    have hl1 := hl _ _ _ ef
    intro rho H1 vs S1 l1 r1
    unfold rangeOf at h
    match ds, hl1, h, r1 with
    | [d], _, h, r1 =>
      obtain ⟨v, rfl, r2⟩ := repL_one r1
      cases d with
      | int j =>
        cases r2
        dsimp only at h
        by_cases hc : j.natAbs < 4611686018427387904
        · rw [if_pos hc] at h
          exact ⟨j, rfl, by omega, by omega, h rho H1 _ S1 l1 range_iters⟩
        · rw [if_neg hc] at h; exact h.elim
      | _ => exact h.elim
end
end DP

set_option Elab.async false
set_option linter.all false
set_option maxRecDepth 100000
set_option maxHeartbeats 4000000
namespace DP
open PySem PySem.Spec PyProof.Rows L2

inductive Plc where
  | sl (i : Nat) | d (x : D)
def relP (G : Wd) (Z : Addr → Prop) : Pt → Plc → V → Prop
  | p, .sl i, v => p.sg[i]? = some (some v)
  | p, .d x, v => RepP G Z p x v
def deref (hp : List Cell) : D → Option D
  | .ref n => (hp[n]?).map Cell.frz
  | d => some d
def readP : Plc → DSt → Option D
  | .sl i, s => match s.sl[i]? with
    | some (.own c) => some c.frz
    | some (.val d) => deref s.hp d
    | _ => none
  | .d x, s => deref s.hp x
def cellP : Plc → DSt → Option Cell
  | .sl i, s => match s.sl[i]? with
    | some (.own c) => some c
    | some (.val (.ref n)) => s.hp[n]?
    | _ => none
  | .d (.ref n), s => s.hp[n]?
  | _, _ => none
def putP : Plc → Cell → DSt → DSt
  | .sl i, c, s => match s.sl[i]? with
    | some (.own _) => ⟨s.sl.set i (.own c), s.hp⟩
    | some (.val (.ref n)) => ⟨s.sl, s.hp.set n c⟩
    | _ => s
  | .d (.ref n), c, s => ⟨s.sl, s.hp.set n c⟩
  | _, _, s => s
inductive Look (G : Wd) (rho : List Addr) (L : Addr → Prop) (H : Hp) : D → V → Prop where
  | of {d : D} {v : V} : Rep G rho L H d v → Look G rho L H d v
  | lst {a : Addr} {vs : List V} {ds : List D} : H a = some (.lst vs) → RepL G rho L H ds vs → Look G rho L H (.lst ds) (.ref a)
  | dk {a : Addr} {ks : List Key} {vs : List V} {ds : List D} : H a = some (.dK (ks.zip vs)) → ks.length = vs.length → RepL G rho L H ds vs → Look G rho L H (.dk ks ds) (.ref a)
  | dt {a : Addr} {ks : List (List Key)} {vs : List V} {ds : List D} : H a = some (.dT (ks.zip vs)) → ks.length = vs.length → RepL G rho L H ds vs → Look G rho L H (.dt ks ds) (.ref a)
  | ins {a dx : Addr} {c : Nat} {vs : List V} {ds : List D} : H a = some (.ins (G.ca c) dx ((G.cf c).zip vs)) → RepL G rho L H ds vs → Look G rho L H (.ins c ds) (.ref a)
section
variable {G : Wd} {rho : List Addr} {L : Addr → Prop} {H : Hp}
theorem CellAt.look {a : Addr} {c : Cell} (h : CellAt G rho L H a c) : Look G rho L H c.frz (.ref a) := by
  cases c with
  | lst ds => obtain ⟨vs, e, r⟩ := h; exact .lst e r
  | dk ks ds => obtain ⟨vs, e, z, r⟩ := h; exact .dk e z r
  | dt ks ds => obtain ⟨vs, e, z, r⟩ := h; exact .dt e z r
  | ins k ds => obtain ⟨dx, vs, e, r⟩ := h; exact .ins e r
  | tab _ => exact h.elim
theorem Look.lst' {ds : List D} {v : V} (h : Look G rho L H (.lst ds) v) : ∃ a vs, v = .ref a ∧ SqL G.K H a vs ∧ RepL G rho L H ds vs := by
  cases h with
  | of h => cases h with
    | lst h1 a1 => exact ⟨_, _, rfl, h1.sq, a1⟩
  | lst e r => exact ⟨_, _, rfl, .inl (.inl e), r⟩
theorem Look.tup' {ds : List D} {v : V} (h : Look G rho L H (.tup ds) v) : ∃ a vs, v = .ref a ∧ SqT G.K H a vs ∧ RepL G rho L H ds vs := by
  cases h with
  | of h => cases h with
    | tup h1 a1 => exact ⟨_, _, rfl, h1.sq, a1⟩
theorem Look.str' {x : Str} {v : V} (h : Look G rho L H (.str x) v) : v = .str x := by
  cases h with
  | of h => cases h; rfl
theorem Look.dk' {ks : List Key} {ds : List D} {v : V} (h : Look G rho L H (.dk ks ds) v) : ∃ a vs, v = .ref a ∧ Rd H a (.dK (ks.zip vs)) ∧ ks.length = vs.length ∧ RepL G rho L H ds vs := by
  cases h with
  | of h => cases h with
    | dk h1 hn hz a1 => exact ⟨_, _, rfl, .inr ⟨_, h1⟩, hz, a1⟩
  | dk e z r => exact ⟨_, _, rfl, .inl e, z, r⟩
theorem Look.dt' {ks : List (List Key)} {ds : List D} {v : V} (h : Look G rho L H (.dt ks ds) v) : ∃ a vs, v = .ref a ∧ Rd H a (.dT (ks.zip vs)) ∧ ks.length = vs.length ∧ RepL G rho L H ds vs := by
  cases h with
  | of h => cases h with
    | dt h1 hn hz a1 => exact ⟨_, _, rfl, .inr ⟨_, h1⟩, hz, a1⟩
  | dt e z r => exact ⟨_, _, rfl, .inl e, z, r⟩
end
abbrev LookP (G : Wd) (Z : Addr → Prop) (p : Pt) := Look G p.rho (p.L Z) p.H
section
variable {G : Wd} {Z : Addr → Prop} {p q : Pt}
theorem relP.later {P : Plc} {v : V} (h : relP G Z p P v) (l : Le p q) (e : q.sg = p.sg) : relP G Z q P v := by
  cases P with
  | sl i => exact (congrArg (·[i]?) e).trans h
  | d x => exact l.rep h
theorem SR.deref (S : SR G Z p) {x d : D} {v : V} (r : RepP G Z p x v) (h : DP.deref p.st.hp x = some d) : LookP G Z p d v := by
  unfold DP.deref at h
  split at h
  · rename_i n
    cases r with
    | ref hr hnt =>
      cases e : p.st.hp[n]? with
      | none => rw [e] at h; cases h
      | some c =>
        rw [e] at h
        cases h
        obtain ⟨a, h1, h2, _⟩ := S.cell n c e hr hnt
        rw [hr] at h1
        cases h1
        exact h2.look
  · cases h
    exact .of r
theorem SR.read (S : SR G Z p) {P : Plc} {d : D} {v : V} (r : relP G Z p P v) (h : readP P p.st = some d) : LookP G Z p d v := by
  cases P with
  | sl i =>
    have r' : p.sg[i]? = some (some v) := r
    simp only [readP] at h
    cases e : p.st.sl[i]? with
    | none => rw [e] at h; cases h
    | some x =>
      rw [e] at h
      cases x with
      | un => cases h
      | val x =>
        obtain ⟨w, hw, rw'⟩ := S.val i x e
        rw [r'] at hw
        cases hw
        exact S.deref rw' h
      | own c =>
        cases h
        obtain ⟨a, h1, h2, _⟩ := S.own i c e
        rw [r'] at h1
        cases h1
        exact h2.look
  | d x => exact S.deref r h
theorem SR.place (S : SR G Z p) {P : Plc} {c : Cell} {v : V} (r : relP G Z p P v) (h : cellP P p.st = some c) : ∃ a, v = .ref a ∧ CellP G Z p a c ∧
    ∀ o c', CellO G Z p o c' → SR G Z ⟨p.rho, putP P c' p.st, p.sg, upd p.H a o⟩ ∧ Le p ⟨p.rho, putP P c' p.st, p.sg, upd p.H a o⟩ := by
  have ref : ∀ n, p.st.hp[n]? = some c → RepP G Z p (.ref n) v → ∃ a, v = .ref a ∧ CellP G Z p a c ∧ ∀ o c', CellO G Z p o c' → SR G Z ⟨p.rho, ⟨p.st.sl, p.st.hp.set n c'⟩, p.sg, upd p.H a o⟩ ∧ Le p ⟨p.rho, ⟨p.st.sl, p.st.hp.set n c'⟩, p.sg, upd p.H a o⟩ := fun n hn rr => by
    cases rr with
    | ref hr hnt =>
      obtain ⟨a, h1, h2, _⟩ := S.cell n c hn hr hnt
      rw [hr] at h1
      cases h1
      exact ⟨_, rfl, h2, fun o c' hc => S.writeCell hr hc⟩
  cases P with
  | sl i =>
    have r' : p.sg[i]? = some (some v) := r
    simp only [cellP] at h
    cases e : p.st.sl[i]? with
    | none => rw [e] at h; cases h
    | some x =>
      rw [e] at h
      simp only [putP, e]
      cases x with
      | un => cases h
      | val x =>
        cases x with
        | ref n =>
          obtain ⟨w, hw, rw'⟩ := S.val i _ e
          rw [r'] at hw
          cases hw
          exact ref n h rw'
        | _ => cases h
      | own c0 =>
        cases h
        obtain ⟨a, h1, h2, _⟩ := S.own i c e
        rw [r'] at h1
        cases h1
        exact ⟨a, rfl, h2, fun o c' hc => S.writeOwn e r' hc⟩
  | d x =>
    cases x with
    | ref n => exact ref n h r
    | _ => cases h
end

abbrev tP (G : Wd) (W : WX) (f : DM Plc) : TE := tG G W (relP G) f
structure DL (X : Cx) (C : CT) (W : WX) (e : Expr) (f : DM Plc) : Prop where
  pe : PE X e (tP (wd X.K C) W f)
def slM (i : Nat) : DM Plc := fun s => match s.sl[i]? with
  | some (.val _) => .ok (.sl i) s
  | some (.own _) => .ok (.sl i) s
  | _ => .stuck
def datM (f : DM D) : DM Plc := bnd f fun x => ret (.d x)
section
variable {X : Cx} {C : CT} {W : WX}
theorem dl_var (i : Nat) {x : Str} {pos : Pos} (hN : X.N[i]? = some x) (hv : Vis X.env.scope x) (hd : (x == ("__debug__" : Str)) = false := by decide) (hcd : (x == ("__classdict__" : Str)) = false := by decide) : DL X C W (.Name x pos) (slM i) := by
  refine ⟨peImp (pe_var hN hv hd hcd) fun σ H Q h => ?_⟩
  obtain ⟨Z, p, rfl, rfl, S, h⟩ := h
  unfold slM at h
  cases e : p.st.sl[i]? with
  | none => rw [e] at h; exact h.elim
  | some x =>
    rw [e] at h
    cases x with
    | un => exact h.elim
    | val d =>
      obtain ⟨v, hv, r⟩ := S.val i d e
      exact ⟨v, hv, Fin.ok h S hv⟩
    | own c =>
      obtain ⟨a, hs, _⟩ := S.own i c e
      exact ⟨.ref a, hs, Fin.ok h S hs⟩
def rLk (G : Wd) (g : D → D → Option D) : R2 := fun x y H Q => ∃ (Z : Addr → Prop) (p : Pt) (d e f : D), p.H = H ∧ SR G Z p ∧ LookP G Z p d x ∧ RepP G Z p e y ∧ g d e = some f ∧ ∀ v H', Same H H' → RepP G Z { p with H := H' } f v → Q v H'
def lookM (g : D → D → Option D) (fP : DM Plc) (fb : DM D) : DM D := bnd fP fun P => bnd fb fun y s => match (readP P s).bind fun d => g d y with
  | some f => .ok f s
  | none => .stuck
def lookM2 (g : D → D → Option D) (fa : DM D) (fP : DM Plc) : DM D := bnd fa fun x => bnd fP fun P s => match (readP P s).bind fun d => g x d with
  | some f => .ok f s
  | none => .stuck
theorem tOpL_of {g : D → D → Option D} {fP : DM Plc} {fb : DM D} {σ : L2.St} {H : Hp} {Q : VK} (h : tD (wd X.K C) W (lookM g fP fb) σ H Q) : tOp (rLk (wd X.K C) g) (tP (wd X.K C) W fP) (tD (wd X.K C) W fb) σ H Q := by
  obtain ⟨Z, p, rfl, rfl, S, h⟩ := h
  refine ⟨Z, p, rfl, rfl, S, (Fin.bnd h).mono fun x H1 ⟨q1, P, e1, e2, S1, l1, r1, h1⟩ => ?_⟩
  refine ⟨Z, q1, e1, e2, S1, (Fin.bnd h1).mono fun y H2 ⟨q2, d2, e3, e4, S2, l2, r2, h2⟩ => ?_⟩
  cases hr : readP P q2.st with
  | none => rw [hr] at h2; exact h2.elim
  | some d =>
    rw [hr] at h2
    simp only [Option.bind] at h2
    cases hg : g d d2 with
    | none => rw [hg] at h2; exact h2.elim
    | some f =>
      rw [hg] at h2
      exact ⟨Z, q2, d, d2, f, e4, S2, S2.read (r1.later l2 e3) hr, r2, hg, fun v H' sm rv => Fin.more h2 S2 (e4 ▸ sm) rv⟩
theorem ix_look (hu : X.A.units + 1 < cLine) : IxR X (rLk (wd X.K C) ixD) := by
  refine IxR.imp (IxR.or (ix_seq (X := X)) (IxR.or (ix_dk hu) (ix_dt hu))) fun x y H Q ⟨Z, p, d, e, f, e1, S, r1, r2, hg, q⟩ => ?_
  subst e1
  unfold ixD at hg
  split at hg
  · cases r2
    obtain ⟨a, vs, rfl, h1, a1⟩ := r1.lst'
    obtain ⟨v, hv, rv⟩ := atI_rep a1 hg
    exact .inl (.inl ⟨_, _, _, v, rfl, rfl, h1, hv, q _ _ (Same.refl _) rv⟩)
  · cases r2
    obtain ⟨a, vs, rfl, h1, a1⟩ := r1.tup'
    obtain ⟨v, hv, rv⟩ := atI_rep a1 hg
    exact .inl (.inr (.inl ⟨_, _, _, v, rfl, rfl, h1, hv, q _ _ (Same.refl _) rv⟩))
  · rename_i z i
    cases r2
    obtain rfl := r1.str'
    cases hc : atI z.cps.toList i with
    | none => rw [hc] at hg; cases hg
    | some c =>
      rw [hc] at hg
      simp only [Option.bind] at hg
      split at hg
      · rename_i hz
        cases hg
        exact .inl (.inr (.inr ⟨z, i, c, rfl, rfl, hz, hc, q _ _ (Same.refl _) (.str _)⟩))
      · cases hg
  · rename_i ks vs
    cases hk : D.key e with
    | none => rw [hk] at hg; cases hg
    | some k =>
      rw [hk] at hg
      simp only [Option.bind] at hg
      obtain ⟨a, vs, rfl, h1, hz, a1⟩ := r1.dk'
      obtain ⟨v, hv, rv⟩ := (val_rep a1 hz hg).2 f rfl
      exact .inr (.inl ⟨_, v, rfl, .inl ⟨_, k, h1, key_rep r2 hk, hv.symm⟩, q _ _ (Same.refl _) rv⟩)
  · rename_i ks vs ys
    cases hk : keysOf ys with
    | none => rw [hk] at hg; cases hg
    | some k =>
      rw [hk] at hg
      simp only [Option.bind] at hg
      obtain ⟨a, vs, rfl, h1, hz, a1⟩ := r1.dt'
      obtain ⟨v, hv, rv⟩ := (val_rep a1 hz hg).2 f rfl
      cases r2 with
      | tup h2 a2 =>
        have h2 := h2.sq
        rw [keys_rep a2 hk] at h2
        exact .inr (.inr ⟨_, _, _, k, v, rfl, rfl, h1, h2, hv, q _ _ (Same.refl _) rv⟩)
  · cases hg
theorem de_ixL {a b : Expr} {pos : Pos} {fP : DM Plc} {fb : DM D} (hu : X.A.units + 1 < cLine) (ha : DL X C W a fP) (hb : DE X C W b fb) (hs : PlainIx b := by intro _ _; rfl) : DE X C W (.Subscript a b pos) (lookM ixD fP fb) :=
  ⟨peImp (pe_ix (ix_look hu) ha.pe hb.pe hs) fun _ _ _ h => tOpL_of h⟩
end
end DP

set_option Elab.async false
set_option linter.all false
set_option maxRecDepth 100000
set_option maxHeartbeats 4000000
namespace DP
open PySem PySem.Spec PyProof.Rows L2

section
variable {X : Cx} {C : CT} {W : WX}
section
variable {G : Wd} {rho : List Addr} {L : Addr → Prop} {H : Hp}
end
end

def look1M (g : D → Option D) (fP : DM Plc) : DM D := bnd fP fun P s => match (readP P s).bind g with
  | some f => .ok f s
  | none => .stuck
section
variable {X : Cx} {C : CT} {W : WX}
def lenD : D → Option D
  | .lst xs => some (.int xs.length)
  | .tup xs => some (.int xs.length)
  | .str z => if z.length ≤ sizeLine then some (.int z.length) else none
  | .dk ks _ => some (.int ks.length)
  | .dt ks _ => some (.int ks.length)
  | _ => none
end

theorem _root_.L2.MtR.imp' {X : Cx} {id : String} {r r' : V → List V → Hp → VK → Prop} (h : MtR X id r) (k : ∀ x xs H Q, r' x xs H Q → r x xs H Q) : MtR X id r' := fun pins s σ H x xs v us Q I rx rs q => h pins s σ H x xs v us Q I rx rs (k x xs H Q q)
def putKD (ks : List Key) (vs : List D) (k : Key) (d : D) : Cell :=
  if (ks.any fun j => decide (j = k)) = true then .dk ks ((ks.zip vs).map fun kv => if kv.1 = k then d else kv.2) else .dk (ks ++ [k]) (vs ++ [d])
def storeC : Cell → D → D → Option Cell
  | .lst xs, .int k, d => (ixN xs.length k).map fun j => .lst (xs.set j d)
  | .dk ks vs, y, d => y.key.bind fun k => if ks.length < sizeLine then some (putKD ks vs k d) else none
  | _, _, _ => none
section
variable {G : Wd} {Z : Addr → Prop} {p : Pt}
end
def storeP (P : Plc) (y d : D) (s : DSt) : Option DSt := (cellP P s).bind fun c => (storeC c y d).map fun c' => putP P c' s
def ixG (fP : DM Plc) (fi : DM D) : DG := fun d s => match fP s with
  | .ok P s1 => (match fi s1 with
    | .ok y s2 => storeP P y d s2
    | _ => none)
  | _ => none
section
variable {X : Cx} {C : CT} {W : WX}
def MtW (X : Cx) (C : CT) (id : String) (g : Cell → List D → Option (D × Cell)) : Prop :=
  MtR X id fun x xs H Q => ∃ (Z : Addr → Prop) (p : Pt) (P : Plc) (c : Cell) (ds : List D) (f : D) (c' : Cell), p.H = H ∧ SR (wd X.K C) Z p ∧ relP (wd X.K C) Z p P x ∧ cellP P p.st = some c ∧ RepLP (wd X.K C) Z p ds xs ∧ g c ds = some (f, c') ∧
    ∀ v H', SR (wd X.K C) Z ⟨p.rho, putP P c' p.st, p.sg, H'⟩ → Le p ⟨p.rho, putP P c' p.st, p.sg, H'⟩ → RepP (wd X.K C) Z ⟨p.rho, putP P c' p.st, p.sg, H'⟩ f v → Q v H'
end
end DP

set_option Elab.async false
set_option linter.all false
set_option maxRecDepth 100000
set_option maxHeartbeats 4000000
namespace DP
open PySem PySem.Spec PyProof.Rows L2

structure ESrc (P : Program) (w : World) (K : PySem.W.Frag) (it : Addr) (Gd : Hp → Prop) (xs : List V) (St : Nat → Heap → Prop) : Prop where
  obj : ∀ i h, St i h → ∃ o, h.get? it = some o ∧ ∀ v, o.data ≠ .cell v
  keep : ∀ i h h', St i h → (∀ o, h.get? it = some o → h'.get? it = some o) → St i h'
  draws : ∀ (X : Cx), X.prog = P → X.w = w → X.K = K → X.calm = true → ∀ (pins : List (Addr × Obj)) (s : Shared) (σ : L2.St) (H : Hp) (i : Nat), Inv X pins σ H s → Gd H → St i s.heap →
    ∃ (fp : List Addr) (Pv : Nat → Value → Prop) (St' : Nat → Heap → Prop), Draws P w X.A.in1 it fp xs.length Pv St' ∧ (∀ i v, Pv i v → ∃ x, xs[i]? = some x ∧ RelV x v) ∧
      (∀ b ∈ fp, b = it ∨ ∃ o, s.heap.get? b = some o ∧ o.cls ≠ .type "enumerate") ∧ St' i s.heap ∧ ∀ i h, St' i h → St i h
def enumL (k : Nat) : List D → List D
  | [] => []
  | d :: ds => .tup [.int (k : Nat), d] :: enumL (k + 1) ds
section
variable {X : Cx} {C : CT} {W : WX} {G : Wd}
def itemsE : D → Option (List D)
  | .lst xs => some xs
  | .tup xs => some xs
  | .str z => some (z.cps.toList.map fun c => .str ⟨#[c]⟩)
  | _ => none
def enumOf : List D → Option (List D)
  | [d] => (itemsE d).map (enumL 0)
  | _ => none
def enumM (f : DM (List D)) : DM (List D) := bnd f fun ds => lift (enumOf ds)
end
end DP

set_option Elab.async false
set_option linter.all false
set_option maxRecDepth 100000
set_option maxHeartbeats 4000000
namespace DP
open PySem PySem.Spec PyProof.Rows L2

abbrev WF : WX := fun _ _ _ _ => False
def MtX (X : Cx) (C : CT) (id : String) (act : Plc → List D → DM D) : Prop :=
  MtR X id fun x xs H Q => ∃ (Z : Addr → Prop) (p : Pt) (P : Plc) (ds : List D), p.H = H ∧ SR (wd X.K C) Z p ∧ relP (wd X.K C) Z p P x ∧ RepLP (wd X.K C) Z p ds xs ∧ Fin (wd X.K C) Z WF (relD (wd X.K C) Z) p (act P ds p.st) Q
def actW (g : Cell → List D → Option (D × Cell)) : Plc → List D → DM D := fun P ds s => match (cellP P s).bind fun c => g c ds with
  | some (f, c') => .ok f (putP P c' s)
  | none => .stuck
def actR (g : D → List D → Option D) : Plc → List D → DM D := fun P ds s => match (readP P s).bind fun c => g c ds with
  | some f => .ok f s
  | none => .stuck
def MtD (X : Cx) (C : CT) (id : String) (g : D → List D → Option D) : Prop :=
  MtR X id fun x xs H Q => ∃ (Z : Addr → Prop) (p : Pt) (d : D) (ds : List D) (f : D), p.H = H ∧ SR (wd X.K C) Z p ∧ LookP (wd X.K C) Z p d x ∧ RepLP (wd X.K C) Z p ds xs ∧ g d ds = some f ∧
    ∀ v H', Same H H' → RepP (wd X.K C) Z { p with H := H' } f v → Q v H'
section
variable {X : Cx} {C : CT} {W : WX}
theorem MtW.x {id : String} {g : Cell → List D → Option (D × Cell)} (h : MtW X C id g) : MtX X C id (actW g) := by
  refine MtR.imp' h fun x xs H Q ⟨Z, p, P, ds, e1, S, rP, r, q⟩ => ?_
  unfold actW at q
  cases hc : cellP P p.st with
  | none => rw [hc] at q; exact q.elim
  | some c =>
    rw [hc] at q
    simp only [Option.bind] at q
    cases hg : g c ds with
    | none => rw [hg] at q; exact q.elim
    | some fc =>
      rw [hg] at q
      obtain ⟨f, c'⟩ := fc
      exact ⟨Z, p, P, c, ds, f, c', e1, S, rP, hc, r, hg, fun v H' S' l' rv => q p.rho H' v S' l' rv⟩
theorem MtD.x {id : String} {g : D → List D → Option D} (h : MtD X C id g) : MtX X C id (actR g) := by
  refine MtR.imp' h fun x xs H Q ⟨Z, p, P, ds, e1, S, rP, r, q⟩ => ?_
  unfold actR at q
  cases hc : readP P p.st with
  | none => rw [hc] at q; exact q.elim
  | some c =>
    rw [hc] at q
    simp only [Option.bind] at q
    cases hg : g c ds with
    | none => rw [hg] at q; exact q.elim
    | some f =>
      rw [hg] at q
      exact ⟨Z, p, c, ds, f, e1, S, S.read rP hc, r, hg, fun v H' sm rv => Fin.more q S (e1 ▸ sm) rv⟩
def isTy (T : String) : D → Bool
  | .str _ => T == "str"
  | .lst _ => T == "list"
  | _ => false
def methM (T : String) (act : Plc → List D → DM D) (fP : DM Plc) (fs : DM (List D)) : DM D := bnd fP fun P s => if (readP P s).any (isTy T) = true then bnd fs (fun ds => act P ds) s else .stuck
def newM (f : DM Cell) : DM D := fun s => match f s with
  | .ok c s' => .ok (.ref s'.hp.length) ⟨s'.sl, s'.hp ++ [c]⟩
  | .err x s' => .err x s'
  | .stuck => .stuck
theorem FE.new {e : Expr} {f : DM Cell} (h : FE X C W e f) : DE X C W e (newM f) := by
  refine ⟨peImp h.pe fun σ H Q h => ?_⟩
  obtain ⟨Z, p, rfl, rfl, S, h⟩ := h
  refine ⟨Z, p, rfl, rfl, S, ?_⟩
  unfold newM at h
  cases ef : f p.st with
  | ok c st =>
    rw [ef] at h
    intro rho H0 a o S0 l0 ha hc
    obtain ⟨S1, l1⟩ := S0.newCell ha hc
    refine h _ _ _ S1 (l0.trans l1) (.ref ?_ fun z => S0.zin a (.inr z) ha)
    show (rho ++ [a])[st.hp.length]? = some a
    have := S0.hlen
    dsimp only at this
    rw [← this, List.getElem?_append_right (Nat.le_refl _)]
    simp
  | err x st => rw [ef] at h; exact h
  | stuck => rw [ef] at h; exact h

inductive TyD where
  | b (n : String) | own (c : Nat)
def tyD (hp : List Cell) : D → Option TyD
  | .non => some (.b "NoneType")
  | .bl _ => some (.b "bool")
  | .int _ => some (.b "int")
  | .str _ => some (.b "str")
  | .tup _ => some (.b "tuple")
  | .lst _ => some (.b "list")
  | .dk _ _ => some (.b "dict")
  | .dt _ _ => none
  | .dx _ _ => none
  | .exc _ _ => none
  | .ins c _ => some (.own c)
  | .ref n => match hp[n]? with
    | some (.lst _) => some (.b "list")
    | some (.dk _ _) => some (.b "dict")
    | some (.dt _ _) => some (.b "dict")
    | some (.ins c _) => some (.own c)
    | some (.tab _) => none
    | none => none
def tyVal (C : CT) : TyD → Value
  | .b n => .type n
  | .own c => .ref (C.ca c)
structure InsT (K : PySem.W.Frag) (A : Addr) : Prop where
  cl : Cls K A
  ha : PySem.W.findIn K (.ref A) "__class__" = some (some (.builtin "object.__class__"))
  hn : PySem.W.specialIn K (.builtin "object.__class__") "__get__" = some (some (.builtin "getset_descriptor.__get__"))
  htk : PySem.W.takesIn K (.builtin "object.__class__") = some true
  hm : PySem.W.mroIn K A (.type "object") = some true
def isM (g : TyD → Option Bool) (f : DM D) : DM D := bnd f fun d s => match (tyD s.hp d).bind g with
  | some b => .ok (.bl b) s
  | none => .stuck
structure IsF (X : Cx) (C : CT) (u : Value) (g : TyD → Option Bool) : Prop where
  kit : ∀ t b, g t = some b → PySem.W.kitOne X.K (tyVal C t) u = some b
  own : ∀ c b, g (.own c) = some b → InsT X.K (C.ca c)
end
def isT (a T : String) : Bool := a == T || (a == "bool" && T == "int")
def isB (T : String) (own : Nat → Option Bool) : TyD → Option Bool
  | .b n => if tyNames.contains n = true then some (isT n T) else none
  | .own c => own c
def isO (own : Nat → Option Bool) : TyD → Option Bool
  | .b n => if tyNames.contains n = true then some false else none
  | .own c => own c
end DP

set_option Elab.async false
set_option linter.all false
set_option maxRecDepth 100000
set_option maxHeartbeats 4000000
namespace DP
open PySem PySem.Spec PyProof.Rows L2

section
variable {X : Cx} {C : CT} {W : WX}
end
section
variable {X : Cx} {C : CT} {W : WX}
end
end DP

set_option Elab.async false
set_option linter.all false
set_option maxRecDepth 100000
set_option maxHeartbeats 4000000
namespace DP
open PySem PySem.Spec PyProof.Rows L2

def setFld {α : Type} (j : Nat) (y : α) (vs : List α) : Option (List α) := if j < vs.length then some (vs.set j y) else if j = vs.length then some (vs ++ [y]) else none
structure FldOf (X : Cx) (C : CT) (f : Str) (c j : Nat) : Prop where
  cl : Cls X.K (C.ca c)
  no : NoAttr X.K (C.ca c) f
  at_ : (C.cf c)[j]? = some f
  fst : f ∉ (C.cf c).take j
  few : (C.cf c).length < 1000
structure PropD (X : Cx) (C : CT) (f : Str) (c : Nat) (m : DF) : Prop where
  cl : Cls X.K (C.ca c)
  ex : ∃ (p g : Addr) (k : Nat) (fd : FuncData) (ps : List Str), PropOf X.K (C.ca c) f p g ∧ FnG X.prog X.w X.K X.mg X.base C k g fd ps m ∧ Room (k + 1) X.A ∧ Binds X.K fd ps [] ∧ ps.length = 1
inductive Acc where
  | fld (j : Nat) | prop (m : DF)
def insAt (hp : List Cell) : D → Option (Nat × List D)
  | .ref n => (match hp[n]? with
    | some (.ins c ds) => some (c, ds)
    | _ => none)
  | .ins c ds => some (c, ds)
  | _ => none
def getA (acc : Nat → Option Acc) (fo : DM D) : DM D := bnd fo fun x s => match insAt s.hp x with
  | some (c, ds) => (match acc c with
    | some (.fld j) => (match ds[j]? with
      | some d => .ok d s
      | none => .stuck)
    | some (.prop m) => (match m [x] s.hp with
      | .ok d hp => .ok d ⟨s.sl, hp⟩
      | _ => .stuck)
    | none => .stuck)
  | none => .stuck
section
variable {X : Cx} {C : CT} {W : WX}
def fldS (c j : Nat) (fo fv : DM D) : DS := bndS fv fun d => bndS fo fun x s => match x with
  | .ref n => (match s.hp[n]? with
    | some (.ins c' ds) => if c' = c then (match setFld j d ds with
      | some es => .nx ⟨s.sl, s.hp.set n (.ins c es)⟩
      | none => .stuck) else .stuck
    | _ => .stuck)
  | _ => .stuck
structure MethC (X : Cx) (C : CT) (m : Str) (c n : Nat) (mf : DF) : Prop where
  cl : Cls X.K (C.ca c)
  no : m ∉ C.cf c
  ex : ∃ (k : Nat) (g : Addr) (fd : FuncData) (ps : List Str), Meth X.K (C.ca c) m g ∧ FnG X.prog X.w X.K X.mg X.base C k g fd ps mf ∧ Room k X.A ∧ Binds X.K fd ps [] ∧ ps.length = n + 1
def objM (c : Nat) (m : DF) (fo : DM D) (fs : DM (List D)) : DM D := bnd fo fun x s => match insAt s.hp x with
  | some (c', _) => if c' = c then callM m (bnd fs fun ds => ret (x :: ds)) s else .stuck
  | none => .stuck
end
end DP

set_option Elab.async false
set_option linter.all false
set_option maxRecDepth 100000
set_option maxHeartbeats 4000000
namespace DP
open PySem PySem.Spec PyProof.Rows L2 ClX

structure StatC (X : Cx) (C : CT) (cn m : Str) (n : Nat) (mf : DF) : Prop where
  ex : ∃ (Ad p g : Addr) (mc : Value) (rest : List Value) (k : Nat) (fd : FuncData) (ps : List Str), X.mg cn = some (.ref Ad) ∧ CRead X.K Ad mc ∧ PySem.W.findCls X.K (.ref Ad) mc m = some (.get (.builtin "staticmethod.__get__") (.ref p) .none (.ref Ad)) ∧
    PySem.W.recIn X.K p "staticmethod" = some (.ref g :: rest) ∧ PySem.W.keepIn X.K (.ref g) = true ∧ FnG X.prog X.w X.K X.mg X.base C k g fd ps mf ∧ Room k X.A ∧ Binds X.K fd ps [] ∧ ps.length = n
section
variable {X : Cx} {C : CT} {W : WX}
structure MakeC (X : Cx) (C : CT) (cn : Str) (c n : Nat) (mf : DF) : Prop where
  ex : ∃ (f : Addr) (k : Nat) (fd : FuncData) (ps : List Str), X.mg cn = some (.ref (C.ca c)) ∧ Mk X.K (C.ca c) f ∧ FnG X.prog X.w X.K X.mg X.base C k f fd ps mf ∧ Room (k + 1) X.A ∧ Binds X.K fd ps [] ∧ ps.length = n + 1
mutual
def D.noRef : D → Bool
  | .non => true
  | .bl _ => true
  | .int _ => true
  | .str _ => true
  | .tup xs => noRefL xs
  | .lst xs => noRefL xs
  | .dk _ vs => noRefL vs
  | .dt _ vs => noRefL vs
  | .ins _ vs => noRefL vs
  | .dx _ _ => false
  | .exc _ _ => false
  | .ref _ => false
def noRefL : List D → Bool
  | [] => true
  | x :: xs => x.noRef && noRefL xs
end
structure CarN (L : Addr → Prop) (H : Hp) (L' : Addr → Prop) (H' : Hp) : Prop where
  rd : ∀ (a : Addr) (o : HO), ¬ L a → Rd H a o → Rd H' a o
  ins : ∀ (a C dx : Addr) (fs : List (Str × V)), ¬ L a → H a = some (.ins C dx fs) → H' a = some (.ins C dx fs)
  dead : ∀ (a : Addr), ¬ L a → H a ≠ none → ¬ L' a
  tup : ∀ (a : Addr) (vs : List V), TupH H a vs → TupH H' a vs
  frz : ∀ (a : Addr) (o : Obj) (u : HO), ¬ L a → H a = some (.frz o u) → H' a = some (.frz o u)
section
variable {G : Wd} {rho rho' : List Addr} {L L' : Addr → Prop} {H H' : Hp}
mutual
theorem Rep.carN (c : CarN L H L' H') : ∀ {d : D} {v : V}, d.noRef = true → Rep G rho L H d v → Rep G rho' L' H' d v
  | .non, _, _, h => by cases h; exact .non
  | .bl b, _, _, h => by cases h; exact .bl b
  | .int i, _, _, h => by cases h; exact .int i
  | .str x, _, _, h => by cases h; exact .str x
  | .tup ds, _, hn, h => by
    cases h with
    | tup ht ha =>
      refine .tup ?_ (RepL.carN c hn ha)
      rcases ht with ht | ht
      · exact .inl (c.tup _ _ ht)
      · exact .inr ht
  | .lst ds, _, hn, h => by
    cases h with
    | lst hl ha =>
      refine .lst ?_ (RepL.carN c hn ha)
      rcases hl with ⟨hl, hn⟩ | hl
      · exact .inl ⟨c.rd _ _ hn hl, c.dead _ hn (rdsome hl)⟩
      · exact .inr hl
  | .dk ks ds, _, hn, h => by
    cases h with
    | dk hl hm hz ha => exact .dk (c.frz _ _ _ hm hl) (c.dead _ hm (by rw [hl]; exact fun z => by cases z)) hz (RepL.carN c hn ha)
  | .dt ks ds, _, hn, h => by
    cases h with
    | dt hl hm hz ha => exact .dt (c.frz _ _ _ hm hl) (c.dead _ hm (by rw [hl]; exact fun z => by cases z)) hz (RepL.carN c hn ha)
  | .ins k ds, _, hn, h => by
    cases h with
    | ins hl hm ha => exact .ins (c.ins _ _ _ _ hm hl) (c.dead _ hm (by rw [hl]; exact fun z => by cases z)) (RepL.carN c hn ha)
  | .dx _ _, _, hn, h => by cases hn
  | .exc _ _, _, hn, h => by cases hn
  | .ref n, _, hn, h => by cases hn
theorem RepL.carN (c : CarN L H L' H') : ∀ {ds : List D} {vs : List V}, noRefL ds = true → RepL G rho L H ds vs → RepL G rho' L' H' ds vs
  | [], _, _, h => by cases h; exact .nil
  | d :: ds, _, hn, h => by
    cases h with
    | cons h1 h2 =>
      have hn' : d.noRef = true ∧ noRefL ds = true := by simpa [noRefL] using hn
      exact .cons (Rep.carN c hn'.1 h1) (RepL.carN c hn'.2 h2)
end
end
def fmtD : D → Option Str
  | .str y => if y.length ≤ sizeLine then some y else none
  | .int i => if i.natAbs.log2 < 1920 then some (toString i : String) else none
  | _ => none
def fmtM (f : DM D) : DM D := bnd f fun d => lift ((fmtD d).map .str)
inductive DJ (X : Cx) (C : CT) (W : WX) : List Expr → List (DM D) → Prop where
  | nil : DJ X C W [] []
  | cons {e : Expr} {f : DM D} {es : List Expr} {fs : List (DM D)} (h : DE X C W e f) (r : DJ X C W es fs) : DJ X C W (e :: es) (f :: fs)
theorem DJ.pj {es : List Expr} {fs : List (DM D)} (h : DJ X C W es fs) : PJ X es (fs.map (tD (wd X.K C) W)) := by
  induction h with
  | nil => exact .nil
  | cons h r ih => exact .cons h.pe ih
end
end DP

set_option Elab.async false
set_option linter.all false
set_option maxRecDepth 100000
set_option maxHeartbeats 4000000
namespace DP
open PySem PySem.Spec PyProof.Rows L2 He

section
variable {X : Cx} {C : CT} {W : WX}
def negD : D → Option D
  | .int i => some (.int (-i))
  | _ => none
def unM (g : D → Option D) (f : DM D) : DM D := bnd f fun d => lift (g d)
structure GInt (X : Cx) (x : Str) (i : Int) : Prop where
  ex : ∃ t, X.mg x = some (.int i t)
structure GStr (X : Cx) (x z : Str) : Prop where
  ex : ∃ t, X.mg x = some (.str z t)
structure GTup (X : Cx) (x : Str) (is : List Int) : Prop where
  at_ : X.mg x = some (.ref (ga X.K x))
  ok : tupB1 X.K x (is.map V.int) = true
theorem de_gint {x : Str} {i : Int} {pos : Pos} (g : GInt X x i) (hg : Gl X x) (hd : (x == ("__debug__" : Str)) = false := by decide) : DE X C W (.Name x pos) (ret (.int i)) := by
  obtain ⟨t, e⟩ := g.ex
  exact de_const (pe_glob (v := .int i) hg e ⟨t, rfl⟩ hd) fun _ _ _ => .int i
end
structure DefOk (P : Program) (w : World) (K : PySem.W.Frag) (mg : Str → Option Value) (base : Heap) (C : CT) (f : Addr) (k n : Nat) (m : DF) : Prop where
  ex : ∃ (fd : FuncData) (ps : List Str), FnG P w K mg base C k f fd ps m ∧ Binds K fd ps [] ∧ ps.length = n
  kp : PySem.W.keepIn K (.ref f) = true
section
variable {X : Cx} {C : CT} {W : WX}
theorem DefOk.fnx {x : Str} {k n : Nat} {m : DF} {f : Addr} (d : DefOk X.prog X.w X.K X.mg X.base C f k n m) (hr : Room k X.A) (hm : X.mg x = some (.ref f)) : Fnx X C x n m := by
  obtain ⟨fd, ps, F, b, l⟩ := d.ex
  exact ⟨k, f, fd, ps, F, hr, hm, d.kp, b, l⟩
theorem DefOk.prop {x : Str} {c k : Nat} {m : DF} {f p : Addr} (d : DefOk X.prog X.w X.K X.mg X.base C f k 1 m) (hr : Room (k + 1) X.A) (cl : Cls X.K (C.ca c)) (hp : PropOf X.K (C.ca c) x p f) : PropD X C x c m := by
  obtain ⟨fd, ps, F, b, l⟩ := d.ex
  exact ⟨cl, p, f, k, fd, ps, hp, F, hr, b, l⟩
theorem DefOk.make {x : Str} {c k n : Nat} {m : DF} {f : Addr} (d : DefOk X.prog X.w X.K X.mg X.base C f k (n + 1) m) (hr : Room (k + 1) X.A) (hm : X.mg x = some (.ref (C.ca c))) (mk : Mk X.K (C.ca c) f) : MakeC X C x c n m := by
  obtain ⟨fd, ps, F, b, l⟩ := d.ex
  exact ⟨f, k, fd, ps, hm, mk, F, hr, b, l⟩
end
theorem fg_ofF {P : Program} {w : World} {K : PySem.W.Frag} {mg : Str → Option Value} {base : Heap} {C : CT} {k : Nat} {x qual : Str} {params : Arguments} {body : List Stmt} {scope : Scope} {f : Addr} {fd : FuncData} {N ps : List Str} {b : DS} (F : FunD K x qual params body scope [] [] f fd) (S : FnScope N ps scope)
    (hbody : ∀ (cdv : Value) (A : Around) (outer : List Env) (s : Shared) (H : Hp) (E : XK), Room k (A.deeper (envOfC qual scope s.heap.objs.size f cdv)) → A.guards = some [] →
      STs (cxD P w K mg base N qual scope f cdv A outer s H E) C (wE E) body b) (hx : C.fx = none := by rfl) : FnG P w K mg base C (k + 1) f fd ps (defF N.length b) := by
  have kp := F.kp
  obtain ⟨oc, od, dV, kV, doc, pm, an, cdv, ct, osl, rfl, lk, hcd, hD, hK⟩ := F.ex
  let st : Stmt := .FunctionDef x params body [] none [] scope none x ⟨0, 0, 0, 0⟩
  rcases hD with ⟨_, rfl⟩ | ⟨e, _⟩
  · exact fn_ofD (x := x) (qual := qual) (st := st) (fd := PySem.W.fnOf x qual params body scope .none kV doc pm an cdv ct) ⟨⟨oc, od, kV, doc, pm, an, cdv, ct, osl, rfl, lk, hcd⟩, kp⟩ S hbody hx
  · exact absurd rfl e
end DP

set_option Elab.async false
set_option linter.all false
set_option maxRecDepth 100000
set_option maxHeartbeats 4000000
namespace DP
open PySem PySem.Spec PyProof.Rows L2 He

section
variable {ex : PySem.W.Frag → List Bool} {fn : List He5.DefA} {K : PySem.W.Frag}
theorem SaysP.fact (c : SaysP ex fn K) (i : Nat) {b : Bool} (h : (ex K)[i]? = some b := by rfl) : b = true := by
  have c1 := (ba (show ((ex K).all id && fn.all fun d => d.ok K) = true from congrArg (fun z : He.AlD => z.1) c)).1
  exact List.all_eq_true.mp c1 b (List.mem_of_getElem? h)
theorem SaysP.def_ (c : SaysP ex fn K) (i : Nat) {d : He5.DefA} (h : fn[i]? = some d := by rfl) : ∃ fd, FunD K d.name d.qual d.params d.body d.scope (d.dvs K) (d.kws K) (d.at_ K) fd := by
  have c2 := (ba (show ((ex K).all id && fn.all fun d => d.ok K) = true from congrArg (fun z : He.AlD => z.1) c)).2
  have e : fn.map (fun d => He5.fnA K (d.at_ K)) = fn.map He5.DefA.val := congrArg (fun z : He.AlD => z.2) c
  have e2 : (fn.map fun d => He5.fnA K (d.at_ K))[i]? = (fn.map He5.DefA.val)[i]? := by rw [e]
  rw [List.getElem?_map, List.getElem?_map, h] at e2
  exact He5.DefA.funD (Option.some.inj e2) (List.all_eq_true.mp c2 d (List.mem_of_getElem? h))
end
section
variable {K : PySem.W.Frag}
end
end DP

set_option Elab.async false
set_option linter.all false
set_option maxRecDepth 100000
set_option maxHeartbeats 4000000
namespace DP
open PySem PySem.Spec PyProof.Rows L2 He

def LenOk (f : DM (List D)) (n : Nat) : Prop := ∀ s ds s', f s = .ok ds s' → ds.length = n
theorem len0 : LenOk nilM 0 := fun s ds s' h => by cases h; rfl
theorem len1 {f : DM D} {g : DM (List D)} {n : Nat} (h : LenOk g n) : LenOk (consM f g) (n + 1) := fun s ds s' e => by
  unfold consM bnd at e
  cases e1 : f s with
  | ok a s1 =>
    rw [e1] at e
    dsimp only at e
    cases e2 : g s1 with
    | ok b s2 =>
      rw [e2] at e
      cases e
      simp [h _ _ _ e2]
    | err x s2 => rw [e2] at e; cases e
    | stuck => rw [e2] at e; cases e
  | err x s1 => rw [e1] at e; cases e
  | stuck => rw [e1] at e; cases e
theorem takesN {X : Cx} : Takes X (fun _ _ _ _ => False) := fun u s' ⟨_, _, _, _, _, _, _, _, _, _, _, _, _, _, _, _, w⟩ => w.elim
theorem u66 {k : Nat} {A : Around} (r : Room k A) : A.units + 66 < cLine := by have := r.un; omega
theorem u64 {k : Nat} {A : Around} (r : Room k A) : A.units + 64 < cLine := by have := r.un; omega
theorem u1 {k : Nat} {A : Around} (r : Room k A) : A.units + 1 < cLine := by have := r.un; omega
def acc1 (c0 : Nat) (a0 : Acc) : Nat → Option Acc := fun c => if c = c0 then some a0 else none
def own1 (c0 : Nat) (b : Bool) : Nat → Option Bool := fun c => if c = c0 then some b else none
section
variable {X : Cx} {C : CT} {W : WX}
theorem de_call0 {x : Str} {p pos : Pos} {m : DF} (F : Fnx X C x 0 m) (tk : Takes X W) (hgd : X.A.guards = some []) (hg : Gl X x) (hdb : (x == ("__debug__" : Str)) = false := by decide) : DE X C W (.Call (.Name x p) [] [] pos) (callM m nilM) := by
  obtain ⟨k, a, fd, ps, F, hr, hm, hk, hb, hps⟩ := F.ex
  refine ⟨⟨fun pins s σ H Q I h => ?_⟩⟩
  obtain ⟨Z, q, rfl, rfl, S, h⟩ := h
  refine wpAny_Call_Name_kw (ld_glob I hg hm ?_ hdb)
  have hb1 := hb s [] I.kIn (by simpa using hps.symm)
  rw [List.append_nil] at hb1
  exact PySem.W.callWith_K0 I.kIn hk (run_fnC (us := []) (vs := []) (ds := []) F hr hgd tk hb1 (by rw [hps]; rfl) I .nil rfl rfl S .nil h)
end
end DP

set_option Elab.async false
set_option linter.all false
set_option maxRecDepth 100000
set_option maxHeartbeats 4000000
namespace DP
open PySem PySem.Spec PyProof.Rows L2 He

theorem start0 {G : Wd} {H : Hp} (h0 : G.tbs = []) : SR G (fun _ => False) ⟨[], ⟨[], []⟩, [], H⟩ :=
  ⟨rfl, rfl, fun i d h => by simp at h, fun i c h => by simp at h, fun n c h => by simp at h, List.nodup_nil, fun i j c c' a h => by simp at h, (fun a h => h.elim False.elim fun ⟨q, z⟩ => by rw [h0] at z; cases z), (fun i f o _ h => by simp at h)⟩
theorem script_rep {G : Wd} {H : Hp} {a : Addr} {ns : List Int} (h : SqL G.K H a (ns.map V.int)) : RepLP G (fun _ => False) ⟨[], ⟨[], []⟩, [], H⟩ [.lst (ns.map D.int)] [.ref a] := by
  refine .cons (.lst ?_ rep_ints) .nil
  rcases h with h | h
  · refine .inl ⟨h, ?_⟩
    rintro ((z | ⟨i, c, z, _⟩) | z)
    · exact absurd z List.not_mem_nil
    · simp at z
    · exact z
  · exact .inr h
theorem law_callG {P : Program} {w : World} {K : PySem.W.Frag} {mg mb : Str → Option Value} {C : CT} {k : Nat} {fa a : Addr} {fd : FuncData} {x : Str} {m : DF} {s₁ : Shared} {vs : List Value} {ns : List Int} (h0 : C.tbs = [])
    (KX : K.In s₁.heap) (hns : s₁.heap.Ns mainGlobals mg) (hb : s₁.heap.Ns builtinsNs mb) (hbb : ∀ x : Str, x ≠ "__name__" → mb x = bootBuiltins x) (hlim : s₁.heap.NoLimit) (hg : s₁.gens = #[])
    (ha : s₁.heap.get? a = some { cls := .type "list", data := .seq vs.toArray }) (hi : IntsAre vs ns) (hl : ns.length ≤ sizeLine) (hr : Room k callerA)
    (F : ∀ base : Heap, K.In base → base.Ns mainGlobals mg → FnG P w K mg base C k fa fd [x] m) (hbind : ∀ (s : Shared) (u : Value), BindsTo s fd ⟨[u], []⟩ [(x, u)]) (hm : ∃ hp, m [.lst (ns.map D.int)] [] = .ok (.bl true) hp) :
    codeAny (model P w) callerA (.call (.ref fa) ⟨[.ref a], []⟩) (fun r s' => r = .ok (.ret (.bool true)) ∧ OldK s₁.heap s'.heap ∧ s'.os = s₁.os ∧ AllBare s'.gens) s₁ := by
  have rv := vals_ints hi
  have lenV := hi.length
  have core : ∀ H : Hp, Only H → SqL K H a (ns.map V.int) → HOk P w H s₁.heap → (∀ b, H b ≠ none → b = a) → (H a ≠ none → K.lookup a = none) →
      codeAny (model P w) callerA (.call (.ref fa) ⟨[.ref a], []⟩) (fun r s' => r = .ok (.ret (.bool true)) ∧ OldK s₁.heap s'.heap ∧ s'.os = s₁.os ∧ AllBare s'.gens) s₁ := by
    intro H hO hS hok hA hK
    have one : ∀ {b : Addr} {u : HO}, H b = some u → b = a := fun {b u} q => hA b (by rw [q]; simp)
    have base_of : ∀ {b : Addr} {o : Obj}, s₁.heap.get? b = some o → H b = none → (hidT s₁.heap H).get? b = some o := fun e n => hidT_get e n
    have noA : ∀ {b : Addr} {o : Obj} {es : Array DictEntry} {ep : Nat}, s₁.heap.get? b = some o → o.data = .dict es ep → H b = none := fun {b o es ep} e d => by
      cases q : H b with
      | none => rfl
      | some u =>
        obtain rfl := one q
        rw [ha] at e; cases e
        exact nomatch (show Data.seq vs.toArray _ = Data.dict es ep from d)
    have nsK : ∀ {b : Addr} {m : Str → Option Value}, s₁.heap.Ns b m → (hidT s₁.heap H).Ns b m := fun {b m} ⟨o, es, ep, e, d, r⟩ => ⟨o, es, ep, base_of e (noA e d), d, r⟩
    have hKb : K.In (hidT s₁.heap H) := fun b o e => base_of (KX b o e) (by
      cases q : H b with
      | none => rfl
      | some u =>
        obtain rfl := one q
        rw [hK (by rw [q]; simp)] at e; cases e)
    have hM : Mod K mg (hidT s₁.heap H) := ⟨hKb, nsK hns, ⟨mb, nsK hb, hbb⟩, let ⟨mc, h1, h2⟩ := hlim; ⟨mc, nsK h1, h2⟩⟩
    have e0 : Env0 P w K mg (hidT s₁.heap H) callerA [] s₁ H := ⟨rfl, hM, fun b o e => of_hidT e, Nat.le_of_eq (hidT_size _ _), trivial, fun b hb => absurd (show b ∈ ([] : List Addr) from hb) (by simp), hok, .of_eq hg⟩
    obtain ⟨hp, hm⟩ := hm
    refine codeAny_mono ((F _ hKb (nsK hns)).run callerA [] s₁ H ⟨[.ref a], []⟩ [.ref a] [.ref a] (fun v _ => v = .bl true) (fun _ _ _ => False) hr rfl e0 (hbind s₁ (.ref a)) (.cons rfl .nil) rfl ⟨fun _ => False, [], [], [.lst (ns.map D.int)], start0 h0, script_rep hS, ?_⟩) fun r s' h => ?_
    · rw [hm]
      intro rho H v _ _ r
      cases r
      rfl
    · cases r with
      | error e =>
        obtain ⟨_, _, _, _, _, _, _, _, _, _, _, _, hE⟩ := h
        exact hE.elim
      | ok fl =>
        cases fl with
        | next => exact False.elim h
        | brk => exact False.elim h
        | cont => exact False.elim h
        | ret u =>
          obtain ⟨v, H', os, bare, un, hok', r', q⟩ := h
          have q' : v = .bl true := q
          subst q'
          obtain rfl : u = Value.bool true := r'
          refine ⟨rfl, OldK.of_keep fun b o e => ?_, os, bare⟩
          cases q : H b with
          | none => exact un.keep b o e q (by intro z; exact absurd (show b ∈ ([] : List Addr) from z) (by simp)) (by simp)
          | some u =>
            rcases hO b with z | ⟨ob, xs, z⟩
            · rw [q] at z; cases z
            · obtain ⟨e1, _⟩ := hok b _ z
              obtain ⟨e2, _⟩ := hok' b _ (un.frzs b ob _ z)
              rw [e] at e1; cases e1
              exact e2
  cases hk : K.lookup a with
  | some o =>
    have e := KX a o hk
    rw [ha] at e
    cases e
    refine core (fun _ => none) (fun _ => .inl rfl) (.inr ⟨_, vs.toArray, _, hk, rfl, rfl, rfl, by rw [List.size_toArray, lenV]; exact hl, by simpa using rv⟩) (fun b u z => nomatch (show (none : Option HO) = some u from z)) (fun b z => absurd rfl z) fun z => absurd rfl z
  | none =>
    refine core (fun b => if b = a then some (.frz { cls := .type "list", data := .seq vs.toArray } (.lst (ns.map V.int))) else none) (fun b => ?_) (.inl (.inr ⟨{ cls := .type "list", data := .seq vs.toArray }, if_pos rfl⟩)) (fun b u z => ?_) (fun b z => ?_) fun _ => hk
    · by_cases hb : b = a
      · exact .inr ⟨_, _, if_pos hb⟩
      · exact .inl (if_neg hb)
    · by_cases hb : b = a
      · have z' := (if_pos hb).symm.trans z
        cases z'
        subst hb
        exact ⟨ha, by rw [List.length_map]; exact hl, vs, _, rv, ha⟩
      · exact nomatch (if_neg hb).symm.trans z
    · by_cases hb : b = a
      · exact hb
      · exact absurd (if_neg hb) z
theorem bits_le {z : Int} {B : Nat} (h : Builtin.Int.intBits z ≤ B) : z.natAbs.log2 ≤ B := by
  unfold Builtin.Int.intBits at h
  by_cases h0 : z = 0
  · subst h0; simp
  · rw [if_neg (by simpa using h0)] at h
    omega
theorem walk_ofG {l : PySem.W.OpenLaw} {n k : Nat} {q : Program} {loose : List Str} {XP : (Str → Option Value) → Heap → Prop} {YP : World → Heap → Prop} {d : DefRec} {x : Str} {m : DF}
    (hn : l.most = some n) (hn2 : n ≤ sizeLine) (hdf : d.params.defaults = []) (hr : Room k callerA) (hm : ∀ ns : List Int, ns.length ≤ n → (∀ z ∈ ns, z.natAbs.log2 ≤ 1048576) → ∃ hp, m [.lst (ns.map D.int)] [] = .ok (.bl true) hp)
    (F : ∀ (w : World) (mg : Str → Option Value) (fa : Addr) (h : Heap), YP w h → h.Ns mainGlobals mg → mg d.name = some (.ref fa) →
      ∃ (K : PySem.W.Frag) (C : CT) (fd : FuncData), C.tbs = [] ∧ K.In h ∧ (∀ (s : Shared) (u : Value), BindsTo s fd ⟨[u], []⟩ [(x, u)]) ∧ ∀ base : Heap, K.In base → base.Ns mainGlobals mg → FnG l.prog w K mg base C k fa fd [x] m) :
    PySem.W.WalkO q loose XP YP l.row.toRowW d [] (fun f vs => PySem.call f vs) := by
  refine Att.attach_callB hn hdf fun w s₀ s₁ mg mb fa o pm cd doc a vs ns G Y ho hd hcd hmg hobj hints hlen hbits hg => ?_
  obtain ⟨K, C, fd, h0, KX, hb, hF⟩ := F w mg fa _ Y G.T.g hmg
  exact law_callG h0 KX G.T.g G.T.b G.T.builtins G.T.nolimit hg hobj hints (Nat.le_trans hlen hn2) hr hF hb (hm ns hlen fun z hz => bits_le (hbits z hz))
end DP

set_option Elab.async false
set_option linter.all false
set_option maxRecDepth 100000
set_option maxHeartbeats 4000000
namespace SM
open PySem PySem.Spec PyProof.Rows L2

def kOf : Value → Key
  | .int k _ => .inl k
  | .str x _ => .inr x
  | _ => .inl 0
theorem kOf_is {k : Key} {v : Value} (h : keyIs k v = true) : kOf v = k := by
  rcases keyIs_shape h with ⟨i, t, rfl, rfl⟩ | ⟨x, t, rfl, rfl⟩ <;> rfl
theorem scan_is {k : Key} {v : Value} (h : keyIs k v = true) : v.scannable = true := by
  rcases keyIs_shape h with ⟨i, t, rfl, rfl⟩ | ⟨x, t, rfl, rfl⟩ <;> rfl
abbrev ks (es : Array (Int × Value)) : List Key := es.toList.map fun e => kOf e.2
def inK (kl : List Key) (j : Key) : Bool := kl.any fun y => decide (y = j)
theorem inK_snoc (kl : List Key) (k j : Key) : inK (kl ++ [k]) j = (inK kl j || decide (j = k)) := by
  unfold inK
  rw [List.any_append]
  have e : decide (k = j) = decide (j = k) := decide_eq_decide.mpr ⟨Eq.symm, Eq.symm⟩
  simp [e]
structure Tab (w : World) (es : Array (Int × Value)) (t : SetTable) (S : Key → Bool) : Prop where
  good : ∀ e ∈ es.toList, keyIs (kOf e.2) e.2 = true ∧ e.1 = keyH w (kOf e.2)
  nod : (ks es).Nodup
  mem : ∀ k, S k = true ↔ k ∈ ks es
  few : es.size < scanBound
  fits : t.fits es.size = true
  ris : Ris t.place.toList
  led : w.params.followText "set-order" = true ∨ t.led = true
def At (w : World) (h : Heap) (a : Addr) (S : Key → Bool) (n : Nat) : Prop := ∃ o es ep t, h.get? a = some o ∧ o.ExactSet ∧ o.data = .set es ep t ∧ es.size = n ∧ Tab w es t S
section
variable {P : Program} {w : World} {h h' : Heap} {a : Addr} {S S' : Key → Bool} {n : Nat}
theorem At.keep (R : At w h a S n) (k : ∀ o, h.get? a = some o → h'.get? a = some o) : At w h' a S n := by
  obtain ⟨o, es, ep, t, ho, r⟩ := R
  exact ⟨o, es, ep, t, k o ho, r⟩
theorem At.congr (R : At w h a S n) (e : ∀ k, S' k = S k) : At w h a S' n := by
  cases (funext e : S' = S)
  exact R
theorem Tab.elems {es : Array (Int × Value)} {t : SetTable} (T : Tab w es t S) : ElemsOf (mixKind P w) es.toList := fun e he =>
  ⟨⟨kOf e.2, (T.good e he).1, (T.good e he).2⟩, scan_is (T.good e he).1⟩
theorem Tab.has {es : Array (Int × Value)} {t : SetTable} (T : Tab w es t S) (k : Key) : S k = true ↔ ∃ e ∈ es.toList, keyIs k e.2 = true := by
  rw [T.mem k, List.mem_map]
  constructor
  · rintro ⟨e, he, rfl⟩
    exact ⟨e, he, (T.good e he).1⟩
  · rintro ⟨e, he, q⟩
    exact ⟨e, he, kOf_is q⟩
theorem Tab.perm {es es1 : Array (Int × Value)} {t t1 : SetTable} (T : Tab w es t S) (p : es1.toList.Perm es.toList) (f : t1.fits es1.size = true) (r : Ris t1.place.toList) (l : t1.led = t.led) : Tab w es1 t1 S where
  good := fun e he => T.good e (p.mem_iff.mp he)
  nod := (p.map _).nodup_iff.mpr T.nod
  mem := fun k => (T.mem k).trans (p.map _).mem_iff.symm
  few := by rw [← Array.length_toList, p.length_eq, Array.length_toList]; exact T.few
  fits := f
  ris := r
  led := T.led.imp id fun z => l.trans z
theorem Tab.more {es es1 : Array (Int × Value)} {t t1 : SetTable} {k : Key} {v : Value} (T : Tab w es t S) (hv : keyIs k v = true) (hk : S k = false) (room : es.size + 1 < scanBound) (p : es1.toList.Perm ((keyH w k, v) :: es.toList)) (f : t1.fits es1.size = true) (r : Ris t1.place.toList)
    (l : t1.led = t.led) : Tab w es1 t1 (fun j => S j || decide (j = k)) ∧ es1.size = es.size + 1 := by
  have hz : es1.size = es.size + 1 := by rw [← Array.length_toList, p.length_eq, List.length_cons, Array.length_toList]
  have hn : k ∉ ks es := fun z => by rw [(T.mem k).mpr z] at hk; cases hk
  have pk : (ks es1).Perm (k :: ks es) := by
    have := p.map fun e : Int × Value => kOf e.2
    rw [List.map_cons, kOf_is hv] at this
    exact this
  refine ⟨⟨fun e he => ?_, pk.nodup_iff.mpr (List.nodup_cons.mpr ⟨hn, T.nod⟩), fun j => ?_, by rw [hz]; exact room, f, r, T.led.imp id fun z => l.trans z⟩, hz⟩
  · rcases List.mem_cons.mp (p.mem_iff.mp he) with z | z
    · subst z
      dsimp only
      rw [kOf_is hv]
      exact ⟨hv, rfl⟩
    · exact T.good e z
  · rw [Bool.or_eq_true, decide_eq_true_eq, pk.mem_iff, List.mem_cons, T.mem j]
    exact Or.comm
end
section
variable {P : Program} {w : World} {A : Around} {E : Value → Shared → Prop} {s : Shared} {a : Addr} {S : Key → Bool} {n : Nat}
theorem giveWay {b : Bool} {s₁ : Shared} {Q' : Unit → Shared → Prop} (q : Q' () s₁) : wpAny (model P w) A (match b with | true => rule "set.scan.the-table-gave-way" | false => pure ()) Q' E s₁ := by
  cases b
  · exact wpAny_pure q
  · exact wpAny_rule q
theorem add_end {g : Bool → Sem Unit} (hg : ∀ (b : Bool) (s₁ : Shared) (Q' : Unit → Shared → Prop), Q' () s₁ → wpAny (model P w) A (g b) Q' E s₁) {o : Obj} {es es1 : Array (Int × Value)} {ep : Nat} {t t1 : SetTable} (ho : s.heap.get? a = some o) (hx : o.ExactSet) (hd : o.data = .set es ep t)
    (T : Tab w es1 t1 S) {was : Bool} {R : Option Bool → Shared → Prop} (k : ∀ h', Heap.SameBut a s.heap h' → At w h' a S es1.size → R (some true) { s with heap := h' }) :
    wpAny (model P w) A (do
        storeSet a es1 t1
        if (!was && t1.tooFull) = true then do
            g (relayAll t1 es1 (SetTable.grown es1.size)).2.2
            storeSet a (relayAll t1 es1 (SetTable.grown es1.size)).1 (relayAll t1 es1 (SetTable.grown es1.size)).2.1
            pure (some true)
          else pure (some true)) R E s := by
  have o1 := store_at (es' := es1) (t' := t1) ho hd
  have b1 := Heap.SameBut.update s.heap a (Obj.putSet es1 t1)
  refine wpAny_bind (wpAny_storeSet_of ho hd ?_ (fits_of_scanBound T.few))
  by_cases hf : (!was && t1.tooFull) = true
  · rw [if_pos hf]
    have T2 := T.perm (relayAll_perm t1 es1 (SetTable.grown es1.size)) (relayAll_fits t1 es1 _) (relayAll_ris t1 es1 _) (relayAll_led t1 es1 _)
    have hz : (relayAll t1 es1 (SetTable.grown es1.size)).1.size = es1.size := by
      rw [← Array.length_toList, (relayAll_perm t1 es1 _).length_eq, Array.length_toList]
    refine wpAny_bind (hg _ _ _ (wpAny_bind (wpAny_storeSet_of o1 rfl ?_ (fits_of_scanBound T2.few))))
    exact wpAny_pure (k _ (b1.trans (Heap.SameBut.update _ a _)) ⟨_, _, _, _, store_at o1 rfl, hx, rfl, hz, T2⟩)
  · rw [if_neg hf]
    exact wpAny_pure (k _ b1 ⟨_, es1, _, t1, o1, hx, rfl, rfl, T⟩)
theorem add_hashed {k : Key} {v : Value} {Q : Bool → Shared → Prop} (hv : keyIs k v = true) (R : At w s.heap a S n) (room : n + 1 < scanBound)
    (hQ : ∀ h', Heap.SameBut a s.heap h' → At w h' a (fun j => S j || decide (j = k)) (if S k = true then n else n + 1) → Q (!S k) { s with heap := h' }) :
    wpAny (model P w) A (setAddHashed a v (keyH w k)) Q E s := by
  obtain ⟨o, es, ep, t, ho, hx, hd, rfl, T⟩ := R
  have hel : ElemsOf (mixKind P w) es.toList := T.elems
  have hsc := scan_is hv
  unfold setAddHashed setAddHashedIn
  refine wpAny_holding (wpAny_bind (wpAny_setState_of ho hd T.fits ?_))
  dsimp only
  rw [byScan_of hsc T.few hel]
  simp only [↓reduceIte]
  unfold setAddByScan
  refine wpAny_bind (wpAny_bind (wpAny_rule (wpAny_bind (wpAny_setScan_of (knd := mixKind P w) hv ho hd T.fits hel ?_))))
  cases hf : List.findIdx? (fun e : Int × Value => (mixKind P w).is k e.2) es.toList with
  | some j =>
    dsimp only
    obtain ⟨hj, pj, _⟩ := List.findIdx?_eq_some_iff_getElem.mp hf
    have hS : S k = true := (T.has k).mpr ⟨_, List.getElem_mem hj, pj⟩
    have q := hQ s.heap (Heap.SameBut.refl a s.heap) (At.congr ⟨o, es, ep, t, ho, hx, hd, (if_pos hS).symm, T⟩ fun j => by
      by_cases e : j = k
      · subst e; rw [hS]; rfl
      · rw [decide_eq_false e, Bool.or_false])
    rw [hS] at q
    exact wpAny_pure (wpAny_pure q)
  | none =>
    dsimp only
    have hS : S k = false := by
      cases q : S k with
      | false => rfl
      | true =>
        obtain ⟨e, he, z⟩ := (T.has k).mp q
        have c := List.findIdx?_eq_none_iff.mp hf e he
        rw [show (mixKind P w).is k e.2 = true from z] at c
        cases c
    have pm := layNew_perm t es (keyH w k) v
    rw [Array.toList_push] at pm
    obtain ⟨T1, hz⟩ := T.more hv hS room (pm.trans (List.perm_append_singleton _ _)) (layNew_fits t es _ v) (layNew_ris t es _ v T.ris) (layNew_led t es _ v)
    have fin : ∀ h', Heap.SameBut a s.heap h' → At w h' a (fun j => S j || decide (j = k)) (layNew t es (keyH w k) v).1.size → Q true { s with heap := h' } := fun h' b r => by
      have q := hQ h' b
      rw [hS] at q
      rw [hz] at r
      exact q r
    refine wpAny_bind ?_
    show wpAny (model P w) A (match (layNew t es (keyH w k) v).2.2.2 with | true => rule "set.scan.the-table-gave-way" | false => pure ()) _ E s
    refine giveWay ?_
    split
    · refine wpAny_bind ?_
      rw [hashByValue_scannable 8 hsc]
      refine wpAny_pure ?_
      refine add_end (S := fun j => S j || decide (j = k)) (fun b s₁ Q' q => giveWay q) ho hx hd ?_ fun h' sb r => by dsimp only; exact wpAny_pure (fin h' sb r)
      split
      · first | exact T1 | exact ⟨T1.good, T1.nod, T1.mem, T1.few, SetTable.fits_plain_off T1.fits, T1.ris, T1.led⟩
      · first | exact T1 | exact ⟨T1.good, T1.nod, T1.mem, T1.few, SetTable.fits_plain_off T1.fits, T1.ris, T1.led⟩
    · refine wpAny_bind (wpAny_pure ?_)
      simp only [↓reduceIte]
      exact add_end (S := fun j => S j || decide (j = k)) (fun b s₁ Q' q => giveWay q) ho hx hd T1 fun h' sb r => by dsimp only; exact wpAny_pure (fin h' sb r)
end
end SM
namespace SM
open PySem PySem.Spec PyProof.Rows L2
section
variable {P : Program} {w : World} {A : Around} {E : Value → Shared → Prop} {s : Shared}
theorem fill {I : Addr} {fp wr : List Addr} {G : Array GenState → Array GenState → Prop} {n : Nat} {Pv : Nat → Value → Prop} {St : Nat → Shared → Prop} {R : Result → Shared → Prop} (W : WalksS P w A.in1 I fp wr G n Pv St) (a : Addr) (ha : a ∉ fp) (kl : List Key) (hn : n = kl.length) (hb : kl.length + 1 < scanBound)
    (hval : ∀ i v, Pv i v → ∃ k, kl[i]? = some k ∧ keyIs k v = true) : ∀ (m i : Nat) (s : Shared), n - i = m → i ≤ n → St i s → (∃ c, c ≤ i ∧ At w s.heap a (inK (kl.take i)) c) →
      (∀ s' c, Moved (a :: wr) G s s' → c ≤ n → At w s'.heap a (inK kl) c → R (.ok (.ret .none)) s') → codeAny (model P w) A (.builtin "set.update.loop" ⟨[.ref a, .ref I], []⟩) R s := by
  have na : a ∉ wr := fun h => ha (W.sub _ h)
  have up : ∀ b ∈ wr, b ∈ a :: wr := fun b hb => List.mem_cons_of_mem _ hb
  intro m
  induction m with
  | zero =>
    intro i s hm hi hst hc hR
    obtain ⟨c, hc, hS⟩ := hc
    obtain rfl : i = n := by omega
    refine codeAny_builtin F.entry_set_update_loop ?_
    rw [Around.under_plainId F.plain_set_update_loop _]
    show wpAny _ A.in1 (pyNext (.ref I) >>= _) _ _ s
    refine wpAny_bind (W.done s _ _ hst fun s' hmv => ?_)
    rw [List.take_of_length_le (by omega)] at hS
    exact wpAny_pure (hR s' c (hmv.mono up) hc (hS.keep fun o e => hmv.heap a o na e))
  | succ m ih =>
    intro i s hm hi hst hc hR
    obtain ⟨c, hc, hS⟩ := hc
    have lt : i < n := by omega
    refine codeAny_builtin F.entry_set_update_loop ?_
    rw [Around.under_plainId F.plain_set_update_loop _]
    show wpAny _ A.in1 (pyNext (.ref I) >>= _) _ _ s
    refine wpAny_bind (W.item i s _ _ lt hst fun v s' hP hst' hmv => ?_)
    obtain ⟨k, hk, kv⟩ := hval i v hP
    have hS' : At w s'.heap a (inK (kl.take i)) c := hS.keep fun o e => hmv.heap a o na e
    show wpAny _ A.in1 (holding [v] (setAdd a v) >>= _) _ _ s'
    unfold setAdd
    refine wpAny_bind (wpAny_holding (wpAny_holding (wpAny_bind ((mixKind P w).pyHash (k := k) kv ?_))))
    refine add_hashed (s := { s' with toks := s'.toks + 1 }) kv hS' (by omega) fun h' sb hS2 => ?_
    have hS3 : At w h' a (inK (kl.take (i + 1))) (if inK (kl.take i) k = true then c else c + 1) := hS2.congr fun j => by
      rw [List.take_add_one, hk]
      exact inK_snoc _ _ _
    have hc3 : (if inK (kl.take i) k = true then c else c + 1) ≤ i + 1 := by
      split <;> omega
    refine wpAny_pure ⟨plainId_quiet F.plain_set_update_loop _, ih (i + 1) _ (by omega) lt (W.frame _ s' _ _ hst' (Nat.le_succ _) fun b hb o e => ?_) ⟨_, hc3, hS3⟩ fun s'' c2 hm2 hc2 hSn => ?_⟩
    · exact (sb.2 b fun z : b = a => ha (z ▸ hb)).trans e
    · refine hR s'' c2 (Moved.trans W.gtrans ((hmv.mono up).then_heap (Nat.le_succ _) fun b o hb e => ?_) hm2) hc2 hSn
      exact (sb.2 b fun z : b = a => hb (z ▸ List.mem_cons_self)).trans e

structure Src (P : Program) (w : World) (h : Heap) (x : Value) (kl : List Key) : Prop where
  ty : ∃ T, (∀ s : Shared, (∀ b o, h.get? b = some o → s.heap.get? b = some o) → s.TypeIs x T) ∧ isSubtype (.type T) (.type "set") = pure false ∧ isSubtype (.type T) (.type "frozenset") = pure false ∧ (Value.type T == Value.type "dict") = false
  it : ∀ (A : Around) (E : Value → Shared → Prop) (s : Shared) (Q : Value → Shared → Prop), (∀ b o, h.get? b = some o → s.heap.get? b = some o) → h.objs.size ≤ s.heap.objs.size →
    (∀ (o : Obj) (St : Nat → Heap → Prop) (Pv : Nat → Value → Prop) (fp : List Addr), (∀ b ∈ fp, b = s.heap.objs.size ∨ b < h.objs.size) → (∀ A' : Around, A'.handled = none → Walks P w A' s.heap.objs.size fp [s.heap.objs.size] kl.length Pv St) → St 0 (s.heap.push o) →
      (∀ i v, Pv i v → ∃ k, kl[i]? = some k ∧ keyIs k v = true) → Q (.ref s.heap.objs.size) { s with heap := s.heap.push o }) → wpAny (model P w) A (pyIter x) Q E s
end
end SM
namespace SM
open PySem PySem.Spec PyProof.Rows L2
section
variable {P : Program} {w : World} {A : Around} {E : Value → Shared → Prop} {s : Shared}
end
end SM

set_option Elab.async false
set_option linter.all false
set_option maxRecDepth 100000
set_option maxHeartbeats 4000000
namespace SM
open PySem PySem.Spec PyProof.Rows L2
section
variable {P : Program} {w : World} {A : Around} {E : Value → Shared → Prop} {s : Shared} {a : Addr}
end
end SM
namespace L2
open PySem PySem.Spec PyProof.Rows
section
variable {X : Cx}
end
end L2

set_option Elab.async false
set_option linter.all false
set_option maxRecDepth 100000
set_option maxHeartbeats 4000000
namespace DP
open PySem PySem.Spec PyProof.Rows L2

section
variable {X : Cx} {C : CT} {W : WX}
end
end DP
namespace SM
open PySem PySem.Spec PyProof.Rows L2
section
variable {prog : Program} {w : World} {A : Around} {E : Value → Shared → Prop} {s : Shared}
theorem call_repr_data : ∀ {v : Value} {d : PyData} {as : List Addr}, Reads s.heap v d as → d.showable = true → d.hasDict = false → d.shown.length ≤ sizeLine → A.guards = some [] → A.units + 1 + d.depth < cLine → ∀ {Q : Value → Shared → Prop},
    (∀ h' u tk, (∀ b o, s.heap.get? b = some o → h'.get? b = some o) → Q (.str d.shown u) { s with heap := h', toks := tk }) → wpAny (model prog w) A (call (.builtin "repr") [v]) Q E s
  | _, _, _, .none, _, _, _, _, _, Q, hQ => PySem.P.repr_of_none (by simpa only [PyData.shown] using hQ s.heap s.toks _ fun _ _ e => e)
  | _, _, _, .bool b, _, _, _, _, _, Q, hQ => PySem.P.repr_of_bool (by simpa only [PyData.shown] using hQ s.heap s.toks _ fun _ _ e => e)
  | _, _, _, .int i t, hs, _, _, _, _, Q, hQ => PySem.P.repr_of_int (by simpa [PyData.showable] using hs) (by simpa only [PyData.shown] using hQ s.heap s.toks _ fun _ _ e => e)
  | _, _, _, .str x t, _, _, hz, _, _, Q, hQ => PySem.P.repr_of_str (by simpa only [PyData.shown] using hQ s.heap s.toks _ fun _ _ e => e) (by simpa only [PyData.shown] using hz)
  | _, _, _, .list (a := a) (vs := vs) (xs := xs) h1 h2 h3 h4, hs, hd, hz, hg, hu, Q, hQ => by
    have hg1 : A.in1.guards = some [] := hg
    have hu1 : A.units + 1 < cLine := by omega
    have hz' : (listText (PyData.shownAll xs)).length ≤ sizeLine := by simpa only [PyData.shown] using hz
    have hd' : PyData.hasDictAll xs = false := by simpa only [PyData.hasDict] using hd
    obtain ⟨cs, hb, hk⟩ := ReprAllK.of_readsAll (prog := prog) (w := w) h4 (by simpa [PyData.showable] using hs) (fun hx => by rw [hd'] at hx; cases hx) (fun t ht => Nat.le_trans (listText_mem_le ht) hz')
    have hna : a ∉ cs := not_mem_of_deeper (Reads.list h1 h2 h3 h4) (by simp only [PyData.depth]; omega) hb
    simp only [PyData.depth] at hu
    simp only [PyData.shown] at hQ
    refine call_repr_slot hu1 ⟨_, h1, h2⟩ F.slot_list_repr.toG ?_
    obtain ⟨l⟩ := vs
    cases l with
    | nil =>
      have h4' : ReadsAll s.heap [] xs _ := h4
      cases h4'
      refine call_list_repr_empty ⟨_, h1, h2⟩ h1 h3 ⟨_, _, rfl, ?_⟩
      have := hQ s.heap s.toks (s.toks + 1) fun _ _ e => e
      rw [show PyData.shownAll [] = [] from by simp only [PyData.shownAll], listText_nil] at this
      exact this
    | cons x l =>
      exact call_list_reprK h1 h2 h3 hna (by simpa using hk.length_eq) (fun i y e => hk.item i y (by simpa using e)) hg1 (fun b _ => Clear.nil b) (by show A.units + 1 + _ < cLine; omega) (fun _ _ e => e) (fun h' u tk hk' => ⟨_, _, rfl, hQ h' u tk hk'⟩) hz'
  | _, _, _, .tuple (a := a) (xs := xs) h1 h2 h3 h4, hs, hd, hz, hg, hu, Q, hQ => by
    have hg1 : A.in1.guards = some [] := hg
    have hu1 : A.units + 1 < cLine := by omega
    have hz' : (tupleText (PyData.shownAll xs)).length ≤ sizeLine := by simpa only [PyData.shown] using hz
    have hd' : PyData.hasDictAll xs = false := by simpa only [PyData.hasDict] using hd
    obtain ⟨cs, hb, hk⟩ := ReprAllK.of_readsAll (prog := prog) (w := w) h4 (by simpa [PyData.showable] using hs) (fun hx => by rw [hd'] at hx; cases hx) (fun t ht => Nat.le_trans (tupleText_mem_le ht) hz')
    have hna : a ∉ cs := not_mem_of_deeper (Reads.tuple h1 h2 h3 h4) (by simp only [PyData.depth]; omega) hb
    simp only [PyData.depth] at hu
    simp only [PyData.shown] at hQ
    refine call_repr_slot hu1 ⟨_, h1, h2⟩ (by first | exact F.slot_tuple_repr.toG | exact F.slot_tuple_repr) ?_
    exact call_tuple_reprK h1 h2 h3 hna hk hg1 (fun b _ => Clear.nil b) (by show A.units + 1 + _ < cLine; omega) (fun _ _ e => e) (fun h' u tk hk' => ⟨_, _, rfl, hQ h' u tk hk'⟩) hz'
  | _, _, _, .dict _ _ _ _ _, _, hd, _, _, _, _, _ => by simp [PyData.hasDict] at hd
end
end SM
namespace DP
open PySem PySem.Spec PyProof.Rows L2
def reprN : List D → Option D
  | [d] => if (d.ok deepest && (d.pd.showable && decide (d.pd.shown.length ≤ sizeLine))) = true then some (.str d.pd.shown) else none
  | _ => none
section
variable {X : Cx} {C : CT} {W : WX}
theorem c_repr (hg : X.A.guards = some []) (hu : X.A.units + 66 < cLine) : CallD X C (.builtin "repr") reprN := by
  intro pins s σ H xs us Q I r h
  obtain ⟨Z, p, ds, f, e1, S, rd, hgd, q⟩ := h
  subst e1
  unfold reprN at hgd
  split at hgd
  · rename_i d
    split at hgd
    · rename_i hk
      cases hgd
      simp only [Bool.and_eq_true, decide_eq_true_eq] at hk
      obtain ⟨ho, hs, hz⟩ := hk
      obtain ⟨v, rfl, r1⟩ := repL_one rd
      have D0 := (ok_dp (G := wd X.K C) deepest).1 d v ho r1
      have sh := (ok_shape deepest).1 d ho
      cases r with
      | cons ru rt =>
        cases rt
        obtain ⟨as, R⟩ := Dp.reads I _ _ _ D0 ru
        refine SM.call_repr_data R hs (PyData.hasDict_of_canLay _ sh.1) hz hg (by have := sh.2; have e : deepest = 24 := rfl; omega) fun h' u tk k => ?_
        exact ⟨.str d.pd.shown, p.H, I.kept k, ⟨u, rfl⟩, q _ _ (Same.refl _) (.str _)⟩
    · cases hgd
  · cases hgd
end

def permL {α : Type} : List Nat → List α → Option (List α)
  | [], _ => some []
  | i :: is, xs => (xs[i]?).bind fun x => (permL is xs).map fun r => x :: r
def permM (is : List Nat) (f : DM (List D)) : DM (List D) := bnd f fun ds => lift (permL is ds)
def catM (f g : DM (List D)) : DM (List D) := bnd f fun xs => bnd g fun ys => ret (xs ++ ys)
structure FgOk (P : Program) (w : World) (K : PySem.W.Frag) (mg : Str → Option Value) (base : Heap) (C : CT) (x qual : Str) (params : Arguments) (body : List Stmt) (scope : Scope) (f : Addr) (k : Nat) (ps : List Str) (m : DF) : Prop where
  ex : ∃ fd : FuncData, FunD K x qual params body scope [] [] f fd ∧ FnG P w K mg base C k f fd ps m
section
variable {P : Program} {w : World} {K : PySem.W.Frag} {mg : Str → Option Value} {base : Heap} {C : CT} {x qual : Str} {params : Arguments} {body : List Stmt} {scope : Scope} {f : Addr} {k : Nat} {ps : List Str} {m : DF}
theorem fg_of {N : List Str} {b : DS} (F : ∃ fd, FunD K x qual params body scope [] [] f fd) (S : FnScope N ps scope)
    (hbody : ∀ (cdv : Value) (A : Around) (outer : List Env) (s : Shared) (H : Hp) (E : XK), Room k (A.deeper (envOfC qual scope s.heap.objs.size f cdv)) → A.guards = some [] →
      STs (cxD P w K mg base N qual scope f cdv A outer s H E) C (wE E) body b) (hx : C.fx = none := by rfl) : FgOk P w K mg base C x qual params body scope f (k + 1) ps (defF N.length b) := by
  obtain ⟨fd, F⟩ := F
  exact ⟨fd, F, fg_ofF F S hbody hx⟩
theorem FgOk.ok (G : FgOk P w K mg base C x qual params body scope f k ps m)
    (hbind : ∀ (kV doc pm : Value) (an : Option Addr) (cdv ct : Value) (us : List Value), us.length = ps.length → bindArgs (PySem.W.fnOf x qual params body scope .none kV doc pm an cdv ct) ⟨us, []⟩ = pure (ps.zip us)) : DefOk P w K mg base C f k ps.length m := by
  obtain ⟨fd, F, h⟩ := G.ex
  exact ⟨⟨fd, ps, h, F.bindsN hbind, rfl⟩, F.kp⟩
def KwB (x qual : Str) (params : Arguments) (body : List Stmt) (scope : Scope) (ps : List Str) (j : Nat) (ks : List Str) (is : List Nat) : Prop :=
  ∀ (kV doc pm : Value) (an : Option Addr) (cdv ct : Value) (us ws : List Value), us.length = j → ws.length = ks.length → ∃ vs, permL is (us ++ ws) = some vs ∧ bindArgs (PySem.W.fnOf x qual params body scope .none kV doc pm an cdv ct) ⟨us, ks.zip ws⟩ = pure (ps.zip vs)
theorem FgOk.binds (G : FgOk P w K mg base C x qual params body scope f k ps m) {j : Nat} {ks : List Str} {is : List Nat} (hk : KwB x qual params body scope ps j ks is) : ∃ fd : FuncData, FnG P w K mg base C k f fd ps m ∧
    ∀ (s : Shared) (us ws : List Value), us.length = j → ws.length = ks.length → ∃ vs, permL is (us ++ ws) = some vs ∧ BindsTo s fd ⟨us, ks.zip ws⟩ (ps.zip vs) := by
  obtain ⟨fd, F, h⟩ := G.ex
  refine ⟨fd, h, fun s us ws h1 h2 => ?_⟩
  obtain ⟨oc, od, dV, kV, doc, pm, an, cdv, ct, osl, rfl, lk, hcd, hD, hK⟩ := F.ex
  rcases hD with ⟨_, rfl⟩ | ⟨e, _⟩
  · obtain ⟨vs, h3, h4⟩ := hk kV doc pm an cdv ct us ws h1 h2
    exact ⟨vs, h3, .of_eq h4⟩
  · exact absurd rfl e
end
structure DK (X : Cx) (C : CT) (W : WX) (kws : List Keyword) (f : DM (List D)) : Prop where
  pk : PK X kws (tL (wd X.K C) W f)
section
variable {X : Cx} {C : CT} {W : WX} {x qual : Str} {params : Arguments} {body : List Stmt} {scope : Scope} {f : Addr} {k : Nat} {ps : List Str} {m : DF}
theorem dk_nil : DK X C W [] nilM := ⟨⟨fun pos pins s σ H Q I h => pk_nil.run pos pins s σ H Q I (by
  obtain ⟨Z, p, rfl, rfl, S, h⟩ := h
  exact Fin.ok h S .nil)⟩⟩
theorem dk_cons {nm : Option Str} {e : Expr} {kpos : Pos} {kws : List Keyword} {f : DM D} {g : DM (List D)} (h1 : DE X C W e f) (h2 : DK X C W kws g) : DK X C W (⟨nm, e, kpos⟩ :: kws) (consM f g) := ⟨⟨fun pos pins s σ H Q I h => (pk_cons h1.pe h2.pk).run pos pins s σ H Q I (by
  obtain ⟨Z, p, rfl, rfl, S, h⟩ := h
  refine ⟨Z, p, rfl, rfl, S, (Fin.bnd h).mono fun x H1 ⟨q1, d1, e1, e2, S1, l1, r1, h1⟩ => ?_⟩
  refine ⟨Z, q1, e1, e2, S1, (Fin.bnd h1).mono fun y H2 ⟨q2, d2, e3, e4, S2, l2, r2, h2⟩ => ?_⟩
  exact e4 ▸ Fin.ok h2 S2 (.cons (l2.rep r1) r2))⟩⟩
end
end DP

set_option Elab.async false
set_option linter.all false
set_option maxRecDepth 100000
set_option maxHeartbeats 4000000
namespace DP
open PySem PySem.Spec PyProof.Rows L2
section
variable {X : Cx} {C : CT} {W : WX}
def parVO (i j : Nat) (fa : DM D) (fb : DM Cell) : DS := bndS fa fun d => bndS fb fun c s => .nx ⟨(s.sl.set i (.val d)).set j (.own c), s.hp⟩
def parOE (i j : Nat) (fa : DM Cell) : DS := bndS fa fun c s => .nx ⟨(s.sl.set i (.own c)).set j (.own (.lst [])), s.hp⟩
end
end DP
namespace SM
open PySem PySem.Spec PyProof.Rows L2
open AutoSeq1 (wpAny_loadPart')

end SM
namespace L2
open PySem PySem.Spec PyProof.Rows
section
variable {X : Cx}
end
end L2
namespace DP
open PySem PySem.Spec PyProof.Rows L2
section
variable {X : Cx} {C : CT} {W : WX}
def repL : D → D → Option D := fun x y => match x, y with
  | .lst xs, .int k => if 0 ≤ k ∧ k ≤ 1000 ∧ xs.length ≤ 1000 then some (.lst (List.replicate k.toNat xs).flatten) else none
  | _, _ => none
end
end DP
namespace DP
open PySem PySem.Spec PyProof.Rows L2
section
variable {X : Cx} {C : CT} {W : WX}
end
end DP

set_option Elab.async false
set_option linter.all false
set_option maxRecDepth 100000
set_option maxHeartbeats 4000000
namespace DP
open PySem PySem.Spec PyProof.Rows L2
section
variable {X : Cx} {C : CT} {W : WX}
def catLC : D → D → Option Cell := fun x y => match x, y with
  | .lst xs, .lst ys => if xs.length + ys.length ≤ sizeLine then some (.lst (xs ++ ys)) else none
  | _, _ => none
def catC (fa fb : DM D) : DM Cell := bnd fa fun x => bnd fb fun y => lift (catLC x y)
end
end DP

set_option Elab.async false
set_option linter.all false
set_option maxRecDepth 100000
set_option maxHeartbeats 4000000
namespace SM
open PySem PySem.Spec PyProof.Rows L2
section
variable {P : Program} {w : World} {A : Around} {E : Value → Shared → Prop} {s : Shared}
end
end SM
namespace L2
open PySem PySem.Spec PyProof.Rows
section
variable {X : Cx}
end
end L2
namespace DP
open PySem PySem.Spec PyProof.Rows L2
section
variable {X : Cx} {C : CT} {W : WX}
end
end DP

set_option Elab.async false
set_option linter.all false
set_option maxRecDepth 100000
set_option maxHeartbeats 4000000
namespace SM
open PySem PySem.Spec PyProof.Rows L2 HT
section
variable {prog : Program} {w : World} {A : Around} {E : Value → Shared → Prop} {s : Shared}
end
end SM
namespace L2
open PySem PySem.Spec PyProof.Rows
section
variable {X : Cx} {e : Expr} {te : TE} {k : Expr} {tk : TO} {pos p2 : Pos}
def SlB (X : Cx) (r : V → Hp → VK → Prop) : Prop :=
  ∀ (pins : List (Addr × Obj)) (s : Shared) (σ : St) (H : Hp) (x : V) (v vk : Value) (sl : Addr) (Q : VK), Inv X pins σ H s → RelV x v → s.heap.IsSliceOf sl .none .none vk → IsPart vk (some (-1)) → r x H Q →
    ∃ T id, typeLookup (.type T) "__getitem__" = pure (some (.builtin id)) ∧ s.TypeIs v T ∧ wpAny (model X.prog X.w) X.A (getItem v (.ref sl)) (EP X pins σ Q) X.xe s
theorem SlB.or {r r' : V → Hp → VK → Prop} (h : SlB X r) (h' : SlB X r') : SlB X (fun x H Q => r x H Q ∨ r' x H Q) := fun pins s σ H x v vk sl Q I rx hs pk q => by
  rcases q with q | q
  · exact h pins s σ H x v vk sl Q I rx hs pk q
  · exact h' pins s σ H x v vk sl Q I rx hs pk q
theorem SlB.imp {r r' : V → Hp → VK → Prop} (h : SlB X r) (k : ∀ x H Q, r' x H Q → r x H Q) : SlB X r' := fun pins s σ H x v vk sl Q I rx hs pk q => h pins s σ H x v vk sl Q I rx hs pk (k x H Q q)
end
end L2
namespace DP
open PySem PySem.Spec PyProof.Rows L2
def revD : D → Option Int → Option D := fun x st => if st = some (-1) then (match x with
  | .lst xs => some (.lst xs.reverse)
  | .tup xs => some (.tup xs.reverse)
  | _ => none) else none
def backM (f : DM D) (k : DM (Option Int)) : DM D := bnd f fun x => bnd k fun st => lift (revD x st)
section
variable {X : Cx} {C : CT} {W : WX}
end
end DP

set_option Elab.async false
set_option linter.all false
set_option maxRecDepth 100000
set_option maxHeartbeats 4000000
namespace DP
open PySem PySem.Spec PyProof.Rows L2
section
variable {X : Cx} {C : CT} {W : WX}
def parVOI (i j l : Nat) (fa : DM D) (fb : DM Cell) (k : Int) : DS := bndS fa fun d => bndS fb fun c s => .nx ⟨((s.sl.set i (.val d)).set j (.own c)).set l (.val (.int k)), s.hp⟩
end
end DP

set_option Elab.async false
set_option linter.all false
set_option maxRecDepth 100000
set_option maxHeartbeats 4000000
namespace DP
open PySem PySem.Spec PyProof.Rows L2
theorem LeZ.trans {Z : Addr → Prop} {p q r : Pt} (a : LeZ Z p q) (b : LeZ Z q r) : LeZ Z p r :=
  ⟨fun n x h => b.rho n x (a.rho n x h), fun x o h k z => let ⟨h1, k1⟩ := a.keep x o h k z; b.keep x o h1 k1 z, fun x v h => b.tup x v (a.tup x v h), fun x h => b.has x (a.has x h)⟩
section
variable {X : Cx} {C : CT} {W : WX}
end
end DP

set_option Elab.async false
set_option linter.all false
set_option maxRecDepth 100000
set_option maxHeartbeats 4000000
namespace DP
open PySem PySem.Spec PyProof.Rows L2
section
variable {X : Cx}
end
section
variable {X : Cx} {C : CT}
end
end DP

set_option Elab.async false
set_option linter.all false
set_option maxRecDepth 100000
set_option maxHeartbeats 4000000
namespace DP
open PySem PySem.Spec PyProof.Rows L2
section
variable {X : Cx} {C : CT} {W : WX}
def dispC (fk fv : DM D) : DM Cell := fun s => match fk s with
  | .ok k s1 => (match fv s1 with
    | .ok v s2 => (match k.key with
      | some kk => .ok (.dk [kk] [v]) s2
      | none => .stuck)
    | _ => .stuck)
  | _ => .stuck
def valsN : D → Option Cell
  | .dk _ vs => some (.lst vs)
  | _ => none
def valsC (f : DM D) : DM Cell := bnd f fun d => lift (valsN d)
end
end DP

set_option Elab.async false
set_option linter.all false
set_option maxRecDepth 100000
set_option maxHeartbeats 4000000
namespace DP
open PySem PySem.Spec PyProof.Rows L2
section
variable {X : Cx} {C : CT} {W : WX}
section
variable {G : Wd} {rho : List Addr} {L : Addr → Prop} {H : Hp}
end
def augS (i : Nat) (g : Int → Int → Int) (f : DM D) : DS := fun s => match s.sl[i]? with
  | some (.val (.int k)) => bndS f (fun d s1 => match d with
    | .int j => .nx ⟨s1.sl.set i (.val (.int (g k j))), s1.hp⟩
    | _ => .stuck) s
  | _ => .stuck
def copyL (fP : DM Plc) : DM Cell := bnd fP fun P s => match readP P s with
  | some (.lst xs) => .ok (.lst xs) s
  | _ => .stuck
end
end DP

set_option Elab.async false
set_option linter.all false
set_option maxRecDepth 100000
set_option maxHeartbeats 4000000
namespace DP
end DP
namespace SM
open PySem PySem.Spec PyProof.Rows L2
end SM
namespace L2
open PySem PySem.Spec PyProof.Rows SM
section
variable {X : Cx}
end
end L2
namespace DP
open PySem PySem.Spec PyProof.Rows L2
section
variable {X : Cx} {C : CT} {W : WX}
end
end DP

set_option Elab.async false
set_option linter.all false
set_option maxRecDepth 100000
set_option maxHeartbeats 4000000
namespace SM
open PySem PySem.Spec PyProof.Rows L2
end SM
namespace DP
end DP
namespace L2
open PySem PySem.Spec PyProof.Rows SM
section
variable {X : Cx}
end
end L2
namespace DP
open PySem PySem.Spec PyProof.Rows L2
section
variable {X : Cx} {C : CT} {W : WX}
end
end DP

set_option Elab.async false
set_option linter.all false
set_option maxRecDepth 100000
set_option maxHeartbeats 4000000
namespace L2
open PySem PySem.Spec PyProof.Rows
section
variable {X : Cx}
end
end L2
namespace DP
open PySem PySem.Spec PyProof.Rows L2
section
variable {X : Cx} {C : CT} {W : WX}
end
end DP

set_option Elab.async false
set_option linter.all false
set_option maxRecDepth 100000
set_option maxHeartbeats 4000000
namespace DP
open PySem PySem.Spec PyProof.Rows L2
section
variable {X : Cx} {C : CT} {W : WX}
end
end DP

set_option Elab.async false
set_option linter.all false
set_option maxRecDepth 100000
set_option maxHeartbeats 4000000
namespace DP
open PySem PySem.Spec PyProof.Rows L2
section
variable {X : Cx} {C : CT} {W : WX}
end
end DP

set_option Elab.async false
set_option linter.all false
set_option maxRecDepth 100000
set_option maxHeartbeats 4000000
namespace DP
open PySem PySem.Spec PyProof.Rows L2
def parS3 (i j l : Nat) (f : DM (List D)) : DS := bndS f fun ds s => match ds with
  | [d, e, g] => .nx ⟨((s.sl.set i (.val d)).set j (.val e)).set l (.val g), s.hp⟩
  | _ => .stuck
section
variable {X : Cx} {C : CT} {W : WX}
end
end DP

set_option Elab.async false
set_option linter.all false
set_option maxRecDepth 100000
set_option maxHeartbeats 4000000
namespace DP
open PySem PySem.Spec PyProof.Rows L2
structure ZSrc (P : Program) (w : World) (K : PySem.W.Frag) (it : Addr) (src : List Addr) (Gd : Hp → Prop) (xs : List V) (St : Nat → Heap → Prop) : Prop where
  obj : ∀ i h, St i h → ∃ o, h.get? it = some o ∧ ∀ v, o.data ≠ .cell v
  keep : ∀ i h h', St i h → (∀ o, h.get? it = some o → h'.get? it = some o) → St i h'
  draws : ∀ (X : Cx), X.prog = P → X.w = w → X.K = K → X.calm = true → ∀ (pins : List (Addr × Obj)) (s : Shared) (σ : L2.St) (H : Hp) (i : Nat), Inv X pins σ H s → Gd H → St i s.heap →
    ∃ (fp : List Addr) (Pv : Nat → Value → Prop) (St' : Nat → Heap → Prop), Draws P w X.A.in1 it fp xs.length Pv St' ∧ (∀ i v, Pv i v → ∃ x, xs[i]? = some x ∧ RelV x v) ∧
      it ∈ fp ∧ (∀ b ∈ fp, b = it ∨ b ∈ src) ∧ St' i s.heap ∧ ∀ i h, St' i h → St i h
structure Apart5 (z TI TO i1 i2 : Addr) (s1 s2 : List Addr) : Prop where
  TIz : TI ≠ z
  TOz : TO ≠ z
  TITO : TI ≠ TO
  TIi1 : TI ≠ i1
  TIi2 : TI ≠ i2
  zi1 : z ≠ i1
  zi2 : z ≠ i2
  TOi1 : TO ≠ i1
  TOi2 : TO ≠ i2
  i12 : i1 ≠ i2
  b1 : ∀ a ∈ s1, a ≠ z ∧ a ≠ TO ∧ a ≠ i2
  b2 : ∀ a ∈ s2, a ≠ z ∧ a ≠ TO ∧ a ≠ i1
theorem Apart5.sep {z TI TO i1 i2 : Addr} {s1 s2 fp1 fp2 : List Addr} (D : Apart5 z TI TO i1 i2 s1 s2) (m1 : i1 ∈ fp1) (m2 : i2 ∈ fp2) (h1 : ∀ b ∈ fp1, b = i1 ∨ b ∈ s1) (h2 : ∀ b ∈ fp2, b = i2 ∨ b ∈ s2) : ZipSep2 z TI TO i1 i2 fp1 fp2 where
  TIz := D.TIz
  TOz := D.TOz
  TITO := D.TITO
  TIi1 := D.TIi1
  mem1 := m1
  zf1 := fun h => (h1 _ h).elim D.zi1 fun h => (D.b1 _ h).1 rfl
  Tf1 := fun h => (h1 _ h).elim D.TOi1 fun h => (D.b1 _ h).2.1 rfl
  TIi2 := D.TIi2
  mem2 := m2
  zf2 := fun h => (h2 _ h).elim D.zi2 fun h => (D.b2 _ h).1 rfl
  Tf2 := fun h => (h2 _ h).elim D.TOi2 fun h => (D.b2 _ h).2.1 rfl
  sep1_2 := fun h => (h2 _ h).elim D.i12 fun h => (D.b2 _ h).2.2 rfl
  sep2_1 := fun h => (h1 _ h).elim (fun e => D.i12 e.symm) fun h => (D.b1 _ h).2.2 rfl
def zipL : List D → List D → List D
  | x :: xs, y :: ys => .tup [x, y] :: zipL xs ys
  | _, _ => []
section
variable {X : Cx} {C : CT} {W : WX} {G : Wd}
end
end DP

set_option Elab.async false
set_option linter.all false
set_option maxRecDepth 100000
set_option maxHeartbeats 4000000
namespace DP
open PySem PySem.Spec PyProof.Rows L2
section
variable {X : Cx} {C : CT} {W : WX}
def tupRM (f : DM D) : DM D := bnd f fun d s => match d with
  | .ref n => (match s.hp[n]? with
    | some (.lst xs) => .ok (.tup xs) s
    | _ => .stuck)
  | _ => .stuck
end
end DP

set_option Elab.async false
set_option linter.all false
set_option maxRecDepth 100000
set_option maxHeartbeats 4000000
namespace ZipAll
open PySem PySem.Spec PyProof.Rows L2
section
variable {prog : Program} {w : World} {A : Around} {E : Value → Shared → Prop} {s : Shared} {z TI TO T i1 i2 : Addr} {fp1 fp2 : List Addr} {n1 n2 i : Nat} {P1 P2 : Nat → Value → Prop} {St1 St2 : Nat → Heap → Prop} {a1 a2 : Value} {f : Bool} {oT : Obj}
theorem item_held {Q : Value → Shared → Prop} (S : ZipSep2 z TI TO i1 i2 fp1 fp2) (D1 : Draws prog w A i1 fp1 n1 P1 St1) (D2 : Draws prog w A i2 fp2 n2 P2 St2)
    (hz : IsZipHeld s.heap z TI TO T f) (hT : s.heap.get? T = some oT) (hTI : IsTupOf2 s.heap TI (.ref i1) (.ref i2)) (st1 : St1 i s.heap) (st2 : St2 i s.heap) (hlt1 : i < n1) (hlt2 : i < n2)
    (hQ : ∀ x1 x2 h' tk, P1 i x1 → P2 i x2 → IsZipHeld h' z TI TO T true → St1 (i + 1) h' → St2 (i + 1) h' → IsTupOf2 h' s.heap.objs.size x1 x2 →
      (∀ c o, c ≠ z → c ≠ i1 → c ≠ i2 → s.heap.get? c = some o → h'.get? c = some o) → Q (.ref s.heap.objs.size) { s with heap := h', toks := tk }) :
    wpAny (model prog w) A (Builtin.«zip.__next__» ⟨[.ref z], []⟩) (fun fin s' => ∃ v, fin = .done (.ret v) ∧ Q v s') E s := by
  obtain ⟨hp, g, d, tk0, os⟩ := s
  show wpAny _ _ (field (.ref z) 2 >>= _) _ _ _
  refine wpAny_bind (wpAny_field hz rfl (x := .bool false) rfl ?_); show wpAny _ _ (field (.ref z) 3 >>= _) _ _ _
  refine wpAny_bind (wpAny_field hz rfl (x := .ref TI) rfl ?_); refine wpAny_bind (wpAny_seqItems hTI rfl ?_)
  show wpAny _ _ (Builtin.SmallTypes.ownedTupleIsFree (.ref z) >>= _) _ _ ⟨hp, g, d, tk0, os⟩
  refine wpAny_bind (wpAny_tupleHeld_zip hz hT fun g0 hz0 hs0 => ?_); simp only [Bool.false_eq_true, if_false]
  replace hs0 : Heap.SameBut z hp g0 := hs0
  refine wpAny_bind ?_; rw [← Array.forIn_toList]
  simp only [List.forIn_cons, List.forIn_nil]; refine wpAny_bind (wpAny_bind (wpAny_holding ?_))
  show wpAny _ _ (Builtin.SmallTypes.nextOf (.ref i1) >>= _) _ _ (⟨g0, g, d, tk0, os⟩ : Shared)
  refine wpAny_bind (D1.item i _ _ _ hlt1 (D1.over st1 hs0 S.zf1) fun x1 p1 tk1 hx1 sn1 hp1 => wpAny_pure ?_)
  replace hp1 : Heap.SameBut i1 g0 p1 := hp1
  refine wpAny_pure ?_; refine wpAny_bind (wpAny_bind (wpAny_holding ?_))
  show wpAny _ _ (Builtin.SmallTypes.nextOf (.ref i2) >>= _) _ _ (⟨p1, g, d, tk1, os⟩ : Shared)
  refine wpAny_bind (D2.item i _ _ _ hlt2 (D2.over (D2.over st2 hs0 S.zf2) hp1 S.sep1_2) fun x2 p2 tk2 hx2 sn2 hp2 => wpAny_pure ?_)
  replace hp2 : Heap.SameBut i2 p1 p2 := hp2
  refine wpAny_pure (wpAny_pure ?_); show wpAny _ _ (newTuple [x1, x2] >>= _) _ _ _
  refine wpAny_bind (wpAny_newTuple ?_)
  have hsz : p2.objs.size = hp.objs.size := by rw [hp2.1, hp1.1, hs0.1]
  have hz2 : IsZipHeld p2 z TI TO T true := hp2.extBut _ _ S.zi2 (hp1.extBut _ _ S.zi1 hz0)
  have hk : ∀ c o, c ≠ z → c ≠ i1 → c ≠ i2 → hp.get? c = some o → p2.get? c = some o := fun c o c1 c2 c3 e => hp2.extBut _ _ c3 (hp1.extBut _ _ c2 (hs0.extBut _ _ c1 e))
  refine wpAny_pure ⟨_, rfl, ?_⟩; show Q (.ref p2.objs.size) ⟨_, g, d, tk2, os⟩
  have ht : IsTupOf2 (p2.push { cls := .type "tuple", data := .seq #[x1, x2] }) p2.objs.size x1 x2 := Heap.get?_push_size _ rfl
  have up : ∀ c o, p2.get? c = some o → (p2.push { cls := .type "tuple", data := .seq #[x1, x2] }).get? c = some o := fun c o e => Heap.get?_push_of_some _ e
  rw [hsz] at ht ⊢
  exact hQ x1 x2 _ tk2 hx1 hx2 (up _ _ hz2) (D1.frame _ _ _ (D1.over sn1 hp2 S.sep2_1) fun b _ o e => up b o e) (D2.frame _ _ _ sn2 fun b _ o e => up b o e) ht fun c o c1 c2 c3 e => up c o (hk c o c1 c2 c3 e)
theorem end_held {Q : Fin → Shared → Prop} (S : ZipSep2 z TI TO i1 i2 fp1 fp2) (D1 : Draws prog w A i1 fp1 n1 P1 St1) (D2 : Draws prog w A i2 fp2 n2 P2 St2)
    (hz : IsZipHeld s.heap z TI TO T f) (hT : s.heap.get? T = some oT) (hTI : IsTupOf2 s.heap TI (.ref i1) (.ref i2)) (st1 : St1 i s.heap) (st2 : St2 i s.heap) (hle1 : i ≤ n1) (hle2 : i ≤ n2) (hend : i = n1 ∨ i = n2)
    (hE : ∀ h' tk e, (∀ c o, c ≠ z → c ≠ i1 → c ≠ i2 → s.heap.get? c = some o → h'.get? c = some o) → (∃ o, h'.get? e = some o ∧ o.cls = .type "StopIteration") → E (.ref e) { s with heap := h', toks := tk }) :
    wpAny (model prog w) A (Builtin.«zip.__next__» ⟨[.ref z], []⟩) Q E s := by
  obtain ⟨hp, g, d, tk0, os⟩ := s
  show wpAny _ _ (field (.ref z) 2 >>= _) _ _ _
  refine wpAny_bind (wpAny_field hz rfl (x := .bool false) rfl ?_); show wpAny _ _ (field (.ref z) 3 >>= _) _ _ _
  refine wpAny_bind (wpAny_field hz rfl (x := .ref TI) rfl ?_); refine wpAny_bind (wpAny_seqItems hTI rfl ?_)
  show wpAny _ _ (Builtin.SmallTypes.ownedTupleIsFree (.ref z) >>= _) _ _ ⟨hp, g, d, tk0, os⟩
  refine wpAny_bind (wpAny_tupleHeld_zip hz hT fun g0 hz0 hs0 => ?_); simp only [Bool.false_eq_true, if_false]
  replace hs0 : Heap.SameBut z hp g0 := hs0
  refine wpAny_bind ?_; rw [← Array.forIn_toList]
  simp only [List.forIn_cons, List.forIn_nil]; refine wpAny_bind (wpAny_bind (wpAny_holding ?_))
  show wpAny _ _ (Builtin.SmallTypes.nextOf (.ref i1) >>= _) _ _ (⟨g0, g, d, tk0, os⟩ : Shared)
  by_cases hlt1 : i < n1
  · refine wpAny_bind (D1.item i _ _ _ hlt1 (D1.over st1 hs0 S.zf1) fun x1 p1 tk1 hx1 sn1 hp1 => wpAny_pure ?_)
    replace hp1 : Heap.SameBut i1 g0 p1 := hp1
    refine wpAny_pure ?_; refine wpAny_bind (wpAny_bind (wpAny_holding ?_))
    show wpAny _ _ (Builtin.SmallTypes.nextOf (.ref i2) >>= _) _ _ (⟨p1, g, d, tk1, os⟩ : Shared)
    have hi2 : i = n2 := by omega
    refine wpAny_bind (D2.done ⟨p1, g, d, tk1, os⟩ _ _ (by rw [← hi2]; exact D2.over (D2.over st2 hs0 S.zf2) hp1 S.sep1_2) fun q e hq he => ?_)
    replace hq : Heap.ExtBut i2 p1 q := hq
    exact hE q tk1 e (fun c o c1 c2 c3 x => hq _ _ c3 (hp1.extBut _ _ c2 (hs0.extBut _ _ c1 x))) he
  · have hi1 : i = n1 := by omega
    refine wpAny_bind (D1.done ⟨g0, g, d, tk0, os⟩ _ _ (by rw [← hi1]; exact D1.over st1 hs0 S.zf1) fun q e hq he => ?_)
    replace hq : Heap.ExtBut i1 g0 q := hq
    exact hE q tk0 e (fun c o c1 c2 c3 x => hq _ _ c2 (hs0.extBut _ _ c1 x)) he
theorem next_held {Q : Option Value → Shared → Prop} (S : ZipSep2 z TI TO i1 i2 fp1 fp2) (D1 : Draws prog w A.in1 i1 fp1 n1 P1 St1) (D2 : Draws prog w A.in1 i2 fp2 n2 P2 St2)
    (hz : IsZipHeld s.heap z TI TO T f) (hT : s.heap.get? T = some oT) (hTI : IsTupOf2 s.heap TI (.ref i1) (.ref i2)) (st1 : St1 i s.heap) (st2 : St2 i s.heap) (hlt1 : i < n1) (hlt2 : i < n2)
    (hQ : ∀ x1 x2 h' tk, P1 i x1 → P2 i x2 → IsZipHeld h' z TI TO T true → St1 (i + 1) h' → St2 (i + 1) h' → IsTupOf2 h' s.heap.objs.size x1 x2 →
      (∀ c o, c ≠ z → c ≠ i1 → c ≠ i2 → s.heap.get? c = some o → h'.get? c = some o) → Q (some (.ref s.heap.objs.size)) { s with heap := h', toks := tk }) : wpAny (model prog w) A (pyNext (.ref z)) Q E s := by
  have hTy : s.TypeIs (.ref z) "zip" := ⟨_, hz, rfl⟩
  unfold pyNext; exact wpAny_bind (wpAny_attempt (wpAny_callSpecial?_slot (name := Str.ofString "__next__") hTy F.slot_zip_next (wpAny_call_entry F.slot_zip_next hTy F.entry_zip_next
    (item_held S D1 D2 hz hT hTI st1 st2 hlt1 hlt2 fun x1 x2 h' tk y1 y2 b1 d1 d2 b5 b7 => wpAny_pure (hQ x1 x2 h' tk y1 y2 b1 d1 d2 b5 b7)) (F.args_zip_next_1 _))))
theorem stop_held {Q : Option Value → Shared → Prop} (S : ZipSep2 z TI TO i1 i2 fp1 fp2) (D1 : Draws prog w A.in1 i1 fp1 n1 P1 St1) (D2 : Draws prog w A.in1 i2 fp2 n2 P2 St2)
    (hz : IsZipHeld s.heap z TI TO T f) (hT : s.heap.get? T = some oT) (hTI : IsTupOf2 s.heap TI (.ref i1) (.ref i2)) (st1 : St1 i s.heap) (st2 : St2 i s.heap) (hle1 : i ≤ n1) (hle2 : i ≤ n2) (hend : i = n1 ∨ i = n2)
    (hQ : ∀ h' tk, (∀ c o, c ≠ z → c ≠ i1 → c ≠ i2 → s.heap.get? c = some o → h'.get? c = some o) → Q none { s with heap := h', toks := tk }) : wpAny (model prog w) A (pyNext (.ref z)) Q E s := by
  have hTy : s.TypeIs (.ref z) "zip" := ⟨_, hz, rfl⟩
  unfold pyNext; refine wpAny_bind (wpAny_attempt (wpAny_callSpecial?_slot (name := Str.ofString "__next__") hTy F.slot_zip_next (wpAny_call_entry F.slot_zip_next hTy F.entry_zip_next
    (end_held S D1 D2 hz hT hTI st1 st2 hle1 hle2 hend fun h' tk e hk ⟨o, ho, hc⟩ => ?_) (F.args_zip_next_1 _))))
  refine wpAny_bind (wpAny_isInstance (T := "StopIteration") (b := true) ⟨o, ho, hc⟩ isSubtype_stop ?_); exact wpAny_pure (hQ _ _ hk)
end
def Got (n0 : Nat) (P1 P2 : Nat → Value → Prop) (bad : List Addr) (acc : Array Value) (i : Nat) (h : Heap) : Prop :=
  acc.size = i ∧ (∀ j, j < i → ∃ T x1 x2, acc[j]? = some (.ref T) ∧ IsTupOf2 h T x1 x2 ∧ P1 j x1 ∧ P2 j x2 ∧ T ∉ bad ∧ n0 ≤ T) ∧ ∀ j j', j < i → j' < i → acc[j]? = acc[j']? → j = j'
theorem Got.at {n0 : Nat} {P1 P2 : Nat → Value → Prop} {bad : List Addr} {acc : Array Value} {i : Nat} {h h' : Heap} (g : Got n0 P1 P2 bad acc i h) (k : ∀ b o, b ∉ bad → h.get? b = some o → h'.get? b = some o) : Got n0 P1 P2 bad acc i h' :=
  ⟨g.1, fun j hj => let ⟨T, x1, x2, e, ht, p1, p2, nb, le⟩ := g.2.1 j hj; ⟨T, x1, x2, e, k _ _ nb ht, p1, p2, nb, le⟩, g.2.2⟩
theorem Got.push {n0 : Nat} {P1 P2 : Nat → Value → Prop} {bad : List Addr} {acc : Array Value} {i : Nat} {h : Heap} {T : Addr} {x1 x2 : Value} (g : Got n0 P1 P2 bad acc i h) (ht : IsTupOf2 h T x1 x2) (p1 : P1 i x1) (p2 : P2 i x2) (nb : T ∉ bad) (le : n0 ≤ T) (new : ∀ j, j < i → acc[j]? ≠ some (.ref T)) : Got n0 P1 P2 bad (acc.push (.ref T)) (i + 1) h := by
  have old : ∀ j, j < i → (acc.push (.ref T))[j]? = acc[j]? := fun j hj => by rw [Array.getElem?_push, if_neg (by rw [g.1]; omega)]
  have here : (acc.push (.ref T))[i]? = some (.ref T) := by rw [Array.getElem?_push, if_pos g.1.symm]
  refine ⟨by rw [Array.size_push, g.1], fun j hj => ?_, fun j j' hj hj' e => ?_⟩
  · by_cases hji : j = i
    · subst hji
      exact ⟨T, x1, x2, here, ht, p1, p2, nb, le⟩
    · obtain ⟨T', y1, y2, e, r⟩ := g.2.1 j (by omega)
      exact ⟨T', y1, y2, (old j (by omega)).trans e, r⟩
  · by_cases hji : j = i
    · by_cases hji' : j' = i
      · rw [hji, hji']
      · rw [hji, here, old j' (by omega)] at e
        exact absurd e.symm (new j' (by omega))
    · by_cases hji' : j' = i
      · rw [hji', here, old j (by omega)] at e
        exact absurd e (new j (by omega))
      · rw [old j (by omega), old j' (by omega)] at e
        exact g.2.2 j j' (by omega) (by omega) e
def Zst (z TI TO i1 i2 L : Addr) (St1 St2 : Nat → Heap → Prop) (i : Nat) (h : Heap) : Prop :=
  IsTupOf2 h TI (.ref i1) (.ref i2) ∧ St1 i h ∧ St2 i h ∧ ((IsZip h z TI TO .none ∧ ∃ a b, IsTupOf2 h TO a b) ∨ ∃ T f oT, IsZipHeld h z TI TO T f ∧ h.get? T = some oT ∧ T ≠ z ∧ T ≠ TO ∧ T ≠ i1 ∧ T ≠ i2 ∧ T ≠ L ∧ ∃ oO, h.get? TO = some oO)
structure Kept (bad : List Addr) (s s' : Shared) : Prop where
  heap : ∀ b o, b ∉ bad → s.heap.get? b = some o → s'.heap.get? b = some o
  gens : s'.gens = s.gens
  drawn : s'.drawn = s.drawn
  os : s'.os = s.os
section
variable {prog : Program} {w : World} {z TI TO i1 i2 L : Addr} {fp1 fp2 : List Addr} {n1 n2 : Nat} {P1 P2 : Nat → Value → Prop} {St1 St2 : Nat → Heap → Prop}
theorem loop (S : ZipSep2 z TI TO i1 i2 fp1 fp2) (D1 : ∀ A : Around, A.handled = none → Draws prog w A i1 fp1 n1 P1 St1) (D2 : ∀ A : Around, A.handled = none → Draws prog w A i2 fp2 n2 P2 St2) (hn : min n1 n2 ≤ sizeLine)
    (nL : L ≠ z ∧ L ≠ TI ∧ L ≠ TO ∧ L ∉ fp1 ∧ L ∉ fp2) (res : Value) (n0 : Nat) : ∀ (k i : Nat) (A : Around) (R : Result → Shared → Prop) (s : Shared) (acc : Array Value) (c : Nat), A.handled = none → n0 ≤ s.heap.objs.size → min n1 n2 - i = k → i ≤ min n1 n2 → Zst z TI TO i1 i2 L St1 St2 i s.heap →
    s.heap.get? L = some { cls := .type "list", dict := none, data := .seq acc c, slots := #[] } → Got n0 P1 P2 [L, z, TO, i1, i2] acc i s.heap →
    (∀ s' acc' c', Kept [L, z, TO, i1, i2] s s' → s'.heap.get? L = some { cls := .type "list", dict := none, data := .seq acc' c', slots := #[] } → Got n0 P1 P2 [L, z, TO, i1, i2] acc' (min n1 n2) s'.heap → R (.ok (.ret res)) s') →
    codeAny (model prog w) A (.builtin "list.extend.loop" ⟨[.ref L, .ref z, res], []⟩) R s := by
  obtain ⟨nz, nTI, nTO, nf1, nf2⟩ := nL
  have ni1 : L ≠ i1 := fun e => nf1 (e ▸ S.mem1)
  have ni2 : L ≠ i2 := fun e => nf2 (e ▸ S.mem2)
  intro k
  induction k with
  | zero =>
    intro i A R s acc c hh hsz0 hk hi st hL got hR
    have hin : i = min n1 n2 := by omega
    obtain ⟨hTI, s1, s2, hz⟩ := st
    refine codeAny_builtin F.entry_extend_loop ?_; rw [Around.under_plainId F.plain_extend_loop _]
    show wpAny _ A.in1 (pyNext (.ref z) >>= _) _ _ s
    have fin : ∀ h' tk, (∀ b o, b ≠ z → b ≠ TO → b ≠ i1 → b ≠ i2 → s.heap.get? b = some o → h'.get? b = some o) → R (.ok (.ret res)) { s with heap := h', toks := tk } := fun h' tk hk' =>
      hR _ acc c ⟨fun b o nb e => hk' b o (fun q => nb (by simp [q])) (fun q => nb (by simp [q])) (fun q => nb (by simp [q])) (fun q => nb (by simp [q])) e, rfl, rfl, rfl⟩ (hk' _ _ nz nTO ni1 ni2 hL)
        (hin ▸ got.at fun b o nb e => hk' b o (fun q => nb (by simp [q])) (fun q => nb (by simp [q])) (fun q => nb (by simp [q])) (fun q => nb (by simp [q])) e)
    rcases hz with ⟨hz, a, b, hTO⟩ | ⟨T, f, oT, hz, hT, r⟩
    · exact wpAny_bind (wpAny_pyNext_zipD2_end S (D1 _ hh) (D2 _ hh) hz hTI hTO s1 s2 (by omega) (by omega) (by omega) fun h' tk hk' => wpAny_pure (fin h' tk hk'))
    · exact wpAny_bind (stop_held S (D1 _ hh) (D2 _ hh) hz hT hTI s1 s2 (by omega) (by omega) (by omega) fun h' tk hk' => wpAny_pure (fin h' tk fun b o c1 _ c3 c4 e => hk' b o c1 c3 c4 e))
  | succ k ih =>
    intro i A R s acc c hh hsz0 hk hi st hL got hR
    obtain ⟨hTI, s1, s2, hz⟩ := st
    refine codeAny_builtin F.entry_extend_loop ?_; rw [Around.under_plainId F.plain_extend_loop _]
    show wpAny _ A.in1 (pyNext (.ref z) >>= _) _ _ s
    have lt : ∀ {c o}, s.heap.get? c = some o → s.heap.objs.size ≠ c := fun e => Nat.ne_of_gt (Heap.lt_size e)
    have m1 : s.heap.objs.size ≠ i1 := by obtain ⟨_, e⟩ := (D1 A hh).live _ _ s1; exact lt e
    have m2 : s.heap.objs.size ≠ i2 := by obtain ⟨_, e⟩ := (D2 A hh).live _ _ s2; exact lt e
    have mz : s.heap.objs.size ≠ z := by rcases hz with ⟨e, _⟩ | ⟨_, _, _, e, _⟩ <;> exact lt e
    have go : ∀ (x1 x2 : Value) (h' : Heap) (tk : Nat), s.heap.objs.size ≠ TO → P1 i x1 → P2 i x2 → St1 (i + 1) h' → St2 (i + 1) h' → IsTupOf2 h' s.heap.objs.size x1 x2 → (∀ b o, b ≠ z → b ≠ TO → b ≠ i1 → b ≠ i2 → s.heap.get? b = some o → h'.get? b = some o) →
        (∃ T f oT, IsZipHeld h' z TI TO T f ∧ h'.get? T = some oT ∧ T ≠ z ∧ T ≠ TO ∧ T ≠ i1 ∧ T ≠ i2 ∧ T ≠ L ∧ ∃ oO, h'.get? TO = some oO) →
        wpAny (model prog w) A.in1 (updateSeq L (·.push (.ref s.heap.objs.size)) >>= fun _ => again (.builtin "list.extend.loop" ⟨[.ref L, .ref z, res], []⟩)) (fun fin s' => match fin with | .done f => R (.ok f) s' | .again c' => c'.quiet = true ∧ codeAny (model prog w) A c' R s') (fun e s' => R (.error e) s') { s with heap := h', toks := tk } := by
      intro x1 x2 h' tk mO p1 p2 t1 t2 ht hk' hzh
      obtain ⟨T, f, oT, hz', hT', r1, r2, r3, r4, r5, oO, hO⟩ := hzh
      have hL' : h'.get? L = some { cls := .type "list", dict := none, data := .seq acc c, slots := #[] } := hk' _ _ nz nTO ni1 ni2 hL
      have mL : s.heap.objs.size ≠ L := lt hL
      have bad : s.heap.objs.size ∉ [L, z, TO, i1, i2] := by simp [mL, mz, mO, m1, m2]
      have got' : Got n0 P1 P2 [L, z, TO, i1, i2] (acc.push (.ref s.heap.objs.size)) (i + 1) h' := Got.push (got.at fun b o nb e => hk' b o (fun q => nb (by simp [q])) (fun q => nb (by simp [q])) (fun q => nb (by simp [q])) (fun q => nb (by simp [q])) e) ht p1 p2 bad hsz0 fun j hj e => by
        obtain ⟨T0, _, _, e0, ht0, _⟩ := got.2.1 j hj
        rw [e0] at e
        exact absurd (Value.ref.inj (Option.some.inj e)) (fun q => Nat.lt_irrefl _ (q ▸ Heap.lt_size ht0))
      have up : ∀ b o, b ≠ L → h'.get? b = some o → (h'.update L (Obj.mapSeq (·.push (.ref s.heap.objs.size)))).get? b = some o := fun b o nb e => (Heap.get?_update_other _ _ (Ne.symm nb)).trans e
      refine wpAny_bind (wpAny_updateSeq hL' rfl (wpAny_pure ⟨plainId_quiet F.plain_extend_loop _, ih (i + 1) A R _ (acc.push (.ref s.heap.objs.size)) _ hh (Nat.le_trans hsz0 (Nat.le_trans (Nat.le_of_lt (Heap.lt_size ht)) (by simp))) (by omega) (by omega) ⟨up _ _ (Ne.symm nTI) (hk' _ _ S.TIz S.TITO S.TIi1 S.TIi2 hTI), (D1 A hh).frame _ _ _ t1 fun b hb o e => up b o (fun q => nf1 (q ▸ hb)) e, (D2 A hh).frame _ _ _ t2 fun b hb o e => up b o (fun q => nf2 (q ▸ hb)) e, .inr ⟨T, f, oT, up _ _ (Ne.symm nz) hz', up _ _ r5 hT', r1, r2, r3, r4, r5, oO, up _ _ (Ne.symm nTO) hO⟩⟩ (Heap.get?_update_self _ hL' rfl)
        (got'.at fun b o nb e => up b o (fun q => nb (by simp [q])) e) fun s'' acc' c' kp hL'' gt => hR s'' acc' c' ⟨fun b o nb e => kp.heap b o nb (up b o (fun q => nb (by simp [q])) (hk' b o (fun q => nb (by simp [q])) (fun q => nb (by simp [q])) (fun q => nb (by simp [q])) (fun q => nb (by simp [q])) e)), kp.gens, kp.drawn, kp.os⟩ hL'' gt⟩)
        (by rw [got.1]; omega) (by show (acc.push _).size ≤ sizeLine + 1; rw [Array.size_push, got.1]; omega))
    rcases hz with ⟨hz, a, b, hTO⟩ | ⟨T, f, oT, hz, hT, r1, r2, r3, r4, r5, oO, hO⟩
    · refine wpAny_bind (wpAny_pyNext_zipD2_item S (D1 _ hh) (D2 _ hh) hz hTI hTO s1 s2 (by omega) (by omega) fun x1 x2 h' tk y1 y2 b1 b2 d1 d2 b5 _ hk' => ?_)
      exact go x1 x2 h' tk (lt hTO) y1 y2 d1 d2 b5 hk' ⟨_, false, _, b1, b5, mz, lt hTO, m1, m2, lt hL, _, b2⟩
    · refine wpAny_bind (next_held S (D1 _ hh) (D2 _ hh) hz hT hTI s1 s2 (by omega) (by omega) fun x1 x2 h' tk y1 y2 b1 d1 d2 b5 hk' => ?_)
      exact go x1 x2 h' tk (lt hO) y1 y2 d1 d2 b5 (fun b o c1 _ c3 c4 e => hk' b o c1 c3 c4 e) ⟨T, true, oT, b1, hk' _ _ r1 r3 r4 hT, r1, r2, r3, r4, r5, oO, hk' _ _ S.TOz S.Ti1 S.Ti2 hO⟩
end
end ZipAll
namespace DP
open PySem PySem.Spec PyProof.Rows L2 ZipAll
section
variable {X : Cx} {C : CT} {W : WX}
end
end DP

set_option Elab.async false
set_option linter.all false
set_option maxRecDepth 100000
set_option maxHeartbeats 4000000
namespace UnT
open PySem PySem.Spec PyProof.Rows L2
section
variable {P : Program} {w : World} {A : Around} {E : Value → Shared → Prop} {I : Addr} {fp wr : List Addr} {n : Nat} {Pv : Nat → Value → Prop} {St : Nat → Heap → Prop}
theorem drawn (W : Walks P w A I fp wr n Pv St) : ∀ (m i : Nat) (s : Shared) (Q : List Value → Shared → Prop), i + m ≤ n → St i s.heap →
    (∀ h' tk (vs : List Value), (∀ b o, b ∉ wr → s.heap.get? b = some o → h'.get? b = some o) → vs.length = m → (∀ (j : Nat) (v : Value), vs[j]? = some v → Pv (i + j) v) → St (i + m) h' → Q vs { s with heap := h', toks := tk }) → wpAny (model P w) A (draw (.ref I) m) Q E s
  | 0, i, s, Q, _, st, hQ => wpAny_pure (hQ s.heap s.toks [] (fun _ _ _ e => e) rfl (fun j v e => by simp at e) st)
  | m + 1, i, s, Q, hle, st, hQ => by
    show wpAny _ _ (pyNext (.ref I) >>= _) Q E s
    refine wpAny_bind (W.item i s _ _ (by omega) st fun v h1 t1 p1 st1 k1 => ?_)
    refine wpAny_bind (wpAny_holding (drawn W m (i + 1) _ _ (by omega) st1 fun h2 t2 vs k2 hl hp st2 => wpAny_pure ?_))
    refine hQ h2 t2 (v :: vs) (fun b o nb e => k2 b o nb (k1 b o nb e)) (by rw [List.length_cons, hl]) (fun j u e => ?_) (by rw [show i + (m + 1) = i + 1 + m by omega]; exact st2)
    cases j with
    | zero => cases e; exact p1
    | succ j => rw [show i + (j + 1) = i + 1 + j by omega]; exact hp j u (by simpa using e)
end
section
variable {P : Program} {w : World} {A : Around} {E : Value → Shared → Prop} {s : Shared}
end
end UnT
namespace DP
open PySem PySem.Spec PyProof.Rows L2
section
variable {X : Cx} {C : CT} {W : WX}
end
end DP

set_option Elab.async false
set_option linter.all false
set_option maxRecDepth 100000
set_option maxHeartbeats 4000000
namespace DP
open PySem PySem.Spec PyProof.Rows L2
section
variable {X : Cx} {C : CT} {W : WX}
end
end DP
namespace DP
open PySem PySem.Spec PyProof.Rows L2
structure PairX where
  at_ : Addr
  ks : List Key
  key : Addr
  v : V
section
variable {X : Cx} {C : CT} {W : WX}
end
end DP
namespace DP
open PySem PySem.Spec PyProof.Rows L2
section
variable {X : Cx} {C : CT} {W : WX}
end
end DP
namespace DP
open PySem L2
end DP

set_option Elab.async false
set_option linter.all false
set_option maxRecDepth 100000
set_option maxHeartbeats 4000000
namespace DP
open PySem PySem.Spec PySem.Calls PyProof.Rows L2 PySem.W He

theorem XB.base : ∀ b : XB, ExcBaseFacts b.B b.new b.ini b.bm
  | .ve => F.excBase_ValueError
  | .le => F.excBase_LookupError
  | .ae => F.excBase_ArithmeticError
theorem XB.kxs : ∀ b : XB, KxsFacts b.B b.ini
  | .ve => kxs_ValueError
  | .le => kxs_LookupError
  | .ae => kxs_ArithmeticError
theorem XB.sto : ∀ b : XB, StoreFacts b.B b.bm "object.__setattr__" "object"
  | .ve => F.store_ValueError
  | .le => F.store_LookupError
  | .ae => F.store_ArithmeticError


structure XI (P : Program) (K : PySem.W.Frag) (mg : Str → Option Value) (b : XB) (C : Addr) (f : Str) : Prop where
  ok : xinitB K b C f P.main.file = true
  sup : mg ("super" : Str) = none
  top : (P.main.scope.names.lookup ("super" : Str)).isSome = false
  fin : f = ("given" : Str) ∨ f = ("index" : Str) ∨ f = ("limit" : Str)
theorem clsIn_any {K : PySem.W.Frag} {C : Addr} (h : (clsIn K C).isSome = true) : ∃ cd, clsIn K C = some cd := Option.isSome_iff_exists.mp h

theorem xins1 {h : Heap} {dx : Addr} {f : Str} {u : Value} {hs : Int} {tk : Tok} {n : Nat} (e : h.get? dx = some (PySem.W.dictOf [⟨hs, .str f tk, u⟩] n)) : h.Ns1 dx (fun y => if y = f then some u else none) := by
  refine ⟨_, _, _, e, rfl, ?_, ?_, fun y => ?_⟩
  · intro x hx
    obtain rfl : x = ⟨hs, .str f tk, u⟩ := by simpa using hx
    exact ⟨f, tk, rfl⟩
  · show List.Pairwise _ [_]
    exact List.pairwise_singleton _ _
  · by_cases hy : y = f
    · subst hy
      simp [nsFind, findBy, Value.isStr]
    · have hy' : ¬ f = y := fun z => hy z.symm
      simp [nsFind, findBy, Value.isStr, hy, hy']

abbrev xbd (f : Str) (p0 p1 p2 p3 p4 p5 p6 p7 p8 p9 : Pos) : List Stmt :=
  [.Expr (.Call (.Attribute (.Call (.Name "super" p0) [] [] p1) "__init__" p2) [.Name f p3] [] p4) p5, .Assign [.Attribute (.Name "self" p6) f p7] (.Name f p8) p9]
theorem xbody_of {f : Str} {bd : List Stmt} (h : xbodyB f bd = true) : ∃ p0 p1 p2 p3 p4 p5 p6 p7 p8 p9, p2.endLine = p4.line ∧ bd = xbd f p0 p1 p2 p3 p4 p5 p6 p7 p8 p9 := by
  unfold xbodyB at h
  split at h
  · simp only [Bool.and_eq_true, decide_eq_true_eq] at h
    obtain ⟨hl, rfl, rfl, rfl, rfl, rfl, rfl⟩ := h
    exact ⟨_, _, _, _, _, _, _, _, _, _, hl, rfl⟩
  · cases h
theorem xpar_of {f : Str} {ps : Arguments} (h : xparB f ps = true) : ∃ n1 n2 q1 q2, ps = ⟨[], [⟨"self", n1, q1⟩, ⟨f, n2, q2⟩], none, [], [], none, []⟩ := by
  unfold xparB at h
  split at h
  · rename_i a b
    obtain ⟨a1, a2, a3⟩ := a
    obtain ⟨b1, b2, b3⟩ := b
    simp only [Bool.and_eq_true, decide_eq_true_eq] at h
    obtain ⟨rfl, rfl⟩ := h
    exact ⟨_, _, _, _, rfl⟩
  · cases h
theorem xfn_of {K : PySem.W.Frag} {C fI : Addr} {f file : Str} (h : xfnB K C fI f file = true) : ∃ oc od osl nm q n1 n2 q1 q2 sc kV doc pm an cdv ct cc p0 p1 p2 p3 p4 p5 p6 p7 p8 p9,
    K.lookup fI = some ⟨oc, od, .func (ksFn nm q ⟨[], [⟨"self", n1, q1⟩, ⟨f, n2, q2⟩], none, [], [], none, []⟩ (xbd f p0 p1 p2 p3 p4 p5 p6 p7 p8 p9) sc .none kV doc pm an cdv ct cc), osl⟩ ∧ p2.endLine = p4.line ∧
    codeIn K cdv q = true ∧ xfileB K cdv file = true ∧ xcellB K cc C = true ∧ xscB f sc = true := by
  unfold xfnB at h
  split at h
  · rename_i oc od nm q ps bd sc gl k cc dV kV doc pm an cdv ct bl osl e
    simp only [Bool.and_eq_true, decide_eq_true_eq] at h
    obtain ⟨rfl, rfl, rfl, rfl, h1, h2, h3, h4, h5, h6⟩ := h
    obtain ⟨n1, n2, q1, q2, rfl⟩ := xpar_of h5
    obtain ⟨p0, p1, p2, p3, p4, p5, p6, p7, p8, p9, hl, rfl⟩ := xbody_of h6
    exact ⟨oc, od, osl, nm, q, n1, n2, q1, q2, sc, kV, doc, pm, an, cdv, ct, cc, p0, p1, p2, p3, p4, p5, p6, p7, p8, p9, e, hl, h1, h2, h3, h4⟩
  · cases h
theorem xfile_of {K : PySem.W.Frag} {cdv : Value} {file : Str} (h : xfileB K cdv file = true) : ∃ (c : Addr) (ccl : Value) (cdd : Option Addr) (ccs : Array (Option Value)) (vs : Array Value) (fl : Str) (tf : Tok), cdv = .ref c ∧ K.lookup c = some ⟨ccl, cdd, .fields vs, ccs⟩ ∧ vs[2]? = some (.str fl tf) ∧ (file == fl) = true := by
  unfold xfileB at h
  split at h
  · split at h
    · rename_i o1 o2 vs o3 e
      split at h
      · rename_i n t e2
        exact ⟨_, _, _, _, _, _, _, rfl, e, e2, h⟩
      · cases h
    · cases h
  · cases h
theorem xcell_of {K : PySem.W.Frag} {cc C : Addr} (h : xcellB K cc C = true) : ∃ (cl : Value) (cld : Option Addr) (csl : Array (Option Value)), K.lookup cc = some ⟨cl, cld, .cell (some (.ref C)), csl⟩ := by
  unfold xcellB at h
  split at h
  · rename_i o1 o2 D o3 e
    obtain rfl := of_decide_eq_true h
    exact ⟨_, _, _, e⟩
  · cases h
theorem xbinds {s : Shared} {nm q : Str} {f : Str} {n1 n2 : Option Expr} {q1 q2 : Pos} {bd : List Stmt} {sc : Scope} {kV doc pm : Value} {an : Option Addr} {cdv ct : Value} {cc : Addr} {a u : Value} (fin : f = ("given" : Str) ∨ f = ("index" : Str) ∨ f = ("limit" : Str)) :
    BindsTo s (ksFn nm q ⟨[], [⟨"self", n1, q1⟩, ⟨f, n2, q2⟩], none, [], [], none, []⟩ bd sc .none kV doc pm an cdv ct cc) ⟨[a, u], []⟩ [("self", a), (f, u)] := by
  rcases fin with rfl | rfl | rfl <;> exact BindsTo.of_eq rfl

theorem x_eval {o : Expr} {name f : Str} {p2 p3 p4 : Pos} {env : Env} (h : p2.endLine = p4.line) : eval (.Call (.Attribute o name p2) [.Name f p3] [] p4) env = (do
      let ov ← attributeBase o name env (eval o env)
      standAt p2.atName
      let (fn, first) ← holding [ov] (getMethod ov name (do return (← importBound o env).getD true))
      callWith p4 fn first (backTo p4 (starEach [.Name f p3] env)) []) := by
  have e : methodCallPos true o env p2 p4 = pure p4 := by
    unfold methodCallPos
    rw [h]
    simp
  show (do
    let ov ← attributeBase o name env (eval o env)
    standAt p2.atName
    let (fn, first) ← holding [ov] (getMethod ov name (do return (← importBound o env).getD true))
    let callPos ← methodCallPos true o env p2 p4
    callWith callPos fn first (backTo p4 (starEach [.Name f p3] env)) []) = _
  rw [e]
  rfl

section
variable {P : Program} {w : World} {A : Around} {E : Value → Shared → Prop} {s : Shared} {K : PySem.W.Frag} {mg : Str → Option Value} {b : XB} {C L : Addr} {f : Str} {h₀ : Heap} {m : Str → Option Value} {u : Value}

theorem x_node {body : List Stmt} {q : Str} {scope : Scope} {p0 p1 : Pos} {attr : Str} {whole : Sem Value} {fd : FuncData} {ar : Arg} {vs : Array Value} {file : Str} {tf : Tok} {oc ccl cl : Value} {od cdd cld : Option Addr} {osl ccs csl : Array (Option Value)} {cdD : ClassData}
    {fI x C D cc cda : Addr} {ox : Obj} {odx : Option Obj} {news : List (Addr × Obj)} {Q : Value → Shared → Prop}
    (F : Fr h₀ L s.heap m) (M : Mod K mg h₀) (N : News h₀ L s.heap news)
    (hf : K.lookup fI = some ⟨oc, od, .func fd, osl⟩) (hp : (fd.params.posonlyargs ++ fd.params.args).head? = some ar) (hv : m ar.arg = some (.ref x)) (I : InstAt s.heap x ox C odx)
    (hcode : K.lookup cda = some ⟨ccl, cdd, .fields vs, ccs⟩) (hvs : vs[2]? = some (.str file tf)) (hfile : ((P.main.file : Str) == file) = true)
    (hcell : K.lookup cc = some ⟨cl, cld, .cell (some (.ref D)), csl⟩) (hD : clsIn K D = some cdD) (hsub : mroIn K C (.ref D) = some true) (hsuper : mg ("super" : Str) = none)
    (hat : (attr == ("__class__" : Str)) = false) (hks : scope.names.lookup ("super" : Str) = some .globalImplicit) (hkc : scope.names.lookup ("__class__" : Str) = some .free) (hka : scope.names.lookup ar.arg = some .local) (hk : scope.kind = .function)
    (htop : (P.main.scope.names.lookup ("super" : Str)).isSome = false) (hboot : bootBuiltins "super" = some (.type "super"))
    (h : ∀ so h', Fr h₀ L h' m → News h₀ L h' ((so, ks_superObj D x C) :: news) → (∀ p ∈ news, p.1 < so) → Q (.ref so) { s with heap := h' }) :
    _root_.PySem.wpAt (model P w) A (.func body (ksEnv q scope L fI (.ref cda) cc)) (attributeBase (.Call (.Name "super" p0) [] [] p1) attr (ksEnv q scope L fI (.ref cda) cc) whole) Q E s := by
  have X : K.In s.heap := M.kin.keeps F.keep
  obtain ⟨mb, hmb, hbb⟩ := M.blt
  obtain ⟨hh, g, d, t, os⟩ := s
  obtain ⟨oD, hD1, hD2⟩ : ∃ oD, hh.get? D = some oD ∧ oD.data = .cls cdD := by
    unfold clsIn at hD
    split at hD
    · rename_i c d cd' sl ho
      cases hD
      exact ⟨_, X _ _ ho, rfl⟩
    · cases hD
  refine ks_wpAt_super_base (env := ksEnv q scope L fI (.ref cda) cc) hks hkc hat rfl (X _ _ hf) rfl hp rfl (X _ _ hcode) rfl hvs hfile htop ?_
  refine ks_loadName_global hk hks (Calls.loadGlobal_builtin (env := ksEnv q scope L fI (.ref cda) cc) (M.glob.keeps F.keep) hsuper (hmb.keeps F.keep) ((hbb _ (by decide +kernel)).trans hboot) ⟨rfl, ?_⟩)
  refine wpAny_loadName_free hk hkc rfl ⟨_, X _ _ hcell, rfl⟩ ?_
  refine wpAny_loadName_local hk hka F.ns hv ?_
  refine ks_wpAny_isType_cls hD1 hD2 ⟨rfl, ?_⟩
  refine ks_wpAny_call_super hD1 hD2 I.at_ I.cls (fun c e => ?_) (looks_mroIn X hsub) (fun h' e k => ?_)
  · have := I.no
    unfold notCls at this
    rw [e] at this
    exact Bool.noConfusion this
  · obtain ⟨F', N', l'⟩ := ks_newsPush (s := ⟨hh, g, d, t, os⟩) F N rfl e k
    exact h _ _ F' N' l'

theorem x_call {Q : Value → Shared → Prop} (T : XI P K mg b C f) (M : Mod K mg h₀) (F : Fr h₀ L s.heap m) (hroom : (A.under (.builtin "type.__call__" ⟨.ref C :: [u], []⟩)).depth < recursionLimit)
    (h : ∀ (e t dx : Addr) (hs : Int) (tk' : Tok) (n : Nat) (h' : Heap) (tk : Nat), (∀ c o, s.heap.get? c = some o → h'.get? c = some o) → s.heap.get? e = none → s.heap.get? dx = none → s.heap.objs.size ≤ e → s.heap.objs.size ≤ dx → e ≠ dx →
      h'.get? e = some (excObj C t (some dx) .none) → h'.get? dx = some (PySem.W.dictOf [⟨hs, .str f tk', u⟩] n) → Q (.ref e) { s with heap := h', toks := tk }) :
    wpAny (model P w) A (call (.ref C) [u]) Q E s := by
  have ok := T.ok
  unfold xinitB at ok
  simp only [Bool.and_eq_true] at ok
  obtain ⟨o1, o2, o3, o4, o5, o6, o7, o8, o9, o10, o11, o12, o13, o14, o15, o16⟩ := ok
  obtain ⟨cdD, hcdD⟩ := clsIn_any o15
  obtain ⟨oc, od, osl, nm, q, n1, n2, q1, q2, sc, kV, doc, pm, an, cdv, ct, cc, p0, p1, p2, p3, p4, p5, p6, p7, p8, p9, efn, hln, ecd, efl, ece, esc⟩ := xfn_of o16
  obtain ⟨cda, ccl, cdd, ccs, vs, fl, tf, rfl, ecode, evs, efile⟩ := xfile_of efl
  obtain ⟨cl, cld, csl, ecell⟩ := xcell_of ece
  unfold xscB at esc
  simp only [Bool.and_eq_true, decide_eq_true_eq] at esc
  obtain ⟨k1, k2, k3, k4, k5, k6, k7, k8⟩ := esc
  have fdbg : (f == ("__debug__" : Str)) = false := by rcases T.fin with rfl | rfl | rfl <;> decide
  have fself : f ≠ ("self" : Str) := by rcases T.fin with rfl | rfl | rfl <;> decide
  obtain ⟨mb, hmb, hboot⟩ := M.blt
  have X := M.kin.keeps F.keep
  obtain ⟨nm', N', qn', bs', bm', hdct', sn', sub', ab', col', dd', c0, c1, c2, c3, c5, hC, hT⟩ := excInit_of X o1
  obtain ⟨oI, hoI, hcI⟩ : ∃ oI, s.heap.get? (ma K C "__init__") = some oI ∧ oI.cls = .type "function" := by
    obtain ⟨o, ho, hc⟩ := Option.map_eq_some_iff.mp (show (K.lookup (ma K C "__init__")).map (·.cls) = some (.type "function") from beq_iff_eq.mp o7)
    exact ⟨o, X _ _ ho, hc⟩
  have hi' := looks_findIn (M := model P w) X (eqO_ok o6)
  obtain ⟨hp, g, d, tk, os⟩ := s
  dsimp only at F X hC hoI hi'
  refine wpAny_call (PX.call_own b.base hT hC hi' (fun self => exc_bind hoI hcI self) (by rw [sizeLine_eq]; show 1 ≤ _; decide) (codeAny_mono (R := InitBack (hp.objs.size + 1) fun r s' => match r with | .ok (.ret v) => Q v s' | .ok _ => False | .error x => E x s') ?_ fun r s' z => ?_))
  rotate_left
  · rcases r with x | (v | _ | _ | _) <;> first | exact z | exact z.elim
  have ke : ∀ c o, hp.get? c = some o → ((hp.push (kdv_tup [u])).push (PX.excO C hp.objs.size)).get? c = some o := fun c o e => Heap.get?_push_of_some _ (Heap.get?_push_of_some _ e)
  have he : ((hp.push (kdv_tup [u])).push (PX.excO C hp.objs.size)).get? (hp.objs.size + 1) = some (excObj C hp.objs.size none .none) := by heap_get
  have hz : hp.objs.size + 1 < ((hp.push (kdv_tup [u])).push (PX.excO C hp.objs.size)).objs.size := Heap.lt_size he
  have F1 : Fr h₀ L ((hp.push (kdv_tup [u])).push (PX.excO C hp.objs.size)) m := (F.push _).push _
  generalize eh : (hp.push (kdv_tup [u])).push (PX.excO C hp.objs.size) = h' at *
  have lte : ∀ c o, hp.get? c = some o → c ≠ hp.objs.size + 1 := fun c o e z => by
    have := Heap.lt_size e
    rw [z] at this
    exact absurd this (Nat.not_lt.mpr (Nat.le_succ _))
  generalize ee : hp.objs.size + 1 = e at *
  have st : h₀.StaysIn (hideAll h' [e]) := fun c o z => hideAll_get _ (F1.keep c o z) (fun q => lte c o (F.keep c o z) (List.mem_singleton.mp q))
  -- the ground: the heap without the new exception
  have X1 : K.In (hideAll h' [e]) := M.kin.keeps st
  have X2 : K.In h' := M.kin.keeps F1.keep
  refine ks_codeAny_call_defAt (s := ⟨h', g, d, tk, os⟩) (fd := ksFn nm q ⟨[], [⟨"self", n1, q1⟩, ⟨f, n2, q2⟩], none, [], [], none, []⟩ (xbd f p0 p1 p2 p3 p4 p5 p6 p7 p8 p9) sc .none kV doc pm an (.ref cda) ct cc) (body := xbd f p0 p1 p2 p3 p4 p5 p6 p7 p8 p9)
    (binds := [("self", .ref e), (f, u)]) hroom (X2 _ _ efn) rfl (M.nolimit.keeps F1.keep) (codeRec_of X2 ecd) rfl (xbinds T.fin) (fun x hx => of_decide_eq_true (List.all_eq_true.mp k8 x hx)) (fun x hx => ?_) (fun h1 hns hk => ?_) k3 k2 k1
  · simp only [List.mem_cons, List.not_mem_nil, or_false] at hx
    rcases hx with rfl | rfl
    · exact k6
    · exact k7
  have FG : Fr (hideAll h' [e]) h'.objs.size h1 (fun y => ([("self", .ref e), (f, u)] : List (Str × Value)).reverse.lookup y) := ⟨hns, fun b o z => hk b o (of_hideAll _ z), Nat.le_of_eq (hideAll_size _ _)⟩
  have NG : News (hideAll h' [e]) h'.objs.size h1 [(e, excObj C hp.objs.size none .none)] := fun p hp => by
    rw [List.mem_singleton] at hp
    subst hp
    exact ⟨hk _ _ he, Nat.ne_of_lt (Heap.lt_size he), hideAll_none _ (List.mem_singleton.mpr rfl)⟩
  have hms : ([("self", Value.ref e), (f, u)] : List (Str × Value)).reverse.lookup ("self" : Str) = some (.ref e) := by
    have : (("self" : Str) == f) = false := by simpa using fun z => fself z.symm
    simp [List.lookup, this]
  have hmf : ([("self", Value.ref e), (f, u)] : List (Str × Value)).reverse.lookup f = some u := by simp [List.lookup]
  have MG : Mod K mg (hideAll h' [e]) := ⟨X1, M.glob.keeps st, ⟨mb, hmb.keeps st, hboot⟩, M.nolimit.keeps st⟩
  refine ks_wpAt_execs_cons (ks_wpAt_Expr_any (ks_wpAt_MethodCall ?_ (x_eval hln)) (by simp [interactive, callEnv, newEnv, k1]))
  refine x_node FG MG NG efn rfl hms (ox := excObj C hp.objs.size none .none) (odx := none) ⟨(NG _ (List.mem_singleton.mpr rfl)).1, rfl, rfl, trivial⟩ ecode evs efile ecell hcdD (of_decide_eq_true o12) T.sup (by decide) k4 k5 k6 k1 T.top (by first | boot_by_name | rfl | kernel_rfl) fun so h2 F2 N2 l2 => ?_
  refine kxs_method b.kxs F2 X1 N2 (List.mem_cons_self) (C := C) (ox := excObj C hp.objs.size none .none) (odx := none) ⟨(N2 (e, excObj C hp.objs.size none .none) (by simp)).1, rfl, rfl, trivial⟩ (eqO_ok o13) (of_decide_eq_true o14) (of_decide_eq_true o8) (by decide) fun q3 h3 F3 N3 l3 => ?_
  refine kxs_callWith1 N3 (List.mem_cons_self) ?_
  have nq : q3 ≠ e := Ne.symm (Nat.ne_of_lt (l3 (e, excObj C hp.objs.size none .none) (by simp)))
  have nso : so ≠ e := Ne.symm (Nat.ne_of_lt (l2 (e, excObj C hp.objs.size none .none) (by simp)))
  refine spliced_more (wpAny_Name (wpAny_loadName_local k1 k7 F3.ns hmf ?_) fdbg) rfl
  refine spliced_none ?_
  refine ⟨(N3 _ List.mem_cons_self).1, ?_⟩
  refine kxs_call F3 X1 N3 b.base o1 List.mem_cons_self (UpdF.tail nq (UpdF.tail nso (UpdF.head (fun _ z => nomatch z)))) (by rw [sizeLine_eq]; show 1 ≤ _; decide) fun t' h4 F4 N4 l4 => ?_
  dsimp only
  refine ks_wpAt_execs_cons (wpAt_of_wpAny ?_)
  refine plainObj_wpAny_Assign_Attribute (wpAny_Name (wpAny_loadName_local k1 k7 F4.ns hmf ?_) fdbg) rfl
  refine wpAny_Name (wpAny_loadName_local k1 k6 F4.ns hms ?_) (by decide)
  have nt' : t' ≠ e := Ne.symm (Nat.ne_of_lt (l4 (e, excObj C hp.objs.size none .none) (by simp)))
  refine set_exc0 b.sto F4 X1 N4 (by simp) (eqO_ok o4) o2 (of_decide_eq_true o5) o3 rfl (UpdF.tail nt' (UpdF.tail nq (UpdF.tail nso (UpdF.head (fun _ z => nomatch z))))) (by show 1 ≤ 1000; decide) fun dx h5 F5 N5 l5 => ?_
  refine wpAt_of_wpAny (wpAny_execs_nil ⟨rfl, ?_⟩)
  have le : e < dx := l5 (e, excObj C t' none .none) (by simp)
  have lh : hp.objs.size < e := by omega
  refine h e t' dx _ _ _ h5 _ (fun c o z => F5.keep c o (hideAll_get _ (ke c o z) fun q => lte c o z (List.mem_singleton.mp q))) ?_ ?_ (Nat.le_of_lt lh) (Nat.le_of_lt (Nat.lt_trans lh le)) (Nat.ne_of_lt le) (N5 (e, excObj C t' (some dx) .none) (by simp)).1 (N5 _ List.mem_cons_self).1
  · cases q : hp.get? e with
    | none => rfl
    | some o => exact absurd (Heap.lt_size q) (Nat.not_lt.mpr (Nat.le_of_lt lh))
  · cases q : hp.get? dx with
    | none => rfl
    | some o => exact absurd (Heap.lt_size q) (Nat.not_lt.mpr (Nat.le_of_lt (Nat.lt_trans lh le)))
end

theorem xd_ok {P : Program} {w : World} {H : Hp} {h : Heap} {dx : Addr} {f : Str} {v : V} {u : Value} (hn : h.Ns1 dx (fun y => if y = f then some u else none)) (r : RelV v u) : ObjOk P w H h dx (.xd [(f, v)]) :=
  ⟨_, hn, fun y => by
    by_cases e : y = f
    · subst e
      simp [List.lookup, RelO]
      exact r
    · have e' : (y == f) = false := by simpa using e
      simp [List.lookup, e', e, RelO]⟩

section
variable {X : Cx} {C : CT} {W : WX} {b : XB} {Cl : Addr} {f x : Str} {e : Expr} {p pos : Pos}
end
end DP

set_option Elab.async false
set_option linter.all false
set_option maxRecDepth 100000
set_option maxHeartbeats 4000000
namespace DP
open PySem PySem.Spec PySem.Calls PyProof.Rows L2

def TupTest (X : Cx) (te : Expr) (cs : List Value) : Prop :=
  ∀ (a : Addr) (oe : Obj) (pn : List (Addr × Obj)) (s : Shared) (σ : L2.St) (H : Hp) (cls : Value) (b : Bool) (Q : Bool → Shared → Prop) (E E' : Value → Shared → Prop), Inv (X.suite a ((a, oe) :: pn)) [] σ H s → PySem.W.Looks (model X.prog X.w) s.heap (typeOf (.ref a)) cls → PySem.W.exmAny X.K cls cs = some b →
    (∀ h', (∀ c o, s.heap.get? c = some o → h'.get? c = some o) → Q b { s with heap := h' }) →
    wpAny (model X.prog X.w) (X.A.mark (some (.ref a))) (eval te X.env) (fun tv s1 => wpAny (model X.prog X.w) (X.A.mark (some (.ref a))) (excMatches (.ref a) tv) Q E s1) E' s
structure GN (X : Cx) (x : Str) (c : Value) : Prop where
  g : Gl X x
  m : X.mg x = some c
  d : (x == ("__debug__" : Str)) = false
section
variable {X : Cx}
end

abbrev Suite := Addr → Value → Option Addr → TS
inductive HdT (X : Cx) (n : Str) : List ExceptHandler → List (List Value × Suite) → Prop
  | nil : HdT X n [] []
  | cons {te : Expr} {cs : List Value} {ts : Suite} {b₀ : Stmt} {suite : List Stmt} {pos' : Pos} {hds : List ExceptHandler} {l : List (List Value × Suite)} (hc : TupTest X te cs)
      (hsu : ∀ (a : Addr) (oe : Obj) (cls : Value) (d : Option Addr) (pn : List (Addr × Obj)), Zc cls d oe → (∃ vs, oe.data = .fields vs) → PSs (X.suite a ((a, oe) :: pn)) (b₀ :: suite) (ts a cls d)) (r : HdT X n hds l) :
      HdT X n (.ExceptHandler (some te) (some n) (b₀ :: suite) pos' :: hds) ((cs, ts) :: l)
section
variable {X : Cx} {n : Str} {i : Nat} {body : List Stmt} {h₀ : ExceptHandler} {hds : List ExceptHandler} {l : List (List Value × Suite)} {pos : Pos} {tb : WX → TS} {Wout : WX}
end
end DP

set_option Elab.async false
set_option linter.all false
set_option maxRecDepth 100000
set_option maxHeartbeats 4000000
namespace DP
open PySem PySem.Spec PySem.Calls PyProof.Rows L2

section
variable {X : Cx} {C : CT} {W : WX}
end

structure XCls (K : PySem.W.Frag) (D : Addr) : Prop where
  cl : (PySem.W.clsIn K D).isSome = true
  ga : PySem.W.findIn K (.ref D) "__getattribute__" = some (some (.builtin "BaseException.__getattribute__"))
  gg : PySem.W.findIn K (.ref D) "__getattr__" = some none
  sb : PySem.W.subIn K (.ref D) (.type "BaseException") = some true
  cc : PySem.W.findIn K (.ref D) "__class__" = some (some (.builtin "object.__class__"))
  sp : PySem.W.specialIn K (.builtin "object.__class__") "__get__" = some (some (.builtin "getset_descriptor.__get__"))
  tk : PySem.W.takesIn K (.builtin "object.__class__") = some true
  ob : PySem.W.mroIn K D (.type "object") = some true
  hd : PySem.W.hasDictIn K D = true
theorem xclsB_ok {K : PySem.W.Frag} {D : Addr} (h : xclsB K D = true) : XCls K D := by
  unfold xclsB at h
  simp only [Bool.and_eq_true, decide_eq_true_eq] at h
  obtain ⟨h1, h2, h3, h4, h5, h6, h7, h8, h9⟩ := h
  exact ⟨h1, h2, h3, h4, h5, h6, h7, h8, h9⟩
structure HotX (X : Cx) (C : CT) : Prop where
  ex : ∀ (a : Addr) (d : Option Addr) (c : Nat), C.xa = some (a, d, c) → ∃ oe : Obj, (a, oe) ∈ X.pn ∧ Zc (.ref (C.ca c)) d oe ∧ ∃ vs, oe.data = .fields vs
  ne : C.xa ≠ none
section
variable {X : Cx} {C : CT} {W : WX}
def isXv (t : Nat → Option Bool) : D → Option D
  | .exc c _ => (t c).map .bl
  | _ => none
def isX (t : Nat → Option Bool) (f : DM D) : DM D := bnd f fun d => lift (isXv t d)
def getXv (j : Nat → Bool) : D → Option D
  | .exc c [g] => if j c = true then some g else none
  | _ => none
def getX (j : Nat → Bool) (f : DM D) : DM D := bnd f fun d => lift (getXv j d)
end
end DP

set_option Elab.async false
set_option linter.all false
set_option maxRecDepth 100000
set_option maxHeartbeats 4000000
namespace DP
open PySem PySem.Spec PySem.Calls PyProof.Rows L2

abbrev CT.at (C : CT) (a : Addr) (d : Option Addr) (c : Nat) : CT := { C with xa := some (a, d, c) }
structure FnS (P : Program) (w : World) (K : PySem.W.Frag) (mg : Str → Option Value) (base : Heap) (C : CT) (k : Nat) (f : Addr) (fd : FuncData) (ps : List Str) (m : DF) : Prop where
  run : ∀ (A : Around) (outer : List Env) (s : Shared) (H : Hp) (args : Args) (us : List Value) (vs : List V) (Q : VK) (E : XK) (p : Addr × Obj) (c : Nat) (d : Option Addr), L2H.RoomH k A → A.guards = some [] → L2H.PinOk outer H s p → Zc (.ref (C.ca c)) d p.2 → (∃ ws, p.2.data = .fields ws) →
    Env0 P w K mg base A outer s H → BindsTo s fd args (ps.zip us) → Vals vs us → vs.length = ps.length → spD (wd K (C.at p.1 d c)) m vs H Q E → codeAny (model P w) A (.call (.ref f) args) (CR (L2.CX P w) outer P w H s Q E) s
structure SlipOk (P : Program) (w : World) (K : PySem.W.Frag) (mg : Str → Option Value) (base : Heap) (C : CT) (f : Addr) (k : Nat) (m : DF) : Prop where
  ex : ∃ (fd : FuncData) (ps : List Str), FnS P w K mg base C k f fd ps m ∧ Binds K fd ps [] ∧ ps.length = 1
  kp : PySem.W.keepIn K (.ref f) = true
end DP

set_option Elab.async false
set_option linter.all false
set_option maxRecDepth 100000
set_option maxHeartbeats 4000000
namespace DP
open PySem PySem.Spec PySem.Calls PyProof.Rows L2 LamX

section
variable {G : Wd} {rho rho' : List Addr} {L L' : Addr → Prop} {H H' : Hp} {z : Option (Addr × Option Addr × Nat)}
mutual
theorem Rep.carX (c : CarN L H L' H') : ∀ {d : D} {v : V}, d.noRef = true → Rep G rho L H d v → Rep { G with xa := z } rho' L' H' d v
  | .non, _, _, h => by cases h; exact .non
  | .bl b, _, _, h => by cases h; exact .bl b
  | .int i, _, _, h => by cases h; exact .int i
  | .str x, _, _, h => by cases h; exact .str x
  | .tup ds, _, hn, h => by
    cases h with
    | tup ht ha =>
      refine .tup ?_ (RepL.carX c hn ha)
      rcases ht with ht | ht
      · exact .inl (c.tup _ _ ht)
      · exact .inr ht
  | .lst ds, _, hn, h => by
    cases h with
    | lst hl ha =>
      refine .lst ?_ (RepL.carX c hn ha)
      rcases hl with ⟨hl, hn⟩ | hl
      · exact .inl ⟨c.rd _ _ hn hl, c.dead _ hn (rdsome hl)⟩
      · exact .inr hl
  | .dk ks ds, _, hn, h => by
    cases h with
    | dk hl hm hz ha => exact .dk (c.frz _ _ _ hm hl) (c.dead _ hm (by rw [hl]; exact fun z => by cases z)) hz (RepL.carX c hn ha)
  | .dt ks ds, _, hn, h => by
    cases h with
    | dt hl hm hz ha => exact .dt (c.frz _ _ _ hm hl) (c.dead _ hm (by rw [hl]; exact fun z => by cases z)) hz (RepL.carX c hn ha)
  | .ins k ds, _, hn, h => by
    cases h with
    | ins hl hm ha => exact .ins (c.ins _ _ _ _ hm hl) (c.dead _ hm (by rw [hl]; exact fun z => by cases z)) (RepL.carX c hn ha)
  | .dx _ _, _, hn, h => by cases hn
  | .exc _ _, _, hn, h => by cases hn
  | .ref n, _, hn, h => by cases hn
theorem RepL.carX (c : CarN L H L' H') : ∀ {ds : List D} {vs : List V}, noRefL ds = true → RepL G rho L H ds vs → RepL { G with xa := z } rho' L' H' ds vs
  | [], _, _, h => by cases h; exact .nil
  | d :: ds, _, hn, h => by
    cases h with
    | cons h1 h2 =>
      have hn' : d.noRef = true ∧ noRefL ds = true := by simpa [noRefL] using hn
      exact .cons (Rep.carX c hn'.1 h1) (RepL.carX c hn'.2 h2)
end
end

def tSu (K : PySem.W.Frag) (C : CT) (i N : Nat) (r : D → Option D) (a : Addr) (d : Option Addr) (c : Nat) : TS := fun E σ H => σ.length = N → σ[i]? = some (some (.ref a)) ∧
  ∃ (Z : Addr → Prop) (ex d' : D), (∀ y, Z y ∨ (wd K C).isTb y → H y ≠ none) ∧ Rep (wd K (C.at a d c)) [] Z H ex (.ref a) ∧ r ex = some d' ∧
    ∀ (H' : Hp) (v : V) (rho' : List Addr) (L' : Addr → Prop), Same H H' → (∀ y, ¬ L' y → ¬ Z y) → Rep (wd K (C.at a d c)) rho' L' H' d' v → E.rt v H'
def SuOk (X : Cx) (C : CT) (N i : Nat) (suite : List Stmt) (r : D → Option D) : Prop := ∀ (a : Addr) (oe : Obj) (c : Nat) (d : Option Addr) (pn : List (Addr × Obj)), Zc (.ref (C.ca c)) d oe → (∃ ws, oe.data = .fields ws) → PSs (X.suite a ((a, oe) :: pn)) suite (tSu X.K C i N r a d c)
section
variable {X : Cx} {C : CT}
end

def excD : XD → Option D
  | ⟨c, none⟩ => some (.exc c [])
  | ⟨c, some g⟩ => if g.noRef = true then some (.exc c [g]) else none
abbrev Clauses := List ((Nat → Option Bool) × (D → Option D))
def runCl : Clauses → XD → Option D
  | [], _ => none
  | (t, r) :: l, x => match t x.c with
    | some true => (excD x).bind r
    | some false => runCl l x
    | none => none
inductive HdC (X : Cx) (C : CT) (N i : Nat) (n : Str) : List ExceptHandler → Clauses → Prop
  | nil : HdC X C N i n [] []
  | cons {te : Expr} {cs : List Value} {t : Nat → Option Bool} {r : D → Option D} {b₀ : Stmt} {suite : List Stmt} {pos' : Pos} {hds : List ExceptHandler} {l : Clauses} (hc : TupTest X te cs) (ht : ∀ c b, t c = some b → PySem.W.exmAny X.K (.ref (C.ca c)) cs = some b)
      (hs : SuOk X C N i (b₀ :: suite) r) (rest : HdC X C N i n hds l) : HdC X C N i n (.ExceptHandler (some te) (some n) (b₀ :: suite) pos' :: hds) ((t, r) :: l)
def EchS (K : PySem.W.Frag) (C : CT) (cl : Clauses) (Q : VK) : XK := fun cls d H => ∃ (x : XD) (d' : D) (Z : Addr → Prop), cls = .ref (C.ca x.c) ∧ runCl cl x = some d' ∧ (∀ y, Z y ∨ (wd K C).isTb y → H y ≠ none) ∧ (∀ a, H a = none → ∀ ex, excD x = some ex → Rep (wd K (C.at a d x.c)) [] Z H ex (.ref a)) ∧
  ∀ (a : Addr) (H' : Hp) (v : V) (rho' : List Addr) (L' : Addr → Prop), Same H H' → (∀ y, ¬ L' y → ¬ Z y) → Rep (wd K (C.at a d x.c)) rho' L' H' d' v → Q v H'
def OkS (Q : VK) : VK := fun v H => ∀ l, H l = none → Q (.ref l) (upd H l (.lst [.str "given", v]))
def TTc (K : PySem.W.Frag) (C : CT) (cl : Clauses) : (XK → Hp → VK → Prop) → Hp → VK → Prop := fun tl H Q => ∀ Q2 : VK, (∀ v H', OkS Q v H' → Q2 v H') → tl (EchS K C cl Q) H Q2
section
variable {X : Cx} {C : CT}
end
end DP

set_option Elab.async false
set_option linter.all false
set_option maxRecDepth 100000
set_option maxHeartbeats 4000000
namespace DP
open PySem PySem.Spec PySem.Calls PyProof.Rows L2 LamX

section
variable {X : Cx} {pins : List (Addr × Obj)} {σ : L2.St} {H : Hp} {s : Shared}
end
section
variable {X : Cx} {pins : List (Addr × Obj)} {σ : L2.St} {H HZ : Hp} {s s1 : Shared}
end
section
variable {X : Cx}
end

section
variable {X : Cx} {C : CT} {W : WX}
structure CatchOk (X : Cx) (C : CT) (x : Str) (q : Str) (cl : Clauses) : Prop where
  ex : ∃ (g : Addr) (pg : Arguments) (bg : List Stmt) (sg : Scope) (dV kV doc pm cdv ct oc : Value) (an od : Option Addr) (osl : Array (Option Value)) (Ng : List Str) (a : Str), X.mg x = some (.ref g) ∧ PySem.W.keepIn X.K (.ref g) = true ∧
    X.K.lookup g = some ⟨oc, od, .func (PySem.W.fnOf x x pg bg sg dV kV doc pm an cdv ct), osl⟩ ∧ PySem.W.codeIn X.K cdv x = true ∧ L2.Binds X.K (PySem.W.fnOf x x pg bg sg dV kV doc pm an cdv ct) [a] [] ∧ FnScope Ng [a] sg ∧ Ng[0]? = some a ∧ Vis sg a ∧
    (a == ("__debug__" : Str)) = false ∧ (a == ("__classdict__" : Str)) = false ∧ GivesTo X Ng x sg g cdv bg a q (TTc X.K C cl)
end
end DP

set_option Elab.async false
set_option linter.all false
set_option maxRecDepth 100000
set_option maxHeartbeats 4000000
namespace DP
open PySem PySem.Spec PySem.Calls PyProof.Rows L2 LamX He

end DP

set_option Elab.async false
set_option linter.all false
set_option maxRecDepth 100000
set_option maxHeartbeats 4000000
namespace DP
open PySem PySem.Spec PySem.Calls PyProof.Rows L2 LamX He

end DP

set_option Elab.async false
set_option linter.all false
set_option maxRecDepth 100000
set_option maxHeartbeats 4000000
namespace DP
open PySem PySem.Spec PySem.Calls PyProof.Rows L2 LamX He

def lookT (l : TabX) (c : Nat) : Option Bool := (l.find? fun q => q.1 == c).map (·.2.2)
def lookJ (l : List (Nat × Str)) (c : Nat) : Bool := l.any fun q => q.1 == c
theorem lookT_at {l : TabX} {c : Nat} {b : Bool} (h : lookT l c = some b) : ∃ x, (c, x, b) ∈ l := by
  unfold lookT at h
  obtain ⟨q, hq, e⟩ := Option.map_eq_some_iff.mp h
  have h1 := List.mem_of_find?_eq_some hq
  have h2 : (q.1 == c) = true := List.find?_some (p := fun q : Nat × Str × Bool => q.1 == c) hq
  obtain ⟨a, x, b'⟩ := q
  have h2 : a = c := by simpa using h2
  subst h2
  have e : b' = b := e
  subst e
  exact ⟨x, h1⟩
def AllCa (C : CT) (K : PySem.W.Frag) (l : TabX) : Prop := ∀ q ∈ l, C.ca q.1 = ga K q.2.1
theorem ca_nil {C : CT} {K : PySem.W.Frag} : AllCa C K [] := fun q h => nomatch h
theorem ca_cons {C : CT} {K : PySem.W.Frag} {c : Nat} {x : Str} {b : Bool} {l : TabX} (h : C.ca c = ga K x) (r : AllCa C K l) : AllCa C K ((c, x, b) :: l) := fun q hq => by
  rcases List.mem_cons.mp hq with e | hq
  · subst e; exact h
  · exact r q hq
theorem isx_of {C : CT} {K : PySem.W.Frag} {l : TabX} {u : Value} (h : xtB K l u = true) (hca : AllCa C K l) : ∀ c b, lookT l c = some b → xclsB K (C.ca c) = true ∧ PySem.W.kitOne K (.ref (C.ca c)) u = some b := fun c b e => by
  obtain ⟨x, hx⟩ := lookT_at e
  have h1 := List.all_eq_true.mp h _ hx
  rw [Bool.and_eq_true, decide_eq_true_eq] at h1
  have e1 : C.ca c = ga K x := hca _ hx
  rw [e1]
  exact h1
def AllCf (C : CT) (K : PySem.W.Frag) (l : List (Nat × Str)) (f : Str) : Prop := ∀ q ∈ l, C.ca q.1 = ga K q.2 ∧ C.cf q.1 = [f]
theorem cf_nil {C : CT} {K : PySem.W.Frag} {f : Str} : AllCf C K [] f := fun q h => nomatch h
theorem cf_cons {C : CT} {K : PySem.W.Frag} {c : Nat} {x f : Str} {l : List (Nat × Str)} (h : C.ca c = ga K x) (h2 : C.cf c = [f]) (r : AllCf C K l f) : AllCf C K ((c, x) :: l) f := fun q hq => by
  rcases List.mem_cons.mp hq with e | hq
  · subst e; exact ⟨h, h2⟩
  · exact r q hq
theorem xf_of {C : CT} {K : PySem.W.Frag} {l : List (Nat × Str)} {f : Str} (h : xfdB K l f = true) (hca : AllCf C K l f) : ∀ c, lookJ l c = true → C.cf c = [f] ∧ xclsB K (C.ca c) = true ∧ PySem.W.findIn K (.ref (C.ca c)) f = some none := fun c e => by
  obtain ⟨q, hq, eq⟩ := List.any_eq_true.mp e
  obtain ⟨a, x⟩ := q
  have eq : a = c := by simpa using eq
  subst eq
  have h1 := List.all_eq_true.mp h _ hq
  rw [Bool.and_eq_true] at h1
  obtain ⟨e1, e2⟩ := hca _ hq
  have e1 : C.ca a = ga K x := e1
  rw [e1]
  exact ⟨e2, h1.1, eqO_ok h1.2⟩
end DP

set_option Elab.async false
set_option linter.all false
set_option maxRecDepth 100000
namespace GQ
open PySem PySem.SeqAt
open AutoSeq1 (wpAny_loadPart')
open MeetsSeq MeetsSeq2 MeetsSeq3 SeqRoads2
section
variable {prog : Program} {w : World} {A : Around} {R : Result → Shared → Prop}
end
section
variable {prog : Program} {w : World} {A : Around} {Er : Value → Shared → Prop} {t : Shared} {a c : Addr} {K : Nat} {Q : Value → Shared → Prop}
end
end GQ

set_option Elab.async false
set_option linter.all false
set_option maxRecDepth 100000
set_option maxHeartbeats 4000000
namespace DP
open PySem PySem.Spec PyProof.Rows L2

def flatE : D → D → Bool
  | .non, .non => true
  | .bl a, .bl b => a == b
  | .int i, .int j => decide (i = j)
  | .str x, .str y => x == y
  | _, _ => false
def ownE (m : DF) (x y : D) : Bool := match m [x, y] [] with
  | .ok (.bl b) [] => b
  | _ => false
def eqS (c : Nat) (m : DF) : Nat → D → D → Bool
  | 0, x, y => flatE x y
  | n + 1, x, y => match x, y with
    | .tup xs, .tup ys => xs.length == ys.length && (xs.zip ys).all fun p => eqS c m n p.1 p.2
    | .lst xs, .lst ys => xs.length == ys.length && (xs.zip ys).all fun p => eqS c m n p.1 p.2
    | .ins k xs, .ins l ys => k == c && (l == c && (noRefL xs && (noRefL ys && ownE m (.ins k xs) (.ins l ys))))
    | x, y => flatE x y
structure SubG (X : Cx) (n : Nat) (A : Around) : Prop where
  room : Room n A
  fr : A.frames = X.A.frames
  gd : A.guards = some []
def Grown (X : Cx) (pins : List (Addr × Obj)) (σ : L2.St) (H : Hp) (t : Shared) : Prop := ∃ H1, Inv X pins σ H1 t ∧ Ext H H1
def YesR (X : Cx) (n : Nat) (D : Eqv) : Prop := ∀ (A : Around) (pins : List (Addr × Obj)) (t : Shared) (σ : L2.St) (H : Hp) (a c : Addr), SubG X n A → Inv X pins σ H t → D (.ref a) (.ref c) H →
  wpAny (model X.prog X.w) A (richCompare .Eq (.ref a) (.ref c)) (fun r t' => r = .bool true ∧ Grown X pins σ H t') X.xe t
section
variable {X : Cx} {n m : Nat} {D D' : Eqv}
theorem YesR.b (h : YesR X n D) {A : Around} {pins : List (Addr × Obj)} {t : Shared} {σ : L2.St} {H : Hp} {a c : Addr} (b : SubG X n A) (I : Inv X pins σ H t) (d : D (.ref a) (.ref c) H) :
    wpAny (model X.prog X.w) A (eqBool (.ref a) (.ref c)) (fun b t' => b = true ∧ Grown X pins σ H t') X.xe t := by
  by_cases ac : a = c
  · subst ac
    exact SeqAt.EqAt.same (A := A) (s := t) (.ref a) X.prog X.w X.xe _ ⟨rfl, H, I, Ext.rfl'⟩
  · exact GQ.eqBool_refG ac (wpAny_mono (h A pins t σ H a c b I d) (fun r t' q => ⟨true, q.1, rfl, q.2⟩) fun _ _ z => z)
end
structure EqC (X : Cx) (C : CT) (c k : Nat) (mf : DF) : Prop where
  ex : ∃ (g : Addr) (fd : FuncData) (ps : List Str), Meth X.K (C.ca c) "__eq__" g ∧ FnG X.prog X.w X.K X.mg X.base C k g fd ps mf ∧ Binds X.K fd ps [] ∧ ps.length = 2
section
variable {X : Cx} {C : CT} {W : WX} {c k : Nat} {mf : DF}
def lsE (c : Nat) (m : DF) (n : Nat) : D → D → Option D := fun x y => match x, y with
  | .lst xs, .lst ys => if xs.length == ys.length && (xs.zip ys).all fun p => eqS c m n p.1 p.2 then some (.bl true) else none
  | _, _ => none
def eqO (c : Nat) (m : DF) (n : Nat) : D → D → Option D := fun x y => match eqD x y with
  | some r => some r
  | none => lsE c m n x y
end
end DP

set_option Elab.async false
set_option linter.all false
set_option maxRecDepth 100000
set_option maxHeartbeats 4000000
namespace DP
open PySem PySem.Spec PyProof.Rows L2

def itemL (s : DSt) (P : Plc) (k : Int) : Option D := match readP P s with
  | some (.lst xs) => if 0 ≤ k then xs[k.toNat]? else none
  | _ => none
def augIx (fP : DM Plc) (fi : DM D) (g : Int → Int → Int) (fe : DM D) : DS := bndS fP fun P => bndS fi fun y s => match y with
  | .int k => (match itemL s P k with
    | some (.int a) => bndS fe (fun d s3 => match d with
      | .int b => (match storeP P (.int k) (.int (g a b)) s3 with
        | some st => .nx st
        | none => .stuck)
      | _ => .stuck) s
    | _ => .stuck)
  | _ => .stuck
section
variable {X : Cx} {C : CT} {W : WX}
end
end DP

set_option Elab.async false
set_option linter.all false
set_option maxRecDepth 100000
set_option maxHeartbeats 4000000
namespace DP
open PySem PySem.Spec PyProof.Rows L2
section
variable {X : Cx} {C : CT} {W : WX}
end
end DP

set_option Elab.async false
set_option linter.all false
set_option maxRecDepth 100000
set_option maxHeartbeats 4000000
namespace NQ
open PySem PySem.W
section
variable {prog : Program} {w : World} {A : Around} {E : Value → Shared → Prop} {s : Shared} {K : Frag} {x y C L f : Addr} {h₀ : Heap} {m : Str → Option Value} {ox : Obj} {od : Option Obj}
end
end NQ
namespace DP
open PySem PySem.Spec PySem.Calls PyProof.Rows L2 He5
section
variable {X : Cx} {C : CT} {W : WX} {c k : Nat} {mf : DF}
end
end DP

set_option Elab.async false
set_option linter.all false
set_option maxRecDepth 100000
set_option maxHeartbeats 4000000
namespace ZipAll
open PySem PySem.Spec PyProof.Rows L2
section
variable {prog : Program} {w : World} {z TI TO i1 i2 : Addr} {fp1 fp2 : List Addr} {n1 n2 : Nat} {P1 P2 : Nat → Value → Prop} {St1 St2 : Nat → Heap → Prop}
end
end ZipAll
namespace DP
open PySem PySem.Spec PyProof.Rows L2 ZipAll
section
variable {X : Cx} {C : CT} {W : WX}
end
end DP
namespace DP
open PySem PySem.Spec PyProof.Rows L2 ZipAll
section
variable {X : Cx} {C : CT} {W : WX}
end
end DP

set_option Elab.async false
set_option linter.all false
set_option maxRecDepth 100000
set_option maxHeartbeats 4000000
namespace DP
open PySem PySem.Spec PyProof.Rows L2 PySem.W
section
variable {X : Cx} {C : CT} {W : WX}
end
end DP

set_option Elab.async false
set_option linter.all false
set_option maxRecDepth 100000
set_option maxHeartbeats 4000000
namespace DP
open PySem PySem.Spec PyProof.Rows L2
section
variable {X : Cx} {C : CT} {W : WX}
end
end DP

set_option Elab.async false
set_option linter.all false
set_option maxRecDepth 100000
set_option maxHeartbeats 4000000
namespace DP
open PySem PySem.Spec PyProof.Rows L2

def gIn (ng : Bool) (kvs : List (Str × Int)) : D → Option D
  | .str z => some (.bl (if ng then !decide (z ∈ kvs.map (·.1)) else decide (z ∈ kvs.map (·.1))))
  | _ => none
def gIx (kvs : List (Str × Int)) : D → Option D
  | .str z => (kvs.find? fun q => decide (q.1 = z)).map fun q => .int q.2
  | _ => none
def gInM (ng : Bool) (kvs : List (Str × Int)) (f : DM D) : DM D := bnd f fun d => lift (gIn ng kvs d)
def gIxM (kvs : List (Str × Int)) (f : DM D) : DM D := bnd f fun d => lift (gIx kvs d)
section
variable {X : Cx} {C : CT} {W : WX}
end
end DP

set_option Elab.async false
set_option linter.all false
set_option maxRecDepth 100000
set_option maxHeartbeats 4000000
namespace DP
open PySem PySem.Spec PyProof.Rows L2 PySem.W

section
variable {X : Cx} {C : CT} {W : WX}
end
end DP

set_option Elab.async false
set_option linter.all false
set_option maxRecDepth 100000
set_option maxHeartbeats 4000000
namespace DP
open PySem PySem.Spec PyProof.Rows L2
def putTD (ks : List (List Key)) (vs : List D) (k : List Key) (d : D) : Cell :=
  if (ks.any fun j => decide (j = k)) = true then .dt ks ((ks.zip vs).map fun kv => if kv.1 = k then d else kv.2) else .dt (ks ++ [k]) (vs ++ [d])
def storeT : Cell → List D → D → Option Cell
  | .dt ks vs, ys, d => (keysOf ys).bind fun k => if ks.length < sizeLine ∧ ys.length ≤ sizeLine then some (putTD ks vs k d) else none
  | _, _, _ => none
def storeTP (P : Plc) (ys : List D) (d : D) (s : DSt) : Option DSt := (cellP P s).bind fun c => (storeT c ys d).map fun c' => putP P c' s
def ixTG (fP : DM Plc) (fi : DM (List D)) : DG := fun d s => match fP s with
  | .ok P s1 => (match fi s1 with
    | .ok ys s2 => storeTP P ys d s2
    | _ => none)
  | _ => none
section
variable {G : Wd} {Z : Addr → Prop} {p : Pt}
end
section
variable {X : Cx} {C : CT} {W : WX}
end
end DP

set_option Elab.async false
set_option linter.all false
set_option maxRecDepth 100000
set_option maxHeartbeats 4000000
namespace DP
open PySem PySem.Spec PyProof.Rows L2 PySem.W

section
variable {X : Cx} {C : CT} {W : WX}
end
end DP

set_option Elab.async false
set_option linter.all false
set_option maxRecDepth 100000
set_option maxHeartbeats 4000000
namespace DP
open PySem PySem.Spec PyProof.Rows L2 PySem.W PySem.Calls
section
variable {prog : Program} {w : World} {A : Around} {E : Value → Shared → Prop} {s : Shared} {κ : PyProof.Rows.KeyKind}
end
section
variable {X : Cx} {C : CT} {W : WX}
end
end DP

set_option Elab.async false
set_option linter.all false
set_option maxRecDepth 100000
set_option maxHeartbeats 4000000
namespace DP
open PySem PySem.Spec PySem.Calls PyProof.Rows L2
section
variable {X : Cx} {C : CT} {W : WX}
end
end DP

set_option Elab.async false
set_option linter.all false
set_option maxRecDepth 100000
set_option maxHeartbeats 4000000
namespace DP
open PySem PySem.Spec PyProof.Rows L2
section
variable {X : Cx} {C : CT} {W : WX}
def mulLC : D → D → Option Cell := fun x y => match x, y with
  | .lst xs, .int k => if 0 ≤ k ∧ k ≤ 1000 ∧ xs.length ≤ 1000 then some (.lst (List.replicate k.toNat xs).flatten) else none
  | _, _ => none
def mulC (fa fb : DM D) : DM Cell := bnd fa fun x => bnd fb fun y => lift (mulLC x y)
end
end DP

set_option Elab.async false
set_option linter.all false
set_option maxRecDepth 100000
set_option maxHeartbeats 4000000
namespace DP
open PySem PySem.Spec PyProof.Rows L2
section
variable {X : Cx} {C : CT} {W : WX}
end
end DP

set_option Elab.async false
set_option linter.all false
set_option maxRecDepth 100000
set_option maxHeartbeats 4000000
namespace DP
open PySem PySem.Spec PySem.Calls PyProof.Rows L2 LamX
structure LamS1 (sc scope : Scope) (a0 : Str) : Prop where
  kind : scope.kind = .function
  co : scope.isCoroutine = false
  gen : scope.isGenerator = false
  own : ∀ y ∈ scope.names, (y.2 = .local → y.1 = a0) ∧ y.2 ≠ .cell
  loc : scope.names.lookup a0 = some .local
  free : ∀ y ∈ scope.names, y.2 = .free → sc.names.lookup y.1 = some .cell ∨ sc.names.lookup y.1 = some .free
theorem LamS1.has {X : Cx} {scope : Scope} {a0 : Str} (L : LamS1 X.env.scope scope a0) (ok : X.Ok) : ∀ y ∈ scope.names, y.2 = .free → ∃ c, X.env.cells.lookup y.1 = some c := fun y hy e => by
  rcases L.free y hy e with k | k
  · exact ok.has _ (.inl k)
  · exact ok.has _ (.inr k)
section
variable {X : Cx} {pins : List (Addr × Obj)} {σ : L2.St} {H : Hp} {s : Shared}
end
section
variable {X : Cx} {pins : List (Addr × Obj)} {σ : L2.St} {H HZ : Hp} {s s1 : Shared}
end
section
variable {X : Cx} {pins : List (Addr × Obj)} {σ : L2.St} {H HZ : Hp} {s s1 : Shared}
end
section
variable {X : Cx}
end

section
variable {X : Cx} {C : CT} {W : WX}
end
end DP

set_option Elab.async false
set_option linter.all false
set_option maxRecDepth 100000
set_option maxHeartbeats 4000000
namespace DP
open PySem PySem.Spec PyProof.Rows L2
section
variable {X : Cx} {C : CT} {W : WX}
end
end DP

set_option Elab.async false
set_option linter.all false
set_option maxRecDepth 100000
set_option maxHeartbeats 4000000
namespace ZipAll
open PySem PySem.Spec PyProof.Rows L2
section
variable {prog : Program} {w : World} {z TI TO i1 i2 L : Addr} {fp1 fp2 : List Addr} {n1 n2 : Nat} {P1 P2 : Nat → Value → Prop} {St1 St2 : Nat → Heap → Prop}
end
end ZipAll
namespace DP
open PySem PySem.Spec PyProof.Rows L2 ZipAll
section
variable {X : Cx} {C : CT} {W : WX}
def listZipN : List D → Option D
  | [d, e] => (itemsE d).bind fun xs => (itemsE e).bind fun ys => if min xs.length ys.length ≤ sizeLine then some (.lst (zipL xs ys)) else none
  | _ => none
def listZipM (f : DM (List D)) : DM D := bnd f fun ds => lift (listZipN ds)
end
end DP

set_option Elab.async false
set_option linter.all false
set_option maxRecDepth 100000
set_option maxHeartbeats 4000000
namespace DP
open PySem PySem.Spec PyProof.Rows L2 ClX
section
variable {X : Cx} {C : CT} {W : WX} {x qual : Str} {params : Arguments} {body : List Stmt} {scope : Scope} {k : Nat} {ps ks : List Str} {is : List Nat} {mf : DF}
end
end DP

set_option Elab.async false
set_option linter.all false
set_option maxRecDepth 100000
set_option maxHeartbeats 4000000
namespace DP
open PySem PySem.Spec PyProof.Rows L2
section
variable {X : Cx} {C : CT} {W : WX} {c k : Nat} {mf : DF}
structure StrC (X : Cx) (C : CT) (c k : Nat) (mf : DF) : Prop where
  ex : ∃ (g : Addr) (fd : FuncData) (ps : List Str), Meth X.K (C.ca c) "__str__" g ∧ FnG X.prog X.w X.K X.mg X.base C k g fd ps mf ∧ Binds X.K fd ps [] ∧ ps.length = 1
end
end DP

set_option Elab.async false
set_option linter.all false
set_option maxRecDepth 100000
set_option maxHeartbeats 4000000
namespace DP
open PySem PySem.Spec PySem.Calls PyProof.Rows L2 LamX

section
variable {X : Cx} {te : Expr} {cs : List Value} {body suite : List Stmt} {b₀ : Stmt} {pos pos' : Pos} {tb : WX → TS} {ts : Suite}
end
def rReprV (G : Wd) : List V → Hp → VK → Prop := fun vs H Q => ∃ (rho : List Addr) (L : Addr → Prop) (v : V) (d : D) (t : Str), vs = [v] ∧ Rep G rho L H d v ∧ reprN [d] = some (.str t) ∧ Q (.str t) H
section
variable {X : Cx} {C : CT}
end
def EchH (C : CT) (t : Nat → Option Bool) (txt : Str) (Q : VK) : XK := fun cls d H => ∃ c, cls = .ref (C.ca c) ∧ t c = some true ∧ Q (.str txt) H
def OkH (K : PySem.W.Frag) (C : CT) (Q : VK) : VK := fun v H => rReprV (wd K C) [v] H Q
def TTh (K : PySem.W.Frag) (C : CT) (t : Nat → Option Bool) (txt : Str) : (XK → Hp → VK → Prop) → Hp → VK → Prop := fun tl H Q => ∀ Q2 : VK, (∀ v H', OkH K C Q v H' → Q2 v H') → tl (EchH C t txt Q) H Q2
section
variable {X : Cx} {C : CT}
structure HearOk (X : Cx) (C : CT) (x : Str) (q : Str) (t : Nat → Option Bool) (txt : Str) : Prop where
  ex : ∃ (g : Addr) (pg : Arguments) (bg : List Stmt) (sg : Scope) (dV kV doc pm cdv ct oc : Value) (an od : Option Addr) (osl : Array (Option Value)) (Ng : List Str) (a : Str), X.mg x = some (.ref g) ∧ PySem.W.keepIn X.K (.ref g) = true ∧
    X.K.lookup g = some ⟨oc, od, .func (PySem.W.fnOf x x pg bg sg dV kV doc pm an cdv ct), osl⟩ ∧ PySem.W.codeIn X.K cdv x = true ∧ L2.Binds X.K (PySem.W.fnOf x x pg bg sg dV kV doc pm an cdv ct) [a] [] ∧ FnScope Ng [a] sg ∧ Ng[0]? = some a ∧ Vis sg a ∧
    (a == ("__debug__" : Str)) = false ∧ (a == ("__classdict__" : Str)) = false ∧ GivesTo X Ng x sg g cdv bg a q (TTh X.K C t txt)
variable {W : WX}
end
end DP

set_option Elab.async false
set_option linter.all false
set_option maxRecDepth 100000
set_option maxHeartbeats 4000000
namespace L2
open PySem PySem.Spec PyProof.Rows
mutual
def numK : NestedKey → Bool
  | .num _ => true
  | .tup ks => numKs ks
  | _ => false
def numKs : List NestedKey → Bool
  | [] => true
  | k :: ks => numK k && numKs ks
end
def Says (P : Program) (w : World) (f : Value → Sem Bool) (b : Bool) (s : Shared) (v : Value) : Prop := ∀ (A : Around) (E : Value → Shared → Prop) (Q : Bool → Shared → Prop), Q b s → wpAny (model P w) A (f v) Q E s
section
variable {P : Program} {w : World}
mutual
theorem ofA_key : ∀ (k : NestedKey) (v : Value) (n : Nat) (s : Shared), NestedIs s.heap k v → k.depth ≤ n → Says P w (ofAClassStatement n) false s v
  | .none, _, n, s, x, _ => by cases x; intro A E Q h; cases n <;> exact wpAny_pure h
  | .num i, _, n, s, x, _ => by cases x <;> (intro A E Q h; cases n <;> exact wpAny_pure h)
  | .text y, _, n, s, x, _ => by cases x; intro A E Q h; cases n <;> exact wpAny_pure h
  | .tup ks, _, n, s, x, hn => by
    cases x with
    | @tup b o vs m _ ho hc hd hk =>
      simp only [NestedKey.depth] at hn
      obtain ⟨n, rfl⟩ : ∃ n', n = n' + 1 := ⟨n - 1, by omega⟩
      have hall := ofA_keys ks vs.toList n s hk (by omega)
      intro A E Q h
      have hT : s.TypeIs (.ref b) "tuple" := ⟨o, ho, hc⟩
      unfold ofAClassStatement
      refine wpAny_bind (wpAny_typeOf hT ?_)
      dsimp only
      have e : (("tuple" : String) == "tuple") = true := by decide
      simp only [e, if_true, Bool.not_true, Bool.false_eq_true, if_false]
      try refine wpAny_bind (wpAny_pure ?_)
      try simp only [Bool.not_true, Bool.false_eq_true, if_false]
      show wpAny _ _ (seqItems? (.ref b) >>= _) _ _ s
      refine wpAny_bind (wpAny_seqItems ho hd ?_)
      dsimp only
      refine wpAny_bind ?_
      show wpAny _ _ (forIn vs _ _) _ _ s
      rw [← Array.forIn_toList]
      refine wpAny_forIn_list _ (fun rest r s' => r.1 = none ∧ s' = s ∧ ∀ v ∈ rest, Says P w (ofAClassStatement n) false s v) _ ?_ ?_ _ _ ⟨rfl, rfl, hall⟩
      · rintro v rest r s' ⟨hr, rfl, ha⟩
        refine wpAny_bind (ha v List.mem_cons_self _ _ _ ?_)
        simp only [Bool.false_eq_true, if_false]
        exact wpAny_pure ⟨rfl, rfl, fun u hu => ha u (List.mem_cons_of_mem _ hu)⟩
      · rintro ⟨r1, r2⟩ s' ⟨hr, rfl, _⟩
        simp only at hr
        subst hr
        exact wpAny_pure h
theorem ofA_keys : ∀ (ks : List NestedKey) (vs : List Value) (n : Nat) (s : Shared), NestedAll s.heap ks vs → NestedKey.depthAll ks ≤ n → ∀ v ∈ vs, Says P w (ofAClassStatement n) false s v
  | [], _, n, s, x, _, v, hv => by cases x; cases hv
  | k :: ks, _, n, s, x, hn, v, hv => by
    cases x with
    | cons x1 x2 =>
      simp only [NestedKey.depthAll] at hn
      rcases List.mem_cons.mp hv with e | hv
      · rw [e]; exact ofA_key k _ n s x1 (by omega)
      · exact ofA_keys ks _ n s x2 (by omega) v hv
end
mutual
theorem byV_key : ∀ (k : NestedKey) (v : Value) (n : Nat) (s : Shared), NestedIs s.heap k v → k.depth ≤ n → numK k = true → Says P w (hashByValue n) true s v
  | .none, _, n, s, _, _, hp => by cases hp
  | .num i, _, n, s, x, _, _ => by cases x <;> (intro A E Q h; cases n <;> exact wpAny_pure h)
  | .text y, _, n, s, _, _, hp => by cases hp
  | .tup ks, _, n, s, x, hn, hp => by
    cases x with
    | @tup b o vs m _ ho hc hd hk =>
      simp only [NestedKey.depth] at hn
      obtain ⟨n, rfl⟩ : ∃ n', n = n' + 1 := ⟨n - 1, by omega⟩
      have hall := byV_keys ks vs.toList n s hk (by omega) hp
      intro A E Q h
      have hT : s.TypeIs (.ref b) "tuple" := ⟨o, ho, hc⟩
      unfold hashByValue
      refine wpAny_bind (wpAny_specialOf hT F.slot_tuple_hash.lookup ?_)
      show wpAny _ _ (seqItems? (.ref b) >>= _) _ _ s
      refine wpAny_bind (wpAny_seqItems ho hd ?_)
      refine wpAny_bind ?_
      show wpAny _ _ (forIn vs _ _) _ _ s
      rw [← Array.forIn_toList]
      refine wpAny_forIn_list _ (fun rest r s' => r.1 = none ∧ s' = s ∧ ∀ v ∈ rest, Says P w (hashByValue n) true s v) _ ?_ ?_ _ _ ⟨rfl, rfl, hall⟩
      · rintro v rest r s' ⟨hr, rfl, ha⟩
        refine wpAny_bind (ha v List.mem_cons_self _ _ _ ?_)
        simp only [Bool.not_true, Bool.false_eq_true, if_false]
        exact wpAny_pure ⟨rfl, rfl, fun u hu => ha u (List.mem_cons_of_mem _ hu)⟩
      · rintro ⟨r1, r2⟩ s' ⟨hr, rfl, _⟩
        simp only at hr
        subst hr
        exact wpAny_pure h
theorem byV_keys : ∀ (ks : List NestedKey) (vs : List Value) (n : Nat) (s : Shared), NestedAll s.heap ks vs → NestedKey.depthAll ks ≤ n → numKs ks = true → ∀ v ∈ vs, Says P w (hashByValue n) true s v
  | [], _, n, s, x, _, _, v, hv => by cases x; cases hv
  | k :: ks, _, n, s, x, hn, hp, v, hv => by
    cases x with
    | cons x1 x2 =>
      simp only [NestedKey.depthAll] at hn
      simp only [numKs, Bool.and_eq_true] at hp
      rcases List.mem_cons.mp hv with e | hv
      · rw [e]; exact byV_key k _ n s x1 (by omega) hp.1
      · exact byV_keys ks _ n s x2 (by omega) hp.2 v hv
end
end
structure KeyAt (h : Heap) (k : NestedKey) (a : Addr) : Prop where
  is : NestedIs h k (.ref a)
  dp : k.depth ≤ 8
  num : numK k = true
theorem KeyAt.keep {h h' : Heap} {k : NestedKey} {a : Addr} (x : KeyAt h k a) (hk : ∀ b o, h.get? b = some o → h'.get? b = some o) : KeyAt h' k a := ⟨NestedIs.at (fun b o _ _ e _ => hk b o e) _ _ x.is, x.dp, x.num⟩
theorem KeyAt.same {h h' : Heap} {k : NestedKey} {a b : Addr} {o : Obj} {es : Array (Int × Value)} {ep : Nat} {t : SetTable} (x : KeyAt h k b) (ho : h.get? a = some o) (hd : o.data = .set es ep t) (hs : Heap.SameBut a h h') : KeyAt h' k b :=
  ⟨NestedIs.at (fun c oc vs n e ec => by
    refine (hs.2 c fun z => ?_).trans e
    subst z
    rw [ho] at e
    cases e
    rw [hd] at ec
    cases ec) _ _ x.is, x.dp, x.num⟩
structure SetNK (w : World) (h : Heap) (a : Addr) (L : List (Addr × NestedKey)) (es : Array (Int × Value)) (ep : Nat) (t : SetTable) : Prop where
  ob : ∃ o, h.get? a = some o ∧ o.ExactSet ∧ o.data = .set es ep t
  rows : es.toList = L.map fun p => (p.2.hash w, Value.ref p.1)
  tab : TabOk t (L.map fun p => p.2.hash w)
  key : ∀ p ∈ L, KeyAt h p.2 p.1
  nd : (L.map (·.2)).Nodup
  plain : t.plain = true
  led : w.params.followText "set-order" = true ∨ t.led = true
  m7 : t.mask = 7
  few : L.length ≤ 2
section
variable {P : Program} {w : World} {A : Around} {E : Value → Shared → Prop} {s : Shared} {a : Addr} {L : List (Addr × NestedKey)} {es : Array (Int × Value)} {ep : Nat} {t : SetTable}
theorem SetNK.size (R : SetNK w s.heap a L es ep t) : es.size = L.length := by
  have h := congrArg List.length R.rows
  rwa [Array.length_toList, List.length_map] at h
theorem SetNK.pl (R : SetNK w s.heap a L es ep t) : t.place.toList.length = L.length := by
  have h := R.tab.sz
  rw [List.length_map] at h
  rw [Array.length_toList, h]
theorem SetNK.fits (R : SetNK w s.heap a L es ep t) : t.fits es.size = true := by
  have h1 := R.tab.sz
  rw [List.length_map] at h1
  have h2 := R.size
  have h3 := R.few
  have h4 := R.m7
  unfold SetTable.fits SetTable.fill
  rw [R.tab.dm, Bool.and_eq_true, beq_iff_eq, decide_eq_true_eq]
  show t.place.size = es.size ∧ t.place.size + 0 ≤ t.mask
  omega
theorem SetNK.entry (R : SetNK w s.heap a L es ep t) {i : Nat} {p : Addr × NestedKey} (h : L[i]? = some p) : es[i]? = some (p.2.hash w, Value.ref p.1) := by
  rw [← Array.getElem?_toList, R.rows, List.getElem?_map, h] <;> rfl
end
end L2

set_option Elab.async false
set_option linter.all false
set_option maxRecDepth 100000
set_option maxHeartbeats 4000000
namespace L2
open PySem PySem.Spec PyProof.Rows
section
variable {P : Program} {w : World} {A : Around} {E : Value → Shared → Prop} {s : Shared} {a : Addr} {L : List (Addr × NestedKey)} {es : Array (Int × Value)} {ep : Nat} {t : SetTable}
end
end L2

set_option Elab.async false
set_option linter.all false
set_option maxRecDepth 100000
set_option maxHeartbeats 4000000
namespace L2
open PySem PySem.Spec PyProof.Rows
structure GotN (ks : List (Addr × NestedKey)) (i : Nat) (L : List (Addr × NestedKey)) : Prop where
  sub : ∀ p ∈ L, p ∈ ks
  all : ∀ p ∈ ks.take i, p.2 ∈ L.map (·.2)
  len : L.length ≤ i
section
variable {P : Program} {w : World} {A : Around} {E : Value → Shared → Prop} {s : Shared}
theorem SetNK.keep {h h' : Heap} {a : Addr} {L : List (Addr × NestedKey)} {es : Array (Int × Value)} {ep : Nat} {t : SetTable} (R : SetNK w h a L es ep t) (ka : ∀ o, h.get? a = some o → h'.get? a = some o) (kk : ∀ p ∈ L, KeyAt h' p.2 p.1) : SetNK w h' a L es ep t := by
  obtain ⟨⟨o, ho, r⟩, h2, h3, _, h5, h6, h7, h8, h9⟩ := R
  exact ⟨⟨o, ka o ho, r⟩, h2, h3, kk, h5, h6, h7, h8, h9⟩
structure SrcN (P : Program) (w : World) (h : Heap) (l : Addr) (ks : List (Addr × NestedKey)) : Prop where
  ls : ∃ items : Array Value, h.IsList l items ∧ items.toList = ks.map fun p => Value.ref p.1
  ky : ∀ p ∈ ks, KeyAt h p.2 p.1
  few : ks.length ≤ 2
end
mutual
inductive KeyH (K : PySem.W.Frag) (H : Hp) : NestedKey → V → Prop
  | num (i : Int) : KeyH K H (.num i) (.int i)
  | tup {a : Addr} {vs : List V} {ks : List NestedKey} : SqT K H a vs → KeyHs K H ks vs → KeyH K H (.tup ks) (.ref a)
inductive KeyHs (K : PySem.W.Frag) (H : Hp) : List NestedKey → List V → Prop
  | nil : KeyHs K H [] []
  | cons {k : NestedKey} {v : V} {ks : List NestedKey} {vs : List V} : KeyH K H k v → KeyHs K H ks vs → KeyHs K H (k :: ks) (v :: vs)
end
section
variable {X : Cx} {pins : List (Addr × Obj)} {σ : St} {H : Hp} {s : Shared}
mutual
theorem KeyH.is (I : Inv X pins σ H s) : ∀ {k : NestedKey} {v : V} {u : Value}, KeyH X.K H k v → RelV v u → NestedIs s.heap k u
  | .none, _, _, h, _ => by cases h
  | .text _, _, _, h, _ => by cases h
  | .num i, _, _, h, r => by
    cases h
    obtain ⟨t, rfl⟩ := r
    exact .int i t
  | .tup ks, _, _, h, r => by
    cases h with
    | @tup a vs _ h1 h2 =>
      cases r
      obtain ⟨its, rv, ⟨o, ho, hc, n, hd⟩, _⟩ := I.tuple h1
      exact .tup ho hc hd (by simpa using KeyHs.is I h2 rv)
theorem KeyHs.is (I : Inv X pins σ H s) : ∀ {ks : List NestedKey} {vs : List V} {us : List Value}, KeyHs X.K H ks vs → Vals vs us → NestedAll s.heap ks us
  | [], _, _, h, r => by cases h; cases r; exact .nil
  | k :: ks, _, _, h, r => by
    cases h with
    | cons h1 h2 =>
      cases r with
      | cons r1 r2 => exact .cons (KeyH.is I h1 r1) (KeyHs.is I h2 r2)
end
end
structure SetN0 (h : Heap) (a : Addr) (n : Nat) : Prop where
  ex : ∃ (o : Obj) (es : Array (Int × Value)) (ep : Nat) (t : SetTable), h.get? a = some o ∧ o.ExactSet ∧ o.data = .set es ep t ∧ t.fits es.size = true ∧ es.size = n ∧ n ≤ 2
section
variable {X : Cx}
end
end L2
namespace DP
open PySem PySem.Spec PyProof.Rows L2
mutual
def nkOf : D → Option NestedKey
  | .int i => some (.num i)
  | .tup xs => match nkOfL xs with
    | some ks => some (.tup ks)
    | none => none
  | _ => none
def nkOfL : List D → Option (List NestedKey)
  | [] => some []
  | d :: ds => match nkOf d, nkOfL ds with
    | some k, some ks => some (k :: ks)
    | _, _ => none
end
section
variable {X : Cx} {C : CT} {W : WX}
mutual
theorem nk_num : ∀ {d : D} {k : NestedKey}, nkOf d = some k → numK k = true
  | .int i, _, h => by cases h; rfl
  | .tup xs, _, h => by
    unfold nkOf at h
    split at h
    · rename_i ks e
      cases h
      exact nks_num e
    · cases h
  | .non, _, h => nomatch h
  | .bl _, _, h => nomatch h
  | .str _, _, h => nomatch h
  | .lst _, _, h => nomatch h
  | .dk _ _, _, h => nomatch h
  | .dt _ _, _, h => nomatch h
  | .ins _ _, _, h => nomatch h
  | .dx _ _, _, h => nomatch h
  | .exc _ _, _, h => nomatch h
  | .ref _, _, h => nomatch h
theorem nks_num : ∀ {ds : List D} {ks : List NestedKey}, nkOfL ds = some ks → numKs ks = true
  | [], _, h => by cases h; rfl
  | d :: ds, _, h => by
    unfold nkOfL at h
    split at h
    · rename_i k ks e1 e2
      cases h
      simp only [numKs, Bool.and_eq_true]
      exact ⟨nk_num e1, nks_num e2⟩
    · cases h
end
mutual
theorem nk_rep {G : Wd} {rho : List Addr} {L : Addr → Prop} {H : Hp} : ∀ {d : D} {v : V} {k : NestedKey}, Rep G rho L H d v → nkOf d = some k → KeyH G.K H k v
  | .int i, _, _, r, h => by cases r; cases h; exact .num i
  | .tup xs, _, _, r, h => by
    unfold nkOf at h
    split at h
    · rename_i ks e
      cases h
      cases r with
      | tup h1 a1 => exact .tup h1.sq (nks_rep a1 e)
    · cases h
  | .non, _, _, _, h => nomatch h
  | .bl _, _, _, _, h => nomatch h
  | .str _, _, _, _, h => nomatch h
  | .lst _, _, _, _, h => nomatch h
  | .dk _ _, _, _, _, h => nomatch h
  | .dt _ _, _, _, _, h => nomatch h
  | .ins _ _, _, _, _, h => nomatch h
  | .dx _ _, _, _, _, h => nomatch h
  | .exc _ _, _, _, _, h => nomatch h
  | .ref _, _, _, _, h => nomatch h
theorem nks_rep {G : Wd} {rho : List Addr} {L : Addr → Prop} {H : Hp} : ∀ {ds : List D} {vs : List V} {ks : List NestedKey}, RepL G rho L H ds vs → nkOfL ds = some ks → KeyHs G.K H ks vs
  | [], _, _, r, h => by cases r; cases h; exact .nil
  | d :: ds, _, _, r, h => by
    unfold nkOfL at h
    split at h
    · rename_i k ks e1 e2
      cases h
      cases r with
      | cons r1 r2 => exact .cons (nk_rep r1 e1) (nks_rep r2 e2)
    · cases h
end
end
end DP

set_option Elab.async false
set_option linter.all false
set_option maxRecDepth 100000
set_option maxHeartbeats 4000000
namespace DP
open PySem PySem.Spec PySem.Calls PyProof.Rows L2 LamX
section
variable {G : Wd} {rho : List Addr} {L : Addr → Prop} {H : Hp} {z : Option (Nat × Addr × FxO)}
mutual
theorem Rep.fx : ∀ {d : D} {v : V}, Rep G rho L H d v → Rep { G with fx := z } rho L H d v
  | .non, _, h => by cases h; exact .non
  | .bl b, _, h => by cases h; exact .bl b
  | .int i, _, h => by cases h; exact .int i
  | .str x, _, h => by cases h; exact .str x
  | .tup ds, _, h => by
    cases h with
    | tup ht ha => exact .tup ht (RepL.fx ha)
  | .lst ds, _, h => by
    cases h with
    | lst hl ha => exact .lst hl (RepL.fx ha)
  | .dk ks ds, _, h => by
    cases h with
    | dk hl hm hz ha => exact .dk hl hm hz (RepL.fx ha)
  | .dt ks ds, _, h => by
    cases h with
    | dt hl hm hz ha => exact .dt hl hm hz (RepL.fx ha)
  | .ins k ds, _, h => by
    cases h with
    | ins hl hm ha => exact .ins hl hm (RepL.fx ha)
  | .dx ks ds, _, h => by
    cases h
    constructor <;> first | assumption | (apply RepL.fx; assumption)
  | .exc c ds, _, h => by
    cases h with
    | exc h1 h2 h3 h4 => exact .exc h1 h2 h3 (RepL.fx h4)
    | exc0 h1 => exact .exc0 h1
    | excv h1 h2 h3 h4 h5 => exact .excv h1 h2 h3 (by rename_i d _; cases d <;> exact h4) (RepL.fx h5)
  | .ref n, _, h => by
    cases h with
    | ref h1 h2 => exact .ref h1 h2
theorem RepL.fx : ∀ {ds : List D} {vs : List V}, RepL G rho L H ds vs → RepL { G with fx := z } rho L H ds vs
  | [], _, h => by cases h; exact .nil
  | d :: ds, _, h => by
    cases h with
    | cons h1 h2 => exact .cons (Rep.fx h1) (RepL.fx h2)
end
theorem CellAt.fx {a : Addr} : ∀ {c : Cell}, CellAt G rho L H a c → CellAt { G with fx := z } rho L H a c
  | .lst ds, ⟨vs, h, r⟩ => ⟨vs, h, RepL.fx r⟩
  | .dk ks ds, ⟨vs, h, e, r⟩ => ⟨vs, h, e, RepL.fx r⟩
  | .dt ks ds, ⟨vs, h, e, r⟩ => ⟨vs, h, e, RepL.fx r⟩
  | .ins c ds, ⟨dx, vs, h, r⟩ => ⟨dx, vs, h, RepL.fx r⟩
  | .tab _, h => h.elim
theorem CellQ.fx {a : Addr} {c : Cell} (h : CellQ G rho L H a c) : CellQ { G with fx := z } rho L H a c := by
  rcases h with h | ⟨q, h1, h2, h3⟩
  · exact .inl (CellAt.fx h)
  · exact .inr ⟨q, h1, h2, h3⟩
theorem SR.fx0 {Z : Addr → Prop} {hp : List Cell} (S : SR G Z ⟨rho, ⟨[], hp⟩, [], H⟩) : SR { G with fx := z } Z ⟨rho, ⟨[], hp⟩, [], H⟩ :=
  ⟨rfl, S.hlen, (fun i d h => by simp at h), (fun i c h => by simp at h), (fun n c h => let ⟨a, h1, h2, h3⟩ := S.cellQ n c h; ⟨a, h1, CellQ.fx h2, h3⟩), S.nod, (fun i j c c' a h => by simp at h), S.zin, (fun i f o _ h => by simp at h)⟩
theorem SR.fx1 {Z : Addr → Prop} {hp : List Cell} (S : SR { G with fx := z } Z ⟨rho, ⟨[], hp⟩, [], H⟩) : SR G Z ⟨rho, ⟨[], hp⟩, [], H⟩ := SR.fx0 (G := { G with fx := z }) (z := G.fx) S
theorem Rep.fxb {d : D} {v : V} (h : Rep { G with fx := z } rho L H d v) : Rep G rho L H d v := Rep.fx (G := { G with fx := z }) (z := G.fx) h
theorem RepL.fxb {ds : List D} {vs : List V} (h : RepL { G with fx := z } rho L H ds vs) : RepL G rho L H ds vs := RepL.fx (G := { G with fx := z }) (z := G.fx) h
end
abbrev CT.fn (C : CT) (z : Option (Nat × Addr × FxO)) : CT := { C with fx := z }
theorem spD_fx {K : PySem.W.Frag} {C : CT} {z : Option (Nat × Addr × FxO)} {m : DF} {vs : List V} {H : Hp} {Q : VK} {E : XK} (h : spD (wd K (C.fn z)) m vs H Q E) : spD (wd K C) m vs H Q E := by
  obtain ⟨Z, rho, hp, ds, S, r, q⟩ := h
  refine ⟨Z, rho, hp, ds, SR.fx1 (G := wd K C) (z := z) S, RepL.fxb (G := wd K C) (z := z) r, ?_⟩
  unfold FinF at q ⊢
  cases e : m ds hp with
  | ok d hp' =>
    rw [e] at q
    intro rho' H' v S' l r'
    exact q rho' H' v (SR.fx0 (G := wd K C) (z := z) S') l (Rep.fx (G := wd K C) (z := z) r')
  | err x hp' =>
    rw [e] at q
    intro rho' H' cls d S' l ⟨x1, x2⟩
    refine q rho' H' cls d (SR.fx0 (G := wd K C) (z := z) S') l ⟨x1, ?_⟩
    obtain ⟨c2, arg⟩ := x
    cases arg with
    | none => exact x2
    | some g2 =>
      obtain ⟨dd, v, y1, y2, y4, y3⟩ := x2
      exact ⟨dd, v, y1, y2, y4, Rep.fx (G := wd K C) (z := z) y3⟩
  | stuck => rw [e] at q; exact q.elim
section
variable {P : Program} {w : World} {K : PySem.W.Frag} {mg : Str → Option Value} {base : Heap} {C : CT} {k : Nat} {f : Addr} {fd : FuncData} {ps : List Str} {m : DF} {z : Option (Nat × Addr × FxO)}
theorem FnG.fx (F : FnG P w K mg base C k f fd ps m) : FnG P w K mg base (C.fn z) k f fd ps m :=
  ⟨fun A outer s H args us vs Q E hr hg e0 hb r hl h => F.run A outer s H args us vs Q E hr hg e0 hb r hl (spD_fx h)⟩
theorem DefOk.fx {n : Nat} (F : DefOk P w K mg base C f k n m) : DefOk P w K mg base (C.fn z) f k n m :=
  ⟨let ⟨fd, ps, F1, b, l⟩ := F.ex; ⟨fd, ps, F1.fx, b, l⟩, F.kp⟩
end
end DP

set_option Elab.async false
set_option linter.all false
set_option maxRecDepth 100000
set_option maxHeartbeats 4000000
namespace DP
open PySem PySem.Spec PySem.Calls PyProof.Rows L2 LamX
def LnO (f : Addr) (q : Str) (params : Arguments) (body : Expr) (scope : Scope) (cl : List (Str × Addr)) (c : Addr) : HO :=
  .ext fun h => ∃ pm ctv : Value, h.get? f = some (PySem.W.kla_obj "<lambda>" q params body scope cl pm c ctv)
section
variable {X : Cx} {pins : List (Addr × Obj)} {σ : L2.St} {H : Hp} {s : Shared}
end
section
variable {X : Cx}
end
section
variable {G : Wd} {Z : Addr → Prop} {p : Pt} {z : Option (Nat × Addr × FxO)}
theorem SR.drop (h0 : G.fx = none) (S : SR { G with fx := z } Z p) : SR G Z p :=
  ⟨S.len, S.hlen, (fun i d h => let ⟨v, h1, h2⟩ := S.val i d h; ⟨v, h1, Rep.fxb h2⟩), (fun i c h => let ⟨a, h1, h2, h3⟩ := S.own i c h; ⟨a, h1, CellAt.fx (G := { G with fx := z }) (z := G.fx) h2, h3⟩),
    (fun n c h => let ⟨a, h1, h2, h3⟩ := S.cellQ n c h; ⟨a, h1, CellQ.fx (G := { G with fx := z }) (z := G.fx) h2, h3⟩), S.nod, S.dis, S.zin, (fun i f o e => by rw [h0] at e; cases e)⟩
theorem FinS.drop {W : WX} {r : RS} {D : Ends} (h0 : G.fx = none) (h : FinS G Z W p r D) : FinS { G with fx := z } Z W p r D := by
  cases r with
  | nx st => exact fun rho sg H S l => h rho sg H (S.drop h0) l
  | rt d st => exact fun rho sg H v S l rv => h rho sg H v (S.drop h0) l (Rep.fxb rv)
  | bk st => exact fun rho sg H S l => h rho sg H (S.drop h0) l
  | ct st => exact fun rho sg H S l => h rho sg H (S.drop h0) l
  | err x st =>
    intro rho sg H cls d S l ⟨x1, x2⟩
    refine h rho sg H cls d (S.drop h0) l ⟨x1, ?_⟩
    obtain ⟨c2, arg⟩ := x
    cases arg with
    | none => exact x2
    | some g2 =>
      obtain ⟨dd, v, y1, y2, y4, y3⟩ := x2
      exact ⟨dd, v, y1, y2, y4, Rep.fxb y3⟩
  | stuck => exact h.elim
end
section
variable {X : Cx} {C : CT} {W : WX}
end
end DP

set_option Elab.async false
set_option linter.all false
set_option maxRecDepth 100000
set_option maxHeartbeats 4000000
namespace DP
open PySem PySem.Spec PySem.Calls PyProof.Rows L2 LamX NdefX
def captS (sl : List SV) : List Nat → Option (List D)
  | [] => some []
  | j :: js => match sl[j]? with
    | some (SV.val d) => (match captS sl js with
      | some ds => some (d :: ds)
      | none => none)
    | _ => none
def captM (i : Nat) (js : List Nat) (f : DM (List D)) : DM (List D) := bnd f fun ds s => match s.sl[i]? with
  | some SV.un => (match captS s.sl js with
    | some cs => .ok (ds ++ cs) s
    | none => .stuck)
  | _ => .stuck
def callL (i : Nat) (js : List Nat) (m : DF) (f : DM (List D)) : DM D := fun s => match s.sl[i]? with
  | some SV.un => callM m (captM i js f) s
  | _ => .stuck
theorem captS_rep {G : Wd} {Z : Addr → Prop} {p : Pt} (S : SR G Z p) : ∀ {js : List Nat} {ds : List D}, captS p.st.sl js = some ds → ∃ vs : List V, js.map (slotAt p.sg) = vs.map some ∧ RepLP G Z p ds vs
  | [], ds, h => by
    cases h
    exact ⟨[], rfl, .nil⟩
  | j :: js, ds, h => by
    unfold captS at h
    split at h
    · rename_i d e
      split at h
      · rename_i ds' e2
        cases h
        obtain ⟨v, h1, h2⟩ := S.val j d e
        obtain ⟨vs, h3, h4⟩ := captS_rep S e2
        refine ⟨v :: vs, ?_, .cons h2 h4⟩
        rw [List.map_cons, List.map_cons, h3, slotAt_of h1]
      · cases h
    · cases h
structure LamG (P : Program) (w : World) (K : PySem.W.Frag) (mg : Str → Option Value) (base : Heap) (C : CT) (k : Nat) (f : Addr) (q : Str) (params : Arguments) (body : Expr) (scope : Scope) (cl : List (Str × Addr)) (c' : Addr) (ps fr : List Str) (m : DF) : Prop where
  run : ∀ (A : Around) (outer : List Env) (s : Shared) (H : Hp) (us : List Value) (vs ws : List V) (Q : VK) (E : XK), Room k A → A.guards = some [] → Env0 P w K mg base A outer s H → H f = some (LnO f q params body scope cl c') → H c' = some (CodeO c' q) →
    CellsAt cl fr (ws.map some) s.heap H → Vals vs us → vs.length = ps.length → spD (wd K C) m (vs ++ ws) H Q E → codeAny (model P w) A (.call (.ref f) ⟨us, []⟩) (CR (L2.CX P w) outer P w H s Q E) s
section
variable {X : Cx} {C : CT} {W : WX} {k i : Nat} {f c' : Addr} {q : Str} {params : Arguments} {body : Expr} {scope : Scope} {cl : List (Str × Addr)} {ps fr : List Str} {js : List Nat} {m : DF}
theorem pe_callL {x : Str} {p pos : Pos} {e : Expr} {es : List Expr} {fa : DM (List D)} {Gd : L2.St → Prop} (F : LamG X.prog X.w X.K X.mg X.base C k f q params body scope cl c' ps fr m) (tk : Takes X W) (hr : Room k X.A) (hgd : X.A.guards = some []) (hN : X.N[i]? = some x) (hv : Vis X.env.scope x)
    (CA : ∀ pins σ H s, L2.Inv X pins σ H s → Gd σ → CellsAt cl fr (js.map (slotAt σ)) s.heap H)
    (ha : DA X (C.fn (some (i, f, ⟨LnO f q params body scope cl c', c', CodeO c' q⟩))) W (e :: es) fa) (hn : (e :: es).length = ps.length) (hlen : ∀ s ds s', fa s = .ok ds s' → ds.length = (e :: es).length)
    (hd : (x == ("__debug__" : Str)) = false := by decide) (hcd : (x == ("__classdict__" : Str)) = false := by decide)
    (he : starEach (e :: es) X.env = (false, eval e X.env) :: starEach es X.env := by rfl) (hpl : (backTo pos (starEach es X.env)).any (·.1) = false := by rfl) :
    PE X (.Call (.Name x p) (e :: es) [] pos) (fun σ H Q => Gd σ ∧ tD (wd X.K (C.fn (some (i, f, ⟨LnO f q params body scope cl c', c', CodeO c' q⟩)))) W (callL i js m fa) σ H Q) := by
  generalize hz : (some (i, f, (⟨LnO f q params body scope cl c', c', CodeO c' q⟩ : FxO)) : Option (Nat × Addr × FxO)) = z at *
  refine ⟨fun pins s σ H Q I h => ?_⟩
  obtain ⟨hG, Z, q1, rfl, rfl, S, h⟩ := h
  unfold callL at h
  have hun : q1.st.sl[i]? = some SV.un := by
    split at h
    · assumption
    · exact h.elim
  rw [hun] at h
  dsimp only at h
  have fx : ∀ {q2 : Pt}, SR (wd X.K (C.fn z)) Z q2 → q2.st.sl[i]? = some SV.un → q2.sg[i]? = some (some (V.ref f)) ∧ q2.H f = some (LnO f q params body scope cl c') ∧ q2.H c' = some (CodeO c' q) := fun {q2} S2 u2 => by
    obtain ⟨h1, h2⟩ := S2.fxo i f _ hz.symm u2
    exact ⟨h1, (h2 f _ (.inl ⟨rfl, rfl⟩)).1, (h2 c' _ (.inr ⟨rfl, rfl⟩)).1⟩
  refine wpAny_Call_Name_kw (thn ((pe_var (pos := p) hN hv hd hcd).run pins s q1.sg q1.H (fun v H1 => v = .ref f ∧ H1 = q1.H) I ⟨.ref f, (fx S hun).1, rfl, rfl⟩) fun u s1 ⟨v, H1, I1, r1, e1⟩ => ?_)
  obtain ⟨ev, eH⟩ := e1
  subst ev
  rw [eH] at I1
  obtain rfl : u = Value.ref f := r1
  have at_ : ∀ {σ2 : L2.St} {H2 : Hp} {s2 : Shared}, L2.Inv X pins σ2 H2 s2 → H2 f = some (LnO f q params body scope cl c') → PySem.W.FnAt f s2.heap := fun {σ2 H2 s2} I2 h2 => by
    obtain ⟨⟨pm, ctv, ho⟩, _, _⟩ := I2.hok f _ h2
    exact ⟨_, _, _, _, ho⟩
  refine PySem.W.callWith_F (first := []) (at_ I1 (fx S hun).2.1) (thn (ha.pa.run pos pins s1 q1.sg q1.H (fun vs H2 => ∃ q2 ds, q2.sg = q1.sg ∧ q2.H = H2 ∧ SR (wd X.K (C.fn z)) Z q2 ∧ q2.st.sl[i]? = some SV.un ∧ RepLP (wd X.K (C.fn z)) Z q2 ds vs ∧ ds.length = ps.length ∧
      DP.Fin (wd X.K (C.fn z)) Z W (relD (wd X.K (C.fn z)) Z) q2 (match captS q2.st.sl js with
        | some cs => (match m (ds ++ cs) q2.st.hp with
          | .ok d hp => R.ok d ⟨q2.st.sl, hp⟩
          | .err x hp => .err x ⟨q2.st.sl, hp⟩
          | .stuck => .stuck)
        | none => .stuck) Q) I1 ⟨Z, q1, rfl, rfl, S, ?_⟩) fun us s2 ⟨vs, H2, I2, r, q2, ds, e1, e2, S2, u2, rd, hdl, h2⟩ => ?_) he hpl
  · unfold callM captM bnd at h
    cases ef : fa q1.st with
    | ok ds st =>
      rw [ef] at h
      intro rho H2 vs S2 l2 r2
      dsimp only at h
      have hu2 : st.sl[i]? = some SV.un := by
        cases eu : st.sl[i]? with
        | none => rw [eu] at h; exact h.elim
        | some u =>
          rw [eu] at h
          cases u with
          | un => rfl
          | val _ => exact h.elim
          | own _ => exact h.elim
      rw [hu2] at h
      refine ⟨⟨rho, st, q1.sg, H2⟩, ds, rfl, rfl, S2, hu2, r2, (hlen _ _ _ ef).trans hn, ?_⟩
      have h' := Fin.later h l2 rfl
      dsimp only at h' ⊢
      cases ec : captS st.sl js with
      | none => rw [ec] at h'; exact h'
      | some cs => rw [ec] at h'; exact h'
    | err x st => rw [ef] at h; exact h
    | stuck => rw [ef] at h; exact h
  · subst e2
    obtain ⟨g1, g2, g3⟩ := fx S2 u2
    refine ⟨at_ I2 g2, ?_⟩
    show wpAny _ _ (call (.ref f) us) _ _ _
    cases ec : captS q2.st.sl js with
    | none => rw [ec] at h2; exact h2.elim
    | some cs =>
      rw [ec] at h2
      dsimp only at h2
      obtain ⟨ws, hw, rw_⟩ := captS_rep S2 ec
      have CA2 := CA pins q1.sg q2.H s2 I2 hG
      rw [e1] at hw
      rw [hw] at CA2
      have S3 : SR (wd X.K C) (Zin Z q2) q2.in := SR.fx1 (G := wd X.K C) (z := z) S2.in
      have R3 : RepLP (wd X.K C) (Zin Z q2) q2.in (ds ++ cs) (vs ++ ws) := RepL.fxb (G := wd X.K C) (z := z) (RepLP.in (RepL.append rd rw_))
      have hvl : vs.length = ps.length := by rw [← RepL.length rd]; exact hdl
      refine wpAny_call (codeAny_mono (F.run X.A X.stack s2 q2.H us vs ws Q (fun cls d H' => W cls d q1.sg H') hr hgd I2.env0 g2 g3 CA2 r hvl ⟨Zin Z q2, q2.rho, q2.st.hp, ds ++ cs, S3, R3, ?_⟩) fun rr s' hq => ?_)
      · cases em : m (ds ++ cs) q2.st.hp with
        | ok d hp =>
          rw [em] at h2
          intro rho H3 v S4 l4 rv
          obtain ⟨S5, l5, r5⟩ := S2.out (SR.fx0 (G := wd X.K C) (z := z) S4) l4
          exact h2 rho H3 v S5 l5 (r5 d v (Rep.fx (G := wd X.K C) (z := z) rv))
        | err x hp =>
          rw [em] at h2
          intro rho H3 cls d S4 l4 xr
          obtain ⟨S5, l5, r5⟩ := S2.out (SR.fx0 (G := wd X.K C) (z := z) S4) l4
          rw [← e1]
          refine h2 rho H3 cls d S5 l5 ⟨xr.1, ?_⟩
          have x2 := xr.2
          cases qa : x.arg with
          | none => rw [qa] at x2; exact x2
          | some g =>
            rw [qa] at x2
            obtain ⟨dd, v, y1, y2, y3, y4⟩ := x2
            refine ⟨dd, v, y1, y2, fun z => y3 ?_, r5 g v (Rep.fx (G := wd X.K C) (z := _) y4)⟩
            rcases z with (z | z) | z
            · exact .inl (.inl z)
            · exact .inr (.inr z)
            · exact .inr (.inl z)
        | stuck => rw [em] at h2; exact h2
      · cases rr with
        | error e => exact tk e s' (XE.of_call I2 (fun _ _ _ h => h) hq)
        | ok fl =>
          cases fl with
          | ret u => exact I2.after hq
          | next => exact hq.elim
          | brk => exact hq.elim
          | cont => exact hq.elim
end
end DP

set_option Elab.async false
set_option linter.all false
set_option maxRecDepth 100000
set_option maxHeartbeats 4000000
namespace DP
open PySem PySem.Spec PySem.Calls PyProof.Rows L2 LamX NdefX
section
variable {X : Cx} {C : CT} {W : WX} {k i : Nat} {f c' : Addr} {q : Str} {params : Arguments} {body : Expr} {scope : Scope} {ps fr : List Str} {js : List Nat} {m : DF}
theorem blk_cells {pins : List (Addr × Obj)} {σ : L2.St} {H : Hp} {s : Shared} {sc : Scope} {ce : Env} {fp : List Addr} {cl : List (Str × Addr)} (I : L2.Inv X pins σ H s) (hfn : ∀ y, X.fn y = true) (cp : Caps X cl fr js) (h1 : ∀ b ∈ fp, FpOk X pins H b) :
    ∀ pins' σ' H' s', L2.Inv (X.blk s H sc ce fp) pins' σ' H' s' → js.map (slotAt σ') = js.map (slotAt σ) → CellsAt cl fr (js.map (slotAt σ')) s'.heap H' := fun pins' σ' H' s' I' e => by
  rw [e]
  refine CellsAt.later (X := X.blk s H sc ce fp) (cells_of I cp) (fun y c hc z => ?_) (fun y c hc z => ?_) I'
  · have hx := cp.sub y c hc
    rcases List.mem_cons.mp (I.stkSub c z) with z | z
    · exact I.cne y c hx z
    · obtain ⟨_, o, ho, _⟩ := I.ok.funs.mem z
      exact absurd (Nat.lt_of_lt_of_le (Heap.lt_size ho) (I.ok.cab y c (hfn y) hx)) (Nat.lt_irrefl _)
  · exact (h1 c z).2.2.2.2.1 y c (cp.sub y c hc) rfl
theorem pe_callB {pins : List (Addr × Obj)} {σ : L2.St} {H : Hp} {s : Shared} {sc : Scope} {ce : Env} {fp : List Addr} {x : Str} {p pos : Pos} {e : Expr} {es : List Expr} {fa : DM (List D)} (I : L2.Inv X pins σ H s) (h1 : ∀ b ∈ fp, FpOk X pins H b) (hfn : ∀ y, X.fn y = true)
    (F : LamG X.prog X.w X.K X.mg X.base C k f q params body scope (cloFrom X.env.cells scope.names []) c' ps fr m) (hB : ndefB X.env.scope scope fr = true) (hjs : js.map (fun j => X.N[j]?) = fr.map some)
    (tk : Takes (X.blk s H sc ce fp) W) (hr : Room k X.A) (hgd : X.A.guards = some []) (hN : X.N[i]? = some x) (hv : Vis ce.scope x)
    (ha : DA (X.blk s H sc ce fp) (C.fn (some (i, f, ⟨LnO f q params body scope (cloFrom X.env.cells scope.names []) c', c', CodeO c' q⟩))) W (e :: es) fa) (hn : (e :: es).length = ps.length) (hlen : ∀ s ds s', fa s = .ok ds s' → ds.length = (e :: es).length)
    (hd : (x == ("__debug__" : Str)) = false := by decide) (hcd : (x == ("__classdict__" : Str)) = false := by decide)
    (he : starEach (e :: es) ce = (false, eval e ce) :: starEach es ce := by rfl) (hpl : (backTo pos (starEach es ce)).any (·.1) = false := by rfl) :
    PE (X.blk s H sc ce fp) (.Call (.Name x p) (e :: es) [] pos) (fun σ' H' Q => js.map (slotAt σ') = js.map (slotAt σ) ∧ tD (wd X.K (C.fn (some (i, f, ⟨LnO f q params body scope (cloFrom X.env.cells scope.names []) c', c', CodeO c' q⟩)))) W (callL i js m fa) σ' H' Q) :=
  pe_callL (X := X.blk s H sc ce fp) (Gd := fun σ' => js.map (slotAt σ') = js.map (slotAt σ)) F tk hr hgd hN hv (blk_cells I hfn (Caps.made I.ok (ndef_free hB) (ndef_fr hB) hjs) h1) ha hn hlen hd hcd he hpl
end
end DP

set_option Elab.async false
set_option linter.all false
set_option maxRecDepth 100000
set_option maxHeartbeats 4000000
namespace PySem
namespace PXK
open PX
section
variable {M : Model} {A : Around} {E : Value → Shared → Prop} {h : Heap} {g : Array GenState} {d : Drawn} {t : Nat} {os : OsState}
variable {nm q : Str} {C N : Addr} {bs bm bmB : List Value} {hdct : Bool} {sn : List Str} {sub : List Value} {ab : Bool} {col : Option Bool} {dd : Option Addr} {k0 k1 k2 k3 k5 : Option Value} {B newId initId : String}
theorem check_new_own (F : ExcBaseFacts B newId initId bmB) (hT : ∀ X : String, bm.contains (.type X) = bmB.contains (.type X)) {rest : List Value} {f : Str} {u : Value} {Q : Unit → Shared → Prop}
    (hC : h.get? C = some (excClassObj nm q C N bs bm hdct sn sub ab col dd k0 k1 k2 k3 k5 newId)) (hq : Q () ⟨h, g, d, t, os⟩) : wpAny M A (checkBuiltinCall newId ⟨.ref C :: rest, [(f, u)]⟩) Q E ⟨h, g, d, t, os⟩ := by
  have hcont : (Value.ref C :: bm).contains (.type B) = true := by rw [List.contains_cons, hT, F.hasB, Bool.or_true]
  have hstar := F.noStar
  simp only [checkBuiltinCall, F.newKind, F.newSplit, F.newRow]
  repeat (first | refine wpAny_loadPart_at hC ?_ | (refine wpAny_isSubtype_exc hC ?_; rw [hcont]) | refine wpAny_staticBase_exc hC ?_ | refine wpAny_madeBy_exc hC ?_ | simp only [bne_self_eq_false, Bool.false_eq_true, if_false] | wp_step)
  exact hq
end
section
variable {prog : Program} {w : World} {A : Around} {E : Value → Shared → Prop} {R : Result → Shared → Prop} {h : Heap} {g : Array GenState} {d : Drawn} {t : Nat} {os : OsState}
variable {nm q : Str} {C N : Addr} {bs bm bmB : List Value} {hdct : Bool} {sn : List Str} {sub : List Value} {ab : Bool} {col : Option Bool} {dd : Option Addr} {k0 k1 k2 k3 k5 : Option Value} {B newId initId : String}
theorem new_own (F : ExcBaseFacts B newId initId bmB) (hT : ∀ X : String, bm.contains (.type X) = bmB.contains (.type X)) {rest : List Value} {f : Str} {u : Value}
    (hC : h.get? C = some (excClassObj nm q C N bs bm hdct sn sub ab col dd k0 k1 k2 k3 k5 newId))
    (hq : R (.ok (.ret (.ref (h.objs.size + 1)))) ⟨(h.push { cls := .type "tuple", data := .seq rest.toArray }).push
      { cls := .ref C, data := .fields #[.ref h.objs.size, .none, .none, .none, .bool false, .none] }, g, d, t, os⟩) (hrest : rest.length ≤ sizeLine) :
    codeAny (model prog w) A (.builtin newId ⟨.ref C :: rest, [(f, u)]⟩) R ⟨h, g, d, t, os⟩ := by
  have hends := F.ends
  have hcB : (Value.ref C :: bm).contains (.type B) = true := by rw [List.contains_cons, hT, F.hasB, Bool.or_true]
  have hcA : (Value.ref C :: bm).contains (.type "AttributeError") = false := by rw [List.contains_cons, hT, F.noAttr]; rfl
  have hcN : (Value.ref C :: bm).contains (.type "NameError") = false := by rw [List.contains_cons, hT, F.noName]; rfl
  refine codeAny_builtinAt F.entry ?_
  unfold Builtin.«BaseException.__new__»
  refine wpAt_bind ?_
  show wpAt _ _ _ (stack >>= _) _ _ _
  refine wpAt_bind (wpAt_stack fun p below => wpAt_of_wpAny ?_)
  wp_walk
  refine wpAt_of_wpAny ?_
  rw [F.owner]
  repeat (first | with_reducible refine wpAny_madeHere_exc F.canon hC ?_ | with_reducible refine wpAny_loadPart_at hC ?_ | (with_reducible refine wpAny_isSubtype_exc hC ?_; first | rw [hcB] | rw [hcA] | rw [hcN]) | wp_step)
  show R _ _
  rw [Heap.size_push]
  exact hq
theorem type_call_own (F : ExcBaseFacts B newId initId bmB) (hT : ∀ X : String, bm.contains (.type X) = bmB.contains (.type X)) {rest : List Value} {f : Str} {u : Value} {fI : Addr} {Q : Fin → Shared → Prop}
    (hC : h.get? C = some (excClassObj nm q C N bs bm hdct sn sub ab col dd k0 k1 k2 k3 k5 newId))
    (hi : W.Looks (model prog w) h (typeLookup (.ref C) "__init__") (some (.ref fI))) (hb : ∀ self, W.Looks (model prog w) h (bindSpecial (.ref fI) self) (.ref fI, [self])) (hrest : rest.length ≤ sizeLine)
    (hq : codeAny (model prog w) A (.call (.ref fI) ⟨.ref (h.objs.size + 1) :: rest, [(f, u)]⟩)
      (fun r s' => match r with | .ok (.ret v) => v = .none ∧ Q (.done (.ret (.ref (h.objs.size + 1)))) s' | .ok _ => False | .error e => E e s')
      ⟨(h.push (W.kdv_tup rest)).push (excO C h.objs.size), g, d, t, os⟩) :
    wpAny (model prog w) A (Builtin.«type.__call__» ⟨.ref C :: rest, [(f, u)]⟩) Q E ⟨h, g, d, t, os⟩ := by
  repeat (first | with_reducible refine wpAny_loadPart_at hC ?_ | with_reducible refine wpAny_madeBy_exc hC ?_ | wp_step)
  refine codeAny_call_builtin_code (Code.quiet_builtin _ F.quiet) (check_new_own F hT hC ?_)
  refine new_own F hT hC ?_ hrest
  show wpAny _ _ _ _ _ _
  have k : ∀ b o, h.get? b = some o → ((h.push (W.kdv_tup rest)).push (excO C h.objs.size)).get? b = some o := fun b o e => Heap.get?_push_of_some _ (Heap.get?_push_of_some _ e)
  have hC₁ := k _ _ hC
  have hget : ((h.push (W.kdv_tup rest)).push (excO C h.objs.size)).get? (h.objs.size + 1) = some (excO C h.objs.size) := by heap_get
  have hcC : (Value.ref C :: bm).contains (.ref C) = true := by simp
  have i1 := hi.keeps k
  have b1 := (hb (.ref (h.objs.size + 1))).keeps k
  unfold isInstance
  repeat (first | with_reducible refine wpAny_loadPart_at hget ?_ | (with_reducible refine wpAny_isSubtype_exc hC₁ ?_; rw [hcC]) | wp_step)
  show wpAny _ _ (typeLookup (.ref C) _) _ _ _
  refine i1.at ?_
  refine wpAny_holding (wpAny_bind (b1.at ?_))
  refine wpAny_bind (wpAny_call (codeAny_mono hq fun r s' z => ?_))
  rcases r with e | (v | _ | _ | _) <;> first | exact z | exact z.elim | skip
  obtain ⟨rfl, z⟩ := z
  first
    | exact wpAny_pure (wpAny_pure z)
    | (wp_walk; exact z)
theorem call_own (F : ExcBaseFacts B newId initId bmB) (hT : ∀ X : String, bm.contains (.type X) = bmB.contains (.type X)) {rest : List Value} {f : Str} {u : Value} {fI : Addr}
    (hC : h.get? C = some (excClassObj nm q C N bs bm hdct sn sub ab col dd k0 k1 k2 k3 k5 newId))
    (hi : W.Looks (model prog w) h (typeLookup (.ref C) "__init__") (some (.ref fI))) (hb : ∀ self, W.Looks (model prog w) h (bindSpecial (.ref fI) self) (.ref fI, [self])) (hrest : rest.length ≤ sizeLine)
    (hq : codeAny (model prog w) (A.under (.builtin "type.__call__" ⟨.ref C :: rest, [(f, u)]⟩)) (.call (.ref fI) ⟨.ref (h.objs.size + 1) :: rest, [(f, u)]⟩) (W.InitBack (h.objs.size + 1) R)
      ⟨(h.push (W.kdv_tup rest)).push (excO C h.objs.size), g, d, t, os⟩) :
    codeAny (model prog w) A (.call (.ref C) ⟨rest, [(f, u)]⟩) R ⟨h, g, d, t, os⟩ := by
  have f1 := tc_lookup
  have f2 := tc_bind (.ref C)
  have hTy : (⟨h, g, d, t, os⟩ : Shared).TypeIs (.ref C) "type" := ⟨_, hC, rfl⟩
  refine codeAny_of_tree ?_
  show wpAny _ _ (callAny (.ref C) _) _ _ _
  repeat (any_goals (first | assumption | with_reducible refine wpAny_loadPart_at hC ?_ | wp_step))
  refine ⟨rfl, ?_⟩
  refine codeAny_call_builtin_at (Code.quiet_builtin _ (by decide +kernel)) entry_typeCall (wpAny_check_type_call_sub hC (type_call_own F hT hC hi hb hrest ?_))
  refine codeAny_mono hq fun r s' z => ?_
  rcases r with e | (v | _ | _ | _) <;> exact z
end
end PXK
end PySem
namespace DP
open PySem PySem.Spec PySem.Calls PyProof.Rows L2 PySem.W He


theorem xbindsK {s : Shared} {nm q : Str} {f : Str} {n1 n2 : Option Expr} {q1 q2 : Pos} {bd : List Stmt} {sc : Scope} {kV doc pm : Value} {an : Option Addr} {cdv ct : Value} {cc : Addr} {a u : Value} (fin : f = ("given" : Str) ∨ f = ("index" : Str) ∨ f = ("limit" : Str)) :
    BindsTo s (ksFn nm q ⟨[], [⟨"self", n1, q1⟩, ⟨f, n2, q2⟩], none, [], [], none, []⟩ bd sc .none kV doc pm an cdv ct cc) ⟨[a], [(f, u)]⟩ [("self", a), (f, u)] := by
  rcases fin with rfl | rfl | rfl <;> exact BindsTo.of_eq rfl

section
variable {P : Program} {w : World} {A : Around} {E : Value → Shared → Prop} {s : Shared} {K : PySem.W.Frag} {mg : Str → Option Value} {b : XB} {C L : Addr} {f : Str} {h₀ : Heap} {m : Str → Option Value} {u : Value}
theorem x_callK {Q : Value → Shared → Prop} (T : XI P K mg b C f) (M : Mod K mg h₀) (F : Fr h₀ L s.heap m) (hroom : (A.under (.builtin "type.__call__" ⟨.ref C :: [], [(f, u)]⟩)).depth < recursionLimit)
    (h : ∀ (e t dx : Addr) (hs : Int) (tk' : Tok) (n : Nat) (h' : Heap) (tk : Nat), (∀ c o, s.heap.get? c = some o → h'.get? c = some o) → s.heap.get? e = none → s.heap.get? dx = none → s.heap.objs.size ≤ e → s.heap.objs.size ≤ dx → e ≠ dx →
      h'.get? e = some (excObj C t (some dx) .none) → h'.get? dx = some (PySem.W.dictOf [⟨hs, .str f tk', u⟩] n) → Q (.ref e) { s with heap := h', toks := tk }) :
    wpAny (model P w) A (call (.ref C) [] [(f, u)]) Q E s := by
  have ok := T.ok
  unfold xinitB at ok
  simp only [Bool.and_eq_true] at ok
  obtain ⟨o1, o2, o3, o4, o5, o6, o7, o8, o9, o10, o11, o12, o13, o14, o15, o16⟩ := ok
  obtain ⟨cdD, hcdD⟩ := clsIn_any o15
  obtain ⟨oc, od, osl, nm, q, n1, n2, q1, q2, sc, kV, doc, pm, an, cdv, ct, cc, p0, p1, p2, p3, p4, p5, p6, p7, p8, p9, efn, hln, ecd, efl, ece, esc⟩ := xfn_of o16
  obtain ⟨cda, ccl, cdd, ccs, vs, fl, tf, rfl, ecode, evs, efile⟩ := xfile_of efl
  obtain ⟨cl, cld, csl, ecell⟩ := xcell_of ece
  unfold xscB at esc
  simp only [Bool.and_eq_true, decide_eq_true_eq] at esc
  obtain ⟨k1, k2, k3, k4, k5, k6, k7, k8⟩ := esc
  have fdbg : (f == ("__debug__" : Str)) = false := by rcases T.fin with rfl | rfl | rfl <;> decide
  have fself : f ≠ ("self" : Str) := by rcases T.fin with rfl | rfl | rfl <;> decide
  obtain ⟨mb, hmb, hboot⟩ := M.blt
  have X := M.kin.keeps F.keep
  obtain ⟨nm', N', qn', bs', bm', hdct', sn', sub', ab', col', dd', c0, c1, c2, c3, c5, hC, hT⟩ := excInit_of X o1
  obtain ⟨oI, hoI, hcI⟩ : ∃ oI, s.heap.get? (ma K C "__init__") = some oI ∧ oI.cls = .type "function" := by
    obtain ⟨o, ho, hc⟩ := Option.map_eq_some_iff.mp (show (K.lookup (ma K C "__init__")).map (·.cls) = some (.type "function") from beq_iff_eq.mp o7)
    exact ⟨o, X _ _ ho, hc⟩
  have hi' := looks_findIn (M := model P w) X (eqO_ok o6)
  obtain ⟨hp, g, d, tk, os⟩ := s
  dsimp only at F X hC hoI hi'
  refine wpAny_call (PySem.PXK.call_own b.base hT hC hi' (fun self => exc_bind hoI hcI self) (by rw [sizeLine_eq]; show 0 ≤ _; decide) (codeAny_mono (R := InitBack (hp.objs.size + 1) fun r s' => match r with | .ok (.ret v) => Q v s' | .ok _ => False | .error x => E x s') ?_ fun r s' z => ?_))
  rotate_left
  · rcases r with x | (v | _ | _ | _) <;> first | exact z | exact z.elim
  have ke : ∀ c o, hp.get? c = some o → ((hp.push (kdv_tup [])).push (PX.excO C hp.objs.size)).get? c = some o := fun c o e => Heap.get?_push_of_some _ (Heap.get?_push_of_some _ e)
  have he : ((hp.push (kdv_tup [])).push (PX.excO C hp.objs.size)).get? (hp.objs.size + 1) = some (excObj C hp.objs.size none .none) := by heap_get
  have hz : hp.objs.size + 1 < ((hp.push (kdv_tup [])).push (PX.excO C hp.objs.size)).objs.size := Heap.lt_size he
  have F1 : Fr h₀ L ((hp.push (kdv_tup [])).push (PX.excO C hp.objs.size)) m := (F.push _).push _
  generalize eh : (hp.push (kdv_tup [])).push (PX.excO C hp.objs.size) = h' at *
  have lte : ∀ c o, hp.get? c = some o → c ≠ hp.objs.size + 1 := fun c o e z => by
    have := Heap.lt_size e
    rw [z] at this
    exact absurd this (Nat.not_lt.mpr (Nat.le_succ _))
  generalize ee : hp.objs.size + 1 = e at *
  have st : h₀.StaysIn (hideAll h' [e]) := fun c o z => hideAll_get _ (F1.keep c o z) (fun q => lte c o (F.keep c o z) (List.mem_singleton.mp q))
  -- the ground: the heap without the new exception
  have X1 : K.In (hideAll h' [e]) := M.kin.keeps st
  have X2 : K.In h' := M.kin.keeps F1.keep
  refine ks_codeAny_call_defAt (s := ⟨h', g, d, tk, os⟩) (fd := ksFn nm q ⟨[], [⟨"self", n1, q1⟩, ⟨f, n2, q2⟩], none, [], [], none, []⟩ (xbd f p0 p1 p2 p3 p4 p5 p6 p7 p8 p9) sc .none kV doc pm an (.ref cda) ct cc) (body := xbd f p0 p1 p2 p3 p4 p5 p6 p7 p8 p9)
    (binds := [("self", .ref e), (f, u)]) hroom (X2 _ _ efn) rfl (M.nolimit.keeps F1.keep) (codeRec_of X2 ecd) rfl (xbindsK T.fin) (fun x hx => of_decide_eq_true (List.all_eq_true.mp k8 x hx)) (fun x hx => ?_) (fun h1 hns hk => ?_) k3 k2 k1
  · simp only [List.mem_cons, List.not_mem_nil, or_false] at hx
    rcases hx with rfl | rfl
    · exact k6
    · exact k7
  have FG : Fr (hideAll h' [e]) h'.objs.size h1 (fun y => ([("self", .ref e), (f, u)] : List (Str × Value)).reverse.lookup y) := ⟨hns, fun b o z => hk b o (of_hideAll _ z), Nat.le_of_eq (hideAll_size _ _)⟩
  have NG : News (hideAll h' [e]) h'.objs.size h1 [(e, excObj C hp.objs.size none .none)] := fun p hp => by
    rw [List.mem_singleton] at hp
    subst hp
    exact ⟨hk _ _ he, Nat.ne_of_lt (Heap.lt_size he), hideAll_none _ (List.mem_singleton.mpr rfl)⟩
  have hms : ([("self", Value.ref e), (f, u)] : List (Str × Value)).reverse.lookup ("self" : Str) = some (.ref e) := by
    have : (("self" : Str) == f) = false := by simpa using fun z => fself z.symm
    simp [List.lookup, this]
  have hmf : ([("self", Value.ref e), (f, u)] : List (Str × Value)).reverse.lookup f = some u := by simp [List.lookup]
  have MG : Mod K mg (hideAll h' [e]) := ⟨X1, M.glob.keeps st, ⟨mb, hmb.keeps st, hboot⟩, M.nolimit.keeps st⟩
  refine ks_wpAt_execs_cons (ks_wpAt_Expr_any (ks_wpAt_MethodCall ?_ (x_eval hln)) (by simp [interactive, callEnv, newEnv, k1]))
  refine x_node FG MG NG efn rfl hms (ox := excObj C hp.objs.size none .none) (odx := none) ⟨(NG _ (List.mem_singleton.mpr rfl)).1, rfl, rfl, trivial⟩ ecode evs efile ecell hcdD (of_decide_eq_true o12) T.sup (by decide) k4 k5 k6 k1 T.top (by first | boot_by_name | rfl | kernel_rfl) fun so h2 F2 N2 l2 => ?_
  refine kxs_method b.kxs F2 X1 N2 (List.mem_cons_self) (C := C) (ox := excObj C hp.objs.size none .none) (odx := none) ⟨(N2 (e, excObj C hp.objs.size none .none) (by simp)).1, rfl, rfl, trivial⟩ (eqO_ok o13) (of_decide_eq_true o14) (of_decide_eq_true o8) (by decide) fun q3 h3 F3 N3 l3 => ?_
  refine kxs_callWith1 N3 (List.mem_cons_self) ?_
  have nq : q3 ≠ e := Ne.symm (Nat.ne_of_lt (l3 (e, excObj C hp.objs.size none .none) (by simp)))
  have nso : so ≠ e := Ne.symm (Nat.ne_of_lt (l2 (e, excObj C hp.objs.size none .none) (by simp)))
  refine spliced_more (wpAny_Name (wpAny_loadName_local k1 k7 F3.ns hmf ?_) fdbg) rfl
  refine spliced_none ?_
  refine ⟨(N3 _ List.mem_cons_self).1, ?_⟩
  refine kxs_call F3 X1 N3 b.base o1 List.mem_cons_self (UpdF.tail nq (UpdF.tail nso (UpdF.head (fun _ z => nomatch z)))) (by rw [sizeLine_eq]; show 1 ≤ _; decide) fun t' h4 F4 N4 l4 => ?_
  dsimp only
  refine ks_wpAt_execs_cons (wpAt_of_wpAny ?_)
  refine plainObj_wpAny_Assign_Attribute (wpAny_Name (wpAny_loadName_local k1 k7 F4.ns hmf ?_) fdbg) rfl
  refine wpAny_Name (wpAny_loadName_local k1 k6 F4.ns hms ?_) (by decide)
  have nt' : t' ≠ e := Ne.symm (Nat.ne_of_lt (l4 (e, excObj C hp.objs.size none .none) (by simp)))
  refine set_exc0 b.sto F4 X1 N4 (by simp) (eqO_ok o4) o2 (of_decide_eq_true o5) o3 rfl (UpdF.tail nt' (UpdF.tail nq (UpdF.tail nso (UpdF.head (fun _ z => nomatch z))))) (by show 1 ≤ 1000; decide) fun dx h5 F5 N5 l5 => ?_
  refine wpAt_of_wpAny (wpAny_execs_nil ⟨rfl, ?_⟩)
  have le : e < dx := l5 (e, excObj C t' none .none) (by simp)
  have lh : hp.objs.size < e := by omega
  refine h e t' dx _ _ _ h5 _ (fun c o z => F5.keep c o (hideAll_get _ (ke c o z) fun q => lte c o z (List.mem_singleton.mp q))) ?_ ?_ (Nat.le_of_lt lh) (Nat.le_of_lt (Nat.lt_trans lh le)) (Nat.ne_of_lt le) (N5 (e, excObj C t' (some dx) .none) (by simp)).1 (N5 _ List.mem_cons_self).1
  · cases q : hp.get? e with
    | none => rfl
    | some o => exact absurd (Heap.lt_size q) (Nat.not_lt.mpr (Nat.le_of_lt lh))
  · cases q : hp.get? dx with
    | none => rfl
    | some o => exact absurd (Heap.lt_size q) (Nat.not_lt.mpr (Nat.le_of_lt (Nat.lt_trans lh le)))
end

theorem un_new {fs ex : List Addr} {H : Hp} {h h' : Heap} {a : Addr} {o : HO} (k : ∀ c u, h.get? c = some u → h'.get? c = some u) (ha : h.get? a = none) (na : H a = none) : Un fs ex H (upd H a o) h h' where
  keep := fun c u q _ _ _ => k c u q
  slot := fun c u q _ _ _ => ⟨u.slots, k c u q⟩
  free := fun c u q n _ => by rw [upd_ne (fun z => by rw [z, ha] at q; cases q)]; exact n
  there := fun c u q _ => ⟨u, k c u q⟩
  tups := fun c xs q => by rw [upd_ne (ne_of_none q na)]; exact q
  frzs := fun c u xs q => by rw [upd_ne (ne_of_none q na)]; exact q
  tbls := fun c ps q => ⟨#[], by rw [upd_ne (ne_of_none q na), q]; simp⟩
theorem un_new2 {fs ex : List Addr} {H : Hp} {h h' : Heap} {a b : Addr} {o1 o2 : HO} (k : ∀ c u, h.get? c = some u → h'.get? c = some u) (ha : h.get? a = none) (hb : h.get? b = none) (na : H a = none) (nb : H b = none) : Un fs ex H (upd (upd H b o1) a o2) h h' where
  keep := fun c u q _ _ _ => k c u q
  slot := fun c u q _ _ _ => ⟨u.slots, k c u q⟩
  free := fun c u q n _ => by rw [upd_ne (fun z => by rw [z, ha] at q; cases q), upd_ne (fun z => by rw [z, hb] at q; cases q)]; exact n
  there := fun c u q _ => ⟨u, k c u q⟩
  tups := fun c xs q => by rw [upd_ne (ne_of_none q na), upd_ne (ne_of_none q nb)]; exact q
  frzs := fun c u xs q => by rw [upd_ne (ne_of_none q na), upd_ne (ne_of_none q nb)]; exact q
  tbls := fun c ps q => ⟨#[], by rw [upd_ne (ne_of_none q na), upd_ne (ne_of_none q nb), q]; simp⟩
theorem hok_also {P : Program} {w : World} {H : Hp} {h : Heap} {a : Addr} {o : HO} (x : HOk P w H h) (hn : H a = none) (new : ObjOk P w (upd H a o) h a o) : HOk P w (upd H a o) h := fun b u e => by
  by_cases hb : b = a
  · subst hb; rw [upd_same] at e; cases e; exact new
  · rw [upd_ne hb] at e
    exact (x b u e).stay (fun c v _ q => q) (fun c q => by rw [upd_ne (ne_of_none q hn)]; exact q) fun c xs q => by rw [upd_ne (ne_of_none q hn)]; exact q
theorem xv_ok {P : Program} {w : World} {H : Hp} {h : Heap} {a t : Addr} {Cl : Addr} {d : Option Addr} (he : h.get? a = some { cls := .ref Cl, dict := d, data := .fields #[.ref t, .none, .none, .none, .bool false, .none] }) : ObjOk P w H h a (XvO Cl d a) :=
  ⟨⟨t, he⟩, ⟨_, he⟩, fun _ _ ⟨t, e⟩ kk => ⟨t, kk _ e⟩⟩
section
variable {X : Cx} {C : CT} {W : WX} {b : XB} {Cl : Addr} {f x : Str} {e : Expr} {p pos : Pos} {g : DM D}
theorem excd_end {pins : List (Addr × Obj)} {σ : L2.St} {s1 : Shared} {Z : Addr → Prop} {q1 : Pt} {c : Nat} {d : D} {v : V} {u : Value} {Q : VK} {a dx t : Addr} {hs : Int} {tk' : Tok} {n tk : Nat} {h' : Heap} (hcf : C.cf c = [f]) (hca : C.ca c = Cl) (hxa : C.xa = none)
    (I1 : Inv X pins σ q1.H s1) (S1 : SR (wd X.K C) Z q1) (r1 : RelV v u) (rr : RepP (wd X.K C) Z q1 d v) (k1 : ∀ c o, s1.heap.get? c = some o → h'.get? c = some o) (ga : s1.heap.get? a = none) (gd : s1.heap.get? dx = none) (la : s1.heap.objs.size ≤ a) (ld : s1.heap.objs.size ≤ dx) (nad : a ≠ dx)
    (ha' : h'.get? a = some (excObj Cl t (some dx) .none)) (hd' : h'.get? dx = some (PySem.W.dictOf [⟨hs, .str f tk', u⟩] n)) (h1 : Fin (wd X.K C) Z W (relD (wd X.K C) Z) q1 (.ok (.exc c [d]) q1.st) Q) :
    EP X pins σ Q (.ref a) { s1 with heap := h', toks := tk } := by
  subst hca
  have na : q1.H a = none := I1.hok.fresh la
  have nd : q1.H dx = none := I1.hok.fresh ld
  have I2 : Inv X pins σ (upd (upd q1.H dx (.xd [(f, v)])) a (XvO (C.ca c) (some dx) a)) { s1 with heap := h', toks := tk } :=
    I1.un (un_new2 k1 ga gd na nd) (hok_also (I1.hok.laid k1 ld (xd_ok (xins1 hd') r1)) (by rw [upd_ne nad]; exact na) (xv_ok ha'))
  have sm : Same q1.H (upd (upd q1.H dx (.xd [(f, v)])) a (XvO (C.ca c) (some dx) a)) := fun b u e => by rw [upd_ne (ne_of_none e na), upd_ne (ne_of_none e nd)]; exact e
  refine ⟨.ref a, _, I2, rfl, Fin.more h1 S1 sm (.excv hxa upd_same (S1.freeL na) ⟨?_, S1.freeL nd⟩ (.cons ((S1.ext sm).2.rep rr) .nil))⟩
  show upd (upd q1.H dx (HO.xd [(f, v)])) a (XvO (C.ca c) (some dx) a) dx = some (HO.xd ((C.cf c).zip [v]))
  rw [upd_ne (Ne.symm nad), upd_same, hcf]; rfl
def mkX (c : Nat) (g : DM D) : DM D := bnd g fun d => ret (.exc c [d])
theorem de_mkx {k c : Nat} (T : XI X.prog X.K X.mg b Cl f) (hcf : C.cf c = [f]) (hca : C.ca c = Cl) (hxa : C.xa = none) (hr : Room (k + 1) X.A) (gC : X.mg x = some (.ref Cl)) (hg : Gl X x) (he : DE X C W e g) (hdb : (x == ("__debug__" : Str)) = false := by decide)
    (hs : starEach [e] X.env = (false, eval e X.env) :: starEach [] X.env := by rfl) : DE X C W (.Call (.Name x p) [e] [] pos) (mkX c g) := by
  refine ⟨⟨fun pins s σ H Q I h => ?_⟩⟩
  obtain ⟨Z, q, rfl, rfl, S, h⟩ := h
  have ok := T.ok
  unfold xinitB at ok
  simp only [Bool.and_eq_true] at ok
  obtain ⟨o1, o2, o3, o4, o5, o6, o7, o8, o9, o10, o11, o12, o13, o14, o15, o16⟩ := ok
  refine wpAny_Call_Name_kw (ld_glob I hg gC ?_ hdb)
  refine PySem.W.callWith_K (h₀ := X.base) I.ok.mod.kin o11 (spliced_more (thn (he.pe.run pins s _ _ _ I ⟨Z, q, rfl, rfl, S, Fin.bnd h⟩) fun u s1 ⟨v, H1, I1, r1, q1, d1, e1, e2, S1, l1, rr1, h1⟩ => spliced_none ⟨I1.kIn, ?_⟩) hs) hs rfl
  show wpAny _ _ (call (.ref Cl) [u]) _ _ _
  subst e2
  obtain ⟨m, fr⟩ := I1.fr
  exact x_call T I1.ok.mod fr (hr.make Cl [u] []).depth fun a t dx hs tk' n h' tk k1 ne nd le ld nad ha' hd' => excd_end hcf hca hxa I1 S1 r1 rr1 k1 ne nd le ld nad ha' hd' h1
theorem de_mkxK {k c : Nat} {kp : Pos} (T : XI X.prog X.K X.mg b Cl f) (hcf : C.cf c = [f]) (hca : C.ca c = Cl) (hxa : C.xa = none) (hr : Room (k + 1) X.A) (gC : X.mg x = some (.ref Cl)) (hg : Gl X x) (he : DE X C W e g) (hdb : (x == ("__debug__" : Str)) = false := by decide)
    (hall : (backToKw pos (keywordEach [⟨some f, e, kp⟩] X.env)).all (·.1.isSome) = true := by rfl) (hks : (backToKw pos (keywordEach [⟨some f, e, kp⟩] X.env)).filterMap (·.1) = [f] := by rfl)
    (hpl : ((backTo pos (starEach [] X.env)).any (·.1) || (backToKw pos (keywordEach [⟨some f, e, kp⟩] X.env)).any (·.1.isNone)) = false := by rfl) : DE X C W (.Call (.Name x p) [] [⟨some f, e, kp⟩] pos) (mkX c g) := by
  refine ⟨⟨fun pins s σ H Q I h => ?_⟩⟩
  obtain ⟨Z, q, rfl, rfl, S, h⟩ := h
  have ok := T.ok
  unfold xinitB at ok
  simp only [Bool.and_eq_true] at ok
  obtain ⟨o1, o2, o3, o4, o5, o6, o7, o8, o9, o10, o11, o12, o13, o14, o15, o16⟩ := ok
  refine wpAny_Call_Name_kw (ld_glob I hg gC ?_ hdb)
  refine PySem.W.callWith_KW0 (first := []) (h₀ := X.base) I.ok.mod.kin o11 hall (thn ((dk_cons (nm := some f) (kpos := kp) he dk_nil).pk.run pos pins s _ _ (fun zs H2 => ∃ v q1 d1, zs = [v] ∧ q1.sg = q.sg ∧ q1.H = H2 ∧ SR (wd X.K C) Z q1 ∧ RepP (wd X.K C) Z q1 d1 v ∧ Fin (wd X.K C) Z W (relD (wd X.K C) Z) q1 (.ok (.exc c [d1]) q1.st) Q) I ⟨Z, q, rfl, rfl, S, ?_⟩) fun us s1 ⟨vs, H1, I1, r, v, q1, d1, ev, e1, e2, S1, rr1, h1⟩ => ⟨I1.kIn, ?_⟩) hpl
  · unfold mkX bnd at h
    unfold consM
    cases eg : g q.st with
    | ok d st =>
      rw [eg] at h
      show Fin _ _ _ _ _ ((bnd g fun x => bnd nilM fun ys => ret (x :: ys)) q.st) _
      unfold bnd
      rw [eg]
      intro rho H2 zs S2 l2 r2
      obtain ⟨v, ev, rv⟩ := repL_one r2
      exact ⟨v, ⟨rho, st, q.sg, H2⟩, d, ev, rfl, rfl, S2, rv, Fin.later h l2 rfl⟩
    | err x st =>
      rw [eg] at h
      show Fin _ _ _ _ _ ((bnd g fun x => bnd nilM fun ys => ret (x :: ys)) q.st) _
      unfold bnd
      rw [eg]
      exact h
    | stuck => rw [eg] at h; exact h.elim
  · rw [hks]
    subst ev e2
    cases r with
    | cons r1 r0 =>
      cases r0
      rename_i u h0
      obtain ⟨m, fr⟩ := I1.fr
      exact x_callK T I1.ok.mod fr (hr.make Cl [] [(f, u)]).depth fun a t dx hs tk' n h' tk k1 ne nd le ld nad ha' hd' => excd_end hcf hca hxa I1 S1 r1 rr1 k1 ne nd le ld nad ha' hd' h1
theorem de_mkx0 {c : Nat} (ok : xownB X.K b Cl = true) (hca : C.ca c = Cl) (hxa : C.xa = none) (gC : X.mg x = some (.ref Cl)) (hg : Gl X x) (hdb : (x == ("__debug__" : Str)) = false := by decide) : DE X C W (.Call (.Name x p) [] [] pos) (ret (.exc c [])) := by
  refine ⟨⟨fun pins s σ H Q I h => ?_⟩⟩
  obtain ⟨Z, q, rfl, rfl, S, h⟩ := h
  unfold xownB at ok
  simp only [Bool.and_eq_true] at ok
  obtain ⟨o1, o2, o3, o4⟩ := ok
  refine wpAny_Call_Name_kw (ld_glob I hg gC ?_ hdb)
  refine PySem.W.callWith_K0 I.kIn o2 ?_
  show wpAny _ _ (call (.ref Cl) []) _ _ _
  obtain ⟨bm, N, nm, qn, bs, hdct, sn, sub, ab, col, dd, k0, k1, k2, k3, k5, mN, hC, hN, hni, T⟩ := exc_obj I.kIn o1
  refine wpAny_call_exc_subT b.base T hC hN hni (fun h' e hm => ?_) (by show 0 ≤ sizeLine; exact Nat.zero_le _)
  obtain ⟨t, he, _, _⟩ := hm.there
  subst hca
  have na : q.H e = none := I.hok.gone hm.new
  have I2 : Inv X pins q.sg (upd q.H e (XvO (C.ca c) none e)) { s with heap := h' } := I.un (t' := s.toks) (un_new hm.keeps hm.new na) (hok_also (I.hok.kept hm.keeps) na (xv_ok he))
  have sm : Same q.H (upd q.H e (XvO (C.ca c) none e)) := same_upd na
  have h2 : Fin (wd X.K C) Z W (relD (wd X.K C) Z) q (.ok (.exc c []) q.st) Q := h
  exact ⟨.ref e, _, I2, rfl, Fin.more h2 S sm (.excv hxa upd_same (S.freeL na) rfl .nil)⟩

theorem excv_rep {G : Wd} {rho : List Addr} {L : Addr → Prop} {H : Hp} {c : Nat} {ds : List D} {v : V} (hx : G.xa = none) (h : Rep G rho L H (.exc c ds) v) : ∃ a d vs, v = .ref a ∧ H a = some (XvO (G.ca c) d a) ∧ XvD G L H c vs d ∧ RepL G rho L H ds vs := by
  cases h with
  | exc e _ _ _ => rw [hx] at e; cases e
  | exc0 e => rw [hx] at e; cases e
  | excv _ h1 _ h2 h3 => exact ⟨_, _, _, rfl, h1, h2, h3⟩
theorem xv_at {pins : List (Addr × Obj)} {σ : L2.St} {H : Hp} {s : Shared} {a : Addr} {d : Option Addr} {c : Nat} {L : Addr → Prop} {vs : List V} (I : Inv X pins σ H s) (e : H a = some (XvO (C.ca c) d a)) (hd : XvD (wd X.K C) L H c vs d) :
    ∃ (oe : Obj) (od : Option Obj), PySem.W.InstAt s.heap a oe (C.ca c) od ∧ (∀ (dd : Addr), d = some dd → ∃ (o : Obj) (mA : Str → Option Value), od = some o ∧ (∀ f, RelO (((C.cf c).zip vs).lookup f) (mA f)) ∧ ∀ n : Str, PySem.W.lookIn n o = some (mA n)) := by
  obtain ⟨⟨t, hget⟩, _, _⟩ := I.hok a _ e
  cases d with
  | none => exact ⟨_, none, ⟨hget, rfl, rfl, trivial⟩, fun dd z => by cases z⟩
  | some dd =>
    have hx : ObjOk X.prog X.w H s.heap dd (.xd ((C.cf c).zip vs)) := I.hok dd _ hd.1
    obtain ⟨mA, hns, hr⟩ := hx
    obtain ⟨ob, es, ep, ho, hr'⟩ := id hns
    refine ⟨_, some ob, ⟨hget, rfl, rfl, ho⟩, fun dd' z1 => ?_⟩
    cases z1
    refine ⟨ob, mA, rfl, hr, fun n => ?_⟩
    obtain ⟨od2, ho2, hl2⟩ := lookIn_ns hns
    rw [ho] at ho2
    cases ho2
    exact hl2 n
def rIsV (X : Cx) (C : CT) (cv : Value) : List V → Hp → VK → Prop := fun xs H Q => ∃ (a : Addr) (d : Option Addr) (c : Nat) (v : V) (L : Addr → Prop) (vs : List V) (b : Bool), xs = [.ref a, v] ∧ H a = some (XvO (C.ca c) d a) ∧ XvD (wd X.K C) L H c vs d ∧ (∀ u, RelV v u → u = cv) ∧ XCls X.K (C.ca c) ∧ PySem.W.kitOne X.K (.ref (C.ca c)) cv = some b ∧ Q (.bl b) H
theorem call_isV {cv : Value} : CallR X (.builtin "isinstance") (rIsV X C cv) := by
  intro pins s σ H xs us Q I r h
  obtain ⟨a, d, c, v, L, vs, b, rfl, ec, hd, hv, xc, e, q⟩ := h
  cases r with
  | cons rx rr =>
    cases rr with
    | cons rt rr =>
      cases rr
      cases rx
      have ev := hv _ rt
      subst ev
      obtain ⟨oe, od, J, _⟩ := xv_at I ec hd
      exact PySem.W.kia_one (PySem.W.kitx_exc xc.cl xc.ga xc.gg xc.sb xc.cc xc.sp xc.tk xc.ob) I.kIn J e (fun z => nomatch z) fun tk => ⟨.bl b, H, I.kept (t' := tk) fun _ _ z => z, rfl, q⟩
theorem de_isV {t : Nat → Option Bool} {u : Value} {c : V} {e cls : Expr} {p pos : Pos} {f : DM D} (hxa : C.xa = none) (ht : ∀ c b, t c = some b → xclsB X.K (C.ca c) = true ∧ PySem.W.kitOne X.K (.ref (C.ca c)) u = some b) (hv : ∀ u', RelV c u' → u' = u) (hc : PE X cls (tC c)) (hg : Gl X "isinstance") (hm : X.mg "isinstance" = none) (he : DE X C W e f)
    (h1 : starEach [e, cls] X.env = (false, eval e X.env) :: starEach [cls] X.env := by rfl) (h2 : starEach [cls] X.env = (false, eval cls X.env) :: starEach [] X.env := by rfl) (hpl : (backTo pos (starEach [cls] X.env)).any (·.1) = false := by rfl) :
    DE X C W (.Call (.Name "isinstance" p) [e, cls] [] pos) (isX t f) := by
  refine ⟨peImp (L2.pe_callB (call_isV (C := C) (cv := u)) hg hm boot_isinstance (pa_cons he.pe (pa_cons hc pa_nil h2) h1) (by decide) (by decide) h1 hpl) fun σ H Q h => ?_⟩
  obtain ⟨Z, p, rfl, rfl, S, h⟩ := h
  refine ⟨Z, p, rfl, rfl, S, (Fin.bnd h).mono fun x H1 ⟨q1, d1, e1, e2, S1, l1, r1, h1⟩ => ?_⟩
  unfold isXv at h1
  cases d1 with
  | exc k ds =>
    dsimp only at h1
    cases hb : t k with
    | none => rw [hb] at h1; exact h1.elim
    | some b =>
      rw [hb] at h1
      subst e2
      obtain ⟨a, d, vs, rfl, ec, hd, _⟩ := excv_rep hxa r1
      obtain ⟨xb, kb⟩ := ht k b hb
      exact ⟨a, d, k, c, _, vs, b, rfl, ec, hd, hv, xclsB_ok xb, kb, Fin.ok h1 S1 (.bl b)⟩
  | _ => exact h1.elim
theorem de_xfV {j : Nat → Bool} {e : Expr} {n : Str} {pos : Pos} {f : DM D} (hxa : C.xa = none) (hj : ∀ c, j c = true → C.cf c = [n] ∧ xclsB X.K (C.ca c) = true ∧ PySem.W.findIn X.K (.ref (C.ca c)) n = some none) (he : DE X C W e f)
    (hb : attributeBase e n X.env (eval e X.env) = eval e X.env := by rfl) : DE X C W (.Attribute e n pos) (getX j f) := by
  refine ⟨⟨fun pins s σ H Q I h => ?_⟩⟩
  obtain ⟨Z, p, rfl, rfl, S, h⟩ := h
  refine attr_of hb (thn (he.pe.run pins s _ _ _ I ⟨Z, p, rfl, rfl, S, Fin.bnd h⟩) fun u s1 ⟨x, H1, I1, rx, q1, d1, e1, e2, S1, l1, r1, h1⟩ => ?_)
  subst e2
  unfold getXv at h1
  split at h1
  · rename_i k g
    by_cases hk : j k = true
    · rw [if_pos hk] at h1
      obtain ⟨c1, c2, c3⟩ := hj k hk
      obtain ⟨a, d, vs, rfl, ec, hd, rl⟩ := excv_rep hxa r1
      obtain rfl : u = Value.ref a := rx
      obtain ⟨v, rfl, rg⟩ := repL_one rl
      cases d with
      | none => cases (show [v] = [] from hd)
      | some dd =>
        obtain ⟨oe, od, J, w⟩ := xv_at I1 ec hd
        obtain ⟨o, mA, rfl, hr, hlk⟩ := w dd rfl
        have xc := xclsB_ok c2
        obtain ⟨u', hu, ru⟩ := RelO.some_of (v := v) (o := mA n) (by have := hr n; rw [c1] at this; simpa [List.zip, List.lookup] using this)
        exact HandSPX.exc_get I1.kIn J xc.ga xc.gg xc.sb (PySem.W.findObj_own xc.hd c3 rfl (by rw [hlk, hu])) (handed_of ru) ⟨v, q1.H, I1.tok _, ru, Fin.ok h1 S1 rg⟩
    · rw [if_neg hk] at h1; exact h1.elim
  · exact h1.elim
end
end DP

set_option Elab.async false
set_option linter.all false
set_option maxRecDepth 100000
set_option maxHeartbeats 4000000
namespace LK
open PySem PySem.Spec PyProof.Rows L2 He DP
def N_law_wrong_values : List Str := ["_law_found"]
def b_law_wrong_values : DS := seqS (setS 0 (lstM (consM (mkX 20 (ret (.str "a"))) (consM (mkX 21 (ret (.str "a"))) (consM (mkX 22 (ret (.str "a"))) (consM (mkX 23 (ret (.str "a"))) (consM (mkX 24 (ret (.str "a"))) (nilM)))))))) (seqS (setS 0 (bin addD (varM 0) (lstM (consM (mkX 25 (ret (.str "a"))) (consM (mkX 26 (ret (.str "a"))) (consM (mkX 27 (ret (.str "a"))) (consM (mkX 28 (ret (.str "a"))) (nilM)))))))) (seqS (setS 0 (bin addD (varM 0) (lstM (consM (mkX 29 (ret (.str "a"))) (consM (mkX 30 (ret (.str "a"))) (consM (mkX 31 (ret (.str "a"))) (consM (mkX 32 (ret (.str "a"))) (nilM)))))))) (retS (bin addD (varM 0) (lstM (consM (mkX 33 (ret (.str "a"))) (nilM)))))))
def m_law_wrong_values : DF := defF N_law_wrong_values.length b_law_wrong_values
def N_law_kinds : List Str := ["_law_e", "_law_found"]
def b_law_kinds : DS := seqS (setS 1 (lstM (consM (isX (lookT [(20, "InvalidCases", true), (21, "InvalidPeople", true), (22, "InvalidText", true), (23, "InvalidLot", true), (24, "InvalidTold", true), (25, "InvalidSteps", true), (26, "InvalidBets", true), (27, "InvalidOrder", true), (28, "InvalidNumber", true), (29, "InvalidName", true), (30, "InvalidClaim", true), (31, "InvalidIndex", true), (32, "InvalidLine", true), (33, "NotARoom", true), (34, "InvalidDeeds", true), (35, "UnknownName", false), (36, "UnknownCase", false), (37, "InUse", false), (38, "NotSound", false), (39, "NotTold", false), (40, "IsTold", false), (41, "TooMany", false), (42, "IsOver", false), (43, "NothingToUndo", false), (44, "Broken", false)]) (varM 0)) (consM (isX (lookT [(20, "InvalidCases", false), (21, "InvalidPeople", false), (22, "InvalidText", false), (23, "InvalidLot", false), (24, "InvalidTold", false), (25, "InvalidSteps", false), (26, "InvalidBets", false), (27, "InvalidOrder", false), (28, "InvalidNumber", false), (29, "InvalidName", false), (30, "InvalidClaim", false), (31, "InvalidIndex", false), (32, "InvalidLine", false), (33, "NotARoom", false), (34, "InvalidDeeds", false), (35, "UnknownName", true), (36, "UnknownCase", true), (37, "InUse", true), (38, "NotSound", false), (39, "NotTold", false), (40, "IsTold", false), (41, "TooMany", false), (42, "IsOver", false), (43, "NothingToUndo", false), (44, "Broken", false)]) (varM 0)) (consM (isX (lookT [(20, "InvalidCases", false), (21, "InvalidPeople", false), (22, "InvalidText", false), (23, "InvalidLot", false), (24, "InvalidTold", false), (25, "InvalidSteps", false), (26, "InvalidBets", false), (27, "InvalidOrder", false), (28, "InvalidNumber", false), (29, "InvalidName", false), (30, "InvalidClaim", false), (31, "InvalidIndex", false), (32, "InvalidLine", false), (33, "NotARoom", false), (34, "InvalidDeeds", false), (35, "UnknownName", false), (36, "UnknownCase", false), (37, "InUse", false), (38, "NotSound", true), (39, "NotTold", true), (40, "IsTold", true), (41, "TooMany", true), (42, "IsOver", true), (43, "NothingToUndo", true), (44, "Broken", true)]) (varM 0)) (nilM)))))) (retS (bin addD (varM 1) (lstM (consM (isX (lookT [(20, "InvalidCases", true), (21, "InvalidPeople", true), (22, "InvalidText", true), (23, "InvalidLot", true), (24, "InvalidTold", true), (25, "InvalidSteps", true), (26, "InvalidBets", true), (27, "InvalidOrder", true), (28, "InvalidNumber", true), (29, "InvalidName", true), (30, "InvalidClaim", true), (31, "InvalidIndex", true), (32, "InvalidLine", true), (33, "NotARoom", true), (34, "InvalidDeeds", true), (35, "UnknownName", false), (36, "UnknownCase", false), (37, "InUse", false), (38, "NotSound", false), (39, "NotTold", false), (40, "IsTold", false), (41, "TooMany", false), (42, "IsOver", false), (43, "NothingToUndo", false), (44, "Broken", false)]) (varM 0)) (consM (isX (lookT [(20, "InvalidCases", false), (21, "InvalidPeople", false), (22, "InvalidText", false), (23, "InvalidLot", false), (24, "InvalidTold", false), (25, "InvalidSteps", false), (26, "InvalidBets", false), (27, "InvalidOrder", false), (28, "InvalidNumber", false), (29, "InvalidName", false), (30, "InvalidClaim", false), (31, "InvalidIndex", false), (32, "InvalidLine", false), (33, "NotARoom", false), (34, "InvalidDeeds", false), (35, "UnknownName", true), (36, "UnknownCase", true), (37, "InUse", true), (38, "NotSound", false), (39, "NotTold", false), (40, "IsTold", false), (41, "TooMany", false), (42, "IsOver", false), (43, "NothingToUndo", false), (44, "Broken", false)]) (varM 0)) (consM (isX (lookT [(20, "InvalidCases", false), (21, "InvalidPeople", false), (22, "InvalidText", false), (23, "InvalidLot", false), (24, "InvalidTold", false), (25, "InvalidSteps", false), (26, "InvalidBets", false), (27, "InvalidOrder", false), (28, "InvalidNumber", false), (29, "InvalidName", false), (30, "InvalidClaim", false), (31, "InvalidIndex", false), (32, "InvalidLine", false), (33, "NotARoom", false), (34, "InvalidDeeds", false), (35, "UnknownName", false), (36, "UnknownCase", false), (37, "InUse", false), (38, "NotSound", true), (39, "NotTold", true), (40, "IsTold", true), (41, "TooMany", true), (42, "IsOver", true), (43, "NothingToUndo", true), (44, "Broken", true)]) (varM 0)) (nilM)))))))
def m_law_kinds : DF := defF N_law_kinds.length b_law_kinds
def N_law_own : List Str := ["_law_e", "_law_found", "_law_at"]
def b_law_own : DS := seqS (setS 1 (lstM (consM (isX (lookT [(20, "InvalidCases", true), (21, "InvalidPeople", false), (22, "InvalidText", false), (23, "InvalidLot", false), (24, "InvalidTold", false), (25, "InvalidSteps", false), (26, "InvalidBets", false), (27, "InvalidOrder", false), (28, "InvalidNumber", false), (29, "InvalidName", false), (30, "InvalidClaim", false), (31, "InvalidIndex", false), (32, "InvalidLine", false), (33, "NotARoom", false), (34, "InvalidDeeds", false), (35, "UnknownName", false), (36, "UnknownCase", false), (37, "InUse", false), (38, "NotSound", false), (39, "NotTold", false), (40, "IsTold", false), (41, "TooMany", false), (42, "IsOver", false), (43, "NothingToUndo", false), (44, "Broken", false)]) (varM 0)) (consM (isX (lookT [(20, "InvalidCases", false), (21, "InvalidPeople", true), (22, "InvalidText", false), (23, "InvalidLot", false), (24, "InvalidTold", false), (25, "InvalidSteps", false), (26, "InvalidBets", false), (27, "InvalidOrder", false), (28, "InvalidNumber", false), (29, "InvalidName", false), (30, "InvalidClaim", false), (31, "InvalidIndex", false), (32, "InvalidLine", false), (33, "NotARoom", false), (34, "InvalidDeeds", false), (35, "UnknownName", false), (36, "UnknownCase", false), (37, "InUse", false), (38, "NotSound", false), (39, "NotTold", false), (40, "IsTold", false), (41, "TooMany", false), (42, "IsOver", false), (43, "NothingToUndo", false), (44, "Broken", false)]) (varM 0)) (consM (isX (lookT [(20, "InvalidCases", false), (21, "InvalidPeople", false), (22, "InvalidText", true), (23, "InvalidLot", false), (24, "InvalidTold", false), (25, "InvalidSteps", false), (26, "InvalidBets", false), (27, "InvalidOrder", false), (28, "InvalidNumber", false), (29, "InvalidName", false), (30, "InvalidClaim", false), (31, "InvalidIndex", false), (32, "InvalidLine", false), (33, "NotARoom", false), (34, "InvalidDeeds", false), (35, "UnknownName", false), (36, "UnknownCase", false), (37, "InUse", false), (38, "NotSound", false), (39, "NotTold", false), (40, "IsTold", false), (41, "TooMany", false), (42, "IsOver", false), (43, "NothingToUndo", false), (44, "Broken", false)]) (varM 0)) (nilM)))))) (seqS (setS 1 (bin addD (varM 1) (lstM (consM (isX (lookT [(20, "InvalidCases", false), (21, "InvalidPeople", false), (22, "InvalidText", false), (23, "InvalidLot", true), (24, "InvalidTold", false), (25, "InvalidSteps", false), (26, "InvalidBets", false), (27, "InvalidOrder", false), (28, "InvalidNumber", false), (29, "InvalidName", false), (30, "InvalidClaim", false), (31, "InvalidIndex", false), (32, "InvalidLine", false), (33, "NotARoom", false), (34, "InvalidDeeds", false), (35, "UnknownName", false), (36, "UnknownCase", false), (37, "InUse", false), (38, "NotSound", false), (39, "NotTold", false), (40, "IsTold", false), (41, "TooMany", false), (42, "IsOver", false), (43, "NothingToUndo", false), (44, "Broken", false)]) (varM 0)) (consM (isX (lookT [(20, "InvalidCases", false), (21, "InvalidPeople", false), (22, "InvalidText", false), (23, "InvalidLot", false), (24, "InvalidTold", true), (25, "InvalidSteps", false), (26, "InvalidBets", false), (27, "InvalidOrder", false), (28, "InvalidNumber", false), (29, "InvalidName", false), (30, "InvalidClaim", false), (31, "InvalidIndex", false), (32, "InvalidLine", false), (33, "NotARoom", false), (34, "InvalidDeeds", false), (35, "UnknownName", false), (36, "UnknownCase", false), (37, "InUse", false), (38, "NotSound", false), (39, "NotTold", false), (40, "IsTold", false), (41, "TooMany", false), (42, "IsOver", false), (43, "NothingToUndo", false), (44, "Broken", false)]) (varM 0)) (consM (isX (lookT [(20, "InvalidCases", false), (21, "InvalidPeople", false), (22, "InvalidText", false), (23, "InvalidLot", false), (24, "InvalidTold", false), (25, "InvalidSteps", true), (26, "InvalidBets", false), (27, "InvalidOrder", false), (28, "InvalidNumber", false), (29, "InvalidName", false), (30, "InvalidClaim", false), (31, "InvalidIndex", false), (32, "InvalidLine", false), (33, "NotARoom", false), (34, "InvalidDeeds", false), (35, "UnknownName", false), (36, "UnknownCase", false), (37, "InUse", false), (38, "NotSound", false), (39, "NotTold", false), (40, "IsTold", false), (41, "TooMany", false), (42, "IsOver", false), (43, "NothingToUndo", false), (44, "Broken", false)]) (varM 0)) (nilM))))))) (seqS (setS 1 (bin addD (varM 1) (lstM (consM (isX (lookT [(20, "InvalidCases", false), (21, "InvalidPeople", false), (22, "InvalidText", false), (23, "InvalidLot", false), (24, "InvalidTold", false), (25, "InvalidSteps", false), (26, "InvalidBets", true), (27, "InvalidOrder", false), (28, "InvalidNumber", false), (29, "InvalidName", false), (30, "InvalidClaim", false), (31, "InvalidIndex", false), (32, "InvalidLine", false), (33, "NotARoom", false), (34, "InvalidDeeds", false), (35, "UnknownName", false), (36, "UnknownCase", false), (37, "InUse", false), (38, "NotSound", false), (39, "NotTold", false), (40, "IsTold", false), (41, "TooMany", false), (42, "IsOver", false), (43, "NothingToUndo", false), (44, "Broken", false)]) (varM 0)) (consM (isX (lookT [(20, "InvalidCases", false), (21, "InvalidPeople", false), (22, "InvalidText", false), (23, "InvalidLot", false), (24, "InvalidTold", false), (25, "InvalidSteps", false), (26, "InvalidBets", false), (27, "InvalidOrder", true), (28, "InvalidNumber", false), (29, "InvalidName", false), (30, "InvalidClaim", false), (31, "InvalidIndex", false), (32, "InvalidLine", false), (33, "NotARoom", false), (34, "InvalidDeeds", false), (35, "UnknownName", false), (36, "UnknownCase", false), (37, "InUse", false), (38, "NotSound", false), (39, "NotTold", false), (40, "IsTold", false), (41, "TooMany", false), (42, "IsOver", false), (43, "NothingToUndo", false), (44, "Broken", false)]) (varM 0)) (consM (isX (lookT [(20, "InvalidCases", false), (21, "InvalidPeople", false), (22, "InvalidText", false), (23, "InvalidLot", false), (24, "InvalidTold", false), (25, "InvalidSteps", false), (26, "InvalidBets", false), (27, "InvalidOrder", false), (28, "InvalidNumber", true), (29, "InvalidName", false), (30, "InvalidClaim", false), (31, "InvalidIndex", false), (32, "InvalidLine", false), (33, "NotARoom", false), (34, "InvalidDeeds", false), (35, "UnknownName", false), (36, "UnknownCase", false), (37, "InUse", false), (38, "NotSound", false), (39, "NotTold", false), (40, "IsTold", false), (41, "TooMany", false), (42, "IsOver", false), (43, "NothingToUndo", false), (44, "Broken", false)]) (varM 0)) (nilM))))))) (seqS (setS 1 (bin addD (varM 1) (lstM (consM (isX (lookT [(20, "InvalidCases", false), (21, "InvalidPeople", false), (22, "InvalidText", false), (23, "InvalidLot", false), (24, "InvalidTold", false), (25, "InvalidSteps", false), (26, "InvalidBets", false), (27, "InvalidOrder", false), (28, "InvalidNumber", false), (29, "InvalidName", true), (30, "InvalidClaim", false), (31, "InvalidIndex", false), (32, "InvalidLine", false), (33, "NotARoom", false), (34, "InvalidDeeds", false), (35, "UnknownName", false), (36, "UnknownCase", false), (37, "InUse", false), (38, "NotSound", false), (39, "NotTold", false), (40, "IsTold", false), (41, "TooMany", false), (42, "IsOver", false), (43, "NothingToUndo", false), (44, "Broken", false)]) (varM 0)) (consM (isX (lookT [(20, "InvalidCases", false), (21, "InvalidPeople", false), (22, "InvalidText", false), (23, "InvalidLot", false), (24, "InvalidTold", false), (25, "InvalidSteps", false), (26, "InvalidBets", false), (27, "InvalidOrder", false), (28, "InvalidNumber", false), (29, "InvalidName", false), (30, "InvalidClaim", true), (31, "InvalidIndex", false), (32, "InvalidLine", false), (33, "NotARoom", false), (34, "InvalidDeeds", false), (35, "UnknownName", false), (36, "UnknownCase", false), (37, "InUse", false), (38, "NotSound", false), (39, "NotTold", false), (40, "IsTold", false), (41, "TooMany", false), (42, "IsOver", false), (43, "NothingToUndo", false), (44, "Broken", false)]) (varM 0)) (consM (isX (lookT [(20, "InvalidCases", false), (21, "InvalidPeople", false), (22, "InvalidText", false), (23, "InvalidLot", false), (24, "InvalidTold", false), (25, "InvalidSteps", false), (26, "InvalidBets", false), (27, "InvalidOrder", false), (28, "InvalidNumber", false), (29, "InvalidName", false), (30, "InvalidClaim", false), (31, "InvalidIndex", true), (32, "InvalidLine", false), (33, "NotARoom", false), (34, "InvalidDeeds", false), (35, "UnknownName", false), (36, "UnknownCase", false), (37, "InUse", false), (38, "NotSound", false), (39, "NotTold", false), (40, "IsTold", false), (41, "TooMany", false), (42, "IsOver", false), (43, "NothingToUndo", false), (44, "Broken", false)]) (varM 0)) (nilM))))))) (seqS (setS 1 (bin addD (varM 1) (lstM (consM (isX (lookT [(20, "InvalidCases", false), (21, "InvalidPeople", false), (22, "InvalidText", false), (23, "InvalidLot", false), (24, "InvalidTold", false), (25, "InvalidSteps", false), (26, "InvalidBets", false), (27, "InvalidOrder", false), (28, "InvalidNumber", false), (29, "InvalidName", false), (30, "InvalidClaim", false), (31, "InvalidIndex", false), (32, "InvalidLine", true), (33, "NotARoom", false), (34, "InvalidDeeds", false), (35, "UnknownName", false), (36, "UnknownCase", false), (37, "InUse", false), (38, "NotSound", false), (39, "NotTold", false), (40, "IsTold", false), (41, "TooMany", false), (42, "IsOver", false), (43, "NothingToUndo", false), (44, "Broken", false)]) (varM 0)) (consM (isX (lookT [(20, "InvalidCases", false), (21, "InvalidPeople", false), (22, "InvalidText", false), (23, "InvalidLot", false), (24, "InvalidTold", false), (25, "InvalidSteps", false), (26, "InvalidBets", false), (27, "InvalidOrder", false), (28, "InvalidNumber", false), (29, "InvalidName", false), (30, "InvalidClaim", false), (31, "InvalidIndex", false), (32, "InvalidLine", false), (33, "NotARoom", true), (34, "InvalidDeeds", false), (35, "UnknownName", false), (36, "UnknownCase", false), (37, "InUse", false), (38, "NotSound", false), (39, "NotTold", false), (40, "IsTold", false), (41, "TooMany", false), (42, "IsOver", false), (43, "NothingToUndo", false), (44, "Broken", false)]) (varM 0)) (consM (isX (lookT [(20, "InvalidCases", false), (21, "InvalidPeople", false), (22, "InvalidText", false), (23, "InvalidLot", false), (24, "InvalidTold", false), (25, "InvalidSteps", false), (26, "InvalidBets", false), (27, "InvalidOrder", false), (28, "InvalidNumber", false), (29, "InvalidName", false), (30, "InvalidClaim", false), (31, "InvalidIndex", false), (32, "InvalidLine", false), (33, "NotARoom", false), (34, "InvalidDeeds", true), (35, "UnknownName", false), (36, "UnknownCase", false), (37, "InUse", false), (38, "NotSound", false), (39, "NotTold", false), (40, "IsTold", false), (41, "TooMany", false), (42, "IsOver", false), (43, "NothingToUndo", false), (44, "Broken", false)]) (varM 0)) (nilM))))))) (seqS (setS 1 (bin addD (varM 1) (lstM (consM (isX (lookT [(20, "InvalidCases", false), (21, "InvalidPeople", false), (22, "InvalidText", false), (23, "InvalidLot", false), (24, "InvalidTold", false), (25, "InvalidSteps", false), (26, "InvalidBets", false), (27, "InvalidOrder", false), (28, "InvalidNumber", false), (29, "InvalidName", false), (30, "InvalidClaim", false), (31, "InvalidIndex", false), (32, "InvalidLine", false), (33, "NotARoom", false), (34, "InvalidDeeds", false), (35, "UnknownName", true), (36, "UnknownCase", false), (37, "InUse", false), (38, "NotSound", false), (39, "NotTold", false), (40, "IsTold", false), (41, "TooMany", false), (42, "IsOver", false), (43, "NothingToUndo", false), (44, "Broken", false)]) (varM 0)) (consM (isX (lookT [(20, "InvalidCases", false), (21, "InvalidPeople", false), (22, "InvalidText", false), (23, "InvalidLot", false), (24, "InvalidTold", false), (25, "InvalidSteps", false), (26, "InvalidBets", false), (27, "InvalidOrder", false), (28, "InvalidNumber", false), (29, "InvalidName", false), (30, "InvalidClaim", false), (31, "InvalidIndex", false), (32, "InvalidLine", false), (33, "NotARoom", false), (34, "InvalidDeeds", false), (35, "UnknownName", false), (36, "UnknownCase", true), (37, "InUse", false), (38, "NotSound", false), (39, "NotTold", false), (40, "IsTold", false), (41, "TooMany", false), (42, "IsOver", false), (43, "NothingToUndo", false), (44, "Broken", false)]) (varM 0)) (consM (isX (lookT [(20, "InvalidCases", false), (21, "InvalidPeople", false), (22, "InvalidText", false), (23, "InvalidLot", false), (24, "InvalidTold", false), (25, "InvalidSteps", false), (26, "InvalidBets", false), (27, "InvalidOrder", false), (28, "InvalidNumber", false), (29, "InvalidName", false), (30, "InvalidClaim", false), (31, "InvalidIndex", false), (32, "InvalidLine", false), (33, "NotARoom", false), (34, "InvalidDeeds", false), (35, "UnknownName", false), (36, "UnknownCase", false), (37, "InUse", true), (38, "NotSound", false), (39, "NotTold", false), (40, "IsTold", false), (41, "TooMany", false), (42, "IsOver", false), (43, "NothingToUndo", false), (44, "Broken", false)]) (varM 0)) (nilM))))))) (seqS (setS 1 (bin addD (varM 1) (lstM (consM (isX (lookT [(20, "InvalidCases", false), (21, "InvalidPeople", false), (22, "InvalidText", false), (23, "InvalidLot", false), (24, "InvalidTold", false), (25, "InvalidSteps", false), (26, "InvalidBets", false), (27, "InvalidOrder", false), (28, "InvalidNumber", false), (29, "InvalidName", false), (30, "InvalidClaim", false), (31, "InvalidIndex", false), (32, "InvalidLine", false), (33, "NotARoom", false), (34, "InvalidDeeds", false), (35, "UnknownName", false), (36, "UnknownCase", false), (37, "InUse", false), (38, "NotSound", true), (39, "NotTold", false), (40, "IsTold", false), (41, "TooMany", false), (42, "IsOver", false), (43, "NothingToUndo", false), (44, "Broken", false)]) (varM 0)) (consM (isX (lookT [(20, "InvalidCases", false), (21, "InvalidPeople", false), (22, "InvalidText", false), (23, "InvalidLot", false), (24, "InvalidTold", false), (25, "InvalidSteps", false), (26, "InvalidBets", false), (27, "InvalidOrder", false), (28, "InvalidNumber", false), (29, "InvalidName", false), (30, "InvalidClaim", false), (31, "InvalidIndex", false), (32, "InvalidLine", false), (33, "NotARoom", false), (34, "InvalidDeeds", false), (35, "UnknownName", false), (36, "UnknownCase", false), (37, "InUse", false), (38, "NotSound", false), (39, "NotTold", true), (40, "IsTold", false), (41, "TooMany", false), (42, "IsOver", false), (43, "NothingToUndo", false), (44, "Broken", false)]) (varM 0)) (consM (isX (lookT [(20, "InvalidCases", false), (21, "InvalidPeople", false), (22, "InvalidText", false), (23, "InvalidLot", false), (24, "InvalidTold", false), (25, "InvalidSteps", false), (26, "InvalidBets", false), (27, "InvalidOrder", false), (28, "InvalidNumber", false), (29, "InvalidName", false), (30, "InvalidClaim", false), (31, "InvalidIndex", false), (32, "InvalidLine", false), (33, "NotARoom", false), (34, "InvalidDeeds", false), (35, "UnknownName", false), (36, "UnknownCase", false), (37, "InUse", false), (38, "NotSound", false), (39, "NotTold", false), (40, "IsTold", true), (41, "TooMany", false), (42, "IsOver", false), (43, "NothingToUndo", false), (44, "Broken", false)]) (varM 0)) (consM (isX (lookT [(20, "InvalidCases", false), (21, "InvalidPeople", false), (22, "InvalidText", false), (23, "InvalidLot", false), (24, "InvalidTold", false), (25, "InvalidSteps", false), (26, "InvalidBets", false), (27, "InvalidOrder", false), (28, "InvalidNumber", false), (29, "InvalidName", false), (30, "InvalidClaim", false), (31, "InvalidIndex", false), (32, "InvalidLine", false), (33, "NotARoom", false), (34, "InvalidDeeds", false), (35, "UnknownName", false), (36, "UnknownCase", false), (37, "InUse", false), (38, "NotSound", false), (39, "NotTold", false), (40, "IsTold", false), (41, "TooMany", true), (42, "IsOver", false), (43, "NothingToUndo", false), (44, "Broken", false)]) (varM 0)) (nilM)))))))) (seqS (setS 1 (bin addD (varM 1) (lstM (consM (isX (lookT [(20, "InvalidCases", false), (21, "InvalidPeople", false), (22, "InvalidText", false), (23, "InvalidLot", false), (24, "InvalidTold", false), (25, "InvalidSteps", false), (26, "InvalidBets", false), (27, "InvalidOrder", false), (28, "InvalidNumber", false), (29, "InvalidName", false), (30, "InvalidClaim", false), (31, "InvalidIndex", false), (32, "InvalidLine", false), (33, "NotARoom", false), (34, "InvalidDeeds", false), (35, "UnknownName", false), (36, "UnknownCase", false), (37, "InUse", false), (38, "NotSound", false), (39, "NotTold", false), (40, "IsTold", false), (41, "TooMany", false), (42, "IsOver", true), (43, "NothingToUndo", false), (44, "Broken", false)]) (varM 0)) (consM (isX (lookT [(20, "InvalidCases", false), (21, "InvalidPeople", false), (22, "InvalidText", false), (23, "InvalidLot", false), (24, "InvalidTold", false), (25, "InvalidSteps", false), (26, "InvalidBets", false), (27, "InvalidOrder", false), (28, "InvalidNumber", false), (29, "InvalidName", false), (30, "InvalidClaim", false), (31, "InvalidIndex", false), (32, "InvalidLine", false), (33, "NotARoom", false), (34, "InvalidDeeds", false), (35, "UnknownName", false), (36, "UnknownCase", false), (37, "InUse", false), (38, "NotSound", false), (39, "NotTold", false), (40, "IsTold", false), (41, "TooMany", false), (42, "IsOver", false), (43, "NothingToUndo", true), (44, "Broken", false)]) (varM 0)) (consM (isX (lookT [(20, "InvalidCases", false), (21, "InvalidPeople", false), (22, "InvalidText", false), (23, "InvalidLot", false), (24, "InvalidTold", false), (25, "InvalidSteps", false), (26, "InvalidBets", false), (27, "InvalidOrder", false), (28, "InvalidNumber", false), (29, "InvalidName", false), (30, "InvalidClaim", false), (31, "InvalidIndex", false), (32, "InvalidLine", false), (33, "NotARoom", false), (34, "InvalidDeeds", false), (35, "UnknownName", false), (36, "UnknownCase", false), (37, "InUse", false), (38, "NotSound", false), (39, "NotTold", false), (40, "IsTold", false), (41, "TooMany", false), (42, "IsOver", false), (43, "NothingToUndo", false), (44, "Broken", true)]) (varM 0)) (nilM))))))) (retS (frzM (lcC [2] (rangeM (consM (ret (.int 25)) (nilM))) (nameG 2) (tst (lookM ixD (slM 1) (varM 2))) (varM 2)))))))))))
def m_law_own : DF := defF N_law_own.length b_law_own
end LK

set_option Elab.async false
set_option linter.all false
set_option maxRecDepth 100000
set_option maxHeartbeats 4000000
namespace LK
open PySem PySem.Spec PyProof.Rows L2 He DP
def ct (K : PySem.W.Frag) (w : World) : CT where
  ca := fun n => match n with
  | 20 => ga K "InvalidCases"
  | 21 => ga K "InvalidPeople"
  | 22 => ga K "InvalidText"
  | 23 => ga K "InvalidLot"
  | 24 => ga K "InvalidTold"
  | 25 => ga K "InvalidSteps"
  | 26 => ga K "InvalidBets"
  | 27 => ga K "InvalidOrder"
  | 28 => ga K "InvalidNumber"
  | 29 => ga K "InvalidName"
  | 30 => ga K "InvalidClaim"
  | 31 => ga K "InvalidIndex"
  | 32 => ga K "InvalidLine"
  | 33 => ga K "NotARoom"
  | 34 => ga K "InvalidDeeds"
  | 35 => ga K "UnknownName"
  | 36 => ga K "UnknownCase"
  | 37 => ga K "InUse"
  | 38 => ga K "NotSound"
  | 39 => ga K "NotTold"
  | 40 => ga K "IsTold"
  | 41 => ga K "TooMany"
  | 42 => ga K "IsOver"
  | 43 => ga K "NothingToUndo"
  | 44 => ga K "Broken"
  | _ => 0
  cf := fun n => match n with
  | 20 => fl20
  | 21 => fl21
  | 22 => fl22
  | 23 => fl23
  | 24 => fl24
  | 25 => fl25
  | 26 => fl26
  | 27 => fl27
  | 28 => fl28
  | 29 => fl29
  | 30 => fl30
  | 31 => fl31
  | 32 => fl32
  | 33 => fl33
  | 34 => fl34
  | 35 => fl35
  | 36 => fl36
  | 37 => fl37
  | 38 => fl38
  | 39 => fl39
  | 40 => fl40
  | 41 => fl41
  | 42 => fl42
  | 43 => fl43
  | 44 => fl44
  | _ => []
  xa := none
  tbs := []
  w := w
theorem ct_n1 (K : PySem.W.Frag) (w : World) : ((ct K w).tbs.map (·.1)).Nodup := by
  show ([] : List Str).Nodup
  decide +kernel
structure KF (w : World) (K : PySem.W.Frag) (mg : Str → Option Value) : Prop where
  g_law : mg "law" = some (.ref (ga K "law"))
  i_MOST_CASES_8 : ∃ t, mg "MOST_CASES" = some (.int 8 t)
  i_MOST_PEOPLE_4 : ∃ t, mg "MOST_PEOPLE" = some (.int 4 t)
  i_MOST_BOTTOM_1000000000 : ∃ t, mg "MOST_BOTTOM" = some (.int 1000000000 t)
  i_MOST_STRUCK_12 : ∃ t, mg "MOST_STRUCK" = some (.int 12 t)
  i_MOST_DEPTH_8 : ∃ t, mg "MOST_DEPTH" = some (.int 8 t)
  xi_InvalidCases : xinitB K .ve (ga K "InvalidCases") "given" PP.main.file = true
  b_super : mg "super" = none
  g_InvalidCases : mg "InvalidCases" = some (.ref (ga K "InvalidCases"))
  xi_InvalidPeople : xinitB K .ve (ga K "InvalidPeople") "given" PP.main.file = true
  g_InvalidPeople : mg "InvalidPeople" = some (.ref (ga K "InvalidPeople"))
  xi_InvalidText : xinitB K .ve (ga K "InvalidText") "given" PP.main.file = true
  g_InvalidText : mg "InvalidText" = some (.ref (ga K "InvalidText"))
  xi_InvalidLot : xinitB K .ve (ga K "InvalidLot") "given" PP.main.file = true
  g_InvalidLot : mg "InvalidLot" = some (.ref (ga K "InvalidLot"))
  xi_InvalidTold : xinitB K .ve (ga K "InvalidTold") "given" PP.main.file = true
  g_InvalidTold : mg "InvalidTold" = some (.ref (ga K "InvalidTold"))
  xi_InvalidSteps : xinitB K .ve (ga K "InvalidSteps") "given" PP.main.file = true
  g_InvalidSteps : mg "InvalidSteps" = some (.ref (ga K "InvalidSteps"))
  xi_InvalidBets : xinitB K .ve (ga K "InvalidBets") "given" PP.main.file = true
  g_InvalidBets : mg "InvalidBets" = some (.ref (ga K "InvalidBets"))
  xi_InvalidOrder : xinitB K .ve (ga K "InvalidOrder") "given" PP.main.file = true
  g_InvalidOrder : mg "InvalidOrder" = some (.ref (ga K "InvalidOrder"))
  xi_InvalidNumber : xinitB K .ve (ga K "InvalidNumber") "given" PP.main.file = true
  g_InvalidNumber : mg "InvalidNumber" = some (.ref (ga K "InvalidNumber"))
  xi_InvalidName : xinitB K .ve (ga K "InvalidName") "given" PP.main.file = true
  g_InvalidName : mg "InvalidName" = some (.ref (ga K "InvalidName"))
  xi_InvalidClaim : xinitB K .ve (ga K "InvalidClaim") "given" PP.main.file = true
  g_InvalidClaim : mg "InvalidClaim" = some (.ref (ga K "InvalidClaim"))
  xi_InvalidIndex : xinitB K .ve (ga K "InvalidIndex") "given" PP.main.file = true
  g_InvalidIndex : mg "InvalidIndex" = some (.ref (ga K "InvalidIndex"))
  xi_InvalidLine : xinitB K .ve (ga K "InvalidLine") "given" PP.main.file = true
  g_InvalidLine : mg "InvalidLine" = some (.ref (ga K "InvalidLine"))
  xi_NotARoom : xinitB K .ve (ga K "NotARoom") "given" PP.main.file = true
  g_NotARoom : mg "NotARoom" = some (.ref (ga K "NotARoom"))
  g_law_wrong_values : mg "_law_wrong_values" = some (.ref (ga K "_law_wrong_values"))
  xi_InvalidDeeds : xinitB K .ve (ga K "InvalidDeeds") "index" PP.main.file = true
  g_InvalidDeeds : mg "InvalidDeeds" = some (.ref (ga K "InvalidDeeds"))
  xi_UnknownName : xinitB K .le (ga K "UnknownName") "given" PP.main.file = true
  g_UnknownName : mg "UnknownName" = some (.ref (ga K "UnknownName"))
  xi_UnknownCase : xinitB K .le (ga K "UnknownCase") "given" PP.main.file = true
  g_UnknownCase : mg "UnknownCase" = some (.ref (ga K "UnknownCase"))
  xi_InUse : xinitB K .le (ga K "InUse") "index" PP.main.file = true
  g_InUse : mg "InUse" = some (.ref (ga K "InUse"))
  xo_NotSound : xownB K .ae (ga K "NotSound") = true
  g_NotSound : mg "NotSound" = some (.ref (ga K "NotSound"))
  xo_NotTold : xownB K .ae (ga K "NotTold") = true
  g_NotTold : mg "NotTold" = some (.ref (ga K "NotTold"))
  xo_IsTold : xownB K .ae (ga K "IsTold") = true
  g_IsTold : mg "IsTold" = some (.ref (ga K "IsTold"))
  xi_TooMany : xinitB K .ae (ga K "TooMany") "limit" PP.main.file = true
  g_TooMany : mg "TooMany" = some (.ref (ga K "TooMany"))
  xo_IsOver : xownB K .ae (ga K "IsOver") = true
  g_IsOver : mg "IsOver" = some (.ref (ga K "IsOver"))
  xo_NothingToUndo : xownB K .ae (ga K "NothingToUndo") = true
  g_NothingToUndo : mg "NothingToUndo" = some (.ref (ga K "NothingToUndo"))
  xi_Broken : xinitB K .ae (ga K "Broken") "index" PP.main.file = true
  g_Broken : mg "Broken" = some (.ref (ga K "Broken"))
  xt_InvalidCases : xtB K [(20, "InvalidCases", true), (21, "InvalidPeople", false), (22, "InvalidText", false), (23, "InvalidLot", false), (24, "InvalidTold", false), (25, "InvalidSteps", false), (26, "InvalidBets", false), (27, "InvalidOrder", false), (28, "InvalidNumber", false), (29, "InvalidName", false), (30, "InvalidClaim", false), (31, "InvalidIndex", false), (32, "InvalidLine", false), (33, "NotARoom", false), (34, "InvalidDeeds", false), (35, "UnknownName", false), (36, "UnknownCase", false), (37, "InUse", false), (38, "NotSound", false), (39, "NotTold", false), (40, "IsTold", false), (41, "TooMany", false), (42, "IsOver", false), (43, "NothingToUndo", false), (44, "Broken", false)] (.ref (ga K "InvalidCases")) = true
  b_isinstance : mg "isinstance" = none
  xt_InvalidPeople : xtB K [(20, "InvalidCases", false), (21, "InvalidPeople", true), (22, "InvalidText", false), (23, "InvalidLot", false), (24, "InvalidTold", false), (25, "InvalidSteps", false), (26, "InvalidBets", false), (27, "InvalidOrder", false), (28, "InvalidNumber", false), (29, "InvalidName", false), (30, "InvalidClaim", false), (31, "InvalidIndex", false), (32, "InvalidLine", false), (33, "NotARoom", false), (34, "InvalidDeeds", false), (35, "UnknownName", false), (36, "UnknownCase", false), (37, "InUse", false), (38, "NotSound", false), (39, "NotTold", false), (40, "IsTold", false), (41, "TooMany", false), (42, "IsOver", false), (43, "NothingToUndo", false), (44, "Broken", false)] (.ref (ga K "InvalidPeople")) = true
  xt_InvalidText : xtB K [(20, "InvalidCases", false), (21, "InvalidPeople", false), (22, "InvalidText", true), (23, "InvalidLot", false), (24, "InvalidTold", false), (25, "InvalidSteps", false), (26, "InvalidBets", false), (27, "InvalidOrder", false), (28, "InvalidNumber", false), (29, "InvalidName", false), (30, "InvalidClaim", false), (31, "InvalidIndex", false), (32, "InvalidLine", false), (33, "NotARoom", false), (34, "InvalidDeeds", false), (35, "UnknownName", false), (36, "UnknownCase", false), (37, "InUse", false), (38, "NotSound", false), (39, "NotTold", false), (40, "IsTold", false), (41, "TooMany", false), (42, "IsOver", false), (43, "NothingToUndo", false), (44, "Broken", false)] (.ref (ga K "InvalidText")) = true
  xt_InvalidLot : xtB K [(20, "InvalidCases", false), (21, "InvalidPeople", false), (22, "InvalidText", false), (23, "InvalidLot", true), (24, "InvalidTold", false), (25, "InvalidSteps", false), (26, "InvalidBets", false), (27, "InvalidOrder", false), (28, "InvalidNumber", false), (29, "InvalidName", false), (30, "InvalidClaim", false), (31, "InvalidIndex", false), (32, "InvalidLine", false), (33, "NotARoom", false), (34, "InvalidDeeds", false), (35, "UnknownName", false), (36, "UnknownCase", false), (37, "InUse", false), (38, "NotSound", false), (39, "NotTold", false), (40, "IsTold", false), (41, "TooMany", false), (42, "IsOver", false), (43, "NothingToUndo", false), (44, "Broken", false)] (.ref (ga K "InvalidLot")) = true
  xt_InvalidTold : xtB K [(20, "InvalidCases", false), (21, "InvalidPeople", false), (22, "InvalidText", false), (23, "InvalidLot", false), (24, "InvalidTold", true), (25, "InvalidSteps", false), (26, "InvalidBets", false), (27, "InvalidOrder", false), (28, "InvalidNumber", false), (29, "InvalidName", false), (30, "InvalidClaim", false), (31, "InvalidIndex", false), (32, "InvalidLine", false), (33, "NotARoom", false), (34, "InvalidDeeds", false), (35, "UnknownName", false), (36, "UnknownCase", false), (37, "InUse", false), (38, "NotSound", false), (39, "NotTold", false), (40, "IsTold", false), (41, "TooMany", false), (42, "IsOver", false), (43, "NothingToUndo", false), (44, "Broken", false)] (.ref (ga K "InvalidTold")) = true
  xt_InvalidSteps : xtB K [(20, "InvalidCases", false), (21, "InvalidPeople", false), (22, "InvalidText", false), (23, "InvalidLot", false), (24, "InvalidTold", false), (25, "InvalidSteps", true), (26, "InvalidBets", false), (27, "InvalidOrder", false), (28, "InvalidNumber", false), (29, "InvalidName", false), (30, "InvalidClaim", false), (31, "InvalidIndex", false), (32, "InvalidLine", false), (33, "NotARoom", false), (34, "InvalidDeeds", false), (35, "UnknownName", false), (36, "UnknownCase", false), (37, "InUse", false), (38, "NotSound", false), (39, "NotTold", false), (40, "IsTold", false), (41, "TooMany", false), (42, "IsOver", false), (43, "NothingToUndo", false), (44, "Broken", false)] (.ref (ga K "InvalidSteps")) = true
  xt_InvalidBets : xtB K [(20, "InvalidCases", false), (21, "InvalidPeople", false), (22, "InvalidText", false), (23, "InvalidLot", false), (24, "InvalidTold", false), (25, "InvalidSteps", false), (26, "InvalidBets", true), (27, "InvalidOrder", false), (28, "InvalidNumber", false), (29, "InvalidName", false), (30, "InvalidClaim", false), (31, "InvalidIndex", false), (32, "InvalidLine", false), (33, "NotARoom", false), (34, "InvalidDeeds", false), (35, "UnknownName", false), (36, "UnknownCase", false), (37, "InUse", false), (38, "NotSound", false), (39, "NotTold", false), (40, "IsTold", false), (41, "TooMany", false), (42, "IsOver", false), (43, "NothingToUndo", false), (44, "Broken", false)] (.ref (ga K "InvalidBets")) = true
  xt_InvalidOrder : xtB K [(20, "InvalidCases", false), (21, "InvalidPeople", false), (22, "InvalidText", false), (23, "InvalidLot", false), (24, "InvalidTold", false), (25, "InvalidSteps", false), (26, "InvalidBets", false), (27, "InvalidOrder", true), (28, "InvalidNumber", false), (29, "InvalidName", false), (30, "InvalidClaim", false), (31, "InvalidIndex", false), (32, "InvalidLine", false), (33, "NotARoom", false), (34, "InvalidDeeds", false), (35, "UnknownName", false), (36, "UnknownCase", false), (37, "InUse", false), (38, "NotSound", false), (39, "NotTold", false), (40, "IsTold", false), (41, "TooMany", false), (42, "IsOver", false), (43, "NothingToUndo", false), (44, "Broken", false)] (.ref (ga K "InvalidOrder")) = true
  xt_InvalidNumber : xtB K [(20, "InvalidCases", false), (21, "InvalidPeople", false), (22, "InvalidText", false), (23, "InvalidLot", false), (24, "InvalidTold", false), (25, "InvalidSteps", false), (26, "InvalidBets", false), (27, "InvalidOrder", false), (28, "InvalidNumber", true), (29, "InvalidName", false), (30, "InvalidClaim", false), (31, "InvalidIndex", false), (32, "InvalidLine", false), (33, "NotARoom", false), (34, "InvalidDeeds", false), (35, "UnknownName", false), (36, "UnknownCase", false), (37, "InUse", false), (38, "NotSound", false), (39, "NotTold", false), (40, "IsTold", false), (41, "TooMany", false), (42, "IsOver", false), (43, "NothingToUndo", false), (44, "Broken", false)] (.ref (ga K "InvalidNumber")) = true
  xt_InvalidName : xtB K [(20, "InvalidCases", false), (21, "InvalidPeople", false), (22, "InvalidText", false), (23, "InvalidLot", false), (24, "InvalidTold", false), (25, "InvalidSteps", false), (26, "InvalidBets", false), (27, "InvalidOrder", false), (28, "InvalidNumber", false), (29, "InvalidName", true), (30, "InvalidClaim", false), (31, "InvalidIndex", false), (32, "InvalidLine", false), (33, "NotARoom", false), (34, "InvalidDeeds", false), (35, "UnknownName", false), (36, "UnknownCase", false), (37, "InUse", false), (38, "NotSound", false), (39, "NotTold", false), (40, "IsTold", false), (41, "TooMany", false), (42, "IsOver", false), (43, "NothingToUndo", false), (44, "Broken", false)] (.ref (ga K "InvalidName")) = true
  xt_InvalidClaim : xtB K [(20, "InvalidCases", false), (21, "InvalidPeople", false), (22, "InvalidText", false), (23, "InvalidLot", false), (24, "InvalidTold", false), (25, "InvalidSteps", false), (26, "InvalidBets", false), (27, "InvalidOrder", false), (28, "InvalidNumber", false), (29, "InvalidName", false), (30, "InvalidClaim", true), (31, "InvalidIndex", false), (32, "InvalidLine", false), (33, "NotARoom", false), (34, "InvalidDeeds", false), (35, "UnknownName", false), (36, "UnknownCase", false), (37, "InUse", false), (38, "NotSound", false), (39, "NotTold", false), (40, "IsTold", false), (41, "TooMany", false), (42, "IsOver", false), (43, "NothingToUndo", false), (44, "Broken", false)] (.ref (ga K "InvalidClaim")) = true
  xt_InvalidIndex : xtB K [(20, "InvalidCases", false), (21, "InvalidPeople", false), (22, "InvalidText", false), (23, "InvalidLot", false), (24, "InvalidTold", false), (25, "InvalidSteps", false), (26, "InvalidBets", false), (27, "InvalidOrder", false), (28, "InvalidNumber", false), (29, "InvalidName", false), (30, "InvalidClaim", false), (31, "InvalidIndex", true), (32, "InvalidLine", false), (33, "NotARoom", false), (34, "InvalidDeeds", false), (35, "UnknownName", false), (36, "UnknownCase", false), (37, "InUse", false), (38, "NotSound", false), (39, "NotTold", false), (40, "IsTold", false), (41, "TooMany", false), (42, "IsOver", false), (43, "NothingToUndo", false), (44, "Broken", false)] (.ref (ga K "InvalidIndex")) = true
  xt_InvalidLine : xtB K [(20, "InvalidCases", false), (21, "InvalidPeople", false), (22, "InvalidText", false), (23, "InvalidLot", false), (24, "InvalidTold", false), (25, "InvalidSteps", false), (26, "InvalidBets", false), (27, "InvalidOrder", false), (28, "InvalidNumber", false), (29, "InvalidName", false), (30, "InvalidClaim", false), (31, "InvalidIndex", false), (32, "InvalidLine", true), (33, "NotARoom", false), (34, "InvalidDeeds", false), (35, "UnknownName", false), (36, "UnknownCase", false), (37, "InUse", false), (38, "NotSound", false), (39, "NotTold", false), (40, "IsTold", false), (41, "TooMany", false), (42, "IsOver", false), (43, "NothingToUndo", false), (44, "Broken", false)] (.ref (ga K "InvalidLine")) = true
  xt_NotARoom : xtB K [(20, "InvalidCases", false), (21, "InvalidPeople", false), (22, "InvalidText", false), (23, "InvalidLot", false), (24, "InvalidTold", false), (25, "InvalidSteps", false), (26, "InvalidBets", false), (27, "InvalidOrder", false), (28, "InvalidNumber", false), (29, "InvalidName", false), (30, "InvalidClaim", false), (31, "InvalidIndex", false), (32, "InvalidLine", false), (33, "NotARoom", true), (34, "InvalidDeeds", false), (35, "UnknownName", false), (36, "UnknownCase", false), (37, "InUse", false), (38, "NotSound", false), (39, "NotTold", false), (40, "IsTold", false), (41, "TooMany", false), (42, "IsOver", false), (43, "NothingToUndo", false), (44, "Broken", false)] (.ref (ga K "NotARoom")) = true
  xt_InvalidDeeds : xtB K [(20, "InvalidCases", false), (21, "InvalidPeople", false), (22, "InvalidText", false), (23, "InvalidLot", false), (24, "InvalidTold", false), (25, "InvalidSteps", false), (26, "InvalidBets", false), (27, "InvalidOrder", false), (28, "InvalidNumber", false), (29, "InvalidName", false), (30, "InvalidClaim", false), (31, "InvalidIndex", false), (32, "InvalidLine", false), (33, "NotARoom", false), (34, "InvalidDeeds", true), (35, "UnknownName", false), (36, "UnknownCase", false), (37, "InUse", false), (38, "NotSound", false), (39, "NotTold", false), (40, "IsTold", false), (41, "TooMany", false), (42, "IsOver", false), (43, "NothingToUndo", false), (44, "Broken", false)] (.ref (ga K "InvalidDeeds")) = true
  xt_UnknownName : xtB K [(20, "InvalidCases", false), (21, "InvalidPeople", false), (22, "InvalidText", false), (23, "InvalidLot", false), (24, "InvalidTold", false), (25, "InvalidSteps", false), (26, "InvalidBets", false), (27, "InvalidOrder", false), (28, "InvalidNumber", false), (29, "InvalidName", false), (30, "InvalidClaim", false), (31, "InvalidIndex", false), (32, "InvalidLine", false), (33, "NotARoom", false), (34, "InvalidDeeds", false), (35, "UnknownName", true), (36, "UnknownCase", false), (37, "InUse", false), (38, "NotSound", false), (39, "NotTold", false), (40, "IsTold", false), (41, "TooMany", false), (42, "IsOver", false), (43, "NothingToUndo", false), (44, "Broken", false)] (.ref (ga K "UnknownName")) = true
  xt_UnknownCase : xtB K [(20, "InvalidCases", false), (21, "InvalidPeople", false), (22, "InvalidText", false), (23, "InvalidLot", false), (24, "InvalidTold", false), (25, "InvalidSteps", false), (26, "InvalidBets", false), (27, "InvalidOrder", false), (28, "InvalidNumber", false), (29, "InvalidName", false), (30, "InvalidClaim", false), (31, "InvalidIndex", false), (32, "InvalidLine", false), (33, "NotARoom", false), (34, "InvalidDeeds", false), (35, "UnknownName", false), (36, "UnknownCase", true), (37, "InUse", false), (38, "NotSound", false), (39, "NotTold", false), (40, "IsTold", false), (41, "TooMany", false), (42, "IsOver", false), (43, "NothingToUndo", false), (44, "Broken", false)] (.ref (ga K "UnknownCase")) = true
  xt_InUse : xtB K [(20, "InvalidCases", false), (21, "InvalidPeople", false), (22, "InvalidText", false), (23, "InvalidLot", false), (24, "InvalidTold", false), (25, "InvalidSteps", false), (26, "InvalidBets", false), (27, "InvalidOrder", false), (28, "InvalidNumber", false), (29, "InvalidName", false), (30, "InvalidClaim", false), (31, "InvalidIndex", false), (32, "InvalidLine", false), (33, "NotARoom", false), (34, "InvalidDeeds", false), (35, "UnknownName", false), (36, "UnknownCase", false), (37, "InUse", true), (38, "NotSound", false), (39, "NotTold", false), (40, "IsTold", false), (41, "TooMany", false), (42, "IsOver", false), (43, "NothingToUndo", false), (44, "Broken", false)] (.ref (ga K "InUse")) = true
  xt_NotSound : xtB K [(20, "InvalidCases", false), (21, "InvalidPeople", false), (22, "InvalidText", false), (23, "InvalidLot", false), (24, "InvalidTold", false), (25, "InvalidSteps", false), (26, "InvalidBets", false), (27, "InvalidOrder", false), (28, "InvalidNumber", false), (29, "InvalidName", false), (30, "InvalidClaim", false), (31, "InvalidIndex", false), (32, "InvalidLine", false), (33, "NotARoom", false), (34, "InvalidDeeds", false), (35, "UnknownName", false), (36, "UnknownCase", false), (37, "InUse", false), (38, "NotSound", true), (39, "NotTold", false), (40, "IsTold", false), (41, "TooMany", false), (42, "IsOver", false), (43, "NothingToUndo", false), (44, "Broken", false)] (.ref (ga K "NotSound")) = true
  xt_NotTold : xtB K [(20, "InvalidCases", false), (21, "InvalidPeople", false), (22, "InvalidText", false), (23, "InvalidLot", false), (24, "InvalidTold", false), (25, "InvalidSteps", false), (26, "InvalidBets", false), (27, "InvalidOrder", false), (28, "InvalidNumber", false), (29, "InvalidName", false), (30, "InvalidClaim", false), (31, "InvalidIndex", false), (32, "InvalidLine", false), (33, "NotARoom", false), (34, "InvalidDeeds", false), (35, "UnknownName", false), (36, "UnknownCase", false), (37, "InUse", false), (38, "NotSound", false), (39, "NotTold", true), (40, "IsTold", false), (41, "TooMany", false), (42, "IsOver", false), (43, "NothingToUndo", false), (44, "Broken", false)] (.ref (ga K "NotTold")) = true
  xt_IsTold : xtB K [(20, "InvalidCases", false), (21, "InvalidPeople", false), (22, "InvalidText", false), (23, "InvalidLot", false), (24, "InvalidTold", false), (25, "InvalidSteps", false), (26, "InvalidBets", false), (27, "InvalidOrder", false), (28, "InvalidNumber", false), (29, "InvalidName", false), (30, "InvalidClaim", false), (31, "InvalidIndex", false), (32, "InvalidLine", false), (33, "NotARoom", false), (34, "InvalidDeeds", false), (35, "UnknownName", false), (36, "UnknownCase", false), (37, "InUse", false), (38, "NotSound", false), (39, "NotTold", false), (40, "IsTold", true), (41, "TooMany", false), (42, "IsOver", false), (43, "NothingToUndo", false), (44, "Broken", false)] (.ref (ga K "IsTold")) = true
  xt_TooMany : xtB K [(20, "InvalidCases", false), (21, "InvalidPeople", false), (22, "InvalidText", false), (23, "InvalidLot", false), (24, "InvalidTold", false), (25, "InvalidSteps", false), (26, "InvalidBets", false), (27, "InvalidOrder", false), (28, "InvalidNumber", false), (29, "InvalidName", false), (30, "InvalidClaim", false), (31, "InvalidIndex", false), (32, "InvalidLine", false), (33, "NotARoom", false), (34, "InvalidDeeds", false), (35, "UnknownName", false), (36, "UnknownCase", false), (37, "InUse", false), (38, "NotSound", false), (39, "NotTold", false), (40, "IsTold", false), (41, "TooMany", true), (42, "IsOver", false), (43, "NothingToUndo", false), (44, "Broken", false)] (.ref (ga K "TooMany")) = true
  xt_IsOver : xtB K [(20, "InvalidCases", false), (21, "InvalidPeople", false), (22, "InvalidText", false), (23, "InvalidLot", false), (24, "InvalidTold", false), (25, "InvalidSteps", false), (26, "InvalidBets", false), (27, "InvalidOrder", false), (28, "InvalidNumber", false), (29, "InvalidName", false), (30, "InvalidClaim", false), (31, "InvalidIndex", false), (32, "InvalidLine", false), (33, "NotARoom", false), (34, "InvalidDeeds", false), (35, "UnknownName", false), (36, "UnknownCase", false), (37, "InUse", false), (38, "NotSound", false), (39, "NotTold", false), (40, "IsTold", false), (41, "TooMany", false), (42, "IsOver", true), (43, "NothingToUndo", false), (44, "Broken", false)] (.ref (ga K "IsOver")) = true
  xt_NothingToUndo : xtB K [(20, "InvalidCases", false), (21, "InvalidPeople", false), (22, "InvalidText", false), (23, "InvalidLot", false), (24, "InvalidTold", false), (25, "InvalidSteps", false), (26, "InvalidBets", false), (27, "InvalidOrder", false), (28, "InvalidNumber", false), (29, "InvalidName", false), (30, "InvalidClaim", false), (31, "InvalidIndex", false), (32, "InvalidLine", false), (33, "NotARoom", false), (34, "InvalidDeeds", false), (35, "UnknownName", false), (36, "UnknownCase", false), (37, "InUse", false), (38, "NotSound", false), (39, "NotTold", false), (40, "IsTold", false), (41, "TooMany", false), (42, "IsOver", false), (43, "NothingToUndo", true), (44, "Broken", false)] (.ref (ga K "NothingToUndo")) = true
  xt_Broken : xtB K [(20, "InvalidCases", false), (21, "InvalidPeople", false), (22, "InvalidText", false), (23, "InvalidLot", false), (24, "InvalidTold", false), (25, "InvalidSteps", false), (26, "InvalidBets", false), (27, "InvalidOrder", false), (28, "InvalidNumber", false), (29, "InvalidName", false), (30, "InvalidClaim", false), (31, "InvalidIndex", false), (32, "InvalidLine", false), (33, "NotARoom", false), (34, "InvalidDeeds", false), (35, "UnknownName", false), (36, "UnknownCase", false), (37, "InUse", false), (38, "NotSound", false), (39, "NotTold", false), (40, "IsTold", false), (41, "TooMany", false), (42, "IsOver", false), (43, "NothingToUndo", false), (44, "Broken", true)] (.ref (ga K "Broken")) = true
  b_range : mg "range" = none
  g_law_own : mg "_law_own" = some (.ref (ga K "_law_own"))
  g_WrongValue : mg "WrongValue" = some (.ref (ga K "WrongValue"))
  xt_WrongValue : xtB K [(20, "InvalidCases", true), (21, "InvalidPeople", true), (22, "InvalidText", true), (23, "InvalidLot", true), (24, "InvalidTold", true), (25, "InvalidSteps", true), (26, "InvalidBets", true), (27, "InvalidOrder", true), (28, "InvalidNumber", true), (29, "InvalidName", true), (30, "InvalidClaim", true), (31, "InvalidIndex", true), (32, "InvalidLine", true), (33, "NotARoom", true), (34, "InvalidDeeds", true), (35, "UnknownName", false), (36, "UnknownCase", false), (37, "InUse", false), (38, "NotSound", false), (39, "NotTold", false), (40, "IsTold", false), (41, "TooMany", false), (42, "IsOver", false), (43, "NothingToUndo", false), (44, "Broken", false)] (.ref (ga K "WrongValue")) = true
  g_WrongName : mg "WrongName" = some (.ref (ga K "WrongName"))
  xt_WrongName : xtB K [(20, "InvalidCases", false), (21, "InvalidPeople", false), (22, "InvalidText", false), (23, "InvalidLot", false), (24, "InvalidTold", false), (25, "InvalidSteps", false), (26, "InvalidBets", false), (27, "InvalidOrder", false), (28, "InvalidNumber", false), (29, "InvalidName", false), (30, "InvalidClaim", false), (31, "InvalidIndex", false), (32, "InvalidLine", false), (33, "NotARoom", false), (34, "InvalidDeeds", false), (35, "UnknownName", true), (36, "UnknownCase", true), (37, "InUse", true), (38, "NotSound", false), (39, "NotTold", false), (40, "IsTold", false), (41, "TooMany", false), (42, "IsOver", false), (43, "NothingToUndo", false), (44, "Broken", false)] (.ref (ga K "WrongName")) = true
  g_NoAnswer : mg "NoAnswer" = some (.ref (ga K "NoAnswer"))
  xt_NoAnswer : xtB K [(20, "InvalidCases", false), (21, "InvalidPeople", false), (22, "InvalidText", false), (23, "InvalidLot", false), (24, "InvalidTold", false), (25, "InvalidSteps", false), (26, "InvalidBets", false), (27, "InvalidOrder", false), (28, "InvalidNumber", false), (29, "InvalidName", false), (30, "InvalidClaim", false), (31, "InvalidIndex", false), (32, "InvalidLine", false), (33, "NotARoom", false), (34, "InvalidDeeds", false), (35, "UnknownName", false), (36, "UnknownCase", false), (37, "InUse", false), (38, "NotSound", true), (39, "NotTold", true), (40, "IsTold", true), (41, "TooMany", true), (42, "IsOver", true), (43, "NothingToUndo", true), (44, "Broken", true)] (.ref (ga K "NoAnswer")) = true
  b_ValueError : mg "ValueError" = none
  xt_ValueError : xtB K [(20, "InvalidCases", true), (21, "InvalidPeople", true), (22, "InvalidText", true), (23, "InvalidLot", true), (24, "InvalidTold", true), (25, "InvalidSteps", true), (26, "InvalidBets", true), (27, "InvalidOrder", true), (28, "InvalidNumber", true), (29, "InvalidName", true), (30, "InvalidClaim", true), (31, "InvalidIndex", true), (32, "InvalidLine", true), (33, "NotARoom", true), (34, "InvalidDeeds", true), (35, "UnknownName", false), (36, "UnknownCase", false), (37, "InUse", false), (38, "NotSound", false), (39, "NotTold", false), (40, "IsTold", false), (41, "TooMany", false), (42, "IsOver", false), (43, "NothingToUndo", false), (44, "Broken", false)] (.type "ValueError") = true
  b_LookupError : mg "LookupError" = none
  xt_LookupError : xtB K [(20, "InvalidCases", false), (21, "InvalidPeople", false), (22, "InvalidText", false), (23, "InvalidLot", false), (24, "InvalidTold", false), (25, "InvalidSteps", false), (26, "InvalidBets", false), (27, "InvalidOrder", false), (28, "InvalidNumber", false), (29, "InvalidName", false), (30, "InvalidClaim", false), (31, "InvalidIndex", false), (32, "InvalidLine", false), (33, "NotARoom", false), (34, "InvalidDeeds", false), (35, "UnknownName", true), (36, "UnknownCase", true), (37, "InUse", true), (38, "NotSound", false), (39, "NotTold", false), (40, "IsTold", false), (41, "TooMany", false), (42, "IsOver", false), (43, "NothingToUndo", false), (44, "Broken", false)] (.type "LookupError") = true
  b_ArithmeticError : mg "ArithmeticError" = none
  xt_ArithmeticError : xtB K [(20, "InvalidCases", false), (21, "InvalidPeople", false), (22, "InvalidText", false), (23, "InvalidLot", false), (24, "InvalidTold", false), (25, "InvalidSteps", false), (26, "InvalidBets", false), (27, "InvalidOrder", false), (28, "InvalidNumber", false), (29, "InvalidName", false), (30, "InvalidClaim", false), (31, "InvalidIndex", false), (32, "InvalidLine", false), (33, "NotARoom", false), (34, "InvalidDeeds", false), (35, "UnknownName", false), (36, "UnknownCase", false), (37, "InUse", false), (38, "NotSound", true), (39, "NotTold", true), (40, "IsTold", true), (41, "TooMany", true), (42, "IsOver", true), (43, "NothingToUndo", true), (44, "Broken", true)] (.type "ArithmeticError") = true
  g_law_kinds : mg "_law_kinds" = some (.ref (ga K "_law_kinds"))
  b_repr : mg "repr" = none
  xf_given : xfdB K [(20, "InvalidCases"), (21, "InvalidPeople"), (22, "InvalidText"), (23, "InvalidLot"), (24, "InvalidTold"), (25, "InvalidSteps"), (26, "InvalidBets"), (27, "InvalidOrder"), (28, "InvalidNumber"), (29, "InvalidName"), (30, "InvalidClaim"), (31, "InvalidIndex"), (32, "InvalidLine"), (33, "NotARoom"), (35, "UnknownName"), (36, "UnknownCase")] "given" = true
  xf_index : xfdB K [(34, "InvalidDeeds"), (37, "InUse"), (44, "Broken")] "index" = true
  xf_limit : xfdB K [(41, "TooMany")] "limit" = true
  d_law_wrong_values : ∃ fd, FunD K "_law_wrong_values" "_law_wrong_values" (defArgs (top 35)) (defBody (top 35)) (defScope (top 35)) [] [] (ga K "_law_wrong_values") fd
  d_law_own : ∃ fd, FunD K "_law_own" "_law_own" (defArgs (top 37)) (defBody (top 37)) (defScope (top 37)) [] [] (ga K "_law_own") fd
  d_law_kinds : ∃ fd, FunD K "_law_kinds" "_law_kinds" (defArgs (top 36)) (defBody (top 36)) (defScope (top 36)) [] [] (ga K "_law_kinds") fd
  d_law : ∃ fd, FunD K "law" "law" (defArgs (top 38)) (defBody (top 38)) (defScope (top 38)) [] [] (ga K "law") fd
abbrev s_law_wrong_values : Stmt := top 35
theorem sc_law_wrong_values : FnScope N_law_wrong_values [] (defScope s_law_wrong_values) := ⟨rfl, rfl, rfl, by decide +kernel, rfl, by decide +kernel, by decide +kernel⟩
theorem fg_law_wrong_values {w : World} {K : PySem.W.Frag} {mg : Str → Option Value} {base : Heap} (kf : KF w K mg) : FgOk PP w K mg base (ct K w) "_law_wrong_values" "_law_wrong_values" (defArgs s_law_wrong_values) (defBody s_law_wrong_values) (defScope s_law_wrong_values) (ga K "_law_wrong_values") 2 [] m_law_wrong_values := fg_of kf.d_law_wrong_values sc_law_wrong_values (fun cdv A outer s H E hr hg => sts_cons (st_set (i := 0) sc_law_wrong_values.nd rfl (Or.inl rfl) (de_lst (da_cons (de_mkx (k := 0) (b := .ve) (f := "given") ⟨kf.xi_InvalidCases, kf.b_super, pp_top, .inl rfl⟩ rfl rfl rfl (hr.mono (by decide)) kf.g_InvalidCases rfl (de_str)) (da_cons (de_mkxK (k := 0) (b := .ve) (f := "given") ⟨kf.xi_InvalidPeople, kf.b_super, pp_top, .inl rfl⟩ rfl rfl rfl (hr.mono (by decide)) kf.g_InvalidPeople rfl (de_str)) (da_cons (de_mkx (k := 0) (b := .ve) (f := "given") ⟨kf.xi_InvalidText, kf.b_super, pp_top, .inl rfl⟩ rfl rfl rfl (hr.mono (by decide)) kf.g_InvalidText rfl (de_str)) (da_cons (de_mkxK (k := 0) (b := .ve) (f := "given") ⟨kf.xi_InvalidLot, kf.b_super, pp_top, .inl rfl⟩ rfl rfl rfl (hr.mono (by decide)) kf.g_InvalidLot rfl (de_str)) (da_cons (de_mkx (k := 0) (b := .ve) (f := "given") ⟨kf.xi_InvalidTold, kf.b_super, pp_top, .inl rfl⟩ rfl rfl rfl (hr.mono (by decide)) kf.g_InvalidTold rfl (de_str)) (da_nil)))))))) (sts_cons (st_set (i := 0) sc_law_wrong_values.nd rfl (Or.inl rfl) (de_op o_add (de_var 0 rfl (Or.inl rfl)) (de_lst (da_cons (de_mkxK (k := 0) (b := .ve) (f := "given") ⟨kf.xi_InvalidSteps, kf.b_super, pp_top, .inl rfl⟩ rfl rfl rfl (hr.mono (by decide)) kf.g_InvalidSteps rfl (de_str)) (da_cons (de_mkx (k := 0) (b := .ve) (f := "given") ⟨kf.xi_InvalidBets, kf.b_super, pp_top, .inl rfl⟩ rfl rfl rfl (hr.mono (by decide)) kf.g_InvalidBets rfl (de_str)) (da_cons (de_mkxK (k := 0) (b := .ve) (f := "given") ⟨kf.xi_InvalidOrder, kf.b_super, pp_top, .inl rfl⟩ rfl rfl rfl (hr.mono (by decide)) kf.g_InvalidOrder rfl (de_str)) (da_cons (de_mkx (k := 0) (b := .ve) (f := "given") ⟨kf.xi_InvalidNumber, kf.b_super, pp_top, .inl rfl⟩ rfl rfl rfl (hr.mono (by decide)) kf.g_InvalidNumber rfl (de_str)) (da_nil)))))))) (sts_cons (st_set (i := 0) sc_law_wrong_values.nd rfl (Or.inl rfl) (de_op o_add (de_var 0 rfl (Or.inl rfl)) (de_lst (da_cons (de_mkxK (k := 0) (b := .ve) (f := "given") ⟨kf.xi_InvalidName, kf.b_super, pp_top, .inl rfl⟩ rfl rfl rfl (hr.mono (by decide)) kf.g_InvalidName rfl (de_str)) (da_cons (de_mkx (k := 0) (b := .ve) (f := "given") ⟨kf.xi_InvalidClaim, kf.b_super, pp_top, .inl rfl⟩ rfl rfl rfl (hr.mono (by decide)) kf.g_InvalidClaim rfl (de_str)) (da_cons (de_mkxK (k := 0) (b := .ve) (f := "given") ⟨kf.xi_InvalidIndex, kf.b_super, pp_top, .inl rfl⟩ rfl rfl rfl (hr.mono (by decide)) kf.g_InvalidIndex rfl (de_str)) (da_cons (de_mkx (k := 0) (b := .ve) (f := "given") ⟨kf.xi_InvalidLine, kf.b_super, pp_top, .inl rfl⟩ rfl rfl rfl (hr.mono (by decide)) kf.g_InvalidLine rfl (de_str)) (da_nil)))))))) (sts_one (st_ret (de_op o_add (de_var 0 rfl (Or.inl rfl)) (de_lst (da_cons (de_mkxK (k := 0) (b := .ve) (f := "given") ⟨kf.xi_NotARoom, kf.b_super, pp_top, .inl rfl⟩ rfl rfl rfl (hr.mono (by decide)) kf.g_NotARoom rfl (de_str)) (da_nil)))))))))
theorem ok_law_wrong_values {w : World} {K : PySem.W.Frag} {mg : Str → Option Value} {base : Heap} (kf : KF w K mg) : DefOk PP w K mg base (ct K w) (ga K "_law_wrong_values") 2 0 m_law_wrong_values := (fg_law_wrong_values kf).ok (fun _ _ _ _ _ _ us hl => match us, hl with | [], _ => rfl)

abbrev s_law_own : Stmt := top 37
theorem sc_law_own : FnScope N_law_own ["_law_e"] (defScope s_law_own) := ⟨rfl, rfl, rfl, by decide +kernel, rfl, by decide +kernel, by decide +kernel⟩
theorem fg_law_own {w : World} {K : PySem.W.Frag} {mg : Str → Option Value} {base : Heap} (kf : KF w K mg) : FgOk PP w K mg base (ct K w) "_law_own" "_law_own" (defArgs s_law_own) (defBody s_law_own) (defScope s_law_own) (ga K "_law_own") 1 ["_law_e"] m_law_own := fg_of kf.d_law_own sc_law_own (fun cdv A outer s H E hr hg => sts_cons (st_set (i := 1) sc_law_own.nd rfl (Or.inr rfl) (de_lst (da_cons (de_isV (c := .ref (ga K "InvalidCases")) rfl (isx_of kf.xt_InvalidCases (ca_cons rfl (ca_cons rfl (ca_cons rfl (ca_cons rfl (ca_cons rfl (ca_cons rfl (ca_cons rfl (ca_cons rfl (ca_cons rfl (ca_cons rfl (ca_cons rfl (ca_cons rfl (ca_cons rfl (ca_cons rfl (ca_cons rfl (ca_cons rfl (ca_cons rfl (ca_cons rfl (ca_cons rfl (ca_cons rfl (ca_cons rfl (ca_cons rfl (ca_cons rfl (ca_cons rfl (ca_cons rfl (ca_nil))))))))))))))))))))))))))) (fun _ h => h) (pe_glob rfl kf.g_InvalidCases rfl) rfl kf.b_isinstance (de_var 0 rfl (Or.inl rfl))) (da_cons (de_isV (c := .ref (ga K "InvalidPeople")) rfl (isx_of kf.xt_InvalidPeople (ca_cons rfl (ca_cons rfl (ca_cons rfl (ca_cons rfl (ca_cons rfl (ca_cons rfl (ca_cons rfl (ca_cons rfl (ca_cons rfl (ca_cons rfl (ca_cons rfl (ca_cons rfl (ca_cons rfl (ca_cons rfl (ca_cons rfl (ca_cons rfl (ca_cons rfl (ca_cons rfl (ca_cons rfl (ca_cons rfl (ca_cons rfl (ca_cons rfl (ca_cons rfl (ca_cons rfl (ca_cons rfl (ca_nil))))))))))))))))))))))))))) (fun _ h => h) (pe_glob rfl kf.g_InvalidPeople rfl) rfl kf.b_isinstance (de_var 0 rfl (Or.inl rfl))) (da_cons (de_isV (c := .ref (ga K "InvalidText")) rfl (isx_of kf.xt_InvalidText (ca_cons rfl (ca_cons rfl (ca_cons rfl (ca_cons rfl (ca_cons rfl (ca_cons rfl (ca_cons rfl (ca_cons rfl (ca_cons rfl (ca_cons rfl (ca_cons rfl (ca_cons rfl (ca_cons rfl (ca_cons rfl (ca_cons rfl (ca_cons rfl (ca_cons rfl (ca_cons rfl (ca_cons rfl (ca_cons rfl (ca_cons rfl (ca_cons rfl (ca_cons rfl (ca_cons rfl (ca_cons rfl (ca_nil))))))))))))))))))))))))))) (fun _ h => h) (pe_glob rfl kf.g_InvalidText rfl) rfl kf.b_isinstance (de_var 0 rfl (Or.inl rfl))) (da_nil)))))) (sts_cons (st_set (i := 1) sc_law_own.nd rfl (Or.inr rfl) (de_op o_add (de_var 1 rfl (Or.inr (Or.inl rfl))) (de_lst (da_cons (de_isV (c := .ref (ga K "InvalidLot")) rfl (isx_of kf.xt_InvalidLot (ca_cons rfl (ca_cons rfl (ca_cons rfl (ca_cons rfl (ca_cons rfl (ca_cons rfl (ca_cons rfl (ca_cons rfl (ca_cons rfl (ca_cons rfl (ca_cons rfl (ca_cons rfl (ca_cons rfl (ca_cons rfl (ca_cons rfl (ca_cons rfl (ca_cons rfl (ca_cons rfl (ca_cons rfl (ca_cons rfl (ca_cons rfl (ca_cons rfl (ca_cons rfl (ca_cons rfl (ca_cons rfl (ca_nil))))))))))))))))))))))))))) (fun _ h => h) (pe_glob rfl kf.g_InvalidLot rfl) rfl kf.b_isinstance (de_var 0 rfl (Or.inl rfl))) (da_cons (de_isV (c := .ref (ga K "InvalidTold")) rfl (isx_of kf.xt_InvalidTold (ca_cons rfl (ca_cons rfl (ca_cons rfl (ca_cons rfl (ca_cons rfl (ca_cons rfl (ca_cons rfl (ca_cons rfl (ca_cons rfl (ca_cons rfl (ca_cons rfl (ca_cons rfl (ca_cons rfl (ca_cons rfl (ca_cons rfl (ca_cons rfl (ca_cons rfl (ca_cons rfl (ca_cons rfl (ca_cons rfl (ca_cons rfl (ca_cons rfl (ca_cons rfl (ca_cons rfl (ca_cons rfl (ca_nil))))))))))))))))))))))))))) (fun _ h => h) (pe_glob rfl kf.g_InvalidTold rfl) rfl kf.b_isinstance (de_var 0 rfl (Or.inl rfl))) (da_cons (de_isV (c := .ref (ga K "InvalidSteps")) rfl (isx_of kf.xt_InvalidSteps (ca_cons rfl (ca_cons rfl (ca_cons rfl (ca_cons rfl (ca_cons rfl (ca_cons rfl (ca_cons rfl (ca_cons rfl (ca_cons rfl (ca_cons rfl (ca_cons rfl (ca_cons rfl (ca_cons rfl (ca_cons rfl (ca_cons rfl (ca_cons rfl (ca_cons rfl (ca_cons rfl (ca_cons rfl (ca_cons rfl (ca_cons rfl (ca_cons rfl (ca_cons rfl (ca_cons rfl (ca_cons rfl (ca_nil))))))))))))))))))))))))))) (fun _ h => h) (pe_glob rfl kf.g_InvalidSteps rfl) rfl kf.b_isinstance (de_var 0 rfl (Or.inl rfl))) (da_nil))))))) (sts_cons (st_set (i := 1) sc_law_own.nd rfl (Or.inr rfl) (de_op o_add (de_var 1 rfl (Or.inr (Or.inl rfl))) (de_lst (da_cons (de_isV (c := .ref (ga K "InvalidBets")) rfl (isx_of kf.xt_InvalidBets (ca_cons rfl (ca_cons rfl (ca_cons rfl (ca_cons rfl (ca_cons rfl (ca_cons rfl (ca_cons rfl (ca_cons rfl (ca_cons rfl (ca_cons rfl (ca_cons rfl (ca_cons rfl (ca_cons rfl (ca_cons rfl (ca_cons rfl (ca_cons rfl (ca_cons rfl (ca_cons rfl (ca_cons rfl (ca_cons rfl (ca_cons rfl (ca_cons rfl (ca_cons rfl (ca_cons rfl (ca_cons rfl (ca_nil))))))))))))))))))))))))))) (fun _ h => h) (pe_glob rfl kf.g_InvalidBets rfl) rfl kf.b_isinstance (de_var 0 rfl (Or.inl rfl))) (da_cons (de_isV (c := .ref (ga K "InvalidOrder")) rfl (isx_of kf.xt_InvalidOrder (ca_cons rfl (ca_cons rfl (ca_cons rfl (ca_cons rfl (ca_cons rfl (ca_cons rfl (ca_cons rfl (ca_cons rfl (ca_cons rfl (ca_cons rfl (ca_cons rfl (ca_cons rfl (ca_cons rfl (ca_cons rfl (ca_cons rfl (ca_cons rfl (ca_cons rfl (ca_cons rfl (ca_cons rfl (ca_cons rfl (ca_cons rfl (ca_cons rfl (ca_cons rfl (ca_cons rfl (ca_cons rfl (ca_nil))))))))))))))))))))))))))) (fun _ h => h) (pe_glob rfl kf.g_InvalidOrder rfl) rfl kf.b_isinstance (de_var 0 rfl (Or.inl rfl))) (da_cons (de_isV (c := .ref (ga K "InvalidNumber")) rfl (isx_of kf.xt_InvalidNumber (ca_cons rfl (ca_cons rfl (ca_cons rfl (ca_cons rfl (ca_cons rfl (ca_cons rfl (ca_cons rfl (ca_cons rfl (ca_cons rfl (ca_cons rfl (ca_cons rfl (ca_cons rfl (ca_cons rfl (ca_cons rfl (ca_cons rfl (ca_cons rfl (ca_cons rfl (ca_cons rfl (ca_cons rfl (ca_cons rfl (ca_cons rfl (ca_cons rfl (ca_cons rfl (ca_cons rfl (ca_cons rfl (ca_nil))))))))))))))))))))))))))) (fun _ h => h) (pe_glob rfl kf.g_InvalidNumber rfl) rfl kf.b_isinstance (de_var 0 rfl (Or.inl rfl))) (da_nil))))))) (sts_cons (st_set (i := 1) sc_law_own.nd rfl (Or.inr rfl) (de_op o_add (de_var 1 rfl (Or.inr (Or.inl rfl))) (de_lst (da_cons (de_isV (c := .ref (ga K "InvalidName")) rfl (isx_of kf.xt_InvalidName (ca_cons rfl (ca_cons rfl (ca_cons rfl (ca_cons rfl (ca_cons rfl (ca_cons rfl (ca_cons rfl (ca_cons rfl (ca_cons rfl (ca_cons rfl (ca_cons rfl (ca_cons rfl (ca_cons rfl (ca_cons rfl (ca_cons rfl (ca_cons rfl (ca_cons rfl (ca_cons rfl (ca_cons rfl (ca_cons rfl (ca_cons rfl (ca_cons rfl (ca_cons rfl (ca_cons rfl (ca_cons rfl (ca_nil))))))))))))))))))))))))))) (fun _ h => h) (pe_glob rfl kf.g_InvalidName rfl) rfl kf.b_isinstance (de_var 0 rfl (Or.inl rfl))) (da_cons (de_isV (c := .ref (ga K "InvalidClaim")) rfl (isx_of kf.xt_InvalidClaim (ca_cons rfl (ca_cons rfl (ca_cons rfl (ca_cons rfl (ca_cons rfl (ca_cons rfl (ca_cons rfl (ca_cons rfl (ca_cons rfl (ca_cons rfl (ca_cons rfl (ca_cons rfl (ca_cons rfl (ca_cons rfl (ca_cons rfl (ca_cons rfl (ca_cons rfl (ca_cons rfl (ca_cons rfl (ca_cons rfl (ca_cons rfl (ca_cons rfl (ca_cons rfl (ca_cons rfl (ca_cons rfl (ca_nil))))))))))))))))))))))))))) (fun _ h => h) (pe_glob rfl kf.g_InvalidClaim rfl) rfl kf.b_isinstance (de_var 0 rfl (Or.inl rfl))) (da_cons (de_isV (c := .ref (ga K "InvalidIndex")) rfl (isx_of kf.xt_InvalidIndex (ca_cons rfl (ca_cons rfl (ca_cons rfl (ca_cons rfl (ca_cons rfl (ca_cons rfl (ca_cons rfl (ca_cons rfl (ca_cons rfl (ca_cons rfl (ca_cons rfl (ca_cons rfl (ca_cons rfl (ca_cons rfl (ca_cons rfl (ca_cons rfl (ca_cons rfl (ca_cons rfl (ca_cons rfl (ca_cons rfl (ca_cons rfl (ca_cons rfl (ca_cons rfl (ca_cons rfl (ca_cons rfl (ca_nil))))))))))))))))))))))))))) (fun _ h => h) (pe_glob rfl kf.g_InvalidIndex rfl) rfl kf.b_isinstance (de_var 0 rfl (Or.inl rfl))) (da_nil))))))) (sts_cons (st_set (i := 1) sc_law_own.nd rfl (Or.inr rfl) (de_op o_add (de_var 1 rfl (Or.inr (Or.inl rfl))) (de_lst (da_cons (de_isV (c := .ref (ga K "InvalidLine")) rfl (isx_of kf.xt_InvalidLine (ca_cons rfl (ca_cons rfl (ca_cons rfl (ca_cons rfl (ca_cons rfl (ca_cons rfl (ca_cons rfl (ca_cons rfl (ca_cons rfl (ca_cons rfl (ca_cons rfl (ca_cons rfl (ca_cons rfl (ca_cons rfl (ca_cons rfl (ca_cons rfl (ca_cons rfl (ca_cons rfl (ca_cons rfl (ca_cons rfl (ca_cons rfl (ca_cons rfl (ca_cons rfl (ca_cons rfl (ca_cons rfl (ca_nil))))))))))))))))))))))))))) (fun _ h => h) (pe_glob rfl kf.g_InvalidLine rfl) rfl kf.b_isinstance (de_var 0 rfl (Or.inl rfl))) (da_cons (de_isV (c := .ref (ga K "NotARoom")) rfl (isx_of kf.xt_NotARoom (ca_cons rfl (ca_cons rfl (ca_cons rfl (ca_cons rfl (ca_cons rfl (ca_cons rfl (ca_cons rfl (ca_cons rfl (ca_cons rfl (ca_cons rfl (ca_cons rfl (ca_cons rfl (ca_cons rfl (ca_cons rfl (ca_cons rfl (ca_cons rfl (ca_cons rfl (ca_cons rfl (ca_cons rfl (ca_cons rfl (ca_cons rfl (ca_cons rfl (ca_cons rfl (ca_cons rfl (ca_cons rfl (ca_nil))))))))))))))))))))))))))) (fun _ h => h) (pe_glob rfl kf.g_NotARoom rfl) rfl kf.b_isinstance (de_var 0 rfl (Or.inl rfl))) (da_cons (de_isV (c := .ref (ga K "InvalidDeeds")) rfl (isx_of kf.xt_InvalidDeeds (ca_cons rfl (ca_cons rfl (ca_cons rfl (ca_cons rfl (ca_cons rfl (ca_cons rfl (ca_cons rfl (ca_cons rfl (ca_cons rfl (ca_cons rfl (ca_cons rfl (ca_cons rfl (ca_cons rfl (ca_cons rfl (ca_cons rfl (ca_cons rfl (ca_cons rfl (ca_cons rfl (ca_cons rfl (ca_cons rfl (ca_cons rfl (ca_cons rfl (ca_cons rfl (ca_cons rfl (ca_cons rfl (ca_nil))))))))))))))))))))))))))) (fun _ h => h) (pe_glob rfl kf.g_InvalidDeeds rfl) rfl kf.b_isinstance (de_var 0 rfl (Or.inl rfl))) (da_nil))))))) (sts_cons (st_set (i := 1) sc_law_own.nd rfl (Or.inr rfl) (de_op o_add (de_var 1 rfl (Or.inr (Or.inl rfl))) (de_lst (da_cons (de_isV (c := .ref (ga K "UnknownName")) rfl (isx_of kf.xt_UnknownName (ca_cons rfl (ca_cons rfl (ca_cons rfl (ca_cons rfl (ca_cons rfl (ca_cons rfl (ca_cons rfl (ca_cons rfl (ca_cons rfl (ca_cons rfl (ca_cons rfl (ca_cons rfl (ca_cons rfl (ca_cons rfl (ca_cons rfl (ca_cons rfl (ca_cons rfl (ca_cons rfl (ca_cons rfl (ca_cons rfl (ca_cons rfl (ca_cons rfl (ca_cons rfl (ca_cons rfl (ca_cons rfl (ca_nil))))))))))))))))))))))))))) (fun _ h => h) (pe_glob rfl kf.g_UnknownName rfl) rfl kf.b_isinstance (de_var 0 rfl (Or.inl rfl))) (da_cons (de_isV (c := .ref (ga K "UnknownCase")) rfl (isx_of kf.xt_UnknownCase (ca_cons rfl (ca_cons rfl (ca_cons rfl (ca_cons rfl (ca_cons rfl (ca_cons rfl (ca_cons rfl (ca_cons rfl (ca_cons rfl (ca_cons rfl (ca_cons rfl (ca_cons rfl (ca_cons rfl (ca_cons rfl (ca_cons rfl (ca_cons rfl (ca_cons rfl (ca_cons rfl (ca_cons rfl (ca_cons rfl (ca_cons rfl (ca_cons rfl (ca_cons rfl (ca_cons rfl (ca_cons rfl (ca_nil))))))))))))))))))))))))))) (fun _ h => h) (pe_glob rfl kf.g_UnknownCase rfl) rfl kf.b_isinstance (de_var 0 rfl (Or.inl rfl))) (da_cons (de_isV (c := .ref (ga K "InUse")) rfl (isx_of kf.xt_InUse (ca_cons rfl (ca_cons rfl (ca_cons rfl (ca_cons rfl (ca_cons rfl (ca_cons rfl (ca_cons rfl (ca_cons rfl (ca_cons rfl (ca_cons rfl (ca_cons rfl (ca_cons rfl (ca_cons rfl (ca_cons rfl (ca_cons rfl (ca_cons rfl (ca_cons rfl (ca_cons rfl (ca_cons rfl (ca_cons rfl (ca_cons rfl (ca_cons rfl (ca_cons rfl (ca_cons rfl (ca_cons rfl (ca_nil))))))))))))))))))))))))))) (fun _ h => h) (pe_glob rfl kf.g_InUse rfl) rfl kf.b_isinstance (de_var 0 rfl (Or.inl rfl))) (da_nil))))))) (sts_cons (st_set (i := 1) sc_law_own.nd rfl (Or.inr rfl) (de_op o_add (de_var 1 rfl (Or.inr (Or.inl rfl))) (de_lst (da_cons (de_isV (c := .ref (ga K "NotSound")) rfl (isx_of kf.xt_NotSound (ca_cons rfl (ca_cons rfl (ca_cons rfl (ca_cons rfl (ca_cons rfl (ca_cons rfl (ca_cons rfl (ca_cons rfl (ca_cons rfl (ca_cons rfl (ca_cons rfl (ca_cons rfl (ca_cons rfl (ca_cons rfl (ca_cons rfl (ca_cons rfl (ca_cons rfl (ca_cons rfl (ca_cons rfl (ca_cons rfl (ca_cons rfl (ca_cons rfl (ca_cons rfl (ca_cons rfl (ca_cons rfl (ca_nil))))))))))))))))))))))))))) (fun _ h => h) (pe_glob rfl kf.g_NotSound rfl) rfl kf.b_isinstance (de_var 0 rfl (Or.inl rfl))) (da_cons (de_isV (c := .ref (ga K "NotTold")) rfl (isx_of kf.xt_NotTold (ca_cons rfl (ca_cons rfl (ca_cons rfl (ca_cons rfl (ca_cons rfl (ca_cons rfl (ca_cons rfl (ca_cons rfl (ca_cons rfl (ca_cons rfl (ca_cons rfl (ca_cons rfl (ca_cons rfl (ca_cons rfl (ca_cons rfl (ca_cons rfl (ca_cons rfl (ca_cons rfl (ca_cons rfl (ca_cons rfl (ca_cons rfl (ca_cons rfl (ca_cons rfl (ca_cons rfl (ca_cons rfl (ca_nil))))))))))))))))))))))))))) (fun _ h => h) (pe_glob rfl kf.g_NotTold rfl) rfl kf.b_isinstance (de_var 0 rfl (Or.inl rfl))) (da_cons (de_isV (c := .ref (ga K "IsTold")) rfl (isx_of kf.xt_IsTold (ca_cons rfl (ca_cons rfl (ca_cons rfl (ca_cons rfl (ca_cons rfl (ca_cons rfl (ca_cons rfl (ca_cons rfl (ca_cons rfl (ca_cons rfl (ca_cons rfl (ca_cons rfl (ca_cons rfl (ca_cons rfl (ca_cons rfl (ca_cons rfl (ca_cons rfl (ca_cons rfl (ca_cons rfl (ca_cons rfl (ca_cons rfl (ca_cons rfl (ca_cons rfl (ca_cons rfl (ca_cons rfl (ca_nil))))))))))))))))))))))))))) (fun _ h => h) (pe_glob rfl kf.g_IsTold rfl) rfl kf.b_isinstance (de_var 0 rfl (Or.inl rfl))) (da_cons (de_isV (c := .ref (ga K "TooMany")) rfl (isx_of kf.xt_TooMany (ca_cons rfl (ca_cons rfl (ca_cons rfl (ca_cons rfl (ca_cons rfl (ca_cons rfl (ca_cons rfl (ca_cons rfl (ca_cons rfl (ca_cons rfl (ca_cons rfl (ca_cons rfl (ca_cons rfl (ca_cons rfl (ca_cons rfl (ca_cons rfl (ca_cons rfl (ca_cons rfl (ca_cons rfl (ca_cons rfl (ca_cons rfl (ca_cons rfl (ca_cons rfl (ca_cons rfl (ca_cons rfl (ca_nil))))))))))))))))))))))))))) (fun _ h => h) (pe_glob rfl kf.g_TooMany rfl) rfl kf.b_isinstance (de_var 0 rfl (Or.inl rfl))) (da_nil)))))))) (sts_cons (st_set (i := 1) sc_law_own.nd rfl (Or.inr rfl) (de_op o_add (de_var 1 rfl (Or.inr (Or.inl rfl))) (de_lst (da_cons (de_isV (c := .ref (ga K "IsOver")) rfl (isx_of kf.xt_IsOver (ca_cons rfl (ca_cons rfl (ca_cons rfl (ca_cons rfl (ca_cons rfl (ca_cons rfl (ca_cons rfl (ca_cons rfl (ca_cons rfl (ca_cons rfl (ca_cons rfl (ca_cons rfl (ca_cons rfl (ca_cons rfl (ca_cons rfl (ca_cons rfl (ca_cons rfl (ca_cons rfl (ca_cons rfl (ca_cons rfl (ca_cons rfl (ca_cons rfl (ca_cons rfl (ca_cons rfl (ca_cons rfl (ca_nil))))))))))))))))))))))))))) (fun _ h => h) (pe_glob rfl kf.g_IsOver rfl) rfl kf.b_isinstance (de_var 0 rfl (Or.inl rfl))) (da_cons (de_isV (c := .ref (ga K "NothingToUndo")) rfl (isx_of kf.xt_NothingToUndo (ca_cons rfl (ca_cons rfl (ca_cons rfl (ca_cons rfl (ca_cons rfl (ca_cons rfl (ca_cons rfl (ca_cons rfl (ca_cons rfl (ca_cons rfl (ca_cons rfl (ca_cons rfl (ca_cons rfl (ca_cons rfl (ca_cons rfl (ca_cons rfl (ca_cons rfl (ca_cons rfl (ca_cons rfl (ca_cons rfl (ca_cons rfl (ca_cons rfl (ca_cons rfl (ca_cons rfl (ca_cons rfl (ca_nil))))))))))))))))))))))))))) (fun _ h => h) (pe_glob rfl kf.g_NothingToUndo rfl) rfl kf.b_isinstance (de_var 0 rfl (Or.inl rfl))) (da_cons (de_isV (c := .ref (ga K "Broken")) rfl (isx_of kf.xt_Broken (ca_cons rfl (ca_cons rfl (ca_cons rfl (ca_cons rfl (ca_cons rfl (ca_cons rfl (ca_cons rfl (ca_cons rfl (ca_cons rfl (ca_cons rfl (ca_cons rfl (ca_cons rfl (ca_cons rfl (ca_cons rfl (ca_cons rfl (ca_cons rfl (ca_cons rfl (ca_cons rfl (ca_cons rfl (ca_cons rfl (ca_cons rfl (ca_cons rfl (ca_cons rfl (ca_cons rfl (ca_cons rfl (ca_nil))))))))))))))))))))))))))) (fun _ h => h) (pe_glob rfl kf.g_Broken rfl) rfl kf.b_isinstance (de_var 0 rfl (Or.inl rfl))) (da_nil))))))) (sts_one (st_ret (FE.de (fe_lc (own := [("_law_at", 2)]) rfl sc_law_own.nd (di_range1 rfl kf.b_range (da_cons (de_int) (da_nil)) (len1 (len0))) (blkOk_by (N := N_law_own) (sc := defScope s_law_own) (by decide +kernel)) (fun _ _ _ _ _ => tg_name (i := 2) sc_law_own.nd rfl (Or.inl rfl)) (fun _ _ _ _ _ => dts_one (dt_val (de_ixL (u1 hr) (dl_var 1 rfl (Or.inr (Or.inl rfl))) (de_var 2 rfl (Or.inl rfl))))) (fun _ _ _ _ _ => de_var 2 rfl (Or.inl rfl)) (by decide)))))))))))))
theorem ok_law_own {w : World} {K : PySem.W.Frag} {mg : Str → Option Value} {base : Heap} (kf : KF w K mg) : DefOk PP w K mg base (ct K w) (ga K "_law_own") 1 1 m_law_own := (fg_law_own kf).ok (fun _ _ _ _ _ _ us hl => match us, hl with | [_], _ => rfl)

abbrev s_law_kinds : Stmt := top 36
theorem sc_law_kinds : FnScope N_law_kinds ["_law_e"] (defScope s_law_kinds) := ⟨rfl, rfl, rfl, by decide +kernel, rfl, by decide +kernel, by decide +kernel⟩
theorem fg_law_kinds {w : World} {K : PySem.W.Frag} {mg : Str → Option Value} {base : Heap} (kf : KF w K mg) : FgOk PP w K mg base (ct K w) "_law_kinds" "_law_kinds" (defArgs s_law_kinds) (defBody s_law_kinds) (defScope s_law_kinds) (ga K "_law_kinds") 1 ["_law_e"] m_law_kinds := fg_of kf.d_law_kinds sc_law_kinds (fun cdv A outer s H E hr hg => sts_cons (st_set (i := 1) sc_law_kinds.nd rfl (Or.inl rfl) (de_lst (da_cons (de_isV (c := .ref (ga K "WrongValue")) rfl (isx_of kf.xt_WrongValue (ca_cons rfl (ca_cons rfl (ca_cons rfl (ca_cons rfl (ca_cons rfl (ca_cons rfl (ca_cons rfl (ca_cons rfl (ca_cons rfl (ca_cons rfl (ca_cons rfl (ca_cons rfl (ca_cons rfl (ca_cons rfl (ca_cons rfl (ca_cons rfl (ca_cons rfl (ca_cons rfl (ca_cons rfl (ca_cons rfl (ca_cons rfl (ca_cons rfl (ca_cons rfl (ca_cons rfl (ca_cons rfl (ca_nil))))))))))))))))))))))))))) (fun _ h => h) (pe_glob rfl kf.g_WrongValue rfl) rfl kf.b_isinstance (de_var 0 rfl (Or.inl rfl))) (da_cons (de_isV (c := .ref (ga K "WrongName")) rfl (isx_of kf.xt_WrongName (ca_cons rfl (ca_cons rfl (ca_cons rfl (ca_cons rfl (ca_cons rfl (ca_cons rfl (ca_cons rfl (ca_cons rfl (ca_cons rfl (ca_cons rfl (ca_cons rfl (ca_cons rfl (ca_cons rfl (ca_cons rfl (ca_cons rfl (ca_cons rfl (ca_cons rfl (ca_cons rfl (ca_cons rfl (ca_cons rfl (ca_cons rfl (ca_cons rfl (ca_cons rfl (ca_cons rfl (ca_cons rfl (ca_nil))))))))))))))))))))))))))) (fun _ h => h) (pe_glob rfl kf.g_WrongName rfl) rfl kf.b_isinstance (de_var 0 rfl (Or.inl rfl))) (da_cons (de_isV (c := .ref (ga K "NoAnswer")) rfl (isx_of kf.xt_NoAnswer (ca_cons rfl (ca_cons rfl (ca_cons rfl (ca_cons rfl (ca_cons rfl (ca_cons rfl (ca_cons rfl (ca_cons rfl (ca_cons rfl (ca_cons rfl (ca_cons rfl (ca_cons rfl (ca_cons rfl (ca_cons rfl (ca_cons rfl (ca_cons rfl (ca_cons rfl (ca_cons rfl (ca_cons rfl (ca_cons rfl (ca_cons rfl (ca_cons rfl (ca_cons rfl (ca_cons rfl (ca_cons rfl (ca_nil))))))))))))))))))))))))))) (fun _ h => h) (pe_glob rfl kf.g_NoAnswer rfl) rfl kf.b_isinstance (de_var 0 rfl (Or.inl rfl))) (da_nil)))))) (sts_one (st_ret (de_op o_add (de_var 1 rfl (Or.inl rfl)) (de_lst (da_cons (de_isV (c := .ty "ValueError") rfl (isx_of kf.xt_ValueError (ca_cons rfl (ca_cons rfl (ca_cons rfl (ca_cons rfl (ca_cons rfl (ca_cons rfl (ca_cons rfl (ca_cons rfl (ca_cons rfl (ca_cons rfl (ca_cons rfl (ca_cons rfl (ca_cons rfl (ca_cons rfl (ca_cons rfl (ca_cons rfl (ca_cons rfl (ca_cons rfl (ca_cons rfl (ca_cons rfl (ca_cons rfl (ca_cons rfl (ca_cons rfl (ca_cons rfl (ca_cons rfl (ca_nil))))))))))))))))))))))))))) (fun _ h => h) (pe_bltn (v := .ty "ValueError") rfl kf.b_ValueError PyProof.Rows.Boot.«ValueError» rfl) rfl kf.b_isinstance (de_var 0 rfl (Or.inl rfl))) (da_cons (de_isV (c := .ty "LookupError") rfl (isx_of kf.xt_LookupError (ca_cons rfl (ca_cons rfl (ca_cons rfl (ca_cons rfl (ca_cons rfl (ca_cons rfl (ca_cons rfl (ca_cons rfl (ca_cons rfl (ca_cons rfl (ca_cons rfl (ca_cons rfl (ca_cons rfl (ca_cons rfl (ca_cons rfl (ca_cons rfl (ca_cons rfl (ca_cons rfl (ca_cons rfl (ca_cons rfl (ca_cons rfl (ca_cons rfl (ca_cons rfl (ca_cons rfl (ca_cons rfl (ca_nil))))))))))))))))))))))))))) (fun _ h => h) (pe_bltn (v := .ty "LookupError") rfl kf.b_LookupError PyProof.Rows.Boot.«LookupError» rfl) rfl kf.b_isinstance (de_var 0 rfl (Or.inl rfl))) (da_cons (de_isV (c := .ty "ArithmeticError") rfl (isx_of kf.xt_ArithmeticError (ca_cons rfl (ca_cons rfl (ca_cons rfl (ca_cons rfl (ca_cons rfl (ca_cons rfl (ca_cons rfl (ca_cons rfl (ca_cons rfl (ca_cons rfl (ca_cons rfl (ca_cons rfl (ca_cons rfl (ca_cons rfl (ca_cons rfl (ca_cons rfl (ca_cons rfl (ca_cons rfl (ca_cons rfl (ca_cons rfl (ca_cons rfl (ca_cons rfl (ca_cons rfl (ca_cons rfl (ca_cons rfl (ca_nil))))))))))))))))))))))))))) (fun _ h => h) (pe_bltn (v := .ty "ArithmeticError") rfl kf.b_ArithmeticError PyProof.Rows.Boot.«ArithmeticError» rfl) rfl kf.b_isinstance (de_var 0 rfl (Or.inl rfl))) (da_nil)))))))))
theorem ok_law_kinds {w : World} {K : PySem.W.Frag} {mg : Str → Option Value} {base : Heap} (kf : KF w K mg) : DefOk PP w K mg base (ct K w) (ga K "_law_kinds") 1 1 m_law_kinds := (fg_law_kinds kf).ok (fun _ _ _ _ _ _ us hl => match us, hl with | [_], _ => rfl)

abbrev s_law : Stmt := top 38
def N_law : List Str := ["_law_script", "_law_every", "_law_e", "_law_at", "_law_bases"]
theorem sc_law : FnScope N_law ["_law_script"] (defScope s_law) := ⟨rfl, rfl, rfl, by decide +kernel, rfl, by decide +kernel, by decide +kernel⟩
def b_law : DS := seqS (ifS (tst (bin neD (lstM (consM (ret (.int 8)) (consM (ret (.int 4)) (consM (ret (.int 1000000000)) (consM (ret (.int 12)) (consM (ret (.int 8)) (nilM))))))) (lstM (consM (ret (.int 8)) (consM (ret (.int 4)) (consM (bin powI (ret (.int 10)) (ret (.int 9))) (consM (ret (.int 12)) (consM (ret (.int 8)) (nilM))))))))) (retS (ret (.bl false))) (nxS)) (seqS (setS 1 (bin addD (callM m_law_wrong_values nilM) (lstM (consM (mkX 34 (ret .non)) (consM (mkX 35 (lstM (nilM))) (consM (mkX 36 (ret (.int 5))) (consM (mkX 37 (ret (.int 3))) (nilM)))))))) (seqS (setS 1 (bin addD (varM 1) (lstM (consM (ret (.exc 38 [])) (consM (ret (.exc 39 [])) (consM (ret (.exc 40 [])) (consM (mkX 41 (ret (.int 4))) (consM (ret (.exc 42 [])) (consM (ret (.exc 43 [])) (consM (mkX 44 (ret (.int 6))) (nilM))))))))))) (seqS (ifS (tst (bin neD (frzM (lcC [2] (iterM (varM 1)) (nameG 2) (ret true) (callM m_law_own (consM (varM 2) (nilM))))) (frzM (lcC [3] (rangeM (consM (ret (.int 25)) (nilM))) (nameG 3) (ret true) (lstM (consM (varM 3) (nilM))))))) (retS (ret (.bl false))) (nxS)) (seqS (setS 4 (frzM (lcC [2] (iterM (varM 1)) (nameG 2) (ret true) (callM m_law_kinds (consM (varM 2) (nilM)))))) (seqS (ifS (tst (bin neD (appM reprN (consM (sliceM (varM 4) (noPart) (partM (ret (.int 15)))) (nilM))) (appM reprN (consM (frzM (lcC [3] (rangeM (consM (ret (.int 15)) (nilM))) (nameG 3) (ret true) (lstM (consM (ret (.bl true)) (consM (ret (.bl false)) (consM (ret (.bl false)) (consM (ret (.bl true)) (consM (ret (.bl false)) (consM (ret (.bl false)) (nilM)))))))))) (nilM))))) (retS (ret (.bl false))) (nxS)) (seqS (ifS (tst (bin neD (appM reprN (consM (sliceM (varM 4) (partM (ret (.int 15))) (partM (ret (.int 18)))) (nilM))) (appM reprN (consM (frzM (lcC [3] (rangeM (consM (ret (.int 3)) (nilM))) (nameG 3) (ret true) (lstM (consM (ret (.bl false)) (consM (ret (.bl true)) (consM (ret (.bl false)) (consM (ret (.bl false)) (consM (ret (.bl true)) (consM (ret (.bl false)) (nilM)))))))))) (nilM))))) (retS (ret (.bl false))) (nxS)) (seqS (ifS (tst (bin neD (appM reprN (consM (sliceM (varM 4) (partM (ret (.int 18))) (noPart)) (nilM))) (appM reprN (consM (frzM (lcC [3] (rangeM (consM (ret (.int 7)) (nilM))) (nameG 3) (ret true) (lstM (consM (ret (.bl false)) (consM (ret (.bl false)) (consM (ret (.bl true)) (consM (ret (.bl false)) (consM (ret (.bl false)) (consM (ret (.bl true)) (nilM)))))))))) (nilM))))) (retS (ret (.bl false))) (nxS)) (seqS (ifS (orT (tst (bin neD (frzM (lcC [2] (iterM (sliceM (varM 1) (noPart) (partM (ret (.int 14))))) (nameG 2) (ret true) (getX (lookJ [(20, "InvalidCases"), (21, "InvalidPeople"), (22, "InvalidText"), (23, "InvalidLot"), (24, "InvalidTold"), (25, "InvalidSteps"), (26, "InvalidBets"), (27, "InvalidOrder"), (28, "InvalidNumber"), (29, "InvalidName"), (30, "InvalidClaim"), (31, "InvalidIndex"), (32, "InvalidLine"), (33, "NotARoom"), (35, "UnknownName"), (36, "UnknownCase")]) (varM 2)))) (frzM (lcC [3] (rangeM (consM (ret (.int 14)) (nilM))) (nameG 3) (ret true) (ret (.str "a")))))) (orT (tst (bin notNoneD (getX (lookJ [(34, "InvalidDeeds"), (37, "InUse"), (44, "Broken")]) (lookM ixD (slM 1) (ret (.int 14)))) (ret .non))) (tst (bin neD (getX (lookJ [(34, "InvalidDeeds"), (37, "InUse"), (44, "Broken")]) (mkX 34 (ret (.int 7)))) (ret (.int 7)))))) (retS (ret (.bl false))) (nxS)) (retS (bin eqD (appM reprN (consM (lstM (consM (getX (lookJ [(20, "InvalidCases"), (21, "InvalidPeople"), (22, "InvalidText"), (23, "InvalidLot"), (24, "InvalidTold"), (25, "InvalidSteps"), (26, "InvalidBets"), (27, "InvalidOrder"), (28, "InvalidNumber"), (29, "InvalidName"), (30, "InvalidClaim"), (31, "InvalidIndex"), (32, "InvalidLine"), (33, "NotARoom"), (35, "UnknownName"), (36, "UnknownCase")]) (lookM ixD (slM 1) (ret (.int 15)))) (consM (getX (lookJ [(20, "InvalidCases"), (21, "InvalidPeople"), (22, "InvalidText"), (23, "InvalidLot"), (24, "InvalidTold"), (25, "InvalidSteps"), (26, "InvalidBets"), (27, "InvalidOrder"), (28, "InvalidNumber"), (29, "InvalidName"), (30, "InvalidClaim"), (31, "InvalidIndex"), (32, "InvalidLine"), (33, "NotARoom"), (35, "UnknownName"), (36, "UnknownCase")]) (lookM ixD (slM 1) (ret (.int 16)))) (consM (getX (lookJ [(34, "InvalidDeeds"), (37, "InUse"), (44, "Broken")]) (lookM ixD (slM 1) (ret (.int 17)))) (consM (getX (lookJ [(41, "TooMany")]) (lookM ixD (slM 1) (ret (.int 21)))) (consM (getX (lookJ [(34, "InvalidDeeds"), (37, "InUse"), (44, "Broken")]) (lookM ixD (slM 1) (ret (.int 24)))) (nilM))))))) (nilM))) (appM reprN (consM (lstM (consM (lstM (nilM)) (consM (ret (.int 5)) (consM (ret (.int 3)) (consM (ret (.int 4)) (consM (ret (.int 6)) (nilM))))))) (nilM)))))))))))))
def m_law : DF := defF N_law.length b_law
theorem end_law {w : World} {K : PySem.W.Frag} {mg : Str → Option Value} (kf : KF w K mg) : ∃ fd : FuncData, (∀ (s : Shared) (u : Value), BindsTo s fd ⟨[u], []⟩ [("_law_script", u)]) ∧ ∀ (base : Heap), FnG PP w K mg base (ct K w) 3 (ga K "law") fd ["_law_script"] m_law := by
  obtain ⟨fd, F⟩ := kf.d_law
  exact ⟨fd, fun s u => FunD.bindsA (ps := ["_law_script"]) F (fun _ _ _ _ _ _ us hl => match us, hl with | [_], _ => rfl) s [u] rfl, fun base => fg_ofF F sc_law (fun cdv A outer s H E hr hg => sts_cons (st_if (dt_cmp (o_neD (u64 hr)) (de_lst (da_cons (de_gint (x := "MOST_CASES") (i := 8) ⟨kf.i_MOST_CASES_8⟩ rfl) (da_cons (de_gint (x := "MOST_PEOPLE") (i := 4) ⟨kf.i_MOST_PEOPLE_4⟩ rfl) (da_cons (de_gint (x := "MOST_BOTTOM") (i := 1000000000) ⟨kf.i_MOST_BOTTOM_1000000000⟩ rfl) (da_cons (de_gint (x := "MOST_STRUCK") (i := 12) ⟨kf.i_MOST_STRUCK_12⟩ rfl) (da_cons (de_gint (x := "MOST_DEPTH") (i := 8) ⟨kf.i_MOST_DEPTH_8⟩ rfl) (da_nil))))))) (de_lst (da_cons (de_int) (da_cons (de_int) (da_cons (de_op o_powI (de_int) (de_int)) (da_cons (de_int) (da_cons (de_int) (da_nil))))))) (nomark _)) (sts_one (st_ret (de_bl))) (sts_nil)) (sts_cons (st_set (i := 1) sc_law.nd rfl (Or.inl rfl) (de_op o_add (de_call0 (DefOk.fnx (ok_law_wrong_values kf) (hr.mono (by decide)) kf.g_law_wrong_values) (takes_of rfl rfl rfl rfl) hg rfl) (de_lst (da_cons (de_mkx (k := 0) (b := .ve) (f := "index") ⟨kf.xi_InvalidDeeds, kf.b_super, pp_top, .inr (.inl rfl)⟩ rfl rfl rfl (hr.mono (by decide)) kf.g_InvalidDeeds rfl (de_non)) (da_cons (de_mkx (k := 0) (b := .le) (f := "given") ⟨kf.xi_UnknownName, kf.b_super, pp_top, .inl rfl⟩ rfl rfl rfl (hr.mono (by decide)) kf.g_UnknownName rfl (de_lst (da_nil))) (da_cons (de_mkxK (k := 0) (b := .le) (f := "given") ⟨kf.xi_UnknownCase, kf.b_super, pp_top, .inl rfl⟩ rfl rfl rfl (hr.mono (by decide)) kf.g_UnknownCase rfl (de_int)) (da_cons (de_mkxK (k := 0) (b := .le) (f := "index") ⟨kf.xi_InUse, kf.b_super, pp_top, .inr (.inl rfl)⟩ rfl rfl rfl (hr.mono (by decide)) kf.g_InUse rfl (de_int)) (da_nil)))))))) (sts_cons (st_set (i := 1) sc_law.nd rfl (Or.inl rfl) (de_op o_add (de_var 1 rfl (Or.inl rfl)) (de_lst (da_cons (de_mkx0 (b := .ae) kf.xo_NotSound rfl rfl kf.g_NotSound rfl) (da_cons (de_mkx0 (b := .ae) kf.xo_NotTold rfl rfl kf.g_NotTold rfl) (da_cons (de_mkx0 (b := .ae) kf.xo_IsTold rfl rfl kf.g_IsTold rfl) (da_cons (de_mkxK (k := 0) (b := .ae) (f := "limit") ⟨kf.xi_TooMany, kf.b_super, pp_top, .inr (.inr rfl)⟩ rfl rfl rfl (hr.mono (by decide)) kf.g_TooMany rfl (de_int)) (da_cons (de_mkx0 (b := .ae) kf.xo_IsOver rfl rfl kf.g_IsOver rfl) (da_cons (de_mkx0 (b := .ae) kf.xo_NothingToUndo rfl rfl kf.g_NothingToUndo rfl) (da_cons (de_mkxK (k := 0) (b := .ae) (f := "index") ⟨kf.xi_Broken, kf.b_super, pp_top, .inr (.inl rfl)⟩ rfl rfl rfl (hr.mono (by decide)) kf.g_Broken rfl (de_int)) (da_nil))))))))))) (sts_cons (st_if (dt_cmp (o_neD (u64 hr)) (FE.de (fe_lc (own := [("_law_e", 2)]) rfl sc_law.nd (di_iter (de_var 1 rfl (Or.inl rfl)) pi_str) (blkOk_by (N := N_law) (sc := defScope s_law) (by decide +kernel)) (fun _ _ _ _ _ => tg_name (i := 2) sc_law.nd rfl (Or.inl rfl)) (fun _ _ _ _ _ => dts_nil) (fun _ _ _ _ _ => de_call (DefOk.fnx (ok_law_own kf) (hr.mono (by decide)) kf.g_law_own) takesN hg rfl (da_cons (de_var 2 rfl (Or.inl rfl)) (da_nil)) rfl (hlen := (len1 (len0)))) (by decide))) (FE.de (fe_lc (own := [("_law_at", 3)]) rfl sc_law.nd (di_range1 rfl kf.b_range (da_cons (de_int) (da_nil)) (len1 (len0))) (blkOk_by (N := N_law) (sc := defScope s_law) (by decide +kernel)) (fun _ _ _ _ _ => tg_name (i := 3) sc_law.nd rfl (Or.inl rfl)) (fun _ _ _ _ _ => dts_nil) (fun _ _ _ _ _ => de_lst (da_cons (de_var 3 rfl (Or.inl rfl)) (da_nil))) (by decide))) (nomark _)) (sts_one (st_ret (de_bl))) (sts_nil)) (sts_cons (st_setLc (i := 4) (own := [("_law_e", 2)]) rfl rfl (sw_true rfl rfl rfl (by first | rfl | decide +kernel)) rfl sc_law.nd (di_iter (de_var 1 rfl (Or.inl rfl)) pi_str) (blkOk_by (N := N_law) (sc := defScope s_law) (by decide +kernel)) (fun _ _ _ _ _ => tg_name (i := 2) sc_law.nd rfl (Or.inl rfl)) (fun _ _ _ _ _ => dts_nil) (fun _ _ _ _ _ => de_call (DefOk.fnx (ok_law_kinds kf) (hr.mono (by decide)) kf.g_law_kinds) takesN hg rfl (da_cons (de_var 2 rfl (Or.inl rfl)) (da_nil)) rfl (hlen := (len1 (len0)))) (by decide)) (sts_cons (st_if (dt_cmp (o_neD (u64 hr)) (de_callB (c_repr hg (u66 hr)) rfl kf.b_repr PyProof.Rows.boot_repr (da_cons (de_slice (de_var 4 rfl (Or.inl rfl)) (do_none) (do_some (de_int))) (da_nil))) (de_callB (c_repr hg (u66 hr)) rfl kf.b_repr PyProof.Rows.boot_repr (da_cons (FE.de (fe_lc (own := [("_law_at", 3)]) rfl sc_law.nd (di_range1 rfl kf.b_range (da_cons (de_int) (da_nil)) (len1 (len0))) (blkOk_by (N := N_law) (sc := defScope s_law) (by decide +kernel)) (fun _ _ _ _ _ => tg_name (i := 3) sc_law.nd rfl (Or.inl rfl)) (fun _ _ _ _ _ => dts_nil) (fun _ _ _ _ _ => de_lst (da_cons (de_bl) (da_cons (de_bl) (da_cons (de_bl) (da_cons (de_bl) (da_cons (de_bl) (da_cons (de_bl) (da_nil)))))))) (by decide))) (da_nil))) (nomark _)) (sts_one (st_ret (de_bl))) (sts_nil)) (sts_cons (st_if (dt_cmp (o_neD (u64 hr)) (de_callB (c_repr hg (u66 hr)) rfl kf.b_repr PyProof.Rows.boot_repr (da_cons (de_slice (de_var 4 rfl (Or.inl rfl)) (do_some (de_int)) (do_some (de_int))) (da_nil))) (de_callB (c_repr hg (u66 hr)) rfl kf.b_repr PyProof.Rows.boot_repr (da_cons (FE.de (fe_lc (own := [("_law_at", 3)]) rfl sc_law.nd (di_range1 rfl kf.b_range (da_cons (de_int) (da_nil)) (len1 (len0))) (blkOk_by (N := N_law) (sc := defScope s_law) (by decide +kernel)) (fun _ _ _ _ _ => tg_name (i := 3) sc_law.nd rfl (Or.inl rfl)) (fun _ _ _ _ _ => dts_nil) (fun _ _ _ _ _ => de_lst (da_cons (de_bl) (da_cons (de_bl) (da_cons (de_bl) (da_cons (de_bl) (da_cons (de_bl) (da_cons (de_bl) (da_nil)))))))) (by decide))) (da_nil))) (nomark _)) (sts_one (st_ret (de_bl))) (sts_nil)) (sts_cons (st_if (dt_cmp (o_neD (u64 hr)) (de_callB (c_repr hg (u66 hr)) rfl kf.b_repr PyProof.Rows.boot_repr (da_cons (de_slice (de_var 4 rfl (Or.inl rfl)) (do_some (de_int)) (do_none)) (da_nil))) (de_callB (c_repr hg (u66 hr)) rfl kf.b_repr PyProof.Rows.boot_repr (da_cons (FE.de (fe_lc (own := [("_law_at", 3)]) rfl sc_law.nd (di_range1 rfl kf.b_range (da_cons (de_int) (da_nil)) (len1 (len0))) (blkOk_by (N := N_law) (sc := defScope s_law) (by decide +kernel)) (fun _ _ _ _ _ => tg_name (i := 3) sc_law.nd rfl (Or.inl rfl)) (fun _ _ _ _ _ => dts_nil) (fun _ _ _ _ _ => de_lst (da_cons (de_bl) (da_cons (de_bl) (da_cons (de_bl) (da_cons (de_bl) (da_cons (de_bl) (da_cons (de_bl) (da_nil)))))))) (by decide))) (da_nil))) (nomark _)) (sts_one (st_ret (de_bl))) (sts_nil)) (sts_cons (st_if (DW.t (dw_or (dt_cmp (o_neD (u64 hr)) (FE.de (fe_lc (own := [("_law_e", 2)]) rfl sc_law.nd (di_iter (de_slice (de_var 1 rfl (Or.inl rfl)) (do_none) (do_some (de_int))) pi_str) (blkOk_by (N := N_law) (sc := defScope s_law) (by decide +kernel)) (fun _ _ _ _ _ => tg_name (i := 2) sc_law.nd rfl (Or.inl rfl)) (fun _ _ _ _ _ => dts_nil) (fun _ _ _ _ _ => de_xfV rfl (xf_of kf.xf_given (cf_cons rfl rfl (cf_cons rfl rfl (cf_cons rfl rfl (cf_cons rfl rfl (cf_cons rfl rfl (cf_cons rfl rfl (cf_cons rfl rfl (cf_cons rfl rfl (cf_cons rfl rfl (cf_cons rfl rfl (cf_cons rfl rfl (cf_cons rfl rfl (cf_cons rfl rfl (cf_cons rfl rfl (cf_cons rfl rfl (cf_cons rfl rfl (cf_nil)))))))))))))))))) (de_var 2 rfl (Or.inl rfl))) (by decide))) (FE.de (fe_lc (own := [("_law_at", 3)]) rfl sc_law.nd (di_range1 rfl kf.b_range (da_cons (de_int) (da_nil)) (len1 (len0))) (blkOk_by (N := N_law) (sc := defScope s_law) (by decide +kernel)) (fun _ _ _ _ _ => tg_name (i := 3) sc_law.nd rfl (Or.inl rfl)) (fun _ _ _ _ _ => dts_nil) (fun _ _ _ _ _ => de_str) (by decide))) (nomark _)) (dw_or (dt_cmp o_notN (de_xfV rfl (xf_of kf.xf_index (cf_cons rfl rfl (cf_cons rfl rfl (cf_cons rfl rfl (cf_nil))))) (de_ixL (u1 hr) (dl_var 1 rfl (Or.inl rfl)) (de_int))) (de_non) (nomark _)) (dw_or1 (dt_cmp (o_neD (u64 hr)) (de_xfV rfl (xf_of kf.xf_index (cf_cons rfl rfl (cf_cons rfl rfl (cf_cons rfl rfl (cf_nil))))) (de_mkxK (k := 0) (b := .ve) (f := "index") ⟨kf.xi_InvalidDeeds, kf.b_super, pp_top, .inr (.inl rfl)⟩ rfl rfl rfl (hr.mono (by decide)) kf.g_InvalidDeeds rfl (de_int))) (de_int) (nomark _)))))) (sts_one (st_ret (de_bl))) (sts_nil)) (sts_one (st_ret (de_cmp (o_eqD (u64 hr)) (de_callB (c_repr hg (u66 hr)) rfl kf.b_repr PyProof.Rows.boot_repr (da_cons (de_lst (da_cons (de_xfV rfl (xf_of kf.xf_given (cf_cons rfl rfl (cf_cons rfl rfl (cf_cons rfl rfl (cf_cons rfl rfl (cf_cons rfl rfl (cf_cons rfl rfl (cf_cons rfl rfl (cf_cons rfl rfl (cf_cons rfl rfl (cf_cons rfl rfl (cf_cons rfl rfl (cf_cons rfl rfl (cf_cons rfl rfl (cf_cons rfl rfl (cf_cons rfl rfl (cf_cons rfl rfl (cf_nil)))))))))))))))))) (de_ixL (u1 hr) (dl_var 1 rfl (Or.inl rfl)) (de_int))) (da_cons (de_xfV rfl (xf_of kf.xf_given (cf_cons rfl rfl (cf_cons rfl rfl (cf_cons rfl rfl (cf_cons rfl rfl (cf_cons rfl rfl (cf_cons rfl rfl (cf_cons rfl rfl (cf_cons rfl rfl (cf_cons rfl rfl (cf_cons rfl rfl (cf_cons rfl rfl (cf_cons rfl rfl (cf_cons rfl rfl (cf_cons rfl rfl (cf_cons rfl rfl (cf_cons rfl rfl (cf_nil)))))))))))))))))) (de_ixL (u1 hr) (dl_var 1 rfl (Or.inl rfl)) (de_int))) (da_cons (de_xfV rfl (xf_of kf.xf_index (cf_cons rfl rfl (cf_cons rfl rfl (cf_cons rfl rfl (cf_nil))))) (de_ixL (u1 hr) (dl_var 1 rfl (Or.inl rfl)) (de_int))) (da_cons (de_xfV rfl (xf_of kf.xf_limit (cf_cons rfl rfl (cf_nil))) (de_ixL (u1 hr) (dl_var 1 rfl (Or.inl rfl)) (de_int))) (da_cons (de_xfV rfl (xf_of kf.xf_index (cf_cons rfl rfl (cf_cons rfl rfl (cf_cons rfl rfl (cf_nil))))) (de_ixL (u1 hr) (dl_var 1 rfl (Or.inl rfl)) (de_int))) (da_nil))))))) (da_nil))) (de_callB (c_repr hg (u66 hr)) rfl kf.b_repr PyProof.Rows.boot_repr (da_cons (de_lst (da_cons (de_lst (da_nil)) (da_cons (de_int) (da_cons (de_int) (da_cons (de_int) (da_cons (de_int) (da_nil))))))) (da_nil))) (nomark _)))))))))))))⟩
/-! the head -/
set_option maxHeartbeats 20000000 in
theorem kf_of {w : World} {K : PySem.W.Frag} {h : Heap} {mg : Str → Option Value} (X : K.In h) (G : h.Ns mainGlobals mg) (c : SaysP ex fn K) : KF w K mg where
  g_law := glo_ok X G (c.fact 0 rfl)
  i_MOST_CASES_8 := int_ok X G (c.fact 1 rfl)
  i_MOST_PEOPLE_4 := int_ok X G (c.fact 2 rfl)
  i_MOST_BOTTOM_1000000000 := int_ok X G (c.fact 3 rfl)
  i_MOST_STRUCK_12 := int_ok X G (c.fact 4 rfl)
  i_MOST_DEPTH_8 := int_ok X G (c.fact 5 rfl)
  xi_InvalidCases := (c.fact 6 rfl)
  b_super := free_ok X G (c.fact 7 rfl)
  g_InvalidCases := glo_ok X G (c.fact 8 rfl)
  xi_InvalidPeople := (c.fact 9 rfl)
  g_InvalidPeople := glo_ok X G (c.fact 10 rfl)
  xi_InvalidText := (c.fact 11 rfl)
  g_InvalidText := glo_ok X G (c.fact 12 rfl)
  xi_InvalidLot := (c.fact 13 rfl)
  g_InvalidLot := glo_ok X G (c.fact 14 rfl)
  xi_InvalidTold := (c.fact 15 rfl)
  g_InvalidTold := glo_ok X G (c.fact 16 rfl)
  xi_InvalidSteps := (c.fact 17 rfl)
  g_InvalidSteps := glo_ok X G (c.fact 18 rfl)
  xi_InvalidBets := (c.fact 19 rfl)
  g_InvalidBets := glo_ok X G (c.fact 20 rfl)
  xi_InvalidOrder := (c.fact 21 rfl)
  g_InvalidOrder := glo_ok X G (c.fact 22 rfl)
  xi_InvalidNumber := (c.fact 23 rfl)
  g_InvalidNumber := glo_ok X G (c.fact 24 rfl)
  xi_InvalidName := (c.fact 25 rfl)
  g_InvalidName := glo_ok X G (c.fact 26 rfl)
  xi_InvalidClaim := (c.fact 27 rfl)
  g_InvalidClaim := glo_ok X G (c.fact 28 rfl)
  xi_InvalidIndex := (c.fact 29 rfl)
  g_InvalidIndex := glo_ok X G (c.fact 30 rfl)
  xi_InvalidLine := (c.fact 31 rfl)
  g_InvalidLine := glo_ok X G (c.fact 32 rfl)
  xi_NotARoom := (c.fact 33 rfl)
  g_NotARoom := glo_ok X G (c.fact 34 rfl)
  g_law_wrong_values := glo_ok X G (c.fact 35 rfl)
  xi_InvalidDeeds := (c.fact 36 rfl)
  g_InvalidDeeds := glo_ok X G (c.fact 37 rfl)
  xi_UnknownName := (c.fact 38 rfl)
  g_UnknownName := glo_ok X G (c.fact 39 rfl)
  xi_UnknownCase := (c.fact 40 rfl)
  g_UnknownCase := glo_ok X G (c.fact 41 rfl)
  xi_InUse := (c.fact 42 rfl)
  g_InUse := glo_ok X G (c.fact 43 rfl)
  xo_NotSound := (c.fact 44 rfl)
  g_NotSound := glo_ok X G (c.fact 45 rfl)
  xo_NotTold := (c.fact 46 rfl)
  g_NotTold := glo_ok X G (c.fact 47 rfl)
  xo_IsTold := (c.fact 48 rfl)
  g_IsTold := glo_ok X G (c.fact 49 rfl)
  xi_TooMany := (c.fact 50 rfl)
  g_TooMany := glo_ok X G (c.fact 51 rfl)
  xo_IsOver := (c.fact 52 rfl)
  g_IsOver := glo_ok X G (c.fact 53 rfl)
  xo_NothingToUndo := (c.fact 54 rfl)
  g_NothingToUndo := glo_ok X G (c.fact 55 rfl)
  xi_Broken := (c.fact 56 rfl)
  g_Broken := glo_ok X G (c.fact 57 rfl)
  xt_InvalidCases := (c.fact 58 rfl)
  b_isinstance := free_ok X G (c.fact 59 rfl)
  xt_InvalidPeople := (c.fact 60 rfl)
  xt_InvalidText := (c.fact 61 rfl)
  xt_InvalidLot := (c.fact 62 rfl)
  xt_InvalidTold := (c.fact 63 rfl)
  xt_InvalidSteps := (c.fact 64 rfl)
  xt_InvalidBets := (c.fact 65 rfl)
  xt_InvalidOrder := (c.fact 66 rfl)
  xt_InvalidNumber := (c.fact 67 rfl)
  xt_InvalidName := (c.fact 68 rfl)
  xt_InvalidClaim := (c.fact 69 rfl)
  xt_InvalidIndex := (c.fact 70 rfl)
  xt_InvalidLine := (c.fact 71 rfl)
  xt_NotARoom := (c.fact 72 rfl)
  xt_InvalidDeeds := (c.fact 73 rfl)
  xt_UnknownName := (c.fact 74 rfl)
  xt_UnknownCase := (c.fact 75 rfl)
  xt_InUse := (c.fact 76 rfl)
  xt_NotSound := (c.fact 77 rfl)
  xt_NotTold := (c.fact 78 rfl)
  xt_IsTold := (c.fact 79 rfl)
  xt_TooMany := (c.fact 80 rfl)
  xt_IsOver := (c.fact 81 rfl)
  xt_NothingToUndo := (c.fact 82 rfl)
  xt_Broken := (c.fact 83 rfl)
  b_range := free_ok X G (c.fact 84 rfl)
  g_law_own := glo_ok X G (c.fact 85 rfl)
  g_WrongValue := glo_ok X G (c.fact 86 rfl)
  xt_WrongValue := (c.fact 87 rfl)
  g_WrongName := glo_ok X G (c.fact 88 rfl)
  xt_WrongName := (c.fact 89 rfl)
  g_NoAnswer := glo_ok X G (c.fact 90 rfl)
  xt_NoAnswer := (c.fact 91 rfl)
  b_ValueError := free_ok X G (c.fact 92 rfl)
  xt_ValueError := (c.fact 93 rfl)
  b_LookupError := free_ok X G (c.fact 94 rfl)
  xt_LookupError := (c.fact 95 rfl)
  b_ArithmeticError := free_ok X G (c.fact 96 rfl)
  xt_ArithmeticError := (c.fact 97 rfl)
  g_law_kinds := glo_ok X G (c.fact 98 rfl)
  b_repr := free_ok X G (c.fact 99 rfl)
  xf_given := (c.fact 100 rfl)
  xf_index := (c.fact 101 rfl)
  xf_limit := (c.fact 102 rfl)
  d_law_wrong_values := c.def_ 0 rfl
  d_law_own := c.def_ 1 rfl
  d_law_kinds := c.def_ 2 rfl
  d_law := c.def_ 3 rfl
end LK
open PySem PySem.W PySem.Calls PyProof.Rows
theorem LK.holds_of (HL : ∀ ns : List Int, ns.length ≤ 63 → (∀ z ∈ ns, z.natAbs.log2 ≤ 1048576) → ∃ hp, LK.m_law [.lst (ns.map DP.D.int)] [] = .ok (.bl true) hp) : PySem.Challenge.rw_oneprior_k01_constants_and_errors.Holds := by
  w_on; o_law
  refine HandSHeadRun.head_any (r := OpenLaw.row PySem.Challenge.rw_oneprior_k01_constants_and_errors) (q := view (OpenLaw.row PySem.Challenge.rw_oneprior_k01_constants_and_errors).prog [38]) (H := LK.hk) (ob := LK.ob) (M := 20000) (loose := LK.nms) (d := HandSHeadRun.topDef (OpenLaw.row PySem.Challenge.rw_oneprior_k01_constants_and_errors).prog 38) (kwd := []) LK.ob_eq
    (by kernel_rfl) (fun s => by kernel_rfl) LK.run (by kernel_rfl) (by kernel_rfl) (by kernel_rfl) (by rfl) (by first | assumption | decide +kernel) (by decide +kernel) ⟨rfl, rfl, rfl, rfl, rfl, by decide +kernel⟩ ?hw ?hc
  case hw => w_witness2
  case hc =>
    refine DP.walk_ofG (l := PySem.Challenge.rw_oneprior_k01_constants_and_errors) (n := 63) (k := 3) (x := "_law_script") (m := LK.m_law) rfl (by decide) (by kernel_rfl) ⟨rfl, by decide, by decide⟩ HL ?F
    intro w mg fa h Y G hmg0
    obtain ⟨K, KX, c⟩ := Y
    have hmg : mg ("law" : PySem.Str) = some (.ref fa) := by
      have e : (HandSHeadRun.topDef (OpenLaw.row PySem.Challenge.rw_oneprior_k01_constants_and_errors).prog 38).name = ("law" : PySem.Str) := by kernel_rfl
      rw [← e]
      exact hmg0
    have e := hmg.symm.trans (He.glo_ok KX G (c.fact 0 rfl))
    cases e
    obtain ⟨fd, hb, hF⟩ := LK.end_law (LK.kf_of (w := w) KX G c)
    exact ⟨K, LK.ct K w, fd, rfl, KX, hb, fun base _ _ => hF base⟩
set_option Elab.async false
set_option linter.all false
set_option maxRecDepth 100000
set_option maxHeartbeats 4000000
namespace LK
open PySem PySem.Spec PyProof.Rows L2 He DP

section
variable {α β : Type}
@[simp] theorem ret_ap (a : α) (s : DSt) : ret a s = .ok a s := rfl
@[simp] theorem bnd_ap (f : DM α) (k : α → DM β) (s : DSt) : DP.bnd f k s = (match f s with | .ok a s' => k a s' | .err x s' => .err x s' | .stuck => .stuck) := by
  unfold DP.bnd; cases f s <;> rfl
@[simp] theorem bndS_ap (f : DM α) (k : α → DS) (s : DSt) : bndS f k s = (match f s with | .ok a s' => k a s' | .err x s' => .err x s' | .stuck => .stuck) := by
  unfold bndS; cases f s <;> rfl
@[simp] theorem lift_some (a : α) (s : DSt) : DP.lift (some a) s = .ok a s := rfl
@[simp] theorem varM_ap (i : Nat) (sl : List SV) (hp : List Cell) : varM i ⟨sl, hp⟩ = (match sl[i]? with | some (.val d) => .ok d ⟨sl, hp⟩ | some (.own c) => .ok c.frz ⟨sl.set i (.val c.frz), hp⟩ | _ => .stuck) := by
  unfold varM
  dsimp only
  all_goals (cases sl[i]? <;> first | rfl | (rename_i x; cases x <;> rfl))
@[simp] theorem slM_ap (i : Nat) (sl : List SV) (hp : List Cell) : slM i ⟨sl, hp⟩ = (match sl[i]? with | some (.val _) => .ok (.sl i) ⟨sl, hp⟩ | some (.own _) => .ok (.sl i) ⟨sl, hp⟩ | _ => .stuck) := rfl
@[simp] theorem seqS_ap (f g : DS) (s : DSt) : seqS f g s = (match f s with | .nx s' => g s' | r => r) := by
  unfold seqS; cases f s <;> rfl
@[simp] theorem nxS_ap (s : DSt) : nxS s = .nx s := rfl
@[simp] theorem nameG_ap (i : Nat) (d : D) (sl : List SV) (hp : List Cell) : nameG i d ⟨sl, hp⟩ = some ⟨sl.set i (.val d), hp⟩ := rfl
@[simp] theorem asgS_ap (g : DG) (f : DM D) (s : DSt) : asgS g f s = (match f s with | .ok d s' => (match g d s' with | some s2 => .nx s2 | none => .stuck) | .err x s' => .err x s' | .stuck => .stuck) := by
  unfold asgS bndS; cases f s <;> rfl
@[simp] theorem setS_ap (i : Nat) (f : DM D) (s : DSt) : setS i f s = (match f s with | .ok d s' => .nx ⟨s'.sl.set i (.val d), s'.hp⟩ | .err x s' => .err x s' | .stuck => .stuck) := by
  unfold setS asgS bndS; cases f s <;> rfl
@[simp] theorem ownS_ap (i : Nat) (f : DM Cell) (s : DSt) : ownS i f s = (match f s with | .ok d s' => .nx ⟨s'.sl.set i (.own d), s'.hp⟩ | .err x s' => .err x s' | .stuck => .stuck) := by
  unfold ownS bndS; cases f s <;> rfl
@[simp] theorem forS_ap (g : DG) (f : DM (List D)) (b : DS) (s : DSt) : forS g f b s = (match f s with | .ok ds s' => forL g b ds s' | .err x s' => .err x s' | .stuck => .stuck) := by
  unfold forS bndS; cases f s <;> rfl
@[simp] theorem retS_ap (f : DM D) (s : DSt) : retS f s = (match f s with | .ok d s' => .rt d s' | .err x s' => .err x s' | .stuck => .stuck) := by
  unfold retS bndS; cases f s <;> rfl
@[simp] theorem exprS_ap (f : DM D) (s : DSt) : exprS f s = (match f s with | .ok d s' => .nx s' | .err x s' => .err x s' | .stuck => .stuck) := by
  unfold exprS bndS; cases f s <;> rfl
@[simp] theorem ifS_ap (c : DM Bool) (f g : DS) (s : DSt) : ifS c f g s = (match c s with | .ok b s' => (if b = true then f s' else g s') | .err x s' => .err x s' | .stuck => .stuck) := by
  unfold ifS bndS; cases c s with
  | ok b s' => cases b <;> rfl
  | _ => rfl
@[simp] theorem ifM_ap (c : DM Bool) (f g : DM D) (s : DSt) : ifM c f g s = (match c s with | .ok b s' => (if b = true then f s' else g s') | .err x s' => .err x s' | .stuck => .stuck) := by
  unfold ifM DP.bnd; cases c s with
  | ok b s' => cases b <;> rfl
  | _ => rfl
@[simp] theorem bin_ap (g : D → D → Option D) (fa fb : DM D) (s : DSt) : DP.bin g fa fb s = (match fa s with | .ok x s' => (match fb s' with | .ok y s2 => (match g x y with | some d => .ok d s2 | none => .stuck) | .err x s' => .err x s' | .stuck => .stuck) | .err x s' => .err x s' | .stuck => .stuck) := by
  unfold DP.bin DP.bnd DP.lift; cases fa s with
  | ok x s' =>
    dsimp only
    cases fb s' with
    | ok y s2 => dsimp only; cases g x y <;> rfl
    | _ => rfl
  | _ => rfl
@[simp] theorem tst_ap (f : DM D) (s : DSt) : tst f s = (match f s with | .ok x s' => (match asB x with | some b => .ok b s' | none => .stuck) | .err x s' => .err x s' | .stuck => .stuck) := by
  unfold tst DP.bnd DP.lift; cases f s with
  | ok x s' => dsimp only; cases asB x <;> rfl
  | _ => rfl
@[simp] theorem notT_ap (f : DM Bool) (s : DSt) : notT f s = (match f s with | .ok x s' => .ok (!x) s' | .err x s' => .err x s' | .stuck => .stuck) := by
  unfold notT DP.bnd; cases f s <;> rfl
@[simp] theorem andT_ap (f g : DM Bool) (s : DSt) : andT f g s = (match f s with | .ok x s' => (if x = true then g s' else .ok false s') | .err x s' => .err x s' | .stuck => .stuck) := by
  unfold andT DP.bnd; cases f s with
  | ok b s' => cases b <;> rfl
  | _ => rfl
@[simp] theorem orT_ap (f g : DM Bool) (s : DSt) : orT f g s = (match f s with | .ok x s' => (if x = true then .ok true s' else g s') | .err x s' => .err x s' | .stuck => .stuck) := by
  unfold orT DP.bnd; cases f s with
  | ok b s' => cases b <;> rfl
  | _ => rfl
@[simp] theorem andV_ap (f g : DM D) (s : DSt) : andV f g s = (match f s with | .ok x s' => (match asB x with | some b => (if b = true then g s' else .ok (.bl false) s') | none => .stuck) | .err x s' => .err x s' | .stuck => .stuck) := by
  unfold andV DP.bnd DP.lift; cases f s with
  | ok x s' =>
    dsimp only
    cases asB x with
    | none => rfl
    | some b => cases b <;> rfl
  | _ => rfl
@[simp] theorem orV_ap (f g : DM D) (s : DSt) : orV f g s = (match f s with | .ok x s' => (match asB x with | some b => (if b = true then .ok (.bl true) s' else g s') | none => .stuck) | .err x s' => .err x s' | .stuck => .stuck) := by
  unfold orV DP.bnd DP.lift; cases f s with
  | ok x s' =>
    dsimp only
    cases asB x with
    | none => rfl
    | some b => cases b <;> rfl
  | _ => rfl
@[simp] theorem notV_ap (f : DM D) (s : DSt) : notV f s = (match f s with | .ok x s' => (match asB x with | some b => .ok (.bl (!b)) s' | none => .stuck) | .err x s' => .err x s' | .stuck => .stuck) := by
  unfold notV DP.bnd DP.lift; cases f s with
  | ok x s' =>
    dsimp only
    cases asB x <;> rfl
  | _ => rfl
@[simp] theorem asB_bl (b : Bool) : asB (.bl b) = some b := rfl
@[simp] theorem chain_ap (g g' : D → D → Option D) (fa fb fc : DM D) (s : DSt) : chain g g' fa fb fc s = (match fa s with | .ok x s1 => (match fb s1 with | .ok y s2 => (match (g x y).bind asB with | some b => (if b = true then (match fc s2 with | .ok z s3 => (match g' y z with | some d => .ok d s3 | none => .stuck) | .err x s' => .err x s' | .stuck => .stuck) else .ok (.bl false) s2) | none => .stuck) | .err x s' => .err x s' | .stuck => .stuck) | .err x s' => .err x s' | .stuck => .stuck) := by
  unfold chain DP.bnd DP.lift
  cases fa s with
  | ok x s1 =>
    dsimp only
    cases fb s1 with
    | ok y s2 =>
      dsimp only
      cases (g x y).bind asB with
      | none => rfl
      | some b =>
        cases b
        · rfl
        · simp only [if_true]
          cases fc s2 with
          | ok z s3 => dsimp only; cases g' y z <;> rfl
          | _ => rfl
    | _ => rfl
  | _ => rfl
@[simp] theorem nilM_ap (s : DSt) : nilM s = .ok [] s := rfl
@[simp] theorem consM_ap (f : DM D) (g : DM (List D)) (s : DSt) : consM f g s = (match f s with | .ok x s' => (match g s' with | .ok xs s2 => .ok (x :: xs) s2 | .err x s' => .err x s' | .stuck => .stuck) | .err x s' => .err x s' | .stuck => .stuck) := by
  unfold consM DP.bnd; cases f s with
  | ok x s' => dsimp only; cases g s' <;> rfl
  | _ => rfl
theorem small_of_le {xs : List D} (h : xs.length ≤ 1000) : small xs = some xs := by
  unfold small
  rw [if_pos (by rw [sizeLine_eq]; omega)]
@[simp] theorem small_nil : small [] = some [] := rfl
@[simp] theorem small_cons (a : D) : small [a] = some [a] := small_of_le (by simp)
@[simp] theorem small_cons2 (a b : D) : small [a, b] = some [a, b] := small_of_le (by simp)
@[simp] theorem small_cons3 (a b c : D) : small [a, b, c] = some [a, b, c] := small_of_le (by simp)
@[simp] theorem small_cons4 (a b c d : D) : small [a, b, c, d] = some [a, b, c, d] := small_of_le (by simp)
@[simp] theorem small_cons5 (a b c d e : D) : small [a, b, c, d, e] = some [a, b, c, d, e] := small_of_le (by simp)
@[simp] theorem tupM_ap (f : DM (List D)) (s : DSt) : tupM f s = (match f s with | .ok xs s' => (match small xs with | some ys => .ok (.tup ys) s' | none => .stuck) | .err x s' => .err x s' | .stuck => .stuck) := by
  unfold tupM DP.bnd DP.lift; cases f s with
  | ok x s' => dsimp only; cases small x <;> rfl
  | _ => rfl
@[simp] theorem lstM_ap (f : DM (List D)) (s : DSt) : lstM f s = (match f s with | .ok xs s' => (match small xs with | some ys => .ok (.lst ys) s' | none => .stuck) | .err x s' => .err x s' | .stuck => .stuck) := by
  unfold lstM DP.bnd DP.lift; cases f s with
  | ok x s' => dsimp only; cases small x <;> rfl
  | _ => rfl
@[simp] theorem lstC_ap (f : DM (List D)) (s : DSt) : lstC f s = (match f s with | .ok xs s' => (match small xs with | some ys => .ok (.lst ys) s' | none => .stuck) | .err x s' => .err x s' | .stuck => .stuck) := by
  unfold lstC DP.bnd DP.lift; cases f s with
  | ok x s' => dsimp only; cases small x <;> rfl
  | _ => rfl
@[simp] theorem callM_ap (m : DF) (f : DM (List D)) (s : DSt) : callM m f s = (match f s with | .ok xs s' => (match m xs s'.hp with | .ok d hp => .ok d ⟨s'.sl, hp⟩ | .err x hp => .err x ⟨s'.sl, hp⟩ | .stuck => .stuck) | .err x s' => .err x s' | .stuck => .stuck) := by
  unfold callM DP.bnd; cases f s <;> rfl
@[simp] theorem appM_ap (g : List D → Option D) (f : DM (List D)) (s : DSt) : appM g f s = (match f s with | .ok xs s' => (match g xs with | some d => .ok d s' | none => .stuck) | .err x s' => .err x s' | .stuck => .stuck) := by
  unfold appM DP.bnd DP.lift; cases f s with
  | ok x s' => dsimp only; cases g x <;> rfl
  | _ => rfl
@[simp] theorem appC_ap (g : List D → Option Cell) (f : DM (List D)) (s : DSt) : appC g f s = (match f s with | .ok xs s' => (match g xs with | some d => .ok d s' | none => .stuck) | .err x s' => .err x s' | .stuck => .stuck) := by
  unfold appC DP.bnd DP.lift; cases f s with
  | ok x s' => dsimp only; cases g x <;> rfl
  | _ => rfl
@[simp] theorem frzM_ap (f : DM Cell) (s : DSt) : frzM f s = (match f s with | .ok c s' => .ok c.frz s' | .err x s' => .err x s' | .stuck => .stuck) := by
  unfold frzM DP.bnd; cases f s <;> rfl
@[simp] theorem iterM_ap (f : DM D) (s : DSt) : iterM f s = (match f s with | .ok d s' => (match itemsOf d with | some ds => .ok ds s' | none => .stuck) | .err x s' => .err x s' | .stuck => .stuck) := by
  unfold iterM DP.bnd DP.lift; cases f s with
  | ok x s' => dsimp only; cases itemsOf x <;> rfl
  | _ => rfl
@[simp] theorem rangeM_ap (f : DM (List D)) (s : DSt) : rangeM f s = (match f s with | .ok d s' => (match rangeOf d with | some ds => .ok ds s' | none => .stuck) | .err x s' => .err x s' | .stuck => .stuck) := by
  unfold rangeM DP.bnd DP.lift; cases f s with
  | ok x s' => dsimp only; cases rangeOf x <;> rfl
  | _ => rfl
@[simp] theorem enumM_ap (f : DM (List D)) (s : DSt) : enumM f s = (match f s with | .ok d s' => (match enumOf d with | some ds => .ok ds s' | none => .stuck) | .err x s' => .err x s' | .stuck => .stuck) := by
  unfold enumM DP.bnd DP.lift; cases f s with
  | ok x s' => dsimp only; cases enumOf x <;> rfl
  | _ => rfl
@[simp] theorem datM_ap (f : DM D) (s : DSt) : datM f s = (match f s with | .ok d s' => .ok (.d d) s' | .err x s' => .err x s' | .stuck => .stuck) := by
  unfold datM DP.bnd; cases f s <;> rfl
@[simp] theorem lookM_ap (g : D → D → Option D) (fP : DM Plc) (fb : DM D) (s : DSt) : lookM g fP fb s = (match fP s with | .ok P s1 => (match fb s1 with | .ok y s2 => (match (readP P s2).bind fun d => g d y with | some f => .ok f s2 | none => .stuck) | .err x s' => .err x s' | .stuck => .stuck) | .err x s' => .err x s' | .stuck => .stuck) := by
  unfold lookM DP.bnd; cases fP s with
  | ok P s' => dsimp only; cases fb s' <;> rfl
  | _ => rfl
@[simp] theorem lookM2_ap (g : D → D → Option D) (fa : DM D) (fP : DM Plc) (s : DSt) : lookM2 g fa fP s = (match fa s with | .ok x s1 => (match fP s1 with | .ok P s2 => (match (readP P s2).bind fun d => g x d with | some f => .ok f s2 | none => .stuck) | .err x s' => .err x s' | .stuck => .stuck) | .err x s' => .err x s' | .stuck => .stuck) := by
  unfold lookM2 DP.bnd; cases fa s with
  | ok P s' => dsimp only; cases fP s' <;> rfl
  | _ => rfl
@[simp] theorem look1M_ap (g : D → Option D) (fP : DM Plc) (s : DSt) : look1M g fP s = (match fP s with | .ok P s1 => (match (readP P s1).bind g with | some f => .ok f s1 | none => .stuck) | .err x s' => .err x s' | .stuck => .stuck) := by
  unfold look1M DP.bnd; cases fP s <;> rfl
@[simp] theorem readP_sl (i : Nat) (sl : List SV) (hp : List Cell) : readP (.sl i) ⟨sl, hp⟩ = (match sl[i]? with | some (.own c) => some c.frz | some (.val d) => deref hp d | _ => none) := rfl
@[simp] theorem readP_d (x : D) (sl : List SV) (hp : List Cell) : readP (.d x) ⟨sl, hp⟩ = deref hp x := rfl
@[simp] theorem deref_tup (hp : List Cell) (xs : List D) : deref hp (.tup xs) = some (.tup xs) := rfl
@[simp] theorem deref_lst (hp : List Cell) (xs : List D) : deref hp (.lst xs) = some (.lst xs) := rfl
@[simp] theorem deref_str (hp : List Cell) (x : Str) : deref hp (.str x) = some (.str x) := rfl
@[simp] theorem deref_int (hp : List Cell) (x : Int) : deref hp (.int x) = some (.int x) := rfl
@[simp] theorem deref_non (hp : List Cell) : deref hp .non = some .non := rfl
@[simp] theorem deref_bl (hp : List Cell) (b : Bool) : deref hp (.bl b) = some (.bl b) := rfl
@[simp] theorem deref_dk (hp : List Cell) (ks : List Key) (vs : List D) : deref hp (.dk ks vs) = some (.dk ks vs) := rfl
@[simp] theorem deref_dt (hp : List Cell) (ks : List (List Key)) (vs : List D) : deref hp (.dt ks vs) = some (.dt ks vs) := rfl
@[simp] theorem deref_ins (hp : List Cell) (c : Nat) (vs : List D) : deref hp (.ins c vs) = some (.ins c vs) := rfl
@[simp] theorem parS_ap (i j : Nat) (f : DM (List D)) (s : DSt) : parS i j f s = (match f s with | .ok [d, e] s' => .nx ⟨(s'.sl.set i (.val d)).set j (.val e), s'.hp⟩ | .ok _ _ => .stuck | .err x s' => .err x s' | .stuck => .stuck) := by
  unfold parS bndS; cases f s with
  | ok ds s' =>
    match ds with
    | [] => rfl
    | [a] => rfl
    | [a, b] => rfl
    | a :: b :: c :: d => rfl
  | _ => rfl
@[simp] theorem isM_ap (g : TyD → Option Bool) (f : DM D) (s : DSt) : isM g f s = (match f s with | .ok d s' => (match (tyD s'.hp d).bind g with | some b => .ok (.bl b) s' | none => .stuck) | .err x s' => .err x s' | .stuck => .stuck) := by
  unfold isM DP.bnd; cases f s <;> rfl
@[simp] theorem unM_ap (g : D → Option D) (f : DM D) (s : DSt) : unM g f s = (match f s with | .ok d s' => (match g d with | some b => .ok b s' | none => .stuck) | .err x s' => .err x s' | .stuck => .stuck) := by
  unfold unM DP.bnd DP.lift; cases f s with
  | ok x s' => dsimp only; cases g x <;> rfl
  | _ => rfl
@[simp] theorem noPart_ap (s : DSt) : noPart s = .ok none s := rfl
@[simp] theorem partM_ap (f : DM D) (s : DSt) : partM f s = (match f s with | .ok d s' => (match asI d with | some b => .ok (some b) s' | none => .stuck) | .err x s' => .err x s' | .stuck => .stuck) := by
  unfold partM DP.bnd DP.lift; cases f s with
  | ok d s' => dsimp only; cases asI d <;> rfl
  | _ => rfl
@[simp] theorem asI_int (i : Int) : asI (.int i) = some i := rfl
@[simp] theorem sliceM_ap (f : DM D) (lo0 hi0 : DM (Option Int)) (s : DSt) : sliceM f lo0 hi0 s = (match f s with | .ok x s1 => (match lo0 s1 with | .ok lo s2 => (match hi0 s2 with | .ok hi s3 => (match sliceD x lo hi with | some d => .ok d s3 | none => .stuck) | .err x s' => .err x s' | .stuck => .stuck) | .err x s' => .err x s' | .stuck => .stuck) | .err x s' => .err x s' | .stuck => .stuck) := by
  unfold sliceM DP.bnd DP.lift; cases f s with
  | ok x s1 =>
    dsimp only
    cases lo0 s1 with
    | ok lo s2 =>
      dsimp only
      cases hi0 s2 with
      | ok hi s3 => dsimp only; cases sliceD x lo hi <;> rfl
      | _ => rfl
    | _ => rfl
  | _ => rfl
@[simp] theorem fmtM_ap (f : DM D) (s : DSt) : fmtM f s = (match f s with | .ok d s' => (match fmtD d with | some b => .ok (.str b) s' | none => .stuck) | .err x s' => .err x s' | .stuck => .stuck) := by
  unfold fmtM DP.bnd DP.lift; cases f s with
  | ok d s' => dsimp only; cases fmtD d <;> rfl
  | _ => rfl
def accR (acc : Nat → Option Acc) (x : D) (s : DSt) : R D := match insAt s.hp x with
  | some (c, ds) => (match acc c with
    | some (.fld j) => (match ds[j]? with
      | some d => .ok d s
      | none => .stuck)
    | some (.prop m) => (match m [x] s.hp with
      | .ok d hp => .ok d ⟨s.sl, hp⟩
      | _ => .stuck)
    | none => .stuck)
  | none => .stuck
@[simp] theorem getA_ap (acc : Nat → Option Acc) (f : DM D) (s : DSt) : getA acc f s = (match f s with | .ok x s' => accR acc x s' | .err x s' => .err x s' | .stuck => .stuck) := by
  unfold getA DP.bnd accR; cases f s <;> rfl
theorem acc1_same (c : Nat) (a : Acc) : acc1 c a c = some a := by simp [acc1]
@[simp] theorem accR_fld (c j : Nat) (ds : List D) (sl : List SV) (hp : List Cell) : accR (acc1 c (.fld j)) (.ins c ds) ⟨sl, hp⟩ = (match ds[j]? with | some d => .ok d ⟨sl, hp⟩ | none => .stuck) := by
  simp [accR, insAt, acc1_same]
@[simp] theorem accR_prop (c : Nat) (m : DF) (ds : List D) (sl : List SV) (hp : List Cell) : accR (acc1 c (.prop m)) (.ins c ds) ⟨sl, hp⟩ = (match m [.ins c ds] hp with | .ok d hp' => .ok d ⟨sl, hp'⟩ | _ => .stuck) := by
  simp [accR, insAt, acc1_same]
def objR (c : Nat) (m : DF) (x : D) (fs : DM (List D)) (s : DSt) : R D := match insAt s.hp x with
  | some (c', _) => if c' = c then (match fs s with | .ok xs s' => (match m (x :: xs) s'.hp with | .ok d hp => .ok d ⟨s'.sl, hp⟩ | .err x hp => .err x ⟨s'.sl, hp⟩ | .stuck => .stuck) | .err x s' => .err x s' | .stuck => .stuck) else .stuck
  | none => .stuck
@[simp] theorem objM_ap (c : Nat) (m : DF) (f : DM D) (fs : DM (List D)) (s : DSt) : objM c m f fs s = (match f s with | .ok x s' => objR c m x fs s' | .err x s' => .err x s' | .stuck => .stuck) := by
  unfold objM DP.bnd callM DP.bnd objR
  cases f s with
  | ok x s' =>
    dsimp only
    cases insAt s'.hp x with
    | none => rfl
    | some p =>
      obtain ⟨c', ds⟩ := p
      dsimp only
      split
      · cases fs s' <;> rfl
      · rfl
  | _ => rfl
@[simp] theorem objR_ins (c : Nat) (m : DF) (ds : List D) (fs : DM (List D)) (s : DSt) : objR c m (.ins c ds) fs s = (match fs s with | .ok xs s' => (match m (.ins c ds :: xs) s'.hp with | .ok d hp => .ok d ⟨s'.sl, hp⟩ | .err x hp => .err x ⟨s'.sl, hp⟩ | .stuck => .stuck) | .err x s' => .err x s' | .stuck => .stuck) := by
  simp [objR, insAt]
@[simp] theorem insAt_ins (hp : List Cell) (c : Nat) (ds : List D) : insAt hp (.ins c ds) = some (c, ds) := rfl
@[simp] theorem frz_lst (xs : List D) : (Cell.lst xs).frz = .lst xs := rfl
@[simp] theorem frz_dk (ks : List Key) (vs : List D) : (Cell.dk ks vs).frz = .dk ks vs := rfl
@[simp] theorem frz_dt (ks : List (List Key)) (vs : List D) : (Cell.dt ks vs).frz = .dt ks vs := rfl
@[simp] theorem methM_R (T : String) (g : D → List D → Option D) (fP : DM Plc) (fs : DM (List D)) (s : DSt) : methM T (actR g) fP fs s = (match fP s with | .ok P s1 => (if (readP P s1).any (isTy T) = true then (match fs s1 with | .ok ds s2 => (match (readP P s2).bind (fun c => g c ds) with | some d => .ok d s2 | none => .stuck) | .err x s' => .err x s' | .stuck => .stuck) else .stuck) | .err x s' => .err x s' | .stuck => .stuck) := by
  unfold methM actR DP.bnd
  cases fP s with
  | ok P s1 =>
    dsimp only
    split
    · cases fs s1 <;> rfl
    · rfl
  | _ => rfl
@[simp] theorem methM_W (T : String) (g : Cell → List D → Option (D × Cell)) (fP : DM Plc) (fs : DM (List D)) (s : DSt) : methM T (actW g) fP fs s = (match fP s with | .ok P s1 => (if (readP P s1).any (isTy T) = true then (match fs s1 with | .ok ds s2 => (match (cellP P s2).bind (fun c => g c ds) with | some (d, c') => .ok d (putP P c' s2) | none => .stuck) | .err x s' => .err x s' | .stuck => .stuck) else .stuck) | .err x s' => .err x s' | .stuck => .stuck) := by
  unfold methM actW DP.bnd
  cases fP s with
  | ok P s1 =>
    dsimp only
    split
    · cases fs s1 <;> rfl
    · rfl
  | _ => rfl
@[simp] theorem isTy_str (x : Str) : isTy "str" (.str x) = true := rfl
@[simp] theorem isTy_lst (x : List D) : isTy "list" (.lst x) = true := rfl
@[simp] theorem cellP_sl (i : Nat) (sl : List SV) (hp : List Cell) : cellP (.sl i) ⟨sl, hp⟩ = (match sl[i]? with | some (.own c) => some c | some (.val (.ref n)) => hp[n]? | _ => none) := rfl
@[simp] theorem putP_sl (i : Nat) (c : Cell) (sl : List SV) (hp : List Cell) : putP (.sl i) c ⟨sl, hp⟩ = (match sl[i]? with | some (.own _) => ⟨sl.set i (.own c), hp⟩ | some (.val (.ref n)) => ⟨sl, hp.set n c⟩ | _ => ⟨sl, hp⟩) := rfl
end
theorem defF_ap (n : Nat) (b : DS) (ds : List D) (hp : List Cell) : defF n b ds hp = (match b ⟨ds.map .val ++ List.replicate (n - ds.length) .un, hp⟩ with
  | .nx s => .ok .non s.hp
  | .rt d s => .ok d s.hp
  | .err x s => .err x s.hp
  | _ => .stuck) := rfl

end LK
namespace LK
open PySem PySem.Spec PyProof.Rows L2 He DP
end LK

set_option Elab.async false
set_option linter.all false
set_option maxRecDepth 100000
set_option maxHeartbeats 4000000
namespace LK
open PySem PySem.Spec PyProof.Rows L2 He DP

def Bd (i : Int) (k : Nat) : Prop := i.natAbs < 2 ^ k
theorem Bd.mono {i : Int} {j k : Nat} (h : Bd i j) (hk : j ≤ k) : Bd i k := Nat.lt_of_lt_of_le h (Nat.pow_le_pow_right (by decide) hk)
theorem Bd.mul {i j : Int} {k l : Nat} (h : Bd i k) (h' : Bd j l) : Bd (i * j) (k + l) := by
  unfold Bd at *
  rw [Int.natAbs_mul, Nat.pow_add]
  exact Nat.mul_lt_mul'' h h'
theorem Bd.add {i j : Int} {k : Nat} (h : Bd i k) (h' : Bd j k) : Bd (i + j) (k + 1) := by
  unfold Bd at *
  have := Int.natAbs_add_le i j
  rw [Nat.pow_succ]
  omega
theorem Bd.neg {i : Int} {k : Nat} (h : Bd i k) : Bd (-i) k := by
  unfold Bd at *
  rwa [Int.natAbs_neg]
theorem Bd.sub {i j : Int} {k : Nat} (h : Bd i k) (h' : Bd j k) : Bd (i - j) (k + 1) := by
  rw [Int.sub_eq_add_neg]
  exact h.add h'.neg
@[simp] theorem abs_int (i : Int) : absN [.int i] = some (.int i.natAbs) := by
  simp only [absN]
  congr 2
  split <;> omega
@[simp] theorem intN_int (i : Int) : intN [.int i] = some (.int i) := rfl
@[simp] theorem add_int (i j : Int) : addD (.int i) (.int j) = some (.int (i + j)) := rfl
@[simp] theorem sub_int (i j : Int) : subI (.int i) (.int j) = some (.int (i - j)) := rfl
@[simp] theorem lt_int (i j : Int) : ltD (.int i) (.int j) = some (.bl (decide (i < j))) := rfl
@[simp] theorem le_int (i j : Int) : leD (.int i) (.int j) = some (.bl (decide (i ≤ j))) := rfl
@[simp] theorem gt_int (i j : Int) : gtD (.int i) (.int j) = some (.bl (decide (j < i))) := rfl
@[simp] theorem ge_int (i j : Int) : geD (.int i) (.int j) = some (.bl (decide (j ≤ i))) := rfl
@[simp] theorem neg_int (i : Int) : negD (.int i) = some (.int (-i)) := rfl
@[simp] theorem ixD_tup (xs : List D) (i : Int) : ixD (.tup xs) (.int i) = atI xs i := rfl
@[simp] theorem ixD_lst (xs : List D) (i : Int) : ixD (.lst xs) (.int i) = atI xs i := rfl
theorem atI_nat {α : Type} (xs : List α) (k : Nat) : atI xs (k : Int) = xs[k]? := by
  unfold atI ixN
  rw [if_pos (Int.natCast_nonneg k)]
  by_cases h : k < xs.length
  · rw [if_pos (by exact_mod_cast h)]
    simp
  · rw [if_neg (by omega), List.getElem?_eq_none (by omega)]
    rfl
@[simp] theorem atI_zero {α : Type} (x : α) (xs : List α) : atI (x :: xs) 0 = some x := by
  have := atI_nat (x :: xs) 0
  simpa using this
@[simp] theorem atI_one {α : Type} (x y : α) (xs : List α) : atI (x :: y :: xs) 1 = some y := by
  have := atI_nat (x :: y :: xs) 1
  simpa using this
@[simp] theorem atI_two {α : Type} (x y z : α) (xs : List α) : atI (x :: y :: z :: xs) 2 = some z := by
  have := atI_nat (x :: y :: z :: xs) 2
  simpa using this

def fr (q : Rat) : D := .tup [.int q.num, .int q.den]
@[simp] theorem fr_ix0 (q : Rat) : ixD (fr q) (.int 0) = some (.int q.num) := by simp [fr]
@[simp] theorem fr_ix1 (q : Rat) : ixD (fr q) (.int 1) = some (.int q.den) := by simp [fr]
@[simp] theorem deref_fr (hp : List Cell) (q : Rat) : deref hp (fr q) = some (fr q) := rfl
@[simp] theorem fr_zero' : (.tup [.int 0, .int 1] : D) = fr 0 := rfl
@[simp] theorem fr_one' : (.tup [.int 1, .int 1] : D) = fr 1 := rfl
def Sz (q : Rat) (k : Nat) : Prop := Bd q.num k ∧ q.den < 2 ^ k
theorem Sz.mono {q : Rat} {j k : Nat} (h : Sz q j) (hk : j ≤ k) : Sz q k := ⟨h.1.mono hk, Nat.lt_of_lt_of_le h.2 (Nat.pow_le_pow_right (by decide) hk)⟩
theorem Sz.den {q : Rat} {k : Nat} (h : Sz q k) : Bd (q.den : Int) k := h.2
theorem den_pos (q : Rat) : (0 : Int) < (q.den : Int) := by exact_mod_cast q.den_pos
theorem sz_divInt {a b : Int} {k : Nat} (hb : 0 < b) (h1 : Bd a k) (h2 : Bd b k) : Sz (Rat.divInt a b) k := by
  have hb0 : b ≠ 0 := by omega
  have hg : 0 < Int.gcd b a := Int.gcd_pos_of_ne_zero_left _ hb0
  refine ⟨?_, ?_⟩
  · rw [Rat.num_divInt, Int.sign_eq_one_of_pos hb, Int.one_mul]
    unfold Bd at *
    refine Nat.lt_of_le_of_lt ?_ h1
    rw [Int.natAbs_ediv_of_dvd (Int.gcd_dvd_right ..)]
    exact Nat.div_le_self _ _
  · rw [Rat.den_divInt, if_neg hb0]
    exact Nat.lt_of_le_of_lt (Nat.div_le_self _ _) h2
theorem div_divInt (a b : Rat) : Rat.divInt (a.num * b.den) (a.den * b.num) = a / b := by
  rw [Rat.div_def]
  have := Rat.divInt_mul_divInt a.num b.den (d₁ := a.den) (d₂ := b.num)
  rw [Rat.num_divInt_den, ← Rat.inv_divInt, Rat.num_divInt_den] at this
  exact this.symm
section
variable {a b : Rat} {j k : Nat}
theorem num_pos {b : Rat} (h : 0 < b) : 0 < b.num := by
  have := (Rat.lt_iff 0 b).mp h
  simpa using this
theorem sz_div (ha : Sz a j) (hb : Sz b k) (hpos : 0 < b) : Sz (a / b) (j + k) := by
  rw [← div_divInt]
  exact sz_divInt (Int.mul_pos (den_pos a) (num_pos hpos)) (ha.1.mul hb.den) (ha.den.mul hb.1)
end
end LK

set_option Elab.async false
set_option linter.all false
set_option maxRecDepth 100000
set_option maxHeartbeats 4000000
namespace LK
open PySem PySem.Spec PyProof.Rows L2 He DP

abbrev Lot := List Nat
def st (l : Lot) : Str := ⟨l.toArray⟩
def sd (l : Lot) : D := .str (st l)
def ch (c : Nat) : D := .str (st [c])
theorem st_inj {a b : Lot} (h : st a = st b) : a = b := by
  have := congrArg Str.cps h
  simpa [st] using this
@[simp] theorem st_cps (l : Lot) : (st l).cps.toList = l := by simp [st]
@[simp] theorem st_length (l : Lot) : (st l).length = l.length := by simp [st, Str.length]
theorem st_append (a b : Lot) : st a ++ st b = st (a ++ b) := by
  have : (st a ++ st b).cps = (st (a ++ b)).cps := by
    rw [Str.cps_append]
    simp [st]
  exact congrArg Str.mk this
@[simp] theorem deref_sd (hp : List Cell) (l : Lot) : deref hp (sd l) = some (sd l) := rfl
@[simp] theorem deref_ch (hp : List Cell) (c : Nat) : deref hp (ch c) = some (ch c) := rfl
@[simp] theorem items_sd (l : Lot) : itemsOf (sd l) = some (l.map ch) := by
  simp [itemsOf, sd, st, ch]
@[simp] theorem items_tup (xs : List D) : itemsOf (.tup xs) = some xs := rfl
@[simp] theorem items_lst (xs : List D) : itemsOf (.lst xs) = some xs := rfl
@[simp] theorem len_tup (xs : List D) : lenD (.tup xs) = some (.int xs.length) := rfl
@[simp] theorem len_lst (xs : List D) : lenD (.lst xs) = some (.int xs.length) := rfl
@[simp] theorem isB_str_sd (hp : List Cell) (l : Lot) : (tyD hp (sd l)).bind (isB "str" fun _ => none) = some true := by
  simp only [tyD, sd, Option.bind, isB]; decide
@[simp] theorem isB_str_ch (hp : List Cell) (c : Nat) : (tyD hp (ch c)).bind (isB "str" fun _ => none) = some true := isB_str_sd hp [c]
@[simp] theorem isB_tuple_tup (hp : List Cell) (xs : List D) : (tyD hp (.tup xs)).bind (isB "tuple" fun _ => none) = some true := by
  simp only [tyD, Option.bind, isB]; decide
@[simp] theorem isB_int_int (hp : List Cell) (i : Int) : (tyD hp (.int i)).bind (isB "int" fun _ => none) = some true := by
  simp only [tyD, Option.bind, isB]; decide
@[simp] theorem isB_bool_int (hp : List Cell) (i : Int) : (tyD hp (.int i)).bind (isB "bool" fun _ => none) = some false := by
  simp only [tyD, Option.bind, isB]; decide
@[simp] theorem isO_ins (hp : List Cell) (c : Nat) (vs : List D) : (tyD hp (.ins c vs)).bind (isO (own1 c true)) = some true := by
  simp [tyD, isO, own1]
instance (l : Lot) : Decidable (l.Pairwise (· < ·)) := inferInstance
end LK

set_option Elab.async false
set_option linter.all false
set_option maxRecDepth 100000
set_option maxHeartbeats 4000000
namespace LK
open PySem PySem.Spec PyProof.Rows L2 He DP

mutual
def nb : D → Bool
  | .non => true
  | .bl _ => false
  | .int _ => true
  | .str _ => true
  | .tup xs => nbL xs
  | .lst xs => nbL xs
  | .dk _ _ => false
  | .dt _ _ => false
  | .ins _ _ => false
  | .dx _ _ => false
  | .exc _ _ => false
  | .ref _ => false
def nbL : List D → Bool
  | [] => true
  | x :: xs => nb x && nbL xs
end
mutual
theorem eqv_nb : ∀ {d e : D}, nb d = true → nb e = true → (d.eqv e = true ↔ d = e)
  | .non, e, _, h => by cases e <;> simp_all [nb, D.eqv]
  | .bl _, e, h, _ => by simp [nb] at h
  | .int i, e, _, h => by cases e <;> simp_all [nb, D.eqv]
  | .str i, e, _, h => by cases e <;> simp_all [nb, D.eqv]
  | .tup xs, e, h1, h => by
    cases e with
    | tup ys =>
      simp only [nb] at h1 h
      simp only [D.eqv, D.tup.injEq]
      exact eqvL_nb h1 h
    | _ => simp_all [nb, D.eqv]
  | .lst xs, e, h1, h => by
    cases e with
    | lst ys =>
      simp only [nb] at h1 h
      simp only [D.eqv, D.lst.injEq]
      exact eqvL_nb h1 h
    | _ => simp_all [nb, D.eqv]
  | .dk _ _, e, h, _ => by simp [nb] at h
  | .dt _ _, e, h, _ => by simp [nb] at h
  | .ins _ _, e, h, _ => by simp [nb] at h
  | .dx _ _, e, h, _ => by simp [nb] at h
  | .exc _ _, e, h, _ => by simp [nb] at h
  | .ref _, e, h, _ => by simp [nb] at h
theorem eqvL_nb : ∀ {xs ys : List D}, nbL xs = true → nbL ys = true → (eqvL xs ys = true ↔ xs = ys)
  | [], [], _, _ => by simp [eqvL]
  | [], y :: ys, _, _ => by simp [eqvL]
  | x :: xs, [], _, _ => by simp [eqvL]
  | x :: xs, y :: ys, h1, h2 => by
    simp only [nbL, Bool.and_eq_true] at h1 h2
    simp only [eqvL, Bool.and_eq_true, List.cons.injEq]
    rw [eqv_nb h1.1 h2.1, eqvL_nb h1.2 h2.2]
end
structure Eqb (n : Nat) (d : D) : Prop where
  ok : d.ok n = true
  nb : nb d = true
theorem Eqb.up {n m : Nat} {d : D} (h : Eqb n d) (hm : n ≤ m) : Eqb m d := by
  refine ⟨?_, h.nb⟩
  have key : ∀ (n m : Nat) (d : D), n ≤ m → d.ok n = true → d.ok m = true := by
    intro n
    induction n with
    | zero =>
      intro m d _ h
      cases d <;> simp_all [D.ok]
    | succ n ih =>
      intro m d hm h
      obtain ⟨m, rfl⟩ : ∃ k, m = k + 1 := ⟨m - 1, by omega⟩
      cases d <;> simp_all [D.ok]
      all_goals (intro x hx; exact ih m x (by omega) (h x hx))
  exact key n m d hm h.ok
def Chars (l : Lot) : Prop := ∀ c ∈ l, c < 1114112
theorem eqb_sd {l : Lot} (h : Chars l) : Eqb 0 (sd l) := by
  refine ⟨?_, rfl⟩
  simp only [D.ok, sd, st]
  simp only [List.size_toArray, List.all_toArray', List.all_eq_true, decide_eq_true_eq]
  intro x hx
  exact h x hx
theorem ne_iff {n : Nat} {x y : D} (hx : Eqb n x) (hy : Eqb n y) (hn : n ≤ 24) {b : Bool} (h : b = true ↔ x ≠ y) : neD x y = some (.bl b) := by
  have h1 := (hx.up hn).ok
  have h2 := (hy.up hn).ok
  unfold neD
  rw [show deepest = 24 from rfl, h1, h2]
  simp only [Bool.and_self, if_true]
  congr 2
  rw [Bool.eq_iff_iff, h]
  have := eqv_nb hx.nb hy.nb
  cases q : D.eqv x y with
  | true => simp [this.mp q]
  | false =>
    simp only [Bool.not_false, true_iff]
    intro e
    rw [this.mpr e] at q
    cases q
theorem sd_inj {a b : Lot} (h : sd a = sd b) : a = b := by
  unfold sd at h
  injection h with h
  exact st_inj h
theorem ne_sd {a b : Lot} (ha : Chars a) (hb : Chars b) : neD (sd a) (sd b) = some (.bl (decide (a ≠ b))) := ne_iff (eqb_sd ha) (eqb_sd hb) (by omega) (by
  simp only [decide_eq_true_eq]
  exact ⟨fun h z => h (sd_inj z), fun h z => h (by rw [z])⟩)
def joinL (sep : Lot) : List Lot → Lot
  | [] => []
  | [x] => x
  | x :: r => x ++ sep ++ joinL sep r
end LK

set_option Elab.async false
set_option linter.all false
set_option maxRecDepth 100000
set_option maxHeartbeats 4000000
namespace LK
open PySem PySem.Spec PyProof.Rows L2 He DP

def qsum (qs : List Rat) : Rat := qs.foldl (· + ·) 0
theorem qsum_from (qs : List Rat) : ∀ a : Rat, qs.foldl (· + ·) a = a + qsum qs := by
  unfold qsum
  induction qs with
  | nil => intro a; simp [Rat.add_zero]
  | cons q qs ih =>
    intro a
    rw [List.foldl_cons, List.foldl_cons, ih, ih (0 + q)]
    grind
@[simp] theorem qsum_nil : qsum [] = 0 := rfl
theorem qsum_cons (q : Rat) (qs : List Rat) : qsum (q :: qs) = q + qsum qs := by
  show (q :: qs).foldl (· + ·) 0 = _
  rw [List.foldl_cons, qsum_from]
  grind
theorem qsum_nonneg {qs : List Rat} (h : ∀ q ∈ qs, 0 ≤ q) : 0 ≤ qsum qs := by
  induction qs with
  | nil => simp
  | cons q qs ih =>
    rw [qsum_cons]
    have h1 := h q List.mem_cons_self
    have h2 := ih fun x hx => h x (List.mem_cons_of_mem _ hx)
    grind
theorem le_qsum {qs : List Rat} (h : ∀ q ∈ qs, 0 ≤ q) {q : Rat} (hq : q ∈ qs) : q ≤ qsum qs := by
  induction qs with
  | nil => simp at hq
  | cons p qs ih =>
    rw [qsum_cons]
    have h1 := h p List.mem_cons_self
    have h2 := qsum_nonneg fun x hx => h x (List.mem_cons_of_mem _ hx)
    rcases List.mem_cons.mp hq with rfl | hq
    · grind
    · have h3 := ih (fun x hx => h x (List.mem_cons_of_mem _ hx)) hq
      grind
structure TellOk (n : Nat) (qs : List Rat) : Prop where
  len : qs.length = n
  pos : ∀ q ∈ qs, 0 < q
  den : ∀ q ∈ qs, q.den ≤ 1000000000
  sum : qsum qs = 1
theorem TellOk.le1 {n : Nat} {qs : List Rat} (h : TellOk n qs) {q : Rat} (hq : q ∈ qs) : q ≤ 1 := by
  rw [← h.sum]
  exact le_qsum (fun x hx => by have := h.pos x hx; grind) hq
theorem TellOk.sz {n : Nat} {qs : List Rat} (h : TellOk n qs) {q : Rat} (hq : q ∈ qs) : Sz q 30 := by
  have h1 := h.le1 hq
  have h2 := num_pos (h.pos q hq)
  have h3 := h.den q hq
  have h4 := (Rat.le_iff q 1).mp h1
  simp at h4
  refine ⟨?_, by omega⟩
  unfold Bd
  have : (q.den : Int) ≤ 1000000000 := by omega
  omega
def tupq (qs : List Rat) : D := .tup (qs.map fr)
@[simp] theorem deref_tupq (hp : List Cell) (qs : List Rat) : deref hp (tupq qs) = some (tupq qs) := rfl
abbrev Part := Lot × Option (List Rat)
abbrev View := List Part
abbrev Person := Lot × View
def toldD : Option (List Rat) → D
  | none => .non
  | some qs => tupq qs
def partD (p : Part) : D := .tup [sd p.1, toldD p.2]
def viewD (v : View) : D := .tup (v.map partD)
def personD (p : Person) : D := .tup [sd p.1, viewD p.2]
def peopleD (ps : List Person) : D := .tup (ps.map personD)
structure PartOk (cs : Lot) (p : Part) : Prop where
  ne : p.1 ≠ []
  sub : ∀ c ∈ p.1, c ∈ cs
  up : p.1.Pairwise (· < ·)
  told : ∀ qs, p.2 = some qs → TellOk p.1.length qs
structure ViewOk (cs : Lot) (v : View) : Prop where
  part : ∀ p ∈ v, PartOk cs p
  all : (v.map (·.1)).flatten.Perm cs
  up : (v.map (·.1)).Pairwise (· ≤ ·)
structure CasesOk (cs : Lot) : Prop where
  one : 1 ≤ cs.length
  most : cs.length ≤ 8
  let_ : ∀ c ∈ cs, 97 ≤ c ∧ c ≤ 122
  up : cs.Pairwise (· < ·)
structure NameOk (n : Lot) : Prop where
  one : 1 ≤ n.length
  most : n.length ≤ 8
  let_ : ∀ c ∈ n, 97 ≤ c ∧ c ≤ 122
structure PeopleOk (cs : Lot) (ps : List Person) : Prop where
  one : 1 ≤ ps.length
  most : ps.length ≤ 4
  name : ∀ p ∈ ps, NameOk p.1
  view : ∀ p ∈ ps, ViewOk cs p.2
  up : (ps.map (·.1)).Pairwise (· < ·)
theorem nodup_up {l : Lot} (h : l.Pairwise (· < ·)) : l.Nodup := h.imp fun h => Nat.ne_of_lt h
theorem sub_len {l : Lot} : ∀ {cs : Lot}, l.Nodup → (∀ c ∈ l, c ∈ cs) → l.length ≤ cs.length := by
  induction l with
  | nil => intro cs _ _; simp
  | cons a l ih =>
    intro cs hn hs
    obtain ⟨h1, h2⟩ := List.nodup_cons.mp hn
    have ha := hs a List.mem_cons_self
    have := ih (cs := cs.erase a) h2 fun c hc => by
      have hne : c ≠ a := fun e => h1 (e ▸ hc)
      exact (List.mem_erase_of_ne hne).mpr (hs c (List.mem_cons_of_mem _ hc))
    rw [List.length_erase_of_mem ha] at this
    have := List.length_pos_of_mem ha
    simp only [List.length_cons]
    omega

theorem lot_len {l cs : Lot} (hc : cs.length ≤ 8) (hs : ∀ c ∈ l, c ∈ cs) (hu : l.Pairwise (· < ·)) : l.length ≤ 8 := Nat.le_trans (sub_len (nodup_up hu) hs) hc
@[simp] theorem isTy_sd (l : Lot) : isTy "str" (sd l) = true := rfl
@[simp] theorem sd_empty : (.str (Str.ofString "") : D) = sd [] := rfl
end LK

set_option Elab.async false
set_option linter.all false
set_option maxRecDepth 100000
set_option maxHeartbeats 4000000
namespace LK
open PySem PySem.Spec PyProof.Rows L2 He DP

def numL (i : Int) : Lot := (Str.ofString (toString i)).cps.toList
def fracL (q : Rat) : Lot := numL q.num ++ 47 :: numL q.den
def wordL : Option (List Rat) → List Lot
  | none => [[63]]
  | some qs => qs.map fracL
def lineL (n : Lot) (p : Part) : Lot := n ++ 32 :: (p.1 ++ 32 :: joinL [32] (wordL p.2))
def linesL (cs : Lot) (ps : List Person) : List Lot := ([99, 97, 115, 101, 115, 32] ++ cs) :: ps.flatMap fun p => p.2.map (lineL p.1)
def textL (cs : Lot) (ps : List Person) : Lot := joinL [10] (linesL cs ps)
end LK

set_option Elab.async false
set_option linter.all false
set_option maxRecDepth 100000
set_option maxHeartbeats 4000000
namespace LK
open PySem PySem.Spec PyProof.Rows L2 He DP

def nameK (l : Lot) : Key := Sum.inr (st l)
theorem nameK_inj {a b : Lot} (h : nameK a = nameK b) : a = b := by
  unfold nameK at h
  injection h with h
  exact st_inj h
@[simp] theorem key_sd (l : Lot) : (sd l).key = some (nameK l) := rfl
def dictD {α : Type} (k : α → Lot) (v : α → D) (xs : List α) : D := .dk (xs.map fun x => nameK (k x)) (xs.map v)
theorem val_isSome {α : Type} (k : α → Lot) (v : α → D) (l : Lot) : ∀ xs : List α, (DP.valOf (xs.map fun x => nameK (k x)) (xs.map v) (nameK l)).isSome = decide (l ∈ xs.map k)
  | [] => by simp [DP.valOf]
  | x :: xs => by
    have ih := val_isSome k v l xs
    unfold DP.valOf at ih ⊢
    simp only [List.map_cons, List.zip_cons_cons]
    by_cases e : nameK (k x) = nameK l
    · rw [List.find?_cons_of_pos (by simpa using e), nameK_inj e]
      simp
    · rw [List.find?_cons_of_neg (by simpa using e), ih]
      have : l ≠ k x := fun z => e (by rw [z])
      simp [this]
theorem nin_dict {α : Type} (k : α → Lot) (v : α → D) (xs : List α) (l : Lot) : ninD (sd l) (dictD k v xs) = some (.bl (!decide (l ∈ xs.map k))) := by
  have := val_isSome k v l xs
  simp only [dictD, ninD, inK, key_sd, Option.map, this]
  rfl

def viewsD (ps : List Person) : D := dictD (fun p : Person => p.1) (fun p => viewD p.2) ps
def roomD (cs : Lot) (ps : List Person) : D := .ins 0 [sd cs, peopleD ps, sd (textL cs ps), viewsD ps]
theorem lot_irrefl (a : Lot) : ¬ a < a := List.lt_irrefl a
theorem names_nodup {cs : Lot} {ps : List Person} (h : PeopleOk cs ps) : (ps.map (·.1)).Nodup := List.Pairwise.imp (fun {a b} (h : a < b) (e : a = b) => lot_irrefl b (e ▸ h)) h.up
theorem noRefL_map {α : Type} {f : α → D} {xs : List α} (h : ∀ x ∈ xs, (f x).noRef = true) : noRefL (xs.map f) = true := by
  induction xs with
  | nil => rfl
  | cons x xs ih =>
    simp only [List.map_cons, noRefL, Bool.and_eq_true]
    exact ⟨h x List.mem_cons_self, ih fun y hy => h y (List.mem_cons_of_mem _ hy)⟩
@[simp] theorem noRef_sd (l : Lot) : (sd l).noRef = true := rfl
@[simp] theorem noRef_fr (q : Rat) : (fr q).noRef = true := by simp [fr, D.noRef, noRefL]
@[simp] theorem noRef_told (t : Option (List Rat)) : (toldD t).noRef = true := by
  cases t with
  | none => rfl
  | some qs => exact noRefL_map fun q _ => noRef_fr q
@[simp] theorem noRef_part (p : Part) : (partD p).noRef = true := by simp [partD, D.noRef, noRefL]
@[simp] theorem noRef_view (v : View) : (viewD v).noRef = true := noRefL_map fun p _ => noRef_part p
@[simp] theorem noRef_person (p : Person) : (personD p).noRef = true := by simp [personD, D.noRef, noRefL]
@[simp] theorem noRef_people (ps : List Person) : (peopleD ps).noRef = true := noRefL_map fun p _ => noRef_person p
@[simp] theorem noRef_views (ps : List Person) : (viewsD ps).noRef = true := noRefL_map fun p _ => noRef_view p.2
@[simp] theorem noRef_room (cs : Lot) (ps : List Person) : (roomD cs ps).noRef = true := by simp [roomD, D.noRef, noRefL]
def fldR (c j : Nat) (d x : D) (s2 : DSt) : RS := match x with
  | .ref n => (match s2.hp[n]? with
    | some (.ins c' ds) => if c' = c then (match setFld j d ds with
      | some es => .nx ⟨s2.sl, s2.hp.set n (.ins c es)⟩
      | none => .stuck) else .stuck
    | _ => .stuck)
  | _ => .stuck
@[simp] theorem fldR_ref (c j n : Nat) (d : D) (sl : List SV) (hp : List Cell) : fldR c j d (.ref n) ⟨sl, hp⟩ = (match hp[n]? with
    | some (.ins c' ds) => if c' = c then (match setFld j d ds with
      | some es => .nx ⟨sl, hp.set n (.ins c es)⟩
      | none => .stuck) else .stuck
    | _ => .stuck) := rfl
@[simp] theorem fldS_ap (c j : Nat) (fo fv : DM D) (s : DSt) : fldS c j fo fv s = (match fv s with | .ok d s1 => (match fo s1 with | .ok x s2 => fldR c j d x s2 | .err x s' => .err x s' | .stuck => .stuck) | .err x s' => .err x s' | .stuck => .stuck) := by
  unfold fldS bndS fldR
  cases fv s with
  | ok d s1 => dsimp only; cases fo s1 <;> rfl
  | _ => rfl
end LK

set_option Elab.async false
set_option linter.all false
set_option maxRecDepth 100000
set_option maxHeartbeats 4000000
namespace LK
open PySem PySem.Spec PyProof.Rows L2 He DP

@[simp] theorem deref_room (hp : List Cell) (cs : Lot) (ps : List Person) : deref hp (roomD cs ps) = some (roomD cs ps) := rfl
@[simp] theorem deref_people (hp : List Cell) (ps : List Person) : deref hp (peopleD ps) = some (peopleD ps) := rfl
@[simp] theorem deref_views (hp : List Cell) (ps : List Person) : deref hp (viewsD ps) = some (viewsD ps) := rfl
@[simp] theorem deref_view (hp : List Cell) (v : View) : deref hp (viewD v) = some (viewD v) := rfl
@[simp] theorem deref_part (hp : List Cell) (p : Part) : deref hp (partD p) = some (partD p) := rfl
@[simp] theorem deref_person (hp : List Cell) (p : Person) : deref hp (personD p) = some (personD p) := rfl
@[simp] theorem items_people (ps : List Person) : itemsOf (peopleD ps) = some (ps.map personD) := rfl
@[simp] theorem items_view (v : View) : itemsOf (viewD v) = some (v.map partD) := rfl
@[simp] theorem part_ix0 (p : Part) : ixD (partD p) (.int 0) = some (sd p.1) := by simp [partD]
@[simp] theorem part_ix1 (p : Part) : ixD (partD p) (.int 1) = some (toldD p.2) := by simp [partD]
@[simp] theorem person_ix0 (p : Person) : ixD (personD p) (.int 0) = some (sd p.1) := by simp [personD]
section
variable (cs : Lot) (ps : List Person) (hp : List Cell)
@[simp] theorem room_fld0 (sl : List SV) : accR (acc1 0 (.fld 0)) (roomD cs ps) ⟨sl, hp⟩ = .ok (sd cs) ⟨sl, hp⟩ := by simp [roomD]
@[simp] theorem room_fld1 (sl : List SV) : accR (acc1 0 (.fld 1)) (roomD cs ps) ⟨sl, hp⟩ = .ok (peopleD ps) ⟨sl, hp⟩ := by simp [roomD]
@[simp] theorem room_fld2 (sl : List SV) : accR (acc1 0 (.fld 2)) (roomD cs ps) ⟨sl, hp⟩ = .ok (sd (textL cs ps)) ⟨sl, hp⟩ := by simp [roomD]
@[simp] theorem room_fld3 (sl : List SV) : accR (acc1 0 (.fld 3)) (roomD cs ps) ⟨sl, hp⟩ = .ok (viewsD ps) ⟨sl, hp⟩ := by simp [roomD]
@[simp] theorem room_prop (m : DF) (sl : List SV) : accR (acc1 0 (.prop m)) (roomD cs ps) ⟨sl, hp⟩ = (match m [roomD cs ps] hp with | .ok d hp' => .ok d ⟨sl, hp'⟩ | _ => .stuck) := by
  unfold roomD
  rw [accR_prop]
  all_goals (cases m [D.ins 0 [sd cs, peopleD ps, sd (textL cs ps), viewsD ps]] hp <;> rfl)
@[simp] theorem room_obj (m : DF) (fs : DM (List D)) (s : DSt) : objR 0 m (roomD cs ps) fs s = (match fs s with | .ok xs s' => (match m (roomD cs ps :: xs) s'.hp with | .ok d hp => .ok d ⟨s'.sl, hp⟩ | .err x hp => .err x ⟨s'.sl, hp⟩ | .stuck => .stuck) | .err x s' => .err x s' | .stuck => .stuck) := by
  unfold roomD
  rw [objR_ins]
  all_goals (cases fs s <;> first | rfl | (rename_i xs s'; cases m (D.ins 0 [sd cs, peopleD ps, sd (textL cs ps), viewsD ps] :: xs) s'.hp <;> rfl))
@[simp] theorem isO_room : (tyD hp (roomD cs ps)).bind (isO (own1 0 true)) = some true := by simp [roomD]
@[simp] theorem tuple_lst (xs : List D) : tupleN [.lst xs] = some (.tup xs) := rfl
@[simp] theorem tuple_tup (xs : List D) : tupleN [.tup xs] = some (.tup xs) := rfl
end
section
variable {cs : Lot} {ps : List Person} (hp : List Cell)
@[simp] theorem nin_views (ps : List Person) (l : Lot) : ninD (sd l) (viewsD ps) = some (.bl (!decide (l ∈ ps.map (·.1)))) := nin_dict _ _ ps l
def partOf (v : View) (c : Nat) : Part := (v.filter fun p => decide (c ∈ p.1)).headD ([], none)
theorem partOf_mem {cs : Lot} {v : View} (h : (v.map (·.1)).flatten.Perm cs) {c : Nat} (hc : c ∈ cs) : partOf v c ∈ v ∧ c ∈ (partOf v c).1 := by
  have h1 := (h.mem_iff (a := c)).mpr hc
  obtain ⟨l, hl, hcl⟩ := List.mem_flatten.mp h1
  obtain ⟨p, hp, rfl⟩ := List.mem_map.mp hl
  have h2 : p ∈ v.filter fun p => decide (c ∈ p.1) := List.mem_filter.mpr ⟨hp, by simpa using hcl⟩
  unfold partOf
  cases e : v.filter fun p => decide (c ∈ p.1) with
  | nil => rw [e] at h2; simp at h2
  | cons q r =>
    have h3 : q ∈ v.filter fun p => decide (c ∈ p.1) := by rw [e]; exact List.mem_cons_self
    have h4 := List.mem_filter.mp h3
    exact ⟨h4.1, by simpa using h4.2⟩
end
end LK

set_option Elab.async false
set_option linter.all false
set_option maxRecDepth 100000
set_option maxHeartbeats 4000000
namespace LK
open PySem PySem.Spec PyProof.Rows L2 He DP

def sayD : Option Rat → D
  | none => .non
  | some q => fr q
section
variable {cs : Lot} {ps : List Person} (hp : List Cell)
end
end LK

set_option Elab.async false
set_option linter.all false
set_option maxRecDepth 100000
set_option maxHeartbeats 4000000
namespace LK
open PySem PySem.Spec PyProof.Rows L2 He DP

structure RoomOk (cs : Lot) (ps : List Person) : Prop where
  mk' ::
  kc : CasesOk cs
  kp : PeopleOk cs ps
theorem RoomOk.cs {cs : Lot} {ps : List Person} (R : RoomOk cs ps) : CasesOk cs := R.kc
theorem RoomOk.ps {cs : Lot} {ps : List Person} (R : RoomOk cs ps) : PeopleOk cs ps := R.kp
section
variable {cs : Lot} {ps : List Person}
theorem RoomOk.nod (R : RoomOk cs ps) : (ps.map (·.1)).Nodup := names_nodup R.ps
theorem RoomOk.view (R : RoomOk cs ps) {p : Person} (h : p ∈ ps) : ViewOk cs p.2 := R.ps.view p h
theorem RoomOk.tell (R : RoomOk cs ps) {p : Person} (h : p ∈ ps) : ∀ q ∈ p.2, q.1.length ≤ 8 ∧ ∀ qs, q.2 = some qs → TellOk q.1.length qs := fun q hq => ⟨lot_len R.cs.most ((R.view h).part q hq).sub ((R.view h).part q hq).up, ((R.view h).part q hq).told⟩
structure LotOk (cs l : Lot) : Prop where
  sub : ∀ c ∈ l, c ∈ cs
  up : l.Pairwise (· < ·)
theorem LotOk.len {l : Lot} (h : LotOk cs l) (hc : CasesOk cs) : l.length ≤ 8 := lot_len hc.most h.sub h.up
theorem LotOk.filter {l : Lot} (h : LotOk cs l) (f : Nat → Bool) : LotOk cs (l.filter f) := ⟨fun c hc => h.sub c (List.mem_filter.mp hc).1, h.up.filter f⟩
theorem CasesOk.lot (h : CasesOk cs) : LotOk cs cs := ⟨fun _ h => h, h.up⟩
structure WS where
  heard : Lot
  said : List (Lot × Option Rat)
  last : Nat
  silent : Nat
end
end LK

set_option Elab.async false
set_option linter.all false
set_option maxRecDepth 100000
set_option maxHeartbeats 4000000
namespace LK
open PySem PySem.Spec PyProof.Rows L2 He DP

class HasT where
  qs : List Str
instance (priority := low) emptyT : HasT := ⟨[]⟩
structure TabsIn [HasT] (hp : List Cell) : Prop where
  at_ : ∀ q ∈ HasT.qs, ∃ m : Nat, hp[m]? = some (Cell.tab q)
theorem TabsIn.none {hp : List Cell} : @TabsIn emptyT hp := ⟨fun q h => (List.not_mem_nil (a := q) h).elim⟩
variable [HasT]
theorem TabsIn.mono {hp hp' : List Cell} (h : TabsIn hp) (e : ∀ (m : Nat) (q : Str), hp[m]? = some (Cell.tab q) → hp'[m]? = some (Cell.tab q)) : TabsIn hp' := ⟨fun q hq => by
  obtain ⟨m, e1⟩ := h.at_ q hq
  exact ⟨m, e m q e1⟩⟩
def isTabC : Cell → Bool
  | .tab _ => true
  | _ => false
theorem TabsIn.set {hp : List Cell} (h : TabsIn hp) {n : Nat} {c c' : Cell} (hn : hp[n]? = some c) (nt : isTabC c = false) : TabsIn (hp.set n c') := h.mono fun m q e => by
  have : n ≠ m := fun z => by
    subst z
    rw [hn] at e
    cases e
    cases nt
  rw [List.getElem?_set_ne this]
  exact e
structure CupAt (hp : List Cell) (n : Nat) : Prop where
  tb : TabsIn hp
  ex : ∃ a b : Int, hp[n]? = some (.lst [.int a, .int b]) ∧ 0 ≤ a ∧ a < 2147483629 ∧ 0 ≤ b
def Ch (n : Nat) (hp hp' : List Cell) : Prop := hp'.length = hp.length ∧ ∀ m, m ≠ n → hp'[m]? = hp[m]?
omit [HasT] in
theorem Ch.refl (n : Nat) (hp : List Cell) : Ch n hp hp := ⟨rfl, fun _ _ => rfl⟩
omit [HasT] in
theorem Ch.trans {n : Nat} {a b c : List Cell} (h : Ch n a b) (h' : Ch n b c) : Ch n a c := ⟨h'.1.trans h.1, fun m hm => (h'.2 m hm).trans (h.2 m hm)⟩
omit [HasT] in
theorem Ch.set (n : Nat) (hp : List Cell) (c : Cell) : Ch n hp (hp.set n c) := ⟨by simp, fun m hm => List.getElem?_set_ne (Ne.symm hm)⟩
@[simp] theorem ixG_ap (fP : DM Plc) (fi : DM D) (d : D) (s : DSt) : ixG fP fi d s = (match fP s with
  | .ok P s1 => (match fi s1 with
    | .ok y s2 => (cellP P s2).bind fun c => (storeC c y d).map fun c' => putP P c' s2
    | _ => none)
  | _ => none) := rfl
@[simp] theorem store_two0 (a b d : D) : storeC (.lst [a, b]) (.int 0) d = some (.lst [d, b]) := rfl
@[simp] theorem store_two1 (a b d : D) : storeC (.lst [a, b]) (.int 1) d = some (.lst [a, d]) := rfl
@[simp] theorem newM_ap (f : DM Cell) (s : DSt) : newM f s = (match f s with | .ok c s' => .ok (.ref s'.hp.length) ⟨s'.sl, s'.hp ++ [c]⟩ | .err x s' => .err x s' | .stuck => .stuck) := by
  unfold newM
  cases f s <;> rfl
@[simp] theorem slice_lst (xs : List D) (lo hi : Option Int) : sliceD (.lst xs) lo hi = some (.lst (DP.cutD xs lo hi)) := rfl
end LK

set_option Elab.async false
set_option linter.all false
set_option maxRecDepth 100000
set_option maxHeartbeats 4000000
namespace LK
open PySem PySem.Spec PyProof.Rows L2 He DP
variable [HasT]

end LK

set_option Elab.async false
set_option linter.all false
set_option maxRecDepth 100000
set_option maxHeartbeats 4000000
namespace LK
open PySem PySem.Spec PyProof.Rows L2 He DP
variable [HasT]

end LK

set_option Elab.async false
set_option linter.all false
set_option maxRecDepth 100000
set_option maxHeartbeats 4000000
namespace LK
open PySem PySem.Spec PyProof.Rows L2 He DP
variable [HasT]

@[simp] theorem parOE_ap (i j : Nat) (f : DM Cell) (s : DSt) : parOE i j f s = (match f s with | .ok c s' => .nx ⟨(s'.sl.set i (.own c)).set j (.own (.lst [])), s'.hp⟩ | .err x s' => .err x s' | .stuck => .stuck) := by
  unfold parOE bndS; cases f s <;> rfl
@[simp] theorem parVO_ap (i j : Nat) (fa : DM D) (fb : DM Cell) (s : DSt) : parVO i j fa fb s = (match fa s with | .ok d s1 => (match fb s1 with | .ok c s' => .nx ⟨(s'.sl.set i (.val d)).set j (.own c), s'.hp⟩ | .err x s' => .err x s' | .stuck => .stuck) | .err x s' => .err x s' | .stuck => .stuck) := by
  unfold parVO bndS; cases fa s with
  | ok d s1 => dsimp only; cases fb s1 <;> rfl
  | _ => rfl
structure UrnAt (hp : List Cell) (n k : Nat) : Prop where
  tb : TabsIn hp
  ex : ∃ (g a : Int) (c : Nat), hp[n]? = some (.lst [.int g, .int a, .int c]) ∧ 0 ≤ g ∧ 0 ≤ a ∧ a < 2147483563 ∧ c ≤ k
theorem UrnAt.mono {hp : List Cell} {n k l : Nat} (h : UrnAt hp n k) (hk : k ≤ l) : UrnAt hp n l := by
  obtain ⟨g, a, c, h1, h2, h3, h4, h5⟩ := h.ex
  exact ⟨h.tb, g, a, c, h1, h2, h3, h4, by omega⟩
@[simp] theorem store_three0 (a b c d : D) : storeC (.lst [a, b, c]) (.int 0) d = some (.lst [d, b, c]) := rfl
@[simp] theorem store_three1 (a b c d : D) : storeC (.lst [a, b, c]) (.int 1) d = some (.lst [a, d, c]) := rfl
@[simp] theorem store_three2 (a b c d : D) : storeC (.lst [a, b, c]) (.int 2) d = some (.lst [a, b, d]) := rfl
end LK

set_option Elab.async false
set_option linter.all false
set_option maxRecDepth 100000
set_option maxHeartbeats 4000000
namespace LK
open PySem PySem.Spec PyProof.Rows L2 He DP
variable [HasT]

end LK

set_option Elab.async false
set_option linter.all false
set_option maxRecDepth 100000
set_option maxHeartbeats 4000000
namespace LK
open PySem PySem.Spec PyProof.Rows L2 He DP
variable [HasT]

end LK

set_option Elab.async false
set_option linter.all false
set_option maxRecDepth 100000
set_option maxHeartbeats 4000000
namespace LK
open PySem PySem.Spec PyProof.Rows L2 He DP
variable [HasT]

def wSum (w : Nat → Nat) (l : Lot) : Nat := (l.map w).sum
def tellW (w : Nat → Nat) (l : Lot) : List Rat := l.map fun c => Rat.divInt (w c) (wSum w l)
end LK

set_option Elab.async false
set_option linter.all false
set_option maxRecDepth 100000
set_option maxHeartbeats 4000000
namespace LK
open PySem PySem.Spec PyProof.Rows L2 He DP
variable [HasT]

structure PartsOk (cs : Lot) (ls : List Lot) : Prop where
  all : ls.flatten.Perm cs
  up : ls.Pairwise (· ≤ ·)
  lot : ∀ l ∈ ls, l ≠ [] ∧ (∀ c ∈ l, c ∈ cs) ∧ l.Pairwise (· < ·)
  len : ls.length ≤ cs.length
end LK

set_option Elab.async false
set_option linter.all false
set_option maxRecDepth 100000
set_option maxHeartbeats 4000000
namespace LK
open PySem PySem.Spec PyProof.Rows L2 He DP
variable [HasT]

def ByW (w : Nat → Nat) (q : Part) : Prop := q.2 = none ∨ q.2 = some (tellW w q.1)
structure FormOk (cs : Lot) (ps : List Person) (w : Nat → Nat) (few : Nat) : Prop where
  room : RoomOk cs ps
  pos : ∀ c, 1 ≤ w c ∧ w c ≤ 9
  tell : ∀ p ∈ ps, ∀ q ∈ p.2, ByW w q
  all : few = 0 → ∀ p ∈ ps, ∀ q ∈ p.2, q.2 ≠ none
def formD (cs : Lot) (ps : List Person) : D := .tup [sd cs, peopleD ps]
end LK

set_option Elab.async false
set_option linter.all false
set_option maxRecDepth 100000
set_option maxHeartbeats 4000000
namespace LK
open PySem PySem.Spec PyProof.Rows L2 He DP
variable [HasT]

@[simp] theorem permM_ap (is : List Nat) (f : DM (List D)) (s : DSt) : permM is f s = (match f s with | .ok xs s' => (match permL is xs with | some ys => .ok ys s' | none => .stuck) | .err x s' => .err x s' | .stuck => .stuck) := by
  unfold permM DP.bnd DP.lift; cases f s with
  | ok x s' => dsimp only; cases permL is x <;> rfl
  | _ => rfl
@[simp] theorem catM_ap (f g : DM (List D)) (s : DSt) : catM f g s = (match f s with | .ok xs s1 => (match g s1 with | .ok ys s2 => .ok (xs ++ ys) s2 | .err x s' => .err x s' | .stuck => .stuck) | .err x s' => .err x s' | .stuck => .stuck) := by
  unfold catM DP.bnd DP.ret; cases f s with
  | ok x s' => dsimp only; cases g s' <;> rfl
  | _ => rfl
@[simp] theorem perm1 (a : D) : permL [0] [a] = some [a] := rfl
@[simp] theorem perm2 (a b : D) : permL [1, 0] [a, b] = some [b, a] := rfl
@[simp] theorem perm3 (a b c : D) : permL [2, 1, 0] [a, b, c] = some [c, b, a] := rfl
@[simp] theorem perm4 (a b c d : D) : permL [3, 2, 1, 0] [a, b, c, d] = some [d, c, b, a] := rfl
@[simp] theorem perm5 (a b c d e : D) : permL [4, 3, 2, 1, 0] [a, b, c, d, e] = some [e, d, c, b, a] := rfl
def nfo : Option SV → Bool
  | some (.own _) => false
  | _ => true
structure Slo (N : Nat) (sl : List SV) (fs : List (Nat × D)) : Prop where
  len : sl.length = N
  nf : ∀ i : Nat, nfo sl[i]? = true
  at_ : ∀ x ∈ fs, sl[x.1]? = some (.val x.2)
theorem Slo.set {N : Nat} {sl : List SV} {fs : List (Nat × D)} (E : Slo N sl fs) (i : Nat) (d : D) (hi : i < N) : Slo N (sl.set i (.val d)) ((i, d) :: fs.filter fun x => !(x.1 == i)) := by
  refine ⟨by simpa using E.len, fun j => ?_, fun x hx => ?_⟩
  · by_cases e : i = j
    · subst e
      rw [List.getElem?_set_self (by rw [E.len]; exact hi)]
      rfl
    · rw [List.getElem?_set_ne e]
      exact E.nf j
  · rcases List.mem_cons.mp hx with rfl | hx
    · exact List.getElem?_set_self (by rw [E.len]; exact hi)
    · obtain ⟨h1, h2⟩ := List.mem_filter.mp hx
      have ne : ¬ i = x.1 := fun e => by simp [← e] at h2
      rw [List.getElem?_set_ne ne]
      exact E.at_ x h1
theorem Slo.sub {N : Nat} {sl : List SV} {fs gs : List (Nat × D)} (E : Slo N sl fs) (h : ∀ x ∈ gs, x ∈ fs) : Slo N sl gs := ⟨E.len, E.nf, fun x hx => E.at_ x (h x hx)⟩
theorem seqS_go {f g : DS} {s s' : DSt} (h : f s = .nx s') {r : RS} (k : g s' = r) : seqS f g s = r := by rw [seqS_ap, h]; exact k
end LK

set_option Elab.async false
set_option linter.all false
set_option maxRecDepth 100000
set_option maxHeartbeats 4000000
namespace LK
open PySem PySem.Spec PyProof.Rows L2 He DP
variable [HasT]

section
variable {cs : Lot} {ps : List Person}
theorem part_sub (R : RoomOk cs ps) {p : Person} (h : p ∈ ps) {c : Nat} (hc : c ∈ cs) : ∀ o ∈ (partOf p.2 c).1, o ∈ cs := ((R.view h).part _ (partOf_mem (R.view h).all hc).1).sub
theorem part_self (R : RoomOk cs ps) {p : Person} (h : p ∈ ps) {c : Nat} (hc : c ∈ cs) : c ∈ (partOf p.2 c).1 := (partOf_mem (R.view h).all hc).2
end
end LK

set_option Elab.async false
set_option linter.all false
set_option maxRecDepth 100000
set_option maxHeartbeats 4000000
namespace LK
open PySem PySem.Spec PyProof.Rows L2 He DP
variable [HasT]

theorem right_go {N : Nat} {b : DS} {k : Nat} (hN : N = k + 1) {d : D} {hp : List Cell} {r : D} {s' : DSt} (h : b ⟨[.val d] ++ List.replicate k .un, hp⟩ = .rt r s') : defF N b [d] hp = .ok r s'.hp := by
  subst hN
  rw [defF_ap]
  have : b ⟨List.map .val [d] ++ List.replicate (k + 1 - [d].length) .un, hp⟩ = .rt r s' := h
  rw [this]
@[simp] theorem form_ix0 (cs : Lot) (ps : List Person) : ixD (formD cs ps) (.int 0) = some (sd cs) := rfl
@[simp] theorem form_ix1 (cs : Lot) (ps : List Person) : ixD (formD cs ps) (.int 1) = some (peopleD ps) := rfl
@[simp] theorem deref_form (hp : List Cell) (cs : Lot) (ps : List Person) : deref hp (formD cs ps) = some (formD cs ps) := rfl
end LK

set_option Elab.async false
set_option linter.all false
set_option maxRecDepth 100000
set_option maxHeartbeats 4000000
namespace LK
open PySem PySem.Spec PyProof.Rows L2 He DP
variable [HasT]

def itF {α : Type} (f : α → α) : Nat → α → α
  | 0, x => x
  | n + 1, x => itF f n (f x)
theorem lot_ext {cs a b : Lot} (ha : LotOk cs a) (hb : LotOk cs b) (h : ∀ x, x ∈ a ↔ x ∈ b) : a = b :=
  List.Perm.eq_of_pairwise (le := (· < ·)) (fun x y _ _ h1 h2 => absurd h1 (Nat.lt_asymm h2)) ha.up hb.up ((List.perm_ext_iff_of_nodup (nodup_up ha.up) (nodup_up hb.up)).mpr h)
def Stp (ps : List Person) (c o : Nat) : Prop := ∃ p ∈ ps, o ∈ (partOf p.2 c).1
section
variable {cs : Lot} {ps : List Person}
theorem Stp.sub (R : RoomOk cs ps) {c o : Nat} (hc : c ∈ cs) (h : Stp ps c o) : o ∈ cs := by
  obtain ⟨p, hp, ho⟩ := h
  exact part_sub R hp hc o ho
theorem Stp.refl (R : RoomOk cs ps) {c : Nat} (hc : c ∈ cs) : Stp ps c c := by
  cases e : ps with
  | nil => have := R.ps.one; rw [e] at this; simp at this
  | cons p r => exact ⟨p, List.mem_cons_self, part_self R (by rw [e]; exact List.mem_cons_self) hc⟩
def bckF (cs : Lot) (ps : List Person) (l : Lot) : Lot := cs.filter fun c => ps.any fun p => (partOf p.2 c).1.any fun o => decide (o ∈ l)
def compF (cs : Lot) (ps : List Person) (l : Lot) : Lot := itF (bckF cs ps) cs.length l
end
end LK

set_option Elab.async false
set_option linter.all false
set_option maxRecDepth 100000
set_option maxHeartbeats 4000000
namespace LK
open PySem PySem.Spec PyProof.Rows L2 He DP
variable [HasT]

section
variable {cs : Lot} {ps : List Person}
end
end LK

set_option Elab.async false
set_option linter.all false
set_option maxRecDepth 100000
set_option maxHeartbeats 4000000
namespace LK
open PySem PySem.Spec PyProof.Rows L2 He DP
variable [HasT]

section
variable {cs : Lot} {ps : List Person}
end
end LK

set_option Elab.async false
set_option linter.all false
set_option maxRecDepth 100000
set_option maxHeartbeats 4000000
namespace LK
open PySem PySem.Spec PyProof.Rows L2 He DP
variable [HasT]

structure Slx (X : List Nat) (N : Nat) (sl : List SV) (fs : List (Nat × D)) : Prop where
  len : sl.length = N
  nf : ∀ i : Nat, i ∉ X → nfo sl[i]? = true
  at_ : ∀ x ∈ fs, sl[x.1]? = some (.val x.2)
section
variable {X : List Nat} {N : Nat} {sl : List SV} {fs : List (Nat × D)}
theorem Slx.sub {gs : List (Nat × D)} (E : Slx X N sl fs) (h : ∀ x ∈ gs, x ∈ fs) : Slx X N sl gs := ⟨E.len, E.nf, fun x hx => E.at_ x (h x hx)⟩
end
section
variable {cs : Lot} {ps : List Person}
def reachD (cs : Lot) (ps : List Person) : D := dictD (fun c : Nat => [c]) (fun c => sd (compF cs ps [c])) cs
@[simp] theorem deref_reach (hp : List Cell) : deref hp (reachD cs ps) = some (reachD cs ps) := rfl
end
end LK

set_option Elab.async false
set_option linter.all false
set_option maxRecDepth 100000
set_option maxHeartbeats 4000000
namespace LK
open PySem PySem.Spec PyProof.Rows L2 He DP
variable [HasT]

def lstL : Nat → List Lot → Lot
  | _, [] => []
  | k, t :: ts => (if k > 0 then [44, 32] else []) ++ t ++ lstL (k + 1) ts
theorem textFrom_st : ∀ (ls : List Lot) (k : Nat) (a : Lot), textFrom k (st a) (ls.map st) = st (a ++ lstL k ls)
  | [], k, a => by
    rw [List.map_nil, textFrom.eq_1, lstL, List.append_nil]
  | t :: ts, k, a => by
    rw [List.map_cons, textFrom.eq_2, lstL]
    have e : Str.ofString (if k > 0 then ", " else "") = st (if k > 0 then [44, 32] else []) := by split <;> rfl
    rw [e, st_append, st_append, textFrom_st ts (k + 1)]
    simp
theorem listText_st (ls : List Lot) : listText (ls.map st) = st (91 :: (lstL 0 ls ++ [93])) := by
  unfold listText
  have e1 : Str.ofString "[" = st [91] := rfl
  have e2 : Str.ofString "]" = st [93] := rfl
  rw [e1, e2, textFrom_st, st_append]
  simp
structure Shw (n : Nat) (d : D) (t : Lot) : Prop where
  ok : d.ok n = true
  sh : d.pd.showable = true
  is : d.pd.shown = st t
theorem pdL_map {α : Type} {f : α → D} : ∀ xs : List α, pdL (xs.map f) = xs.map fun x => (f x).pd
  | [] => by simp [pdL]
  | x :: xs => by simp [pdL, pdL_map xs]
theorem shwAll {α : Type} {f : α → D} {g : α → Lot} {n : Nat} : ∀ {xs : List α}, (∀ x ∈ xs, Shw n (f x) (g x)) → PyData.shownAll (xs.map fun x => (f x).pd) = (xs.map g).map st ∧ PyData.showableAll (xs.map fun x => (f x).pd) = true
  | [], _ => ⟨by simp [PyData.shownAll], by simp [PyData.showableAll]⟩
  | x :: xs, h => by
    obtain ⟨h1, h2⟩ := shwAll (xs := xs) fun y hy => h y (List.mem_cons_of_mem _ hy)
    have hx := h x List.mem_cons_self
    exact ⟨by simp [PyData.shownAll, h1, hx.is], by simp [PyData.showableAll, h2, hx.sh]⟩
theorem shw_lst {α : Type} {f : α → D} {g : α → Lot} {n : Nat} {xs : List α} (h : ∀ x ∈ xs, Shw n (f x) (g x)) : Shw (n + 1) (.lst (xs.map f)) (91 :: (lstL 0 (xs.map g) ++ [93])) := by
  obtain ⟨h1, h2⟩ := shwAll h
  refine ⟨?_, ?_, ?_⟩
  · simp only [D.ok, List.all_eq_true]
    intro x hx
    obtain ⟨y, hy, rfl⟩ := List.mem_map.mp hx
    exact (h y hy).ok
  · simp only [D.pd, PyData.showable, pdL_map, h2]
  · simp only [D.pd, PyData.shown, pdL_map, h1]
    exact listText_st _
theorem lstL_len (m : Nat) : ∀ (ls : List Lot) (k : Nat), (∀ l ∈ ls, l.length ≤ m) → (lstL k ls).length ≤ (m + 2) * ls.length
  | [], k, _ => by simp [lstL]
  | t :: ts, k, h => by
    have ih := lstL_len m ts (k + 1) fun l hl => h l (List.mem_cons_of_mem _ hl)
    have h0 := h t List.mem_cons_self
    simp only [lstL, List.length_append, List.length_cons]
    have : (if k > 0 then [44, 32] else [] : Lot).length ≤ 2 := by split <;> simp
    rw [Nat.mul_succ]
    omega
end LK

set_option Elab.async false
set_option linter.all false
set_option maxRecDepth 100000
set_option maxHeartbeats 4000000
namespace LK
open PySem PySem.Spec PyProof.Rows L2 He DP
variable [HasT]

section
variable {cs : Lot} {ps : List Person}
theorem lstL_chars : ∀ (ls : List Lot) (k : Nat), (∀ l ∈ ls, Chars l) → Chars (lstL k ls)
  | [], _, _ => fun c hc => by simp [lstL] at hc
  | t :: ts, k, h => fun c hc => by
    rw [lstL] at hc
    rcases List.mem_append.mp hc with hc | hc
    · rcases List.mem_append.mp hc with hc | hc
      · split at hc
        · simp at hc
          omega
        · simp at hc
      · exact h t List.mem_cons_self c hc
    · exact lstL_chars ts (k + 1) (fun l hl => h l (List.mem_cons_of_mem _ hl)) c hc
end
end LK

set_option Elab.async false
set_option linter.all false
set_option maxRecDepth 100000
set_option maxHeartbeats 4000000
namespace LK
open PySem PySem.Spec PyProof.Rows L2 He DP
variable [HasT]

end LK

set_option Elab.async false
set_option linter.all false
set_option maxRecDepth 100000
set_option maxHeartbeats 4000000
namespace LK
open PySem PySem.Spec PyProof.Rows L2 He DP
variable [HasT]

structure DrawnOk (cs : Lot) (ps : List Person) (w : Nat → Nat) (few : Nat) : Prop where
  room : RoomOk cs ps
  pos : ∀ c, 1 ≤ w c ∧ w c ≤ 20
  tell : ∀ p ∈ ps, ∀ q ∈ p.2, ByW w q
  all : few = 0 → ∀ p ∈ ps, ∀ q ∈ p.2, q.2 ≠ none
end LK

set_option Elab.async false
set_option linter.all false
set_option maxRecDepth 100000
set_option maxHeartbeats 4000000
namespace LK
open PySem PySem.Spec PyProof.Rows L2 He DP
variable [HasT]

@[simp] theorem backM_ap (f : DM D) (k : DM (Option Int)) (s : DSt) : backM f k s = (match f s with | .ok x s1 => (match k s1 with | .ok st s2 => (match revD x st with | some d => .ok d s2 | none => .stuck) | .err x s' => .err x s' | .stuck => .stuck) | .err x s' => .err x s' | .stuck => .stuck) := by
  unfold backM DP.bnd DP.lift
  cases f s with
  | ok x s1 =>
    dsimp only
    cases k s1 with
    | ok st s2 => dsimp only; cases revD x st <;> rfl
    | _ => rfl
  | _ => rfl
def Small (qs : List Rat) : Prop := ∃ W : Nat, 0 < W ∧ W ≤ 160 ∧ ∀ q ∈ qs, ∃ a : Nat, q = Rat.divInt a W ∧ a ≤ 160
def SmallP (q : Part) : Prop := ∀ qs, q.2 = some qs → Small qs
def SmallR (ps : List Person) : Prop := ∀ p ∈ ps, ∀ q ∈ p.2, SmallP q
@[simp] theorem ix_person1 (p : Person) : ixD (personD p) (.int 1) = some (viewD p.2) := rfl
@[simp] theorem ix_part1 (q : Part) : ixD (partD q) (.int 1) = some (toldD q.2) := rfl
@[simp] theorem ix_part0 (q : Part) : ixD (partD q) (.int 0) = some (sd q.1) := rfl
@[simp] theorem len_people (ps : List Person) : lenD (peopleD ps) = some (.int ps.length) := by simp [peopleD]
@[simp] theorem len_view (v : View) : lenD (viewD v) = some (.int v.length) := by simp [viewD]
end LK

set_option Elab.async false
set_option linter.all false
set_option maxRecDepth 100000
set_option maxHeartbeats 4000000
namespace LK
open PySem PySem.Spec PyProof.Rows L2 He DP
variable [HasT]

section
variable {a b : Rat} {j k : Nat}
end
end LK

set_option Elab.async false
set_option linter.all false
set_option maxRecDepth 100000
set_option maxHeartbeats 4000000
namespace LK
open PySem PySem.Spec PyProof.Rows L2 He DP
variable [HasT]

section
variable {cs : Lot} {ps : List Person}
end
theorem Shw.up {n m : Nat} {d : D} {t : Lot} (h : Shw n d t) (hb : nb d = true) (hm : n ≤ m) : Shw m d t := ⟨(Eqb.up ⟨h.ok, hb⟩ hm).ok, h.sh, h.is⟩
section
variable {cs : Lot} {ps : List Person}
end
end LK

set_option Elab.async false
set_option linter.all false
set_option maxRecDepth 100000
set_option maxHeartbeats 4000000
namespace LK
open PySem PySem.Spec PyProof.Rows L2 He DP
variable [HasT]

@[simp] theorem parVOI_ap (i j l : Nat) (fa : DM D) (fb : DM Cell) (k : Int) (s : DSt) : parVOI i j l fa fb k s = (match fa s with | .ok d s1 => (match fb s1 with | .ok c s' => .nx ⟨((s'.sl.set i (.val d)).set j (.own c)).set l (.val (.int k)), s'.hp⟩ | .err x s' => .err x s' | .stuck => .stuck) | .err x s' => .err x s' | .stuck => .stuck) := by
  unfold parVOI bndS
  cases fa s with
  | ok d s1 => dsimp only; cases fb s1 <;> rfl
  | _ => rfl
abbrev Tri := Lot × Option Rat × Lot
def triD (x : Tri) : D := .tup [sd x.1, sayD x.2.1, sd x.2.2]
structure WX where
  heard : Lot
  tri : List Tri
  silent : Nat
@[simp] theorem ix_person0 (p : Person) : ixD (personD p) (.int 0) = some (sd p.1) := rfl
section
variable {cs : Lot} {ps : List Person}
end
end LK

set_option Elab.async false
set_option linter.all false
set_option maxRecDepth 100000
set_option maxHeartbeats 4000000
namespace LK
open PySem PySem.Spec PyProof.Rows L2 He DP
variable [HasT]

def sizesX (n0 : Nat) (T : List Tri) : List Nat := n0 :: T.map fun x => x.2.2.length
def dropsX (n0 : Nat) (T : List Tri) : List Nat := (List.range T.length).filter fun k => decide ((sizesX n0 T).getD (k + 1) 0 < (sizesX n0 T).getD k 0)
def lastX (n0 : Nat) (T : List Tri) : Nat := match (dropsX n0 T).getLast? with
  | some k => k + 1
  | none => 0
def endX (n0 : Nat) (T : List Tri) : Nat := (sizesX n0 T).getD T.length 0
structure RelW (n0 : Nat) (x : WX) (s : WS) : Prop where
  heard : s.heard = x.heard
  said : s.said = x.tri.map fun t => (t.1, t.2.1)
  silent : s.silent = x.silent
  last : s.last = lastX n0 x.tri
  fin : endX n0 x.tri = x.heard.length
section
variable {cs : Lot} {ps : List Person}
def Shc (n : Nat) (d : D) (B : Nat) : Prop := ∃ t : Lot, Shw n d t ∧ Chars t ∧ t.length ≤ B
theorem Shc.up {n m : Nat} {d : D} {B : Nat} (h : Shc n d B) (hb : nb d = true) (hm : n ≤ m) {B' : Nat} (hB : B ≤ B') : Shc m d B' := by
  obtain ⟨t, h1, h2, h3⟩ := h
  exact ⟨t, h1.up hb hm, h2, by omega⟩
theorem shc_pick {α : Type} {f : α → D} {n B : Nat} {xs : List α} (h : ∀ x ∈ xs, Shc n (f x) B) : ∃ g : α → Lot, ∀ x ∈ xs, Shw n (f x) (g x) ∧ Chars (g x) ∧ (g x).length ≤ B := by
  have k : ∀ x, ∃ t : Lot, x ∈ xs → Shw n (f x) t ∧ Chars t ∧ t.length ≤ B := fun x => by
    by_cases hx : x ∈ xs
    · obtain ⟨t, ht⟩ := h x hx
      exact ⟨t, fun _ => ht⟩
    · exact ⟨[], fun z => absurd z hx⟩
  exact ⟨fun x => (k x).choose, fun x hx => (k x).choose_spec hx⟩
end
end LK

set_option Elab.async false
set_option linter.all false
set_option maxRecDepth 100000
set_option maxHeartbeats 4000000
namespace LK
open PySem PySem.Spec PyProof.Rows L2 He DP
variable [HasT]

@[simp] theorem ix_tri2 (x : Tri) : ixD (triD x) (.int 2) = some (sd x.2.2) := rfl
@[simp] theorem deref_tri (hp : List Cell) (x : Tri) : deref hp (triD x) = some (triD x) := rfl
section
variable {cs : Lot} {ps : List Person}
end
end LK

set_option Elab.async false
set_option linter.all false
set_option maxRecDepth 100000
set_option maxHeartbeats 4000000
namespace LK
open PySem PySem.Spec PyProof.Rows L2 He DP
variable [HasT]

section
variable {cs : Lot} {ps : List Person}
end
end LK

set_option Elab.async false
set_option linter.all false
set_option maxRecDepth 100000
set_option maxHeartbeats 4000000
namespace LK
open PySem PySem.Spec PyProof.Rows L2 He DP
variable [HasT]

abbrev Lnk := Nat × Lot × Nat × Rat
def lnk1 (n l : Lot) (qs : List Rat) (i : Nat) : List Lnk := ((List.range l.length).filter fun j => decide (j ≠ i)).map fun j => (l.getD i 0, n, l.getD j 0, qs.getD j 0 / qs.getD i 0)
def lnkT (n l : Lot) (qs : List Rat) : List Lnk := (List.range l.length).flatMap (lnk1 n l qs)
def lnkP (n : Lot) (q : Part) : List Lnk := match q.2 with
  | none => []
  | some qs => lnkT n q.1 qs
def linksV (n : Lot) (v : View) : List Lnk := v.flatMap (lnkP n)
def linksF (ps : List Person) : List Lnk := ps.flatMap fun p => linksV p.1 p.2

theorem getD_mem {α : Type} {xs : List α} {k : Nat} {d : α} (h : k < xs.length) : xs.getD k d ∈ xs := by
  rw [List.getD_eq_getElem?_getD, List.getElem?_eq_getElem h]
  exact List.getElem_mem h

section
variable {cs : Lot} {ps : List Person}
end
end LK

set_option Elab.async false
set_option linter.all false
set_option maxRecDepth 100000
set_option maxHeartbeats 4000000
namespace LK
open PySem PySem.Spec PyProof.Rows L2 He DP
variable [HasT]

abbrev Stp3 := Nat × Lot × Nat
def st3D (x : Stp3) : D := .tup [ch x.1, sd x.2.1, ch x.2.2]
structure WE where
  c : Nat
  path : List Stp3
  num : Rat
def weD (e : WE) : D := .tup [.tup (e.path.map st3D), fr e.num]
abbrev wKeys (ws : List WE) : List Nat := ws.map (·.c)
structure Wk where
  found : List WE
  line : List Nat
inductive Way (L : List Lnk) (c : Nat) : Nat → List Stp3 → Rat → Prop where
  | nil : Way L c c [] 1
  | snoc {x : Nat} {p : List Stp3} {q : Rat} {k : Lnk} : Way L c x p q → k ∈ L → k.1 = x → Way L c k.2.2.1 (p ++ [(x, k.2.1, k.2.2.1)]) (q * k.2.2.2)
structure LnkOk (cs : Lot) (L : List Lnk) : Prop where
  a : ∀ k ∈ L, k.1 ∈ cs
  b : ∀ k ∈ L, k.2.2.1 ∈ cs
  pos : ∀ k ∈ L, 0 < k.2.2.2
  sz : ∀ k ∈ L, Sz k.2.2.2 60
structure WkOk (L : List Lnk) (cs : Lot) (c : Nat) (s : Wk) : Prop where
  nod : (wKeys s.found).Nodup
  sub : ∀ e ∈ s.found, e.c ∈ cs
  sz : ∀ (i : Nat) (e : WE), s.found[i]? = some e → Sz e.num (60 * i + 1) ∧ 0 < e.num ∧ e.path.length ≤ i
  ln : ∀ x ∈ s.line, x ∈ wKeys s.found
  lnod : s.line.Nodup
  way : ∀ e ∈ s.found, Way L c e.c e.path e.num
  head : s.found[0]? = some ⟨c, [], 1⟩
theorem WkOk.len {L : List Lnk} {cs : Lot} {c : Nat} {s : Wk} (h : WkOk L cs c s) : s.found.length ≤ cs.length := by
  have := sub_len (l := wKeys s.found) (cs := cs) h.nod fun x hx => by
    obtain ⟨e, he, rfl⟩ := List.mem_map.mp hx
    exact h.sub e he
  simpa using this
theorem WkOk.at_ {L : List Lnk} {cs : Lot} {c : Nat} {s : Wk} (h : WkOk L cs c s) {e : WE} (he : e ∈ s.found) : Sz e.num (60 * (s.found.length - 1) + 1) ∧ 0 < e.num ∧ e.path.length < s.found.length := by
  obtain ⟨i, hi, rfl⟩ := List.getElem_of_mem he
  obtain ⟨h1, h2, h3⟩ := h.sz i _ (List.getElem?_eq_getElem hi)
  exact ⟨h1.mono (by omega), h2, by omega⟩
end LK

set_option Elab.async false
set_option linter.all false
set_option maxRecDepth 100000
set_option maxHeartbeats 4000000
namespace LK
open PySem PySem.Spec PyProof.Rows L2 He DP
variable [HasT]

@[simp] theorem dispC_ap (fk fv : DM D) (s : DSt) : dispC fk fv s = (match fk s with
  | .ok k s1 => (match fv s1 with
    | .ok v s2 => (match k.key with
      | some kk => .ok (.dk [kk] [v]) s2
      | none => .stuck)
    | _ => .stuck)
  | _ => .stuck) := rfl
@[simp] theorem valsC_ap (f : DM D) (s : DSt) : valsC f s = (match f s with | .ok d s1 => (match valsN d with | some c => .ok c s1 | none => .stuck) | .err x s' => .err x s' | .stuck => .stuck) := by
  unfold valsC DP.bnd DP.lift
  cases f s with
  | ok x s' => dsimp only; cases valsN x <;> rfl
  | _ => rfl
@[simp] theorem augS_ap (i : Nat) (g : Int → Int → Int) (f : DM D) (sl : List SV) (hp : List Cell) : augS i g f ⟨sl, hp⟩ = (match sl[i]? with
  | some (.val (.int k)) => (match f ⟨sl, hp⟩ with
    | .ok (.int j) s1 => .nx ⟨s1.sl.set i (.val (.int (g k j))), s1.hp⟩
    | .ok _ _ => .stuck
    | .err x s' => .err x s' | .stuck => .stuck)
  | _ => .stuck) := by
  unfold augS bndS
  dsimp only
  cases sl[i]? with
  | none => rfl
  | some x =>
    cases x with
    | val d =>
      cases d with
      | int k =>
        dsimp only
        cases f ⟨sl, hp⟩ with
        | ok d s1 => cases d <;> rfl
        | _ => rfl
      | _ => rfl
    | _ => rfl
@[simp] theorem key_ch (c : Nat) : (ch c).key = some (nameK [c]) := rfl
@[simp] theorem deref_we (hp : List Cell) (e : WE) : deref hp (weD e) = some (weD e) := rfl
end LK

set_option Elab.async false
set_option linter.all false
set_option maxRecDepth 100000
set_option maxHeartbeats 4000000
namespace LK
open PySem PySem.Spec PyProof.Rows L2 He DP
variable [HasT]

section
variable {cs : Lot} {ps : List Person}
theorem mem_linksF {k : Lnk} : k ∈ linksF ps ↔ ∃ p ∈ ps, ∃ q ∈ p.2, ∃ qs, q.2 = some qs ∧ ∃ i j, i < q.1.length ∧ j < q.1.length ∧ j ≠ i ∧ k = (q.1.getD i 0, p.1, q.1.getD j 0, qs.getD j 0 / qs.getD i 0) := by
  unfold linksF linksV
  simp only [List.mem_flatMap]
  constructor
  · rintro ⟨p, hp, q, hq, hk⟩
    unfold lnkP at hk
    split at hk
    · simp at hk
    · rename_i qs e
      unfold lnkT at hk
      obtain ⟨i, hi, hk⟩ := List.mem_flatMap.mp hk
      unfold lnk1 at hk
      obtain ⟨j, hj, rfl⟩ := List.mem_map.mp hk
      obtain ⟨hj1, hj2⟩ := List.mem_filter.mp hj
      exact ⟨p, hp, q, hq, qs, e, i, j, by simpa using hi, by simpa using hj1, by simpa using hj2, rfl⟩
  · rintro ⟨p, hp, q, hq, qs, e, i, j, hi, hj, hne, rfl⟩
    refine ⟨p, hp, q, hq, ?_⟩
    unfold lnkP
    rw [e]
    exact List.mem_flatMap.mpr ⟨i, by simpa using hi, List.mem_map.mpr ⟨j, List.mem_filter.mpr ⟨by simpa using hj, by simpa using hne⟩, rfl⟩⟩
theorem links_ok (R : RoomOk cs ps) : LnkOk cs (linksF ps) := by
  refine ⟨fun k hk => ?_, fun k hk => ?_, fun k hk => ?_, fun k hk => ?_⟩ <;> obtain ⟨p, hp, q, hq, qs, e, i, j, hi, hj, hne, rfl⟩ := mem_linksF.mp hk
  · exact ((R.view hp).part q hq).sub _ (getD_mem hi)
  · exact ((R.view hp).part q hq).sub _ (getD_mem hj)
  · have T := ((R.view hp).part q hq).told qs e
    have hi' : i < qs.length := by rw [T.len]; exact hi
    have hj' : j < qs.length := by rw [T.len]; exact hj
    show 0 < qs.getD j 0 / qs.getD i 0
    rw [Rat.div_def]
    exact Rat.mul_pos (T.pos _ (getD_mem hj')) (Rat.inv_pos.mpr (T.pos _ (getD_mem hi')))
  · have T := ((R.view hp).part q hq).told qs e
    have hi' : i < qs.length := by rw [T.len]; exact hi
    have hj' : j < qs.length := by rw [T.len]; exact hj
    exact sz_div (T.sz (getD_mem hj')) (T.sz (getD_mem hi')) (T.pos _ (getD_mem hi'))
def Cn (ps : List Person) (c x : Nat) : Prop := ∃ p q, Way (linksF ps) c x p q
theorem Cn.refl (ps : List Person) (c : Nat) : Cn ps c c := ⟨_, _, .nil⟩
theorem Cn.snoc {c x : Nat} {k : Lnk} (h : Cn ps c x) (hk : k ∈ linksF ps) (e : k.1 = x) : Cn ps c k.2.2.1 := let ⟨_, _, w⟩ := h; ⟨_, _, w.snoc hk e⟩
theorem Cn.trans {a b c : Nat} (h : Cn ps a b) (h' : Cn ps b c) : Cn ps a c := by
  obtain ⟨p, q, w⟩ := h'
  induction w with
  | nil => exact h
  | snoc w hk e ih => exact ih.snoc hk e
theorem link_back {k : Lnk} (h : k ∈ linksF ps) : (k.2.2.1, k.2.1, k.1, k.2.2.2⁻¹) ∈ linksF ps := by
  obtain ⟨p, hp, q, hq, qs, e, i, j, hi, hj, hne, rfl⟩ := mem_linksF.mp h
  refine mem_linksF.mpr ⟨p, hp, q, hq, qs, e, j, i, hj, hi, fun z => hne z.symm, ?_⟩
  have : (qs.getD j 0 / qs.getD i 0)⁻¹ = qs.getD i 0 / qs.getD j 0 := by
    rw [Rat.div_def, Rat.div_def, Rat.inv_mul_rev, Rat.inv_inv]
  rw [← this]
theorem Cn.symm {a b : Nat} (h : Cn ps a b) : Cn ps b a := by
  obtain ⟨p, q, w⟩ := h
  induction w with
  | nil => exact Cn.refl _ _
  | snoc w hk e ih =>
    have h1 : Cn ps _ _ := (Cn.refl ps _).snoc (link_back hk) rfl
    rw [e] at h1
    exact h1.trans ih
theorem Cn.sub (R : RoomOk cs ps) {a b : Nat} (ha : a ∈ cs) (h : Cn ps a b) : b ∈ cs := by
  obtain ⟨p, q, w⟩ := h
  induction w with
  | nil => exact ha
  | snoc w hk e ih => exact (links_ok R).b _ hk
theorem Cn.part (R : RoomOk cs ps) {p : Person} (hp : p ∈ ps) {q : Part} (hq : q ∈ p.2) (ht : q.2 ≠ none) {a b : Nat} (ha : a ∈ q.1) (hb : b ∈ q.1) : Cn ps a b := by
  by_cases e : a = b
  · subst e; exact Cn.refl _ _
  · cases hq2 : q.2 with
    | none => exact absurd hq2 ht
    | some qs =>
      obtain ⟨i, hi, rfl⟩ := List.getElem_of_mem ha
      obtain ⟨j, hj, rfl⟩ := List.getElem_of_mem hb
      have := (Cn.refl ps (q.1[i])).snoc (k := (q.1.getD i 0, p.1, q.1.getD j 0, qs.getD j 0 / qs.getD i 0)) (mem_linksF.mpr ⟨p, hp, q, hq, qs, hq2, i, j, hi, hj, fun z => e (by subst z; rfl), rfl⟩) (by simp [List.getD_eq_getElem?_getD, List.getElem?_eq_getElem hi])
      simpa [List.getD_eq_getElem?_getD, List.getElem?_eq_getElem hj] using this
theorem Cn.least {S : Nat → Prop} (hs : ∀ p ∈ ps, ∀ q ∈ p.2, q.2 ≠ none → ∀ a ∈ q.1, ∀ b ∈ q.1, S a → S b) {c x : Nat} (h0 : S c) (h : Cn ps c x) : S x := by
  obtain ⟨p, q, w⟩ := h
  induction w with
  | nil => exact h0
  | snoc w hk e ih =>
    obtain ⟨p, hp, q, hq, qs, e2, i, j, hi, hj, hne, rfl⟩ := mem_linksF.mp hk
    refine hs p hp q hq (by rw [e2]; exact fun z => by cases z) (q.1.getD i 0) (getD_mem hi) _ (getD_mem hj) ?_
    rw [show q.1.getD i 0 = _ from e]
    exact ih
noncomputable def pieceF (cs : Lot) (ps : List Person) (c : Nat) : Lot := cs.filter fun x => @decide (Cn ps c x) (Classical.propDecidable _)
theorem mem_piece {c x : Nat} : x ∈ pieceF cs ps c ↔ x ∈ cs ∧ Cn ps c x := by
  unfold pieceF
  rw [List.mem_filter]
  simp
theorem piece_ok (hc : CasesOk cs) (c : Nat) : LotOk cs (pieceF cs ps c) := hc.lot.filter _
noncomputable def isHead (cs : Lot) (ps : List Person) (c : Nat) : Bool := @decide (∀ x ∈ cs, Cn ps c x → c ≤ x) (Classical.propDecidable _)
noncomputable def headsF (cs : Lot) (ps : List Person) : Lot := cs.filter (isHead cs ps)
end
end LK

set_option Elab.async false
set_option linter.all false
set_option maxRecDepth 100000
set_option maxHeartbeats 4000000
namespace LK
open PySem PySem.Spec PyProof.Rows L2 He DP
variable [HasT]

section
variable {cs : Lot} {ps : List Person}
end
end LK

set_option Elab.async false
set_option linter.all false
set_option maxRecDepth 100000
set_option maxHeartbeats 4000000
namespace LK
open PySem PySem.Spec PyProof.Rows L2 He DP
variable [HasT]

section
open PySem.StrLaws PySem.Builtin.Str
end
abbrev Ln3 := Lot × Nat × Rat
section
variable {cs : Lot} {ps : List Person}
def Tld (ps : List Person) (x o : Nat) : Prop := ∃ p ∈ ps, ∃ q ∈ p.2, q.2 ≠ none ∧ x ∈ q.1 ∧ o ∈ q.1
theorem Tld.cn (R : RoomOk cs ps) {x o : Nat} (h : Tld ps x o) : Cn ps x o := by
  obtain ⟨p, hp, q, hq, ht, hx, ho⟩ := h
  exact Cn.part R hp hq ht hx ho
theorem Tld.sub (R : RoomOk cs ps) {x o : Nat} (h : Tld ps x o) : o ∈ cs := by
  obtain ⟨p, hp, q, hq, ht, hx, ho⟩ := h
  exact ((R.view hp).part q hq).sub o ho
structure CmOk (cs : Lot) (ps : List Person) (c : Nat) (f : List Nat) : Prop where
  nod : f.Nodup
  has : c ∈ f
  sub : ∀ x ∈ f, x ∈ cs ∧ Cn ps c x
end
end LK

set_option Elab.async false
set_option linter.all false
set_option maxRecDepth 100000
set_option maxHeartbeats 4000000
namespace LK
open PySem PySem.Spec PyProof.Rows L2 He DP
variable [HasT]

@[simp] theorem copyL_sl (i : Nat) (sl : List SV) (hp : List Cell) : copyL (slM i) ⟨sl, hp⟩ = (match sl[i]? with
  | some (.val d) => (match deref hp d with | some (.lst xs) => .ok (.lst xs) ⟨sl, hp⟩ | _ => .stuck)
  | some (.own (.lst xs)) => .ok (.lst xs) ⟨sl, hp⟩
  | _ => .stuck) := by
  unfold copyL DP.bnd slM
  dsimp only
  cases e : sl[i]? with
  | none => simp [e]
  | some v =>
    cases v with
    | un => simp [e]
    | val d => simp [e, readP] <;> rfl
    | own c => cases c <;> simp [e, readP, Cell.frz]
section
variable {cs : Lot} {ps : List Person}
end
end LK

set_option Elab.async false
set_option linter.all false
set_option maxRecDepth 100000
set_option maxHeartbeats 4000000
namespace LK
open PySem PySem.Spec PyProof.Rows L2 He DP
variable [HasT]

section
variable {cs : Lot} {ps : List Person}
end
end LK

set_option Elab.async false
set_option linter.all false
set_option maxRecDepth 100000
set_option maxHeartbeats 4000000
namespace LK
open PySem PySem.Spec PyProof.Rows L2 He DP
variable [HasT]

def Fit (ps : List Person) (W : Nat → Rat) : Prop := ∀ k ∈ linksF ps, W k.2.2.1 = W k.1 * k.2.2.2
def Sound (ps : List Person) : Prop := ∃ W : Nat → Rat, (∀ c, 0 < W c) ∧ Fit ps W
section
variable {cs : Lot} {ps : List Person}
end
end LK

set_option Elab.async false
set_option linter.all false
set_option maxRecDepth 100000
set_option maxHeartbeats 4000000
namespace LK
open PySem PySem.Spec PyProof.Rows L2 He DP
variable [HasT]

section
variable {cs : Lot} {ps : List Person}
end
end LK

set_option Elab.async false
set_option linter.all false
set_option maxRecDepth 100000
set_option maxHeartbeats 4000000
namespace LK
open PySem PySem.Spec PyProof.Rows L2 He DP
variable [HasT]

structure RatB (D M : Nat) (f : Nat → Rat) : Prop where
  pos : 0 < D
  at_ : ∀ x, ∃ a : Nat, f x = Rat.divInt (a : Nat) (D : Nat) ∧ a ≤ M
theorem divB_sz {a D : Nat} {k : Nat} (hD : 0 < D) (ha : a < 2 ^ k) (hD2 : D < 2 ^ k) : Sz (Rat.divInt (a : Nat) (D : Nat)) k :=
  sz_divInt (by omega) (show ((a : Int)).natAbs < 2 ^ k by simpa using ha) (show ((D : Int)).natAbs < 2 ^ k by simpa using hD2)
theorem RatB.sz {D M : Nat} {f : Nat → Rat} (h : RatB D M f) {k : Nat} (hD : D < 2 ^ k) (hM : M < 2 ^ k) (x : Nat) : Sz (f x) k := by
  obtain ⟨a, e, ha⟩ := h.at_ x
  rw [e]
  exact divB_sz h.pos (Nat.lt_of_le_of_lt ha hM) hD
theorem RatB.mono {D M N : Nat} {f : Nat → Rat} (h : RatB D M f) (hm : M ≤ N) : RatB D N f := ⟨h.pos, fun x => let ⟨a, e, ha⟩ := h.at_ x; ⟨a, e, Nat.le_trans ha hm⟩⟩
theorem divInt_add_same (a b D : Nat) : Rat.divInt (a : Nat) (D : Nat) + Rat.divInt (b : Nat) (D : Nat) = Rat.divInt ((a + b : Nat) : Int) (D : Nat) := by
  rw [Rat.divInt_eq_div, Rat.divInt_eq_div, Rat.divInt_eq_div, Rat.div_def, Rat.div_def, Rat.div_def, ← Rat.add_mul]
  push_cast
  rfl
theorem divInt_up (a D r : Nat) (hr : 0 < r) : Rat.divInt (a : Nat) (D : Nat) = Rat.divInt ((a * r : Nat) : Int) ((D * r : Nat) : Int) := by
  have := Rat.divInt_mul_right (n := (a : Int)) (d := (D : Int)) (a := (r : Int)) (by omega)
  push_cast
  exact this.symm
theorem divInt_times (a b D W : Nat) (hD : 0 < D) (hW : 0 < W) : Rat.divInt (a : Nat) (D : Nat) * Rat.divInt (b : Nat) (W : Nat) = Rat.divInt ((a * b : Nat) : Int) ((D * W : Nat) : Int) := by
  have := Rat.divInt_mul_divInt (a : Int) (b : Int) (d₁ := (D : Int)) (d₂ := (W : Int))
  push_cast
  exact this
def updF (f : Nat → Rat) (o : Nat) (q : Rat) : Nat → Rat := fun x => if x = o then q else f x
section
variable {cs : Lot} {ps : List Person}
end
end LK

set_option Elab.async false
set_option linter.all false
set_option maxRecDepth 100000
set_option maxHeartbeats 4000000
namespace LK
open PySem PySem.Spec PyProof.Rows L2 He DP
variable [HasT]

structure DrawOk (D D0 M0 T : Nat) (num : Rat) (zs : List (Nat × Rat)) : Prop where
  num0 : ∃ a : Nat, num = Rat.divInt (a : Nat) (D0 : Nat) ∧ a ≤ M0
  pos : 0 < D0
  term : ∀ z ∈ zs, ∃ y : Nat, num * z.2 = Rat.divInt (y : Nat) (D : Nat) ∧ y ≤ T
  sz : ∀ z ∈ zs, Sz z.2 30
theorem RatB.one {D M T : Nat} {f : Nat → Rat} (h : RatB D M f) {n t : Rat} (ht : ∃ y : Nat, n * t = Rat.divInt (y : Nat) (D : Nat) ∧ y ≤ T) (o : Nat) : RatB D (M + T) (updF f o (f o + n * t)) := by
  obtain ⟨y, ey, hy⟩ := ht
  refine ⟨h.pos, fun x => ?_⟩
  unfold updF
  split
  · obtain ⟨z, ez, hz⟩ := h.at_ o
    exact ⟨z + y, by rw [ez, ey, divInt_add_same], by omega⟩
  · obtain ⟨z, ez, hz⟩ := h.at_ x
    exact ⟨z, ez, by omega⟩
section
variable {cs : Lot} {ps : List Person}
end
end LK

set_option Elab.async false
set_option linter.all false
set_option maxRecDepth 100000
set_option maxHeartbeats 4000000
namespace LK
open PySem PySem.Spec PyProof.Rows L2 He DP
variable [HasT]

section
variable {cs : Lot} {ps : List Person}
end
end LK

set_option Elab.async false
set_option linter.all false
set_option maxRecDepth 100000
set_option maxHeartbeats 4000000
namespace LK
open PySem PySem.Spec PyProof.Rows L2 He DP
variable [HasT]

section
variable {cs : Lot} {ps : List Person}
variable {a b : Rat} {j k : Nat}
end
end LK

set_option Elab.async false
set_option linter.all false
set_option maxRecDepth 100000
set_option maxHeartbeats 4000000
namespace LK
open PySem PySem.Spec PyProof.Rows L2 He DP
variable [HasT]

section
variable {cs : Lot} {ps : List Person}
end
end LK

set_option Elab.async false
set_option linter.all false
set_option maxRecDepth 100000
set_option maxHeartbeats 4000000
namespace LK
open PySem PySem.Spec PyProof.Rows L2 He DP
variable [HasT]

end LK

set_option Elab.async false
set_option linter.all false
set_option maxRecDepth 100000
set_option maxHeartbeats 4000000
namespace LK
open PySem PySem.Spec PyProof.Rows L2 He DP
variable [HasT]

section
variable {cs : Lot} {ps : List Person}
structure GrpOk (cs : Lot) (ps : List Person) (T : List Part) (G : Nat → Lot) : Prop where
  own : ∀ c ∈ cs, c ∈ G c ∧ LotOk cs (G c)
  same : ∀ c ∈ cs, ∀ x ∈ G c, G x = G c
  cn : ∀ c ∈ cs, ∀ x ∈ G c, Cn ps c x
  done : ∀ q ∈ T, q.2 ≠ none → ∀ a ∈ q.1, ∀ b ∈ q.1, b ∈ G a
theorem GrpOk.fin (R : RoomOk cs ps) {T : List Part} {G : Nat → Lot} (h : GrpOk cs ps T G) (hT : ∀ p ∈ ps, ∀ q ∈ p.2, q ∈ T) : ∀ c ∈ cs, G c = pieceF cs ps c := fun c hc => by
  refine lot_ext (h.own c hc).2 (piece_ok R.cs c) fun x => ?_
  rw [mem_piece]
  constructor
  · intro hx
    exact ⟨(h.own c hc).2.sub x hx, h.cn c hc x hx⟩
  · rintro ⟨_, hx⟩
    refine Cn.least (S := fun x => x ∈ G c) (fun p hp q hq ht a ha b hb hs => ?_) (h.own c hc).1 hx
    have := h.done q (hT p hp q hq) ht a ha b hb
    rw [h.same c hc a hs] at this
    exact this

end
end LK

set_option Elab.async false
set_option linter.all false
set_option maxRecDepth 100000
set_option maxHeartbeats 4000000
namespace LK
open PySem PySem.Spec PyProof.Rows L2 He DP
variable [HasT]
section
variable {cs : Lot} {ps : List Person}
theorem divInt_div (a b : Int) : Rat.divInt a b = (a : Rat) / (b : Rat) := Rat.divInt_eq_div a b
end
end LK

set_option Elab.async false
set_option linter.all false
set_option maxRecDepth 100000
set_option maxHeartbeats 4000000
namespace LK
open PySem PySem.Spec PyProof.Rows L2 He DP
variable [HasT]
section
variable {cs : Lot} {ps : List Person}
end
end LK

set_option Elab.async false
set_option linter.all false
set_option maxRecDepth 100000
set_option maxHeartbeats 4000000
namespace LK
open PySem PySem.Spec PyProof.Rows L2 He DP
variable [HasT]
section
variable {cs : Lot} {ps : List Person}
end
end LK

set_option Elab.async false
set_option linter.all false
set_option maxRecDepth 100000
set_option maxHeartbeats 4000000
namespace LK
open PySem PySem.Spec PyProof.Rows L2 He DP
variable [HasT]
section
variable {cs : Lot} {ps : List Person}
end
end LK

set_option Elab.async false
set_option linter.all false
set_option maxRecDepth 100000
set_option maxHeartbeats 4000000
namespace LK
open PySem PySem.Spec PyProof.Rows L2 He DP
variable [HasT]
section
variable {cs : Lot} {ps : List Person}
theorem lotD_mem {l : Lot} {i : Nat} (h : i < l.length) : l.getD i 0 ∈ l := by
  rw [List.getD_eq_getElem?_getD, List.getElem?_eq_getElem h]
  exact List.getElem_mem h
theorem tell_pos {n : Nat} {qs : List Rat} (h : TellOk n qs) {i : Nat} (hi : i < n) : 0 < qs.getD i 0 := by
  have := h.len
  exact h.pos _ (by rw [List.getD_eq_getElem?_getD, List.getElem?_eq_getElem (by omega)]; exact List.getElem_mem _)
def Cns (V : Nat → Rat) (l : Lot) (qs : List Rat) : Prop := ∀ i j, i < l.length → j < l.length → V (l.getD j 0) * qs.getD i 0 = V (l.getD i 0) * qs.getD j 0
theorem ne_of_pos {a : Rat} (h : 0 < a) : a ≠ 0 := fun z => by rw [z] at h; exact absurd h (by decide)
theorem cns_fit (R : RoomOk cs ps) {W : Nat → Rat} (hW : Fit ps W) {p : Person} (hp : p ∈ ps) {q : Part} (hq : q ∈ p.2) {qs : List Rat} (e : q.2 = some qs) : Cns W q.1 qs := fun i j hi hj => by
  by_cases h : j = i
  · subst h; rfl
  · have T := ((R.view hp).part q hq).told qs e
    have := hW _ (mem_linksF.mpr ⟨p, hp, q, hq, qs, e, i, j, hi, hj, h, rfl⟩)
    dsimp only at this
    rw [this, Rat.div_def]
    have h1 := Rat.mul_inv_cancel _ (ne_of_pos (tell_pos T hi))
    generalize (qs.getD i 0)⁻¹ = z at *
    grind
abbrev KS := Lot × (Nat → Rat)
structure Kn (cs : Lot) (ps : List Person) (h : Nat) (s : KS) : Prop where
  nd : s.1.Nodup
  sub : ∀ c ∈ s.1, c ∈ cs ∧ Cn ps h c
  hd : h ∈ s.1
  bd : ∃ D : Nat, 0 < D ∧ D ≤ 160 ^ s.1.length ∧ ∀ c ∈ s.1, ∃ n : Nat, 0 < n ∧ n ≤ 160 ^ s.1.length ∧ s.2 c = Rat.divInt (n : Nat) (D : Nat)
  fit : ∀ W : Nat → Rat, (∀ c, 0 < W c) → Fit ps W → ∀ c ∈ s.1, W c = W h * s.2 c
theorem Kn.len (R : RoomOk cs ps) {h : Nat} {s : KS} (K : Kn cs ps h s) : s.1.length ≤ 8 := by
  have := sub_len K.nd (fun c hc => (K.sub c hc).1)
  have := R.cs.most
  omega
theorem pow_8 {n : Nat} (h : n ≤ 8) : 160 ^ n ≤ 4294967296000000000 := Nat.le_trans (Nat.pow_le_pow_right (by decide) h) (by decide)
theorem Kn.pos (R : RoomOk cs ps) {h : Nat} {s : KS} (K : Kn cs ps h s) {c : Nat} (hc : c ∈ s.1) : 0 < s.2 c := by
  obtain ⟨D, h0, h1, h2⟩ := K.bd
  obtain ⟨n, n0, n1, e⟩ := h2 c hc
  rw [e, divInt_div, Rat.div_def]
  have a : (0 : Rat) < ((n : Int) : Rat) := by exact_mod_cast n0
  have b : (0 : Rat) < ((D : Int) : Rat) := by exact_mod_cast h0
  exact Rat.mul_pos a (Rat.inv_pos.mpr b)
theorem Kn.sz (R : RoomOk cs ps) {h : Nat} {s : KS} (K : Kn cs ps h s) {c : Nat} (hc : c ∈ s.1) : Sz (s.2 c) 62 := by
  obtain ⟨D, h0, h1, h2⟩ := K.bd
  obtain ⟨n, n0, n1, e⟩ := h2 c hc
  have := pow_8 (K.len R)
  rw [e]
  exact sz_divInt (by omega) (show ((n : Nat) : Int).natAbs < 2 ^ 62 by omega) (show ((D : Nat) : Int).natAbs < 2 ^ 62 by omega)
def kSet (s : KS) (c : Nat) (v : Rat) : KS := (s.1 ++ [c], fun x => if x = c then v else s.2 x)
def Ext (s s' : KS) : Prop := ∀ c ∈ s.1, c ∈ s'.1 ∧ s'.2 c = s.2 c
theorem Ext.refl (s : KS) : Ext s s := fun c hc => ⟨hc, rfl⟩
theorem Ext.trans {a b c : KS} (h : Ext a b) (h' : Ext b c) : Ext a c := fun x hx => ⟨(h' x (h x hx).1).1, by rw [(h' x (h x hx).1).2, (h x hx).2]⟩
theorem small_ratio {n : Nat} {qs : List Rat} (hS : Small qs) (T : TellOk n qs) {i k : Nat} (hi : i < n) (hk : k < n) : ∃ a b : Nat, 0 < a ∧ a ≤ 160 ∧ 0 < b ∧ b ≤ 160 ∧ qs.getD k 0 / qs.getD i 0 = Rat.divInt (b : Nat) (a : Nat) := by
  obtain ⟨W, W0, W1, hq⟩ := hS
  have len := T.len
  have mi : qs.getD i 0 ∈ qs := by rw [List.getD_eq_getElem?_getD, List.getElem?_eq_getElem (by omega)]; exact List.getElem_mem _
  have mk : qs.getD k 0 ∈ qs := by rw [List.getD_eq_getElem?_getD, List.getElem?_eq_getElem (by omega)]; exact List.getElem_mem _
  obtain ⟨a, ea, ha⟩ := hq _ mi
  obtain ⟨b, eb, hb⟩ := hq _ mk
  have pi := tell_pos T hi
  have pk := tell_pos T hk
  have a0 : a ≠ 0 := fun z => by
    rw [ea, z] at pi
    exact absurd pi (by simp)
  have b0 : b ≠ 0 := fun z => by
    rw [eb, z] at pk
    exact absurd pk (by simp)
  refine ⟨a, b, by omega, ha, by omega, hb, ?_⟩
  have w0 : ((W : Int) : Rat) ≠ 0 := ne_of_pos (by exact_mod_cast W0)
  have a1 : ((a : Int) : Rat) ≠ 0 := ne_of_pos (by exact_mod_cast (by omega : 0 < a))
  rw [ea, eb, divInt_div, divInt_div, divInt_div, Rat.div_def, Rat.div_def, Rat.div_def, Rat.div_def, Rat.inv_mul_rev, Rat.inv_inv]
  have h1 := Rat.mul_inv_cancel _ w0
  generalize ((W : Int) : Rat)⁻¹ = z at *
  generalize ((a : Int) : Rat)⁻¹ = y at *
  grind
theorem Kn.add (R : RoomOk cs ps) (hS : SmallR ps) {h : Nat} {s : KS} (K : Kn cs ps h s) {p : Person} (hp : p ∈ ps) {q : Part} (hq : q ∈ p.2) {qs : List Rat} (e : q.2 = some qs) {i k : Nat} (hi : i < q.1.length) (hk : k < q.1.length) (mi : q.1.getD i 0 ∈ s.1) (mk : q.1.getD k 0 ∉ s.1) : Kn cs ps h (kSet s (q.1.getD k 0) (s.2 (q.1.getD i 0) / qs.getD i 0 * qs.getD k 0)) := by
  have T := ((R.view hp).part q hq).told qs e
  obtain ⟨a, b, a0, a1, b0, b1, er⟩ := small_ratio (hS p hp q hq qs e) T hi hk
  have cn : Cn ps (q.1.getD i 0) (q.1.getD k 0) := Cn.part R hp hq (by rw [e]; simp) (lotD_mem hi) (lotD_mem hk)
  have cm : q.1.getD k 0 ∈ cs := ((R.view hp).part q hq).sub _ (lotD_mem hk)
  have ev : s.2 (q.1.getD i 0) / qs.getD i 0 * qs.getD k 0 = s.2 (q.1.getD i 0) * Rat.divInt (b : Nat) (a : Nat) := by
    rw [← er, Rat.div_def, Rat.div_def]
    grind
  refine ⟨?_, ?_, List.mem_append_left _ K.hd, ?_, ?_⟩
  · show (s.1 ++ [q.1.getD k 0]).Nodup
    rw [List.nodup_append]
    exact ⟨K.nd, by simp, fun x hx y hy => by rw [List.mem_singleton.mp hy]; intro z; exact mk (by rw [← z]; exact hx)⟩
  · intro c hc
    rcases List.mem_append.mp hc with hc | hc
    · exact K.sub c hc
    · rw [List.mem_singleton.mp hc]
      exact ⟨cm, (K.sub _ mi).2.trans cn⟩
  · obtain ⟨D, h0, h1, h2⟩ := K.bd
    have hl : (kSet s (q.1.getD k 0) (s.2 (q.1.getD i 0) / qs.getD i 0 * qs.getD k 0)).1.length = s.1.length + 1 := by simp [kSet]
    rw [hl, Nat.pow_succ]
    refine ⟨D * a, Nat.mul_pos h0 a0, Nat.mul_le_mul h1 a1, fun c hc => ?_⟩
    have D1 : ((D : Int) : Rat) ≠ 0 := ne_of_pos (by exact_mod_cast h0)
    have A1 : ((a : Int) : Rat) ≠ 0 := ne_of_pos (by exact_mod_cast a0)
    by_cases z : c = q.1.getD k 0
    · obtain ⟨n, n0, n1, en⟩ := h2 _ mi
      refine ⟨n * b, Nat.mul_pos n0 b0, Nat.mul_le_mul n1 b1, ?_⟩
      show (if c = q.1.getD k 0 then _ else _) = _
      rw [if_pos z, ev, en, Rat.divInt_mul_divInt]
      push_cast
      rfl
    · have hc' : c ∈ s.1 := by
        rcases List.mem_append.mp hc with hc | hc
        · exact hc
        · exact absurd (List.mem_singleton.mp hc) z
      obtain ⟨n, n0, n1, en⟩ := h2 _ hc'
      refine ⟨n * a, Nat.mul_pos n0 a0, Nat.mul_le_mul n1 a1, ?_⟩
      show (if c = q.1.getD k 0 then _ else _) = _
      rw [if_neg z, en]
      push_cast
      exact (Rat.divInt_mul_right (by omega)).symm
  · intro W hW hF c hc
    by_cases z : c = q.1.getD k 0
    · show W c = W h * (if c = q.1.getD k 0 then _ else _)
      rw [if_pos z, z]
      have f1 := K.fit W hW hF _ mi
      have c := cns_fit R hF hp hq e i k hi hk
      have h1 := Rat.mul_inv_cancel _ (ne_of_pos (tell_pos T hi))
      rw [Rat.div_def]
      rw [f1] at c
      generalize (qs.getD i 0)⁻¹ = z at *
      grind
    · have hc' : c ∈ s.1 := by
        rcases List.mem_append.mp hc with hc | hc
        · exact hc
        · exact absurd (List.mem_singleton.mp hc) z
      show W c = W h * (if c = q.1.getD k 0 then _ else _)
      rw [if_neg z]
      exact K.fit W hW hF c hc'
def KClo (ps : List Person) (s : KS) : Prop := ∀ p ∈ ps, ∀ q ∈ p.2, ∀ qs, q.2 = some qs → (∃ c ∈ q.1, c ∈ s.1) → (∀ c ∈ q.1, c ∈ s.1) ∧ Cns s.2 q.1 qs
end
end LK

set_option Elab.async false
set_option linter.all false
set_option maxRecDepth 100000
set_option maxHeartbeats 4000000
namespace LK
open PySem PySem.Spec PyProof.Rows L2 He DP
variable [HasT]
def kC (s : KS) : Cell := .dk (s.1.map fun c => nameK [c]) (s.1.map fun c => fr (s.2 c))
section
variable {X : List Nat} {N : Nat} {sl : List SV} {fs : List (Nat × D)}
end
section
variable {cs : Lot} {ps : List Person}
def Out (cs : Lot) (ps : List Person) (h : Nat) (F : Cell) (fs : List (Nat × D)) (hp : List Cell) (r : RS) (s : KS) (Q : KS → Prop) : Prop :=
  (∃ st, r = .rt .non st ∧ st.hp = hp ∧ ¬ Sound ps) ∨ ∃ sl' s', r = .nx ⟨sl', hp⟩ ∧ Kn cs ps h s' ∧ Ext s s' ∧ (KClo ps s → ∀ c ∈ s'.1, c ∈ s.1) ∧ sl'[4]? = some (.own (kC s')) ∧ sl'[2]? = some (.own F) ∧ Slx [2, 4] 16 sl' fs ∧ Q s'
end
end LK

set_option Elab.async false
set_option linter.all false
set_option maxRecDepth 100000
set_option maxHeartbeats 4000000
namespace LK
open PySem PySem.Spec PyProof.Rows L2 He DP
variable [HasT]
section
variable {cs : Lot} {ps : List Person}
theorem Out.sub {h : Nat} {F : Cell} {fs gs : List (Nat × D)} {hp : List Cell} {r : RS} {s : KS} {Q Q' : KS → Prop} (o : Out cs ps h F fs hp r s Q) (hg : ∀ x ∈ gs, x ∈ fs) (hq : ∀ s', Kn cs ps h s' → Ext s s' → Q s' → Q' s') : Out cs ps h F gs hp r s Q' := by
  rcases o with ⟨st, e, e2, ns⟩ | ⟨sl', s', e, K', X', cl, h4', h2', S', q⟩
  · exact .inl ⟨st, e, e2, ns⟩
  · exact .inr ⟨sl', s', e, K', X', cl, h4', h2', S'.sub hg, hq s' K' X' q⟩
end
end LK

set_option Elab.async false
set_option linter.all false
set_option maxRecDepth 100000
set_option maxHeartbeats 4000000
namespace LK
open PySem PySem.Spec PyProof.Rows L2 He DP
variable [HasT]
section
variable {cs : Lot} {ps : List Person}
end
end LK

set_option Elab.async false
set_option linter.all false
set_option maxRecDepth 100000
set_option maxHeartbeats 4000000
namespace LK
open PySem PySem.Spec PyProof.Rows L2 He DP
variable [HasT]
section
variable {cs : Lot} {ps : List Person}
end
end LK

set_option Elab.async false
set_option linter.all false
set_option maxRecDepth 100000
set_option maxHeartbeats 4000000
namespace LK
open PySem PySem.Spec PyProof.Rows L2 He DP
variable [HasT]
section
variable {cs : Lot} {ps : List Person}
end
end LK

set_option Elab.async false
set_option linter.all false
set_option maxRecDepth 100000
set_option maxHeartbeats 4000000
namespace LK
open PySem PySem.Spec PyProof.Rows L2 He DP
variable [HasT]
def stp (k : Lnk) : Stp3 := (k.1, k.2.1, k.2.2.1)
inductive Chn (L : List Lnk) : Nat → List Lnk → Nat → Prop where
  | nil (a : Nat) : Chn L a [] a
  | cons {a b : Nat} {ks : List Lnk} {k : Lnk} : k ∈ L → k.1 = a → Chn L k.2.2.1 ks b → Chn L a (k :: ks) b
theorem Chn.append {L : List Lnk} : ∀ {a b c : Nat} {ks ms : List Lnk}, Chn L a ks b → Chn L b ms c → Chn L a (ks ++ ms) c
  | _, _, _, _, _, .nil _, h => h
  | _, _, _, _, _, .cons hk e h1, h => .cons hk e (h1.append h)
theorem Chn.snoc {L : List Lnk} {a b : Nat} {ks : List Lnk} {k : Lnk} (h : Chn L a ks b) (hk : k ∈ L) (e : k.1 = b) : Chn L a (ks ++ [k]) k.2.2.1 := h.append (.cons hk e (.nil _))
def rprod (ks : List Lnk) : Rat := (ks.map (·.2.2.2)).foldl (· * ·) 1
structure Lin (L : List Lnk) (c : Nat) (ws : List WE) (e : WE) (ks : List Lnk) : Prop where
  path : e.path = ks.map stp
  chain : Chn L c ks e.c
  num : e.num = rprod ks
  pre : ∀ i, i ≤ ks.length → ∃ e' ∈ ws, e'.path = e.path.take i ∧ Chn L c (ks.take i) e'.c ∧ e'.num = rprod (ks.take i) ∧ (∀ k, ks[i]? = some k → k.1 = e'.c)
end LK

set_option Elab.async false
set_option linter.all false
set_option maxRecDepth 100000
set_option maxHeartbeats 4000000
namespace LK
open PySem PySem.Spec PyProof.Rows L2 He DP
variable [HasT]
structure RngOk (L : List Lnk) (R : List Lnk) : Prop where
  mem : ∀ k ∈ R, k ∈ L
  back : ∃ v, Chn L v R v
  nod : (R.map (·.1)).Nodup
  two : 2 ≤ R.length
  prod : rprod R ≠ 1
end LK

set_option Elab.async false
set_option linter.all false
set_option maxRecDepth 100000
set_option maxHeartbeats 4000000
namespace LK
open PySem PySem.Spec PyProof.Rows L2 He DP
variable [HasT]
end LK

set_option Elab.async false
set_option linter.all false
set_option maxRecDepth 100000
set_option maxHeartbeats 4000000
namespace LK
open PySem PySem.Spec PyProof.Rows L2 He DP
variable [HasT]
end LK

set_option Elab.async false
set_option linter.all false
set_option maxRecDepth 100000
set_option maxHeartbeats 4000000
namespace LK
open PySem PySem.Spec PyProof.Rows L2 He DP
variable [HasT]
end LK

set_option Elab.async false
set_option linter.all false
set_option maxRecDepth 100000
set_option maxHeartbeats 4000000
namespace LK
open PySem PySem.Spec PyProof.Rows L2 He DP
variable [HasT]
section
variable {cs : Lot} {ps : List Person}
end
end LK

set_option Elab.async false
set_option linter.all false
set_option maxRecDepth 100000
set_option maxHeartbeats 4000000
namespace LK
open PySem PySem.Spec PyProof.Rows L2 He DP
variable [HasT]
section
variable {a b : Rat} {j k : Nat}
end
section
variable {cs : Lot} {ps : List Person}
end
end LK

set_option Elab.async false
set_option linter.all false
set_option maxRecDepth 100000
set_option maxHeartbeats 4000000
namespace LK
open PySem PySem.Spec PyProof.Rows L2 He DP
variable [HasT]
end LK

set_option Elab.async false
set_option linter.all false
set_option maxRecDepth 100000
set_option maxHeartbeats 4000000
namespace LK
open PySem PySem.Spec PyProof.Rows L2 He DP
variable [HasT]
section
variable {cs : Lot} {ps : List Person}
end
end LK

set_option Elab.async false
set_option linter.all false
set_option maxRecDepth 100000
set_option maxHeartbeats 4000000
namespace LK
open PySem PySem.Spec PyProof.Rows L2 He DP
variable [HasT]
section
variable {cs : Lot} {ps : List Person}
end
end LK

set_option Elab.async false
set_option linter.all false
set_option maxRecDepth 100000
set_option maxHeartbeats 4000000
namespace LK
open PySem PySem.Spec PyProof.Rows L2 He DP
variable [HasT]
section
variable {cs : Lot} {ps : List Person}
end
end LK

set_option Elab.async false
set_option linter.all false
set_option maxRecDepth 100000
set_option maxHeartbeats 4000000
namespace LK
open PySem PySem.Spec PyProof.Rows L2 He DP
variable [HasT]

abbrev Hst := List (Lot × Nat × (Lot × Option Rat))
def hstH (h0 : Lot) : Hst → Lot
  | [] => h0
  | x :: _ => x.1
def hstS : Hst → Nat
  | [] => 0
  | x :: _ => x.2.1
section
variable {cs : Lot} {ps : List Person} {c : Nat} {ev : Lot} {H : Hst} {hp : List Cell} {n : Nat}
def hstP (H : Hst) : List (Lot × Option Rat) := (H.map fun x => x.2.2).reverse
end
end LK

set_option Elab.async false
set_option linter.all false
set_option maxRecDepth 100000
set_option maxHeartbeats 4000000
namespace LK
open PySem PySem.Spec PyProof.Rows L2 He DP
variable [HasT]

section
variable {cs : Lot} {ps : List Person} {c : Nat} {ev : Lot}
structure RelH (cs : Lot) (s : WS) (H : Hst) : Prop where
  heard : s.heard = hstH cs H
  silent : s.silent = hstS H
  said : s.said = hstP H
@[simp] theorem parS3_ap (i j l : Nat) (f : DM (List D)) (s : DSt) : parS3 i j l f s = (match f s with
  | .ok [d, e, g] s' => .nx ⟨((s'.sl.set i (.val d)).set j (.val e)).set l (.val g), s'.hp⟩
  | .ok _ _ => .stuck
  | .err x s' => .err x s'
  | .stuck => .stuck) := by
  unfold parS3 bndS
  cases f s with
  | ok ds s' => match ds with
    | [] => rfl
    | [_] => rfl
    | [_, _] => rfl
    | [_, _, _] => rfl
    | _ :: _ :: _ :: _ :: _ => rfl
  | err => rfl
  | stuck => rfl
end
end LK

set_option Elab.async false
set_option linter.all false
set_option maxRecDepth 100000
set_option maxHeartbeats 4000000
namespace LK
open PySem PySem.Spec PyProof.Rows L2 He DP
variable [HasT]

end LK

set_option Elab.async false
set_option linter.all false
set_option maxRecDepth 100000
set_option maxHeartbeats 4000000
namespace LK
open PySem PySem.Spec PyProof.Rows L2 He DP
variable [HasT]

abbrev Sk := Nat × Nat × Rat
def sk1 (l : Lot) (qs : List Rat) (k : Nat) : Sk := (l.getD 0 0, l.getD (k + 1) 0, qs.getD (k + 1) 0 / qs.getD 0 0)
def skT (l : Lot) (qs : List Rat) : List Sk := (List.range (l.length - 1)).map (sk1 l qs)
def skP (q : Part) : List Sk := match q.2 with
  | none => []
  | some qs => skT q.1 qs
def skV (v : View) : List Sk := v.flatMap skP
def starF (ps : List Person) : List Sk := ps.flatMap fun p => skV p.2
section
variable {cs : Lot} {ps : List Person}
end
end LK

set_option Elab.async false
set_option linter.all false
set_option maxRecDepth 100000
set_option maxHeartbeats 4000000
namespace LK
open PySem PySem.Spec PyProof.Rows L2 He DP
variable [HasT]

abbrev We := Nat × Nat × Rat
abbrev wk (f : List We) : List Nat := f.map (·.1)
def wLk (f : List We) (c : Nat) : We := (f.find? fun e => decide (e.1 = c)).getD (0, 0, 1)
def wA (f : List We) (k : Sk) : List We := if k.1 ∈ wk f ∧ k.2.1 ∉ wk f then f ++ [(k.2.1, (wLk f k.1).2.1, (wLk f k.1).2.2 * k.2.2)] else f
def wB (f : List We) (k : Sk) : List We := if k.2.1 ∈ wk f ∧ k.1 ∉ wk f then f ++ [(k.1, (wLk f k.2.1).2.1, (wLk f k.2.1).2.2 / k.2.2)] else f
theorem wLk_mem {f : List We} {c : Nat} (h : c ∈ wk f) : wLk f c ∈ f ∧ (wLk f c).1 = c := by
  unfold wLk
  cases q : f.find? fun e' => decide (e'.1 = c) with
  | none =>
    obtain ⟨e, he, ec⟩ := List.mem_map.mp h
    rw [List.find?_eq_none] at q
    exact absurd (decide_eq_true ec) (q e he)
  | some e' =>
    exact ⟨List.mem_of_find?_eq_some q, of_decide_eq_true (List.find?_some (p := fun e' : We => decide (e'.1 = c)) q)⟩
section
variable {cs : Lot} {ps : List Person}
theorem mem_star {k : Sk} (h : k ∈ starF ps) : ∃ n : Lot, (k.1, n, k.2.1, k.2.2) ∈ linksF ps := by
  obtain ⟨p, hp, h⟩ := List.mem_flatMap.mp h
  obtain ⟨q, hq, h⟩ := List.mem_flatMap.mp h
  unfold skP at h
  split at h
  · cases h
  · rename_i qs e
    obtain ⟨j, hj, rfl⟩ := List.mem_map.mp h
    have hj' : j < q.1.length - 1 := by simpa using hj
    exact ⟨p.1, mem_linksF.mpr ⟨p, hp, q, hq, qs, e, 0, j + 1, by omega, by omega, by omega, rfl⟩⟩
def SmM (M : Nat) (ps : List Person) : Prop := ∀ k ∈ starF ps, ∃ a b : Nat, 0 < a ∧ a ≤ M ∧ 0 < b ∧ b ≤ M ∧ k.2.2 = Rat.divInt (b : Nat) (a : Nat)
structure W2 (M : Nat) (cs : Lot) (ps : List Person) (f : List We) : Prop where
  nod : (wk f).Nodup
  sub : ∀ e ∈ f, e.1 ∈ cs
  root : ∀ e ∈ f, (e.2.1, e.2.1, 1) ∈ f ∧ e.2.1 ∈ headsF cs ps
  cn : ∀ e ∈ f, Cn ps e.2.1 e.1
  fit : ∀ e ∈ f, ∀ W, Fit ps W → W e.1 = W e.2.1 * e.2.2
  num : ∃ D : Nat, 0 < D ∧ D ≤ M ^ f.length ∧ ∀ e ∈ f, ∃ n : Nat, 0 < n ∧ n ≤ M ^ f.length ∧ e.2.2 = Rat.divInt (n : Nat) (D : Nat)
theorem W2.len {M : Nat} {f : List We} (h : W2 M cs ps f) : f.length ≤ cs.length := by
  have := sub_len (l := wk f) (cs := cs) h.nod fun x hx => by
    obtain ⟨e, he, rfl⟩ := List.mem_map.mp hx
    exact h.sub e he
  simpa using this
theorem divInt_pos {n D : Nat} (hn : 0 < n) (hD : 0 < D) : 0 < Rat.divInt (n : Nat) (D : Nat) := by
  rw [Rat.divInt_eq_div]
  have h1 : (0 : Rat) < ((n : Int) : Rat) := by exact_mod_cast hn
  have h2 : (0 : Rat) < ((D : Int) : Rat) := by exact_mod_cast hD
  rw [Rat.div_def]
  exact Rat.mul_pos h1 (Rat.inv_pos.mpr h2)
theorem W2.pos {M : Nat} {f : List We} (h : W2 M cs ps f) {e : We} (he : e ∈ f) : 0 < e.2.2 := by
  obtain ⟨D, hD, _, h⟩ := h.num
  obtain ⟨n, hn, _, ee⟩ := h e he
  rw [ee]
  exact divInt_pos hn hD
theorem W2.sz {f : List We} (hc : CasesOk cs) (h : W2 160 cs ps f) {e : We} (he : e ∈ f) : Sz e.2.2 60 := by
  have hl := h.len
  have m8 := hc.most
  obtain ⟨D, hD, hD2, h⟩ := h.num
  obtain ⟨n, hn, hn2, ee⟩ := h e he
  have hb : 160 ^ f.length ≤ 160 ^ 8 := Nat.pow_le_pow_right (by decide) (by omega)
  have h8 : (160 : Nat) ^ 8 < 2 ^ 60 := by decide
  rw [ee]
  exact divB_sz hD (by omega) (by omega)
theorem W2.more {M : Nat} (hM : 1 ≤ M) {f : List We} (h : W2 M cs ps f) {e : We} (he : e ∈ f) {c : Nat} (hc : c ∉ wk f) (hcs : c ∈ cs) {r : Rat} {a b : Nat} (ha : 0 < a) (ha2 : a ≤ M) (hb : 0 < b) (hb2 : b ≤ M) (hr : r = Rat.divInt (b : Nat) (a : Nat)) (hcn : Cn ps e.1 c)
    (hf : ∀ W, Fit ps W → W c = W e.1 * r) : W2 M cs ps (f ++ [(c, e.2.1, e.2.2 * r)]) := by
  obtain ⟨D, hD, hD2, hn⟩ := h.num
  refine ⟨?_, fun x hx => ?_, fun x hx => ?_, fun x hx => ?_, fun x hx W hW => ?_, D * a, Nat.mul_pos hD ha, ?_, fun x hx => ?_⟩
  · show ((f ++ _).map (·.1)).Nodup
    rw [List.map_append]
    exact List.nodup_append.mpr ⟨h.nod, by simp, fun x hx y hy e => hc (by rw [← List.mem_singleton.mp (show y ∈ [c] from hy), ← e]; exact hx)⟩
  · rcases List.mem_append.mp hx with hx | hx
    · exact h.sub x hx
    · rw [List.mem_singleton.mp hx]; exact hcs
  · rcases List.mem_append.mp hx with hx | hx
    · exact ⟨List.mem_append_left _ (h.root x hx).1, (h.root x hx).2⟩
    · rw [List.mem_singleton.mp hx]
      exact ⟨List.mem_append_left _ (h.root e he).1, (h.root e he).2⟩
  · rcases List.mem_append.mp hx with hx | hx
    · exact h.cn x hx
    · rw [List.mem_singleton.mp hx]
      exact (h.cn e he).trans hcn
  · rcases List.mem_append.mp hx with hx | hx
    · exact h.fit x hx W hW
    · rw [List.mem_singleton.mp hx]
      show W c = W e.2.1 * (e.2.2 * r)
      rw [hf W hW, h.fit e he W hW]
      grind
  · rw [List.length_append, List.length_singleton, Nat.pow_succ]
    exact Nat.mul_le_mul hD2 ha2
  · have lp : M ^ (f ++ [(c, e.2.1, e.2.2 * r)]).length = M ^ f.length * M := by rw [List.length_append, List.length_singleton, Nat.pow_succ]
    rw [lp]
    rcases List.mem_append.mp hx with hx | hx
    · obtain ⟨n, n1, n2, n3⟩ := hn x hx
      exact ⟨n * a, Nat.mul_pos n1 ha, Nat.mul_le_mul n2 ha2, n3.trans (divInt_up n D a ha)⟩
    · obtain ⟨n, n1, n2, n3⟩ := hn e he
      rw [List.mem_singleton.mp hx]
      refine ⟨n * b, Nat.mul_pos n1 hb, Nat.mul_le_mul n2 hb2, ?_⟩
      show e.2.2 * r = _
      rw [n3, hr, divInt_times n b D a hD ha]
theorem star_facts (R : RoomOk cs ps) {k : Sk} (hk : k ∈ starF ps) : k.1 ∈ cs ∧ k.2.1 ∈ cs ∧ 0 < k.2.2 ∧ Cn ps k.1 k.2.1 ∧ ∀ W, Fit ps W → W k.2.1 = W k.1 * k.2.2 := by
  obtain ⟨n, h⟩ := mem_star hk
  have L := links_ok R
  exact ⟨L.a _ h, L.b _ h, L.pos _ h, (Cn.refl ps k.1).snoc h rfl, fun W hW => hW _ h⟩
theorem W2.a (R : RoomOk cs ps) {M : Nat} (hM : 1 ≤ M) (hS : SmM M ps) {f : List We} (h : W2 M cs ps f) {k : Sk} (hk : k ∈ starF ps) : W2 M cs ps (wA f k) := by
  unfold wA
  split
  · rename_i q
    obtain ⟨a, b, ha, ha2, hb, hb2, hr⟩ := hS k hk
    obtain ⟨s1, s2, s3, s4, s5⟩ := star_facts R hk
    obtain ⟨m1, m2⟩ := wLk_mem q.1
    exact h.more hM m1 q.2 s2 ha ha2 hb hb2 hr (by rw [m2]; exact s4) fun W hW => by rw [m2]; exact s5 W hW
  · exact h
theorem W2.b (R : RoomOk cs ps) {M : Nat} (hM : 1 ≤ M) (hS : SmM M ps) {f : List We} (h : W2 M cs ps f) {k : Sk} (hk : k ∈ starF ps) : W2 M cs ps (wB f k) := by
  unfold wB
  split
  · rename_i q
    obtain ⟨a, b, ha, ha2, hb, hb2, hr⟩ := hS k hk
    obtain ⟨s1, s2, s3, s4, s5⟩ := star_facts R hk
    obtain ⟨m1, m2⟩ := wLk_mem q.1
    have hi : k.2.2⁻¹ = Rat.divInt (a : Nat) (b : Nat) := by rw [hr, Rat.inv_divInt]
    have := h.more hM m1 q.2 s1 (r := k.2.2⁻¹) hb hb2 ha ha2 hi (by rw [m2]; exact s4.symm) fun W hW => by
      rw [m2, s5 W hW, Rat.mul_assoc, Rat.mul_inv_cancel _ (by intro z; rw [z] at s3; exact absurd s3 (by decide)), Rat.mul_one]
    rwa [← Rat.div_def] at this
  · exact h
def W2c (S : List Sk) (f : List We) : Prop := ∀ k ∈ S, k.1 ∈ wk f ↔ k.2.1 ∈ wk f
structure W2e (M : Nat) (cs : Lot) (ps : List Person) (f : List We) : Prop extends W2 M cs ps f where
  clo : W2c (starF ps) f
end
end LK

set_option Elab.async false
set_option linter.all false
set_option maxRecDepth 100000
set_option maxHeartbeats 4000000
namespace LK
open PySem PySem.Spec PyProof.Rows L2 He DP
variable [HasT]

section
variable {cs : Lot} {ps : List Person}
end
end LK

set_option Elab.async false
set_option linter.all false
set_option maxRecDepth 100000
set_option maxHeartbeats 4000000
namespace LK
open PySem PySem.Spec PyProof.Rows L2 He DP
variable [HasT]

section
variable {cs : Lot} {ps : List Person}
end
end LK

set_option Elab.async false
set_option linter.all false
set_option maxRecDepth 100000
set_option maxHeartbeats 4000000
namespace LK
open PySem PySem.Spec PyProof.Rows L2 He DP
variable [HasT]

section
variable {cs : Lot} {ps : List Person}
end
end LK

set_option Elab.async false
set_option linter.all false
set_option maxRecDepth 100000
set_option maxHeartbeats 4000000
namespace LK
open PySem PySem.Spec PyProof.Rows L2 He DP
variable [HasT]
section
variable {cs : Lot} {ps : List Person}
end
end LK

set_option Elab.async false
set_option linter.all false
set_option maxRecDepth 100000
set_option maxHeartbeats 4000000
namespace LK
open PySem PySem.Spec PyProof.Rows L2 He DP
variable [HasT]
section
variable {cs : Lot} {ps : List Person}
end
end LK

set_option Elab.async false
set_option linter.all false
set_option maxRecDepth 100000
set_option maxHeartbeats 4000000
namespace LK
open PySem PySem.Spec PyProof.Rows L2 He DP
variable [HasT]

end LK

set_option Elab.async false
set_option linter.all false
set_option maxRecDepth 100000
set_option maxHeartbeats 4000000
namespace LK
open PySem PySem.Spec PyProof.Rows L2 He DP
variable [HasT]

end LK

set_option Elab.async false
set_option linter.all false
set_option maxRecDepth 100000
set_option maxHeartbeats 4000000
namespace LK
open PySem PySem.Spec PyProof.Rows L2 He DP
variable [HasT]
section
variable {cs : Lot} {ps : List Person}
end
end LK

set_option Elab.async false
set_option linter.all false
set_option maxRecDepth 100000
set_option maxHeartbeats 4000000
namespace LK
open PySem PySem.Spec PyProof.Rows L2 He DP
variable [HasT]
section
variable {cs : Lot} {ps : List Person}
end
end LK

set_option Elab.async false
set_option linter.all false
set_option maxRecDepth 100000
set_option maxHeartbeats 4000000
namespace LK
open PySem PySem.Spec PyProof.Rows L2 He DP
variable [HasT]
section
variable {cs : Lot} {ps : List Person}
end
end LK

set_option Elab.async false
set_option linter.all false
set_option maxRecDepth 100000
set_option maxHeartbeats 4000000
namespace LK
open PySem PySem.Spec PyProof.Rows L2 He DP
variable [HasT]
section
variable {cs : Lot} {ps : List Person}
end
end LK

set_option Elab.async false
set_option linter.all false
set_option maxRecDepth 100000
set_option maxHeartbeats 4000000
namespace LK
open PySem PySem.Spec PyProof.Rows L2 He DP
variable [HasT]
section
variable {cs : Lot} {ps : List Person}
end
end LK

set_option Elab.async false
set_option linter.all false
set_option maxRecDepth 100000
set_option maxHeartbeats 4000000
namespace LK
open PySem PySem.Spec PyProof.Rows L2 He DP
variable [HasT]
end LK

set_option Elab.async false
set_option linter.all false
set_option maxRecDepth 100000
set_option maxHeartbeats 4000000
namespace LK
open PySem PySem.Spec PyProof.Rows L2 He DP
variable [HasT]

abbrev Stp2 := Nat × Lot
section
variable {cs : Lot} {ps : List Person}
structure CycOk (L : List Lnk) (Q : List Lnk) : Prop where
  mem : ∀ k ∈ Q, k ∈ L
  back : ∃ v, Chn L v Q v
  nod : (Q.map (·.1)).Nodup
  two : 2 ≤ Q.length
  most : Q.length ≤ 8
end
end LK

set_option Elab.async false
set_option linter.all false
set_option maxRecDepth 100000
set_option maxHeartbeats 4000000
namespace LK
open PySem PySem.Spec PyProof.Rows L2 He DP
variable [HasT]

section
variable {cs : Lot} {ps : List Person}
end
end LK

set_option Elab.async false
set_option linter.all false
set_option maxRecDepth 100000
set_option maxHeartbeats 4000000
namespace LK
open PySem PySem.Spec PyProof.Rows L2 He DP
variable [HasT]
def isI : D → Bool
  | .int _ => true
  | _ => false
def rowB (n : Nat) : D → Bool
  | .tup xs => decide (xs.length = n) && xs.all isI
  | _ => false
def betsB (n m : Nat) : D → Bool
  | .tup rs => decide (rs.length = m) && rs.all (rowB n)
  | _ => false
section
variable {cs : Lot} {ps : List Person}
end
end LK

set_option Elab.async false
set_option linter.all false
set_option maxRecDepth 100000
set_option maxHeartbeats 4000000
namespace LK
open PySem PySem.Spec PyProof.Rows L2 He DP
variable [HasT]
def rowD (r : List Int) : D := .tup (r.map .int)
def betsD (rs : List (List Int)) : D := .tup (rs.map rowD)
def zF (cs : Lot) (r : List Int) (c : Nat) : Int := r.getD (cs.idxOf c) 0
def prodsF (cs : Lot) (r : List Int) (l : Lot) (qs : List Rat) : List Rat := (List.range l.length).map fun i => qs.getD i 0 * ((zF cs r (l.getD i 0) : Int) : Rat)
def partFair (cs : Lot) (r : List Int) (q : Part) : Bool := match q.2 with
  | none => q.1.all fun c => decide (zF cs r c = 0)
  | some qs => decide (qsum (prodsF cs r q.1 qs) = 0)
def rowFair (cs : Lot) (r : List Int) (v : View) : Bool := v.all (partFair cs r)
section
variable {cs : Lot} {ps : List Person}
end
end LK

set_option Elab.async false
set_option linter.all false
set_option maxRecDepth 100000
set_option maxHeartbeats 4000000
namespace LK
open PySem PySem.Spec PyProof.Rows L2 He DP
variable [HasT]
def intOf : D → Option Int
  | .int i => some i
  | _ => none
def rowOf : D → List Int
  | .tup xs => xs.filterMap intOf
  | _ => []
def rowsOf : D → List (List Int)
  | .tup rs => rs.map rowOf
  | _ => []
def fairB (cs : Lot) (ps : List Person) (rs : List (List Int)) : Bool := ps.zipIdx.all fun x => rowFair cs (rs.getD x.2 []) x.1.2
def fairV (cs : Lot) (ps : List Person) (v : D) : Bool := betsB cs.length ps.length v && fairB cs ps (rowsOf v)
section
variable {cs : Lot} {ps : List Person}
def sumsF (n : Nat) (rs : List (List Int)) : List Int := (List.range n).map fun i => (rs.map fun r => r.getD i 0).sum
def loseB (n : Nat) (rs : List (List Int)) : Bool := decide (maxI (sumsF n rs) ≤ 0) && decide (minI (sumsF n rs) < 0)
def purseV (cs : Lot) (ps : List Person) (v : D) : Bool := fairV cs ps v && loseB cs.length (rowsOf v)
end
end LK

set_option Elab.async false
set_option linter.all false
set_option maxRecDepth 100000
set_option maxHeartbeats 4000000
namespace LK
open PySem PySem.Spec PyProof.Rows L2 He DP
variable [HasT]

section
variable {cs : Lot} {ps : List Person}
end
end LK

set_option Elab.async false
set_option linter.all false
set_option maxRecDepth 100000
set_option maxHeartbeats 4000000
namespace LK
open PySem PySem.Spec PyProof.Rows L2 He DP
variable [HasT]

section
variable {cs : Lot} {ps : List Person}
end
end LK

set_option Elab.async false
set_option linter.all false
set_option maxRecDepth 100000
set_option maxHeartbeats 4000000
namespace LK
open PySem PySem.Spec PyProof.Rows L2 He DP
variable [HasT]

section
variable {cs : Lot} {ps : List Person}
end
end LK

set_option Elab.async false
set_option linter.all false
set_option maxRecDepth 100000
set_option maxHeartbeats 4000000
namespace LK
open PySem PySem.Spec PyProof.Rows L2 He DP
variable [HasT]
section
variable {cs : Lot} {ps : List Person}
end
end LK

set_option Elab.async false
set_option linter.all false
set_option maxRecDepth 100000
set_option maxHeartbeats 4000000
namespace LK
open PySem PySem.Spec PyProof.Rows L2 He DP
variable [HasT]

section
variable {cs : Lot} {ps : List Person}
variable {Q : List Lnk}
end
end LK

set_option Elab.async false
set_option linter.all false
set_option maxRecDepth 100000
set_option maxHeartbeats 4000000
namespace LK
open PySem PySem.Spec PyProof.Rows L2 He DP
variable [HasT]

@[simp] theorem tupRM_ap (f : DM D) (s : DSt) : tupRM f s = (match f s with
  | .ok (.ref n) s' => (match s'.hp[n]? with | some (.lst xs) => .ok (.tup xs) s' | _ => .stuck)
  | .ok _ _ => .stuck
  | .err x s' => .err x s'
  | .stuck => .stuck) := by
  unfold tupRM DP.bnd
  cases f s with
  | ok d s' =>
    cases d with
    | ref n =>
      first
      | rfl
      | (dsimp only
         cases e : s'.hp[n]? with
         | none => simp [e]
         | some c => cases c <;> simp [e])
    | _ => rfl
  | err => rfl
  | stuck => rfl
section
variable {cs : Lot} {ps : List Person} {S : List Stp2} {Q : List Lnk}
end
end LK

set_option Elab.async false
set_option linter.all false
set_option maxRecDepth 100000
set_option maxHeartbeats 4000000
namespace LK
open PySem PySem.Spec PyProof.Rows L2 He DP
variable [HasT]
section
variable {cs : Lot} {ps : List Person} {S : List Stp2} {Q : List Lnk}
end
end LK

set_option Elab.async false
set_option linter.all false
set_option maxRecDepth 100000
set_option maxHeartbeats 4000000
namespace LK
open PySem PySem.Spec PyProof.Rows L2 He DP
variable [HasT]

section
variable {cs : Lot} {ps : List Person}
end
end LK

set_option Elab.async false
set_option linter.all false
set_option maxRecDepth 100000
set_option maxHeartbeats 4000000
namespace LK
open PySem PySem.Spec PyProof.Rows L2 He DP
variable [HasT]
section
variable {cs : Lot} {ps : List Person}
end
end LK

set_option Elab.async false
set_option linter.all false
set_option maxRecDepth 100000
set_option maxHeartbeats 4000000
namespace LK
open PySem PySem.Spec PyProof.Rows L2 He DP
variable [HasT]
section
variable {cs : Lot} {ps : List Person}
end
end LK

set_option Elab.async false
set_option linter.all false
set_option maxRecDepth 100000
set_option maxHeartbeats 4000000
namespace LK
open PySem PySem.Spec PyProof.Rows L2 He DP
variable [HasT]
section
variable {cs : Lot} {ps : List Person}
end
end LK

set_option Elab.async false
set_option linter.all false
set_option maxRecDepth 100000
set_option maxHeartbeats 4000000
namespace LK
open PySem PySem.Spec PyProof.Rows L2 He DP
variable [HasT]
theorem shwBool (b : Bool) : ∃ t : Lot, Shw 0 (.bl b) t ∧ Chars t ∧ t.length ≤ 10 := by
  cases b
  · exact ⟨[70, 97, 108, 115, 101], ⟨rfl, by simp [D.pd, PyData.showable], by simp only [D.pd, PyData.shown]; rfl⟩, fun c hc => by simp at hc; omega, by decide⟩
  · exact ⟨[84, 114, 117, 101], ⟨rfl, by simp [D.pd, PyData.showable], by simp only [D.pd, PyData.shown]; rfl⟩, fun c hc => by simp at hc; omega, by decide⟩
theorem shwRepr {n : Nat} {d : D} {t : Lot} (h : Shw n d t) (ok : d.ok 24 = true) (hl : t.length ≤ 10000000) : reprN [d] = some (sd t) := by
  have e : (d.ok deepest && (d.pd.showable && decide (d.pd.shown.length ≤ sizeLine))) = true := by
    rw [show deepest = 24 from rfl, ok, h.sh, h.is, st_length]
    simp [sizeLine_eq]
    omega
  unfold reprN
  dsimp only
  rw [if_pos e, h.is]
  rfl
structure BetsK (k : Nat) (cs : Lot) (ps : List Person) (rs : List (List Int)) : Prop where
  len : rs.length = ps.length
  row : ∀ r ∈ rs, r.length = cs.length
  bd : ∀ r ∈ rs, ∀ z ∈ r, Bd z k
section
variable {cs : Lot} {ps : List Person}
end
end LK

set_option Elab.async false
set_option linter.all false
set_option maxRecDepth 100000
set_option maxHeartbeats 4000000
namespace LK
open PySem PySem.Spec PyProof.Rows L2 He DP
variable [HasT]
section
variable {cs : Lot} {ps : List Person} {Q : List Lnk}
end
end LK

set_option Elab.async false
set_option linter.all false
set_option maxRecDepth 100000
set_option maxHeartbeats 4000000
namespace LK
open PySem PySem.Spec PyProof.Rows L2 He DP
variable [HasT]
section
variable {cs : Lot} {ps : List Person} {n l : Lot}
end
end LK

set_option Elab.async false
set_option linter.all false
set_option maxRecDepth 100000
set_option maxHeartbeats 4000000
namespace LK
open PySem PySem.Spec PyProof.Rows L2 He DP
@[simp] theorem gInM_ap (ng : Bool) (kvs : List (Str × Int)) (f : DM D) (s : DSt) : gInM ng kvs f s = (match f s with | .ok d s' => (match gIn ng kvs d with | some b => .ok b s' | none => .stuck) | .err x s' => .err x s' | .stuck => .stuck) := by
  unfold gInM DP.bnd
  cases f s with
  | ok d s' => dsimp only; cases gIn ng kvs d <;> rfl
  | err x s' => rfl
  | stuck => rfl
@[simp] theorem gIxM_ap (kvs : List (Str × Int)) (f : DM D) (s : DSt) : gIxM kvs f s = (match f s with | .ok d s' => (match gIx kvs d with | some b => .ok b s' | none => .stuck) | .err x s' => .err x s' | .stuck => .stuck) := by
  unfold gIxM DP.bnd
  cases f s with
  | ok d s' => dsimp only; cases gIx kvs d <;> rfl
  | err x s' => rfl
  | stuck => rfl
section
variable [HasT]
variable {cs : Lot}
end
end LK

set_option Elab.async false
set_option linter.all false
set_option maxRecDepth 100000
set_option maxHeartbeats 4000000
namespace LK
open PySem PySem.Spec PyProof.Rows L2 He DP
variable [HasT]
@[simp] theorem augIx_ap (fP : DM Plc) (fi : DM D) (g : Int → Int → Int) (fe : DM D) (s : DSt) : augIx fP fi g fe s = (match fP s with
  | .ok P s1 => (match fi s1 with
    | .ok (.int k) s2 => (match itemL s2 P k with
      | some (.int a) => (match fe s2 with
        | .ok (.int b) s3 => (match storeP P (.int k) (.int (g a b)) s3 with | some st => .nx st | none => .stuck)
        | .ok _ _ => .stuck
        | .err x s' => .err x s'
        | .stuck => .stuck)
      | _ => .stuck)
    | .ok _ _ => .stuck
    | .err x s' => .err x s'
    | .stuck => .stuck)
  | .err x s' => .err x s'
  | .stuck => .stuck) := by
  unfold augIx bndS
  cases fP s with
  | ok P s1 =>
    dsimp only
    cases fi s1 with
    | ok y s2 =>
      cases y with
      | int k =>
        dsimp only
        cases itemL s2 P k with
        | none => rfl
        | some a =>
          cases a with
          | int a =>
            dsimp only
            cases fe s2 with
            | ok d s3 =>
              cases d with
              | int b =>
                dsimp only
                all_goals (cases storeP P (.int k) (.int (g a b)) s3 <;> rfl)
              | _ => rfl
            | err => rfl
            | stuck => rfl
          | _ => rfl
      | _ => rfl
    | err => rfl
    | stuck => rfl
  | err => rfl
  | stuck => rfl
section
variable {cs : Lot} {ps : List Person} {S : List Stp2} {Q : List Lnk}
end
end LK

set_option Elab.async false
set_option linter.all false
set_option maxRecDepth 100000
set_option maxHeartbeats 4000000
namespace LK
open PySem PySem.Spec PyProof.Rows L2 He DP
variable [HasT]
section
variable {cs : Lot} {ps : List Person} {Q : List Lnk}
end
end LK

set_option Elab.async false
set_option linter.all false
set_option maxRecDepth 100000
set_option maxHeartbeats 4000000
namespace LK
open PySem PySem.Spec PyProof.Rows L2 He DP
variable [HasT]
section
variable {cs : Lot} {ps : List Person} {Q : List Lnk}
end
end LK

set_option Elab.async false
set_option linter.all false
set_option maxRecDepth 100000
set_option maxHeartbeats 4000000
namespace LK
open PySem PySem.Spec PyProof.Rows L2 He DP
variable [HasT]
section
variable {cs : Lot} {ps : List Person}
end
end LK

set_option Elab.async false
set_option linter.all false
set_option maxRecDepth 100000
set_option maxHeartbeats 4000000
namespace LK
open PySem PySem.Spec PyProof.Rows L2 He DP
section
variable [HasT]
variable {cs : Lot} {ps : List Person}
end
end LK

set_option Elab.async false
set_option linter.all false
set_option maxRecDepth 100000
set_option maxHeartbeats 4000000
namespace LK
open PySem PySem.Spec PyProof.Rows L2 He DP
section
variable [HasT]
variable {cs : Lot} {ps : List Person}
end
end LK

set_option Elab.async false
set_option linter.all false
set_option maxRecDepth 100000
set_option maxHeartbeats 4000000
namespace LK
open PySem PySem.Spec PyProof.Rows L2 He DP
section
variable [HasT]
variable {cs : Lot} {ps : List Person}
end
end LK

set_option Elab.async false
set_option linter.all false
set_option maxRecDepth 100000
set_option maxHeartbeats 4000000
namespace LK
open PySem PySem.Spec PyProof.Rows L2 He DP
variable [HasT]
end LK

set_option Elab.async false
set_option linter.all false
set_option maxRecDepth 100000
set_option maxHeartbeats 4000000
namespace LK
open PySem PySem.Spec PyProof.Rows L2 He DP
variable [HasT]
section
variable {cs : Lot} {ps : List Person}
end
end LK

set_option Elab.async false
set_option linter.all false
set_option maxRecDepth 100000
set_option maxHeartbeats 4000000
namespace LK
open PySem PySem.Spec PyProof.Rows L2 He DP
variable [HasT]
section
variable {cs : Lot} {ps : List Person}
end
end LK

set_option Elab.async false
set_option linter.all false
set_option maxRecDepth 100000
set_option maxHeartbeats 4000000
namespace LK
open PySem PySem.Spec PyProof.Rows L2 He DP
variable [HasT]

theorem TabsIn.ch {n : Nat} {hp hp' : List Cell} (h : TabsIn hp) (c : Ch n hp hp') {x : Cell} (hn : hp[n]? = some x) (nt : isTabC x = false) : TabsIn hp' := h.mono fun m q e => by
  have : m ≠ n := fun z => by
    subst z
    rw [hn] at e
    cases e
    cases nt
  rw [c.2 m this]
  exact e
section
variable {cs : Lot} {ps : List Person}
end
end LK

set_option Elab.async false
set_option linter.all false
set_option maxRecDepth 100000
set_option maxHeartbeats 4000000
namespace LK
open PySem PySem.Spec PyProof.Rows L2 He DP
variable [HasT]
section
variable {cs : Lot} {ps qs : List Person}
end
end LK

set_option Elab.async false
set_option linter.all false
set_option maxRecDepth 100000
set_option maxHeartbeats 4000000
namespace LK
open PySem PySem.Spec PyProof.Rows L2 He DP
variable [HasT]
section
variable {cs : Lot} {ps : List Person}
end
end LK

set_option Elab.async false
set_option linter.all false
set_option maxRecDepth 100000
set_option maxHeartbeats 4000000
namespace LK
open PySem PySem.Spec PyProof.Rows L2 He DP
@[simp] theorem ixTG_ap (fP : DM Plc) (fi : DM (List D)) (d : D) (s : DSt) : ixTG fP fi d s = (match fP s with | .ok P s1 => (match fi s1 with | .ok ys s2 => storeTP P ys d s2 | _ => none) | _ => none) := rfl
section
variable [HasT]
variable {cs : Lot} {ps : List Person}
end
end LK

set_option Elab.async false
set_option linter.all false
set_option maxRecDepth 100000
set_option maxHeartbeats 4000000
namespace LK
open PySem PySem.Spec PyProof.Rows L2 He DP
section
variable [HasT]
variable {cs : Lot} {ps : List Person}
end
end LK

set_option Elab.async false
set_option linter.all false
set_option maxRecDepth 100000
set_option maxHeartbeats 4000000
namespace LK
open PySem PySem.Spec PyProof.Rows L2 He DP
section
variable [HasT]
variable {cs : Lot} {ps : List Person}
end
end LK

set_option Elab.async false
set_option linter.all false
set_option maxRecDepth 100000
set_option maxHeartbeats 4000000
namespace LK
open PySem PySem.Spec PyProof.Rows L2 He DP
variable [HasT]
section
variable {cs : Lot} {ps : List Person}
end
end LK

set_option Elab.async false
set_option linter.all false
set_option maxRecDepth 100000
set_option maxHeartbeats 4000000
namespace LK
open PySem PySem.Spec PyProof.Rows L2 He DP
variable [HasT]
section
open PySem.StrLaws PySem.Builtin.Str
end
section
variable {cs : Lot} {ps : List Person}
structure RowsA (a : Lot) (rows : List Ln3) (n : Nat) : Prop where
  len : rows.length ≤ n
  ok : ∀ r ∈ rows, Chars r.1 ∧ r.2.1 < 1114112
  one : a.length = 1 → rows = []
end
end LK

set_option Elab.async false
set_option linter.all false
set_option maxRecDepth 100000
set_option maxHeartbeats 4000000
namespace LK
open PySem PySem.Spec PyProof.Rows L2 He DP
variable [HasT]
section
variable {cs : Lot} {ps : List Person}
abbrev StpT := Lot × Lot
inductive BadI : D → Prop where
  | lst (xs : List D) : BadI (.lst xs)
  | str (l : Lot) : BadI (sd l)
  | three (a b c : Lot) : BadI (.tup [sd a, sd b, sd c])
  | num (i : Int) (a : Lot) : BadI (.tup [.int i, sd a])
  | non (a : Lot) : BadI (.tup [sd a, .non])
end
end LK

set_option Elab.async false
set_option linter.all false
set_option maxRecDepth 100000
set_option maxHeartbeats 4000000
namespace LK
open PySem PySem.Spec PyProof.Rows L2 He DP
variable [HasT]
section
variable {cs : Lot} {ps : List Person}
end
end LK

set_option Elab.async false
set_option linter.all false
set_option maxRecDepth 100000
set_option maxHeartbeats 4000000
namespace LK
open PySem PySem.Spec PyProof.Rows L2 He DP
variable [HasT]
section
variable {cs : Lot} {ps : List Person}
def StsN (cs : Lot) (ps : List Person) (S : List Stp2) : Prop := ∀ x ∈ S, x.1 ∈ cs ∧ x.2 ∈ ps.map (·.1)
end
end LK

set_option Elab.async false
set_option linter.all false
set_option maxRecDepth 100000
set_option maxHeartbeats 4000000
namespace LK
open PySem PySem.Spec PyProof.Rows L2 He DP
variable [HasT]
theorem shc_lst7 {α : Type} {f : α → D} {n B : Nat} {xs : List α} (h : ∀ x ∈ xs, Shc n (f x) B) {B' : Nat} (hB : (B + 2) * xs.length + 5 ≤ B') : Shc (n + 1) (.lst (xs.map f)) B' := by
  obtain ⟨g, hg⟩ := shc_pick h
  refine ⟨_, shw_lst fun x hx => (hg x hx).1, ?_, ?_⟩
  · intro c hc
    rcases List.mem_cons.mp hc with rfl | hc
    · omega
    · rcases List.mem_append.mp hc with hc | hc
      · exact lstL_chars _ 0 (fun l hl => by
          obtain ⟨x, hx, rfl⟩ := List.mem_map.mp hl
          exact (hg x hx).2.1) c hc
      · rw [List.mem_singleton.mp hc]
        omega
  · have jl := lstL_len B (xs.map g) 0 fun l hl => by
      obtain ⟨x, hx, rfl⟩ := List.mem_map.mp hl
      exact (hg x hx).2.2
    simp only [List.length_cons, List.length_append, List.length_map, List.length_nil] at jl ⊢
    omega
def Lw (l : Lot) : Prop := (∀ c ∈ l, 97 ≤ c ∧ c ≤ 122) ∧ l.length ≤ 8
structure ItemOk (d : D) : Prop where
  sh : Shc 2 d 60
  nb : nb d = true
  nr : d.noRef = true
section
variable {cs : Lot} {ps : List Person}
def LwT (S : List StpT) : Prop := ∀ x ∈ S, Lw x.1 ∧ Lw x.2
def toT (x : Stp2) : StpT := ([x.1], x.2)
def StsW (cs : Lot) (S : List Stp2) : Prop := ∀ x ∈ S, x.1 ∈ cs ∧ Lw x.2
theorem StsW.lw (R : RoomOk cs ps) {S : List Stp2} (h : StsW cs S) : LwT (S.map toT) := fun x hx => by
  obtain ⟨y, hy, rfl⟩ := List.mem_map.mp hx
  obtain ⟨h1, h2⟩ := h y hy
  exact ⟨⟨fun c hc => by rw [List.mem_singleton.mp hc]; exact R.cs.let_ _ h1, by simp [toT]⟩, h2⟩
end
end LK

set_option Elab.async false
set_option linter.all false
set_option maxRecDepth 100000
set_option maxHeartbeats 4000000
namespace LK
open PySem PySem.Spec PyProof.Rows L2 He DP
variable [HasT]
section
variable {cs : Lot} {ps : List Person}
theorem NameOk.lw {l : Lot} (h : NameOk l) : Lw l := ⟨h.let_, h.most⟩
theorem StsN.w (R : RoomOk cs ps) {S : List Stp2} (h : StsN cs ps S) : StsW cs S := fun x hx => by
  obtain ⟨h1, h2⟩ := h x hx
  obtain ⟨p, hp, e⟩ := List.mem_map.mp h2
  exact ⟨h1, e ▸ (R.ps.name p hp).lw⟩
theorem StsN.ne (R : RoomOk cs ps) {S : List Stp2} (h : StsN cs ps S) : ∀ x ∈ S, x.2 ≠ [] := fun x hx e => by
  obtain ⟨h1, h2⟩ := h x hx
  obtain ⟨p, hp, e'⟩ := List.mem_map.mp h2
  have := (R.ps.name p hp).one
  rw [e', e] at this
  simp at this
end
end LK

set_option Elab.async false
set_option linter.all false
set_option maxRecDepth 100000
set_option maxHeartbeats 4000000
namespace LK
open PySem PySem.Spec PyProof.Rows L2 He DP
variable [HasT]
section
variable {cs : Lot} {ps : List Person}
end
end LK

set_option Elab.async false
set_option linter.all false
set_option maxRecDepth 100000
set_option maxHeartbeats 4000000
namespace LK
open PySem PySem.Spec PyProof.Rows L2 He DP
variable [HasT]
inductive Vk (L e : Nat) : Nat → D → Prop where
  | non (n : Nat) : Vk L e n .non
  | bl (n : Nat) (b : Bool) : Vk L e n (.bl b)
  | int (n : Nat) (i : Int) : Bd i e → Vk L e n (.int i)
  | str (n : Nat) (l : Lot) : Chars l → l.length ≤ 1000 → Vk L e n (sd l)
  | tup (n : Nat) (xs : List D) : xs.length ≤ L → (∀ x ∈ xs, Vk L e n x) → Vk L e (n + 1) (.tup xs)
  | lst (n : Nat) (xs : List D) : xs.length ≤ L → (∀ x ∈ xs, Vk L e n x) → Vk L e (n + 1) (.lst xs)
theorem Vk.mono {L L' e e' : Nat} (hL : L ≤ L') (he : e ≤ e') : ∀ {n n' : Nat} {d : D}, n ≤ n' → Vk L e n d → Vk L' e' n' d := by
  intro n n' d hn h
  induction h generalizing n' with
  | non n => exact .non n'
  | bl n b => exact .bl n' b
  | int n i h => exact .int n' i (h.mono he)
  | str n l h h2 => exact .str n' l h h2
  | tup n xs h1 h2 ih =>
    obtain ⟨m, rfl⟩ : ∃ m, n' = m + 1 := ⟨n' - 1, by omega⟩
    exact .tup m xs (by omega) fun x hx => ih x hx (by omega)
  | lst n xs h1 h2 ih =>
    obtain ⟨m, rfl⟩ : ∃ m, n' = m + 1 := ⟨n' - 1, by omega⟩
    exact .lst m xs (by omega) fun x hx => ih x hx (by omega)
theorem Vk.ok {L e : Nat} : ∀ {n : Nat} {d : D}, Vk L e n d → d.ok n = true := by
  intro n d h
  induction h with
  | non n => cases n <;> rfl
  | bl n b => cases n <;> rfl
  | int n i h => cases n <;> rfl
  | str n l h h2 =>
    have := (eqb_sd h).ok
    cases n with
    | zero => exact this
    | succ n => exact this
  | tup n xs h1 h2 ih =>
    simp only [D.ok, List.all_eq_true]
    exact ih
  | lst n xs h1 h2 ih =>
    simp only [D.ok, List.all_eq_true]
    exact ih
section
variable {f : DF} {n : Nat} {hp : List Cell} {V d : D} {at_ kind : Nat}
end
end LK

set_option Elab.async false
set_option linter.all false
set_option maxRecDepth 100000
set_option maxHeartbeats 4000000
namespace LK
open PySem PySem.Spec PyProof.Rows L2 He DP
variable [HasT]
end LK

set_option Elab.async false
set_option linter.all false
set_option maxRecDepth 100000
set_option maxHeartbeats 4000000
namespace LK
open PySem PySem.Spec PyProof.Rows L2 He DP
variable [HasT]
def Wv (L e q : Nat) (v : D) : Prop := Vk L e q v ∨ v = .dk [] []
theorem Wv.mono {L L' e e' q q' : Nat} {v : D} (h : Wv L e q v) (h1 : L ≤ L') (h2 : e ≤ e') (h3 : q ≤ q') : Wv L' e' q' v := h.imp (fun h => h.mono h1 h2 h3) id
end LK

set_option Elab.async false
set_option linter.all false
set_option maxRecDepth 100000
set_option maxHeartbeats 4000000
namespace LK
open PySem PySem.Spec PyProof.Rows L2 He DP
variable [HasT]
end LK

set_option Elab.async false
set_option linter.all false
set_option maxRecDepth 100000
set_option maxHeartbeats 4000000
namespace LK
open PySem PySem.Spec PyProof.Rows L2 He DP
variable [HasT]
section
variable {cs : Lot}
end
end LK

set_option Elab.async false
set_option linter.all false
set_option maxRecDepth 100000
set_option maxHeartbeats 4000000
namespace LK
open PySem PySem.Spec PyProof.Rows L2 He DP
variable [HasT]
section
variable {cs : Lot} {ps : List Person}
end
end LK

set_option Elab.async false
set_option linter.all false
set_option maxRecDepth 100000
set_option maxHeartbeats 4000000
namespace LK
open PySem PySem.Spec PyProof.Rows L2 He DP
variable [HasT]
section
variable {a b : Rat} {j k : Nat}
end
section
variable {cs : Lot} {ps : List Person}
end
end LK

set_option Elab.async false
set_option linter.all false
set_option maxRecDepth 100000
set_option maxHeartbeats 4000000
namespace LK
open PySem PySem.Spec PyProof.Rows L2 He DP
variable [HasT]
section
variable {cs : Lot} {ps : List Person}
end
end LK

set_option Elab.async false
set_option linter.all false
set_option maxRecDepth 100000
set_option maxHeartbeats 4000000
namespace LK
open PySem PySem.Spec PyProof.Rows L2 He DP
variable [HasT]
@[simp] theorem listZipM_ap (f : DM (List D)) (s : DSt) : listZipM f s = (match f s with | .ok ds s' => (match listZipN ds with | some d => .ok d s' | none => .stuck) | .err x s' => .err x s' | .stuck => .stuck) := by
  unfold listZipM DP.bnd
  cases f s with
  | ok ds s' => dsimp only; cases listZipN ds <;> rfl
  | err x s' => rfl
  | stuck => rfl
section
variable {cs : Lot} {ps : List Person}
end
end LK

set_option Elab.async false
set_option linter.all false
set_option maxRecDepth 100000
set_option maxHeartbeats 4000000
namespace LK
open PySem PySem.Spec PyProof.Rows L2 He DP
variable [HasT]
section
variable {cs : Lot} {ps : List Person}
end
end LK

set_option Elab.async false
set_option linter.all false
set_option maxRecDepth 100000
set_option maxHeartbeats 4000000
namespace LK
open PySem PySem.Spec PyProof.Rows L2 He DP
variable [HasT]
section
variable {cs : Lot} {ps : List Person}
end
end LK

set_option Elab.async false
set_option linter.all false
set_option maxRecDepth 100000
set_option maxHeartbeats 4000000
namespace LK
open PySem PySem.Spec PyProof.Rows L2 He DP
variable [HasT]
section
variable {cs : Lot} {ps : List Person}
end
end LK

set_option Elab.async false
set_option linter.all false
set_option maxRecDepth 100000
set_option maxHeartbeats 4000000
namespace LK
open PySem PySem.Spec PyProof.Rows L2 He DP
variable [HasT]
section
variable {cs : Lot} {ps : List Person}
end
end LK

set_option Elab.async false
set_option linter.all false
set_option maxRecDepth 100000
set_option maxHeartbeats 4000000
namespace LK
open PySem PySem.Spec PyProof.Rows L2 He DP
variable [HasT]
section
variable {cs : Lot} {ps : List Person}
end
end LK

set_option Elab.async false
set_option linter.all false
set_option maxRecDepth 100000
set_option maxHeartbeats 4000000
namespace LK
open PySem PySem.Spec PyProof.Rows L2 He DP PySem.W
variable [HasT]
def srtK {α : Type} (key : α → Lot) (xs : List α) : List α := xs.mergeSort fun a b => decide (key a ≤ key b)
theorem srtK_perm {α : Type} (key : α → Lot) (xs : List α) : (srtK key xs).Perm xs := List.mergeSort_perm _ _
theorem srtK_le {α : Type} (key : α → Lot) (xs : List α) : ((srtK key xs).map key).Pairwise (· ≤ ·) := by
  rw [List.pairwise_map]
  refine (List.pairwise_mergeSort (le := fun a b => decide (key a ≤ key b)) (fun a b c h1 h2 => ?_) (fun a b => ?_) xs).imp fun h => of_decide_eq_true h
  · exact decide_eq_true (List.le_trans (of_decide_eq_true h1) (of_decide_eq_true h2))
  · rcases List.le_total (key a) (key b) with h | h
    · rw [decide_eq_true h]; rfl
    · rw [decide_eq_true h]; simp
theorem nodup_on {α β : Type} {f : α → β} {l : List α} (hi : ∀ a ∈ l, ∀ b ∈ l, f a = f b → a = b) (hn : l.Nodup) : (l.map f).Nodup := by
  refine List.pairwise_map.mpr (List.Pairwise.imp_of_mem (fun {a b} ha hb h e => h (hi a ha b hb e)) hn)
theorem one_le_iff {a b : Nat} : ([a] : Lot) ≤ [b] ↔ a ≤ b := by
  rw [← List.not_lt, List.cons_lt_cons_iff]
  simp
def oS (σ : Nat → Nat) (l : Lot) : Lot := srtK (fun c => [σ c]) l
def lotS (σ : Nat → Nat) (l : Lot) : Lot := (oS σ l).map σ
def InjOn (σ : Nat → Nat) (l : Lot) : Prop := ∀ a ∈ l, ∀ b ∈ l, σ a = σ b → a = b
theorem InjOn.sub {σ : Nat → Nat} {l m : Lot} (h : InjOn σ l) (hs : ∀ c ∈ m, c ∈ l) : InjOn σ m := fun a ha b hb => h a (hs a ha) b (hs b hb)
theorem oS_perm (σ : Nat → Nat) (l : Lot) : (oS σ l).Perm l := srtK_perm _ _
theorem lotS_perm (σ : Nat → Nat) (l : Lot) : (lotS σ l).Perm (l.map σ) := (oS_perm σ l).map σ
theorem lotS_mem {σ : Nat → Nat} {l : Lot} {x : Nat} : x ∈ lotS σ l ↔ ∃ c ∈ l, x = σ c := by
  rw [(lotS_perm σ l).mem_iff, List.mem_map]
  exact ⟨fun ⟨c, h, e⟩ => ⟨c, h, e.symm⟩, fun ⟨c, h, e⟩ => ⟨c, h, e.symm⟩⟩
theorem lotS_len (σ : Nat → Nat) (l : Lot) : (lotS σ l).length = l.length := by rw [(lotS_perm σ l).length_eq, List.length_map]
theorem lotS_le (σ : Nat → Nat) (l : Lot) : (lotS σ l).Pairwise (· ≤ ·) := by
  have := srtK_le (fun c => [σ c]) l
  unfold lotS oS
  rw [List.pairwise_map] at this ⊢
  exact this.imp fun h => one_le_iff.mp h
theorem lotS_nodup {σ : Nat → Nat} {l : Lot} (hi : InjOn σ l) (hn : l.Nodup) : (lotS σ l).Nodup := (lotS_perm σ l).nodup_iff.mpr (nodup_on hi hn)
theorem lotS_up {σ : Nat → Nat} {l : Lot} (hi : InjOn σ l) (hn : l.Nodup) : (lotS σ l).Pairwise (· < ·) := by
  have h1 := lotS_le σ l
  have h2 := lotS_nodup hi hn
  refine (h1.and h2).imp fun ⟨a, b⟩ => Nat.lt_of_le_of_ne a b
structure Ren (cs : Lot) (ps : List Person) (σ : Nat → Nat) (ν : Lot → Lot) : Prop where
  room : RoomOk cs ps
  inj : InjOn σ cs
  let_ : ∀ c ∈ cs, 97 ≤ σ c ∧ σ c ≤ 122
  ninj : ∀ p ∈ ps, ∀ q ∈ ps, ν p.1 = ν q.1 → p.1 = q.1
  name : ∀ p ∈ ps, NameOk (ν p.1)
section
variable {cs : Lot} {ps : List Person} {σ : Nat → Nat} {ν : Lot → Lot}
theorem Ren.cases (h : Ren cs ps σ ν) : CasesOk (lotS σ cs) := by
  refine ⟨by rw [lotS_len]; exact h.room.cs.one, by rw [lotS_len]; exact h.room.cs.most, fun c hc => ?_, lotS_up h.inj (nodup_up h.room.cs.up)⟩
  obtain ⟨a, ha, rfl⟩ := lotS_mem.mp hc
  exact h.let_ a ha
end
end LK

set_option Elab.async false
set_option linter.all false
set_option maxRecDepth 100000
set_option maxHeartbeats 4000000
namespace LK
open PySem PySem.Spec PyProof.Rows L2 He DP PySem.W
variable [HasT]
section
variable {cs : Lot} {ps : List Person}
end
section
variable {cs : Lot} {ps : List Person} {σ : Nat → Nat} {ν : Lot → Lot}
end
end LK

set_option Elab.async false
set_option linter.all false
set_option maxRecDepth 100000
set_option maxHeartbeats 4000000
namespace LK
open PySem PySem.Spec PyProof.Rows L2 He DP
variable [HasT]
@[simp] theorem cellP_dr (n : Nat) (sl : List SV) (hp : List Cell) : cellP (.d (.ref n)) ⟨sl, hp⟩ = hp[n]? := rfl
@[simp] theorem putP_dr (n : Nat) (c : Cell) (sl : List SV) (hp : List Cell) : putP (.d (.ref n)) c ⟨sl, hp⟩ = ⟨sl, hp.set n c⟩ := rfl
@[simp] theorem mulC_ap (fa fb : DM D) (s : DSt) : mulC fa fb s = (match fa s with | .ok x s1 => (match fb s1 with | .ok y s2 => (match mulLC x y with | some c => .ok c s2 | none => .stuck) | .err x s' => .err x s' | .stuck => .stuck) | .err x s' => .err x s' | .stuck => .stuck) := by
  unfold mulC DP.bnd
  cases fa s with
  | ok x s1 =>
    dsimp only
    cases fb s1 with
    | ok y s2 =>
      dsimp only [DP.lift]
      cases mulLC x y <;> rfl
    | _ => rfl
  | _ => rfl
end LK

set_option Elab.async false
set_option linter.all false
set_option maxRecDepth 100000
set_option maxHeartbeats 4000000
namespace LK
open PySem PySem.Spec PyProof.Rows L2 He DP
variable [HasT]
@[simp] theorem catC_ap (fa fb : DM D) (s : DSt) : catC fa fb s = (match fa s with | .ok x s1 => (match fb s1 with | .ok y s2 => (match catLC x y with | some c => .ok c s2 | none => .stuck) | .err x s' => .err x s' | .stuck => .stuck) | .err x s' => .err x s' | .stuck => .stuck) := by
  unfold catC DP.bnd
  cases fa s with
  | ok x s1 =>
    dsimp only
    cases fb s1 with
    | ok y s2 =>
      dsimp only [DP.lift]
      cases catLC x y <;> rfl
    | _ => rfl
  | _ => rfl
section
variable {cs : Lot} {ps : List Person}
end
end LK

set_option Elab.async false
set_option linter.all false
set_option maxRecDepth 100000
set_option maxHeartbeats 4000000
namespace LK
open PySem PySem.Spec PyProof.Rows L2 He DP
variable [HasT]
section
variable {cs : Lot} {ps : List Person}
end
end LK

set_option Elab.async false
set_option linter.all false
set_option maxRecDepth 100000
set_option maxHeartbeats 4000000
namespace LK
open PySem PySem.Spec PyProof.Rows L2 He DP
variable [HasT]
def shS (xs : List (Lot × Nat)) : Nat := (xs.map (·.2)).sum
end LK

set_option Elab.async false
set_option linter.all false
set_option maxRecDepth 100000
set_option maxHeartbeats 4000000
namespace LK
open PySem PySem.Spec PyProof.Rows L2 He DP
variable [HasT]
structure XsOk (cs : Lot) (w : Nat → Nat) (xs : List (Lot × Nat)) : Prop where
  lot : ∀ x ∈ xs, (∀ c ∈ x.1, c ∈ cs) ∧ 0 < wSum w x.1 ∧ wSum w x.1 ≤ 160 ∧ x.1.length ≤ 8
  few : xs.length ≤ 8
  pos : 0 < shS xs
  bd : shS xs < 2 ^ 110
theorem XsOk.le {cs : Lot} {w : Nat → Nat} {xs : List (Lot × Nat)} (h : XsOk cs w xs) {x : Lot × Nat} (hx : x ∈ xs) : x.2 ≤ shS xs := by
  have : ∀ xs : List (Lot × Nat), x ∈ xs → x.2 ≤ shS xs := fun xs hx => by
    induction xs with
    | nil => simp at hx
    | cons y xs ih =>
      have e : shS (y :: xs) = y.2 + shS xs := by simp [shS]
      rcases List.mem_cons.mp hx with rfl | hx
      · omega
      · have := ih hx
        omega
  exact this xs hx
section
variable {cs : Lot} {ps : List Person}
end
end LK

set_option Elab.async false
set_option linter.all false
set_option maxRecDepth 100000
set_option maxHeartbeats 4000000
namespace LK
open PySem PySem.Spec PyProof.Rows L2 He DP
variable [HasT]
section
variable {cs : Lot} {ps : List Person}
end
end LK

set_option Elab.async false
set_option linter.all false
set_option maxRecDepth 100000
set_option maxHeartbeats 4000000
namespace LK
open PySem PySem.Spec PyProof.Rows L2 He DP
variable [HasT]
section
variable {cs : Lot} {ps : List Person}
structure XsG (cs : Lot) (xs : List (Lot × Nat)) : Prop where
  few : xs.length ≤ 8
  pos : 0 < shS xs
  bd : shS xs ≤ 500
  lot : ∀ x ∈ xs, (∀ c ∈ x.1, c ∈ cs) ∧ x.1.length ≤ 8
theorem XsG.le {cs : Lot} {xs : List (Lot × Nat)} (h : XsG cs xs) {x : Lot × Nat} (hx : x ∈ xs) : x.2 ≤ shS xs := by
  have : ∀ xs : List (Lot × Nat), x ∈ xs → x.2 ≤ shS xs := fun xs hx => by
    induction xs with
    | nil => simp at hx
    | cons y xs ih =>
      have e : shS (y :: xs) = y.2 + shS xs := by simp [shS]
      rcases List.mem_cons.mp hx with rfl | hx
      · omega
      · have := ih hx
        omega
  exact this xs hx
end
end LK

set_option Elab.async false
set_option linter.all false
set_option maxRecDepth 100000
set_option maxHeartbeats 4000000
namespace LK
open PySem PySem.Spec PyProof.Rows L2 He DP
variable [HasT]
section
variable {cs : Lot} {ps : List Person}
structure Base75 (cs : Lot) (ps : List Person) (b : Bool) (BV : D) : Prop where
  so : b = true ↔ Sound ps
  n1 : isNoneD BV .non = some (.bl b)
  n2 : notNoneD BV .non = some (.bl (!b))
  go : b = false → ∃ rs, BV = betsD rs ∧ BetsK 125 cs ps rs ∧ purseV cs ps (betsD rs) = true
end
end LK

set_option Elab.async false
set_option linter.all false
set_option maxRecDepth 100000
set_option maxHeartbeats 4000000
namespace LK
open PySem PySem.Spec PyProof.Rows L2 He DP
theorem ok_step : ∀ (n : Nat) {d : D}, d.ok n = true → d.ok (n + 1) = true := by
  intro n
  induction n with
  | zero =>
    intro d h
    cases d <;> first | rfl | exact h | (simp [D.ok] at h; done)
  | succ n ih =>
    intro d h
    cases d <;> first | rfl | exact h | (simp [D.ok] at h; done) | (simp only [D.ok, List.all_eq_true] at h ⊢; exact fun x hx => ih (h x hx))
theorem ok_mono {n m : Nat} (h : n ≤ m) {d : D} (k : d.ok n = true) : d.ok m = true := by
  induction m with
  | zero =>
    have : n = 0 := by omega
    rw [this] at k
    exact k
  | succ m ih =>
    rcases Nat.lt_or_ge m n with z | z
    · have : n = m + 1 := by omega
      rw [this] at k
      exact k
    · exact ok_step m (ih z)
variable [HasT]
section
variable {cs : Lot} {ps : List Person}
end
end LK

set_option Elab.async false
set_option linter.all false
set_option maxRecDepth 100000
set_option maxHeartbeats 4000000
namespace LK
open PySem PySem.Spec PyProof.Rows L2 He DP
theorem repr_bls (xss : List (List Bool)) (h1 : ∀ xs ∈ xss, xs.length ≤ 10) (h2 : xss.length ≤ 100) : ∃ t : Lot, Chars t ∧ reprN [.lst (xss.map fun xs => .lst (xs.map D.bl))] = some (sd t) := by
  have h := shc_lst7 (f := fun xs : List Bool => D.lst (xs.map D.bl)) (n := 1) (B := 130) (xs := xss) (fun xs hx => shc_lst7 (f := D.bl) (n := 0) (B := 10) (fun b _ => shwBool b) (B' := 130) (by have := h1 xs hx; omega)) (B' := 20000) (by omega)
  obtain ⟨t, h1, h2, h3⟩ := h
  exact ⟨t, h2, shwRepr h1 (ok_mono (by omega) h1.ok) (by omega)⟩
theorem rn01 {fa fb : DM (List D)} {s : DSt} {d : D} {t : Lot} (ht : Chars t) (hr : reprN [d] = some (sd t)) (h1 : fa s = .ok [d] s) (h2 : fb s = .ok [d] s) : (ifS (tst (DP.bin neD (appM reprN fa) (appM reprN fb))) (retS (DP.ret (.bl false))) nxS : DS) s = .nx s := by
  simp [h1, h2, hr, ne_sd ht ht]
abbrev e1k : List D := [.exc 20 [.str "a"], .exc 21 [.str "a"], .exc 22 [.str "a"], .exc 23 [.str "a"], .exc 24 [.str "a"], .exc 25 [.str "a"], .exc 26 [.str "a"], .exc 27 [.str "a"], .exc 28 [.str "a"], .exc 29 [.str "a"], .exc 30 [.str "a"], .exc 31 [.str "a"], .exc 32 [.str "a"], .exc 33 [.str "a"], .exc 34 [.non], .exc 35 [.lst []], .exc 36 [.int 5], .exc 37 [.int 3]]
abbrev e2k : List D := [.exc 20 [.str "a"], .exc 21 [.str "a"], .exc 22 [.str "a"], .exc 23 [.str "a"], .exc 24 [.str "a"], .exc 25 [.str "a"], .exc 26 [.str "a"], .exc 27 [.str "a"], .exc 28 [.str "a"], .exc 29 [.str "a"], .exc 30 [.str "a"], .exc 31 [.str "a"], .exc 32 [.str "a"], .exc 33 [.str "a"], .exc 34 [.non], .exc 35 [.lst []], .exc 36 [.int 5], .exc 37 [.int 3], .exc 38 [], .exc 39 [], .exc 40 [], .exc 41 [.int 4], .exc 42 [], .exc 43 [], .exc 44 [.int 6]]
abbrev bsk : List D := [.lst [.bl true, .bl false, .bl false, .bl true, .bl false, .bl false], .lst [.bl true, .bl false, .bl false, .bl true, .bl false, .bl false], .lst [.bl true, .bl false, .bl false, .bl true, .bl false, .bl false], .lst [.bl true, .bl false, .bl false, .bl true, .bl false, .bl false], .lst [.bl true, .bl false, .bl false, .bl true, .bl false, .bl false], .lst [.bl true, .bl false, .bl false, .bl true, .bl false, .bl false], .lst [.bl true, .bl false, .bl false, .bl true, .bl false, .bl false], .lst [.bl true, .bl false, .bl false, .bl true, .bl false, .bl false], .lst [.bl true, .bl false, .bl false, .bl true, .bl false, .bl false], .lst [.bl true, .bl false, .bl false, .bl true, .bl false, .bl false], .lst [.bl true, .bl false, .bl false, .bl true, .bl false, .bl false], .lst [.bl true, .bl false, .bl false, .bl true, .bl false, .bl false], .lst [.bl true, .bl false, .bl false, .bl true, .bl false, .bl false], .lst [.bl true, .bl false, .bl false, .bl true, .bl false, .bl false], .lst [.bl true, .bl false, .bl false, .bl true, .bl false, .bl false], .lst [.bl false, .bl true, .bl false, .bl false, .bl true, .bl false], .lst [.bl false, .bl true, .bl false, .bl false, .bl true, .bl false], .lst [.bl false, .bl true, .bl false, .bl false, .bl true, .bl false], .lst [.bl false, .bl false, .bl true, .bl false, .bl false, .bl true], .lst [.bl false, .bl false, .bl true, .bl false, .bl false, .bl true], .lst [.bl false, .bl false, .bl true, .bl false, .bl false, .bl true], .lst [.bl false, .bl false, .bl true, .bl false, .bl false, .bl true], .lst [.bl false, .bl false, .bl true, .bl false, .bl false, .bl true], .lst [.bl false, .bl false, .bl true, .bl false, .bl false, .bl true], .lst [.bl false, .bl false, .bl true, .bl false, .bl false, .bl true]]
def sl (d a b : SV) : List SV := [d, a, .un, .un, b]
theorem s01_0 (d : SV) : (ifS (tst (DP.bin neD (lstM (consM (DP.ret (.int 8)) (consM (DP.ret (.int 4)) (consM (DP.ret (.int 1000000000)) (consM (DP.ret (.int 12)) (consM (DP.ret (.int 8)) (nilM))))))) (lstM (consM (DP.ret (.int 8)) (consM (DP.ret (.int 4)) (consM (DP.bin powI (DP.ret (.int 10)) (DP.ret (.int 9))) (consM (DP.ret (.int 12)) (consM (DP.ret (.int 8)) (nilM))))))))) (retS (DP.ret (.bl false))) (nxS) : DS) ⟨sl d .un .un, []⟩ = .nx ⟨sl d .un .un, []⟩ := by kernel_rfl
theorem s01_1 (d : SV) : (setS 1 (DP.bin addD (callM m_law_wrong_values nilM) (lstM (consM (mkX 34 (DP.ret .non)) (consM (mkX 35 (lstM (nilM))) (consM (mkX 36 (DP.ret (.int 5))) (consM (mkX 37 (DP.ret (.int 3))) (nilM))))))) : DS) ⟨sl d .un .un, []⟩ = .nx ⟨sl d (.val (.lst e1k)) .un, []⟩ := by kernel_rfl
theorem s01_2 (d : SV) : (setS 1 (DP.bin addD (varM 1) (lstM (consM (DP.ret (.exc 38 [])) (consM (DP.ret (.exc 39 [])) (consM (DP.ret (.exc 40 [])) (consM (mkX 41 (DP.ret (.int 4))) (consM (DP.ret (.exc 42 [])) (consM (DP.ret (.exc 43 [])) (consM (mkX 44 (DP.ret (.int 6))) (nilM)))))))))) : DS) ⟨sl d (.val (.lst e1k)) .un, []⟩ = .nx ⟨sl d (.val (.lst e2k)) .un, []⟩ := by kernel_rfl
theorem s01_3 (d : SV) : (ifS (tst (DP.bin neD (frzM (lcC [2] (iterM (varM 1)) (nameG 2) (DP.ret true) (callM m_law_own (consM (varM 2) (nilM))))) (frzM (lcC [3] (rangeM (consM (DP.ret (.int 25)) (nilM))) (nameG 3) (DP.ret true) (lstM (consM (varM 3) (nilM))))))) (retS (DP.ret (.bl false))) (nxS) : DS) ⟨sl d (.val (.lst e2k)) .un, []⟩ = .nx ⟨sl d (.val (.lst e2k)) .un, []⟩ := by kernel_rfl
theorem s01_4 (d : SV) : (setS 4 (frzM (lcC [2] (iterM (varM 1)) (nameG 2) (DP.ret true) (callM m_law_kinds (consM (varM 2) (nilM))))) : DS) ⟨sl d (.val (.lst e2k)) .un, []⟩ = .nx ⟨sl d (.val (.lst e2k)) (.val (.lst bsk)), []⟩ := by kernel_rfl
theorem s01_5a (d : SV) : (consM (sliceM (varM 4) (noPart) (partM (DP.ret (.int 15)))) (nilM) : DM (List D)) ⟨sl d (.val (.lst e2k)) (.val (.lst bsk)), []⟩ = .ok [.lst ((List.replicate 15 [true, false, false, true, false, false]).map fun xs => .lst (xs.map D.bl))] ⟨sl d (.val (.lst e2k)) (.val (.lst bsk)), []⟩ := by kernel_rfl
theorem s01_5b (d : SV) : (consM (frzM (lcC [3] (rangeM (consM (DP.ret (.int 15)) (nilM))) (nameG 3) (DP.ret true) (lstM (consM (DP.ret (.bl true)) (consM (DP.ret (.bl false)) (consM (DP.ret (.bl false)) (consM (DP.ret (.bl true)) (consM (DP.ret (.bl false)) (consM (DP.ret (.bl false)) (nilM)))))))))) (nilM) : DM (List D)) ⟨sl d (.val (.lst e2k)) (.val (.lst bsk)), []⟩ = .ok [.lst ((List.replicate 15 [true, false, false, true, false, false]).map fun xs => .lst (xs.map D.bl))] ⟨sl d (.val (.lst e2k)) (.val (.lst bsk)), []⟩ := by kernel_rfl
theorem s01_5 (d : SV) : (ifS (tst (DP.bin neD (appM reprN (consM (sliceM (varM 4) (noPart) (partM (DP.ret (.int 15)))) (nilM))) (appM reprN (consM (frzM (lcC [3] (rangeM (consM (DP.ret (.int 15)) (nilM))) (nameG 3) (DP.ret true) (lstM (consM (DP.ret (.bl true)) (consM (DP.ret (.bl false)) (consM (DP.ret (.bl false)) (consM (DP.ret (.bl true)) (consM (DP.ret (.bl false)) (consM (DP.ret (.bl false)) (nilM)))))))))) (nilM))))) (retS (DP.ret (.bl false))) (nxS) : DS) ⟨sl d (.val (.lst e2k)) (.val (.lst bsk)), []⟩ = .nx ⟨sl d (.val (.lst e2k)) (.val (.lst bsk)), []⟩ := by
  obtain ⟨t, h1, h2⟩ := repr_bls (List.replicate 15 [true, false, false, true, false, false]) (by intro xs hx; rw [(List.mem_replicate.mp hx).2]; decide) (by decide)
  exact rn01 h1 h2 (s01_5a d) (s01_5b d)
theorem s01_6a (d : SV) : (consM (sliceM (varM 4) (partM (DP.ret (.int 15))) (partM (DP.ret (.int 18)))) (nilM) : DM (List D)) ⟨sl d (.val (.lst e2k)) (.val (.lst bsk)), []⟩ = .ok [.lst ((List.replicate 3 [false, true, false, false, true, false]).map fun xs => .lst (xs.map D.bl))] ⟨sl d (.val (.lst e2k)) (.val (.lst bsk)), []⟩ := by kernel_rfl
theorem s01_6b (d : SV) : (consM (frzM (lcC [3] (rangeM (consM (DP.ret (.int 3)) (nilM))) (nameG 3) (DP.ret true) (lstM (consM (DP.ret (.bl false)) (consM (DP.ret (.bl true)) (consM (DP.ret (.bl false)) (consM (DP.ret (.bl false)) (consM (DP.ret (.bl true)) (consM (DP.ret (.bl false)) (nilM)))))))))) (nilM) : DM (List D)) ⟨sl d (.val (.lst e2k)) (.val (.lst bsk)), []⟩ = .ok [.lst ((List.replicate 3 [false, true, false, false, true, false]).map fun xs => .lst (xs.map D.bl))] ⟨sl d (.val (.lst e2k)) (.val (.lst bsk)), []⟩ := by kernel_rfl
theorem s01_6 (d : SV) : (ifS (tst (DP.bin neD (appM reprN (consM (sliceM (varM 4) (partM (DP.ret (.int 15))) (partM (DP.ret (.int 18)))) (nilM))) (appM reprN (consM (frzM (lcC [3] (rangeM (consM (DP.ret (.int 3)) (nilM))) (nameG 3) (DP.ret true) (lstM (consM (DP.ret (.bl false)) (consM (DP.ret (.bl true)) (consM (DP.ret (.bl false)) (consM (DP.ret (.bl false)) (consM (DP.ret (.bl true)) (consM (DP.ret (.bl false)) (nilM)))))))))) (nilM))))) (retS (DP.ret (.bl false))) (nxS) : DS) ⟨sl d (.val (.lst e2k)) (.val (.lst bsk)), []⟩ = .nx ⟨sl d (.val (.lst e2k)) (.val (.lst bsk)), []⟩ := by
  obtain ⟨t, h1, h2⟩ := repr_bls (List.replicate 3 [false, true, false, false, true, false]) (by intro xs hx; rw [(List.mem_replicate.mp hx).2]; decide) (by decide)
  exact rn01 h1 h2 (s01_6a d) (s01_6b d)
theorem s01_7a (d : SV) : (consM (sliceM (varM 4) (partM (DP.ret (.int 18))) (noPart)) (nilM) : DM (List D)) ⟨sl d (.val (.lst e2k)) (.val (.lst bsk)), []⟩ = .ok [.lst ((List.replicate 7 [false, false, true, false, false, true]).map fun xs => .lst (xs.map D.bl))] ⟨sl d (.val (.lst e2k)) (.val (.lst bsk)), []⟩ := by kernel_rfl
theorem s01_7b (d : SV) : (consM (frzM (lcC [3] (rangeM (consM (DP.ret (.int 7)) (nilM))) (nameG 3) (DP.ret true) (lstM (consM (DP.ret (.bl false)) (consM (DP.ret (.bl false)) (consM (DP.ret (.bl true)) (consM (DP.ret (.bl false)) (consM (DP.ret (.bl false)) (consM (DP.ret (.bl true)) (nilM)))))))))) (nilM) : DM (List D)) ⟨sl d (.val (.lst e2k)) (.val (.lst bsk)), []⟩ = .ok [.lst ((List.replicate 7 [false, false, true, false, false, true]).map fun xs => .lst (xs.map D.bl))] ⟨sl d (.val (.lst e2k)) (.val (.lst bsk)), []⟩ := by kernel_rfl
theorem s01_7 (d : SV) : (ifS (tst (DP.bin neD (appM reprN (consM (sliceM (varM 4) (partM (DP.ret (.int 18))) (noPart)) (nilM))) (appM reprN (consM (frzM (lcC [3] (rangeM (consM (DP.ret (.int 7)) (nilM))) (nameG 3) (DP.ret true) (lstM (consM (DP.ret (.bl false)) (consM (DP.ret (.bl false)) (consM (DP.ret (.bl true)) (consM (DP.ret (.bl false)) (consM (DP.ret (.bl false)) (consM (DP.ret (.bl true)) (nilM)))))))))) (nilM))))) (retS (DP.ret (.bl false))) (nxS) : DS) ⟨sl d (.val (.lst e2k)) (.val (.lst bsk)), []⟩ = .nx ⟨sl d (.val (.lst e2k)) (.val (.lst bsk)), []⟩ := by
  obtain ⟨t, h1, h2⟩ := repr_bls (List.replicate 7 [false, false, true, false, false, true]) (by intro xs hx; rw [(List.mem_replicate.mp hx).2]; decide) (by decide)
  exact rn01 h1 h2 (s01_7a d) (s01_7b d)
theorem s01_8 (d : SV) : (ifS (orT (tst (DP.bin neD (frzM (lcC [2] (iterM (sliceM (varM 1) (noPart) (partM (DP.ret (.int 14))))) (nameG 2) (DP.ret true) (getX (lookJ [(20, "InvalidCases"), (21, "InvalidPeople"), (22, "InvalidText"), (23, "InvalidLot"), (24, "InvalidTold"), (25, "InvalidSteps"), (26, "InvalidBets"), (27, "InvalidOrder"), (28, "InvalidNumber"), (29, "InvalidName"), (30, "InvalidClaim"), (31, "InvalidIndex"), (32, "InvalidLine"), (33, "NotARoom"), (35, "UnknownName"), (36, "UnknownCase")]) (varM 2)))) (frzM (lcC [3] (rangeM (consM (DP.ret (.int 14)) (nilM))) (nameG 3) (DP.ret true) (DP.ret (.str "a")))))) (orT (tst (DP.bin notNoneD (getX (lookJ [(34, "InvalidDeeds"), (37, "InUse"), (44, "Broken")]) (lookM ixD (slM 1) (DP.ret (.int 14)))) (DP.ret .non))) (tst (DP.bin neD (getX (lookJ [(34, "InvalidDeeds"), (37, "InUse"), (44, "Broken")]) (mkX 34 (DP.ret (.int 7)))) (DP.ret (.int 7)))))) (retS (DP.ret (.bl false))) (nxS) : DS) ⟨sl d (.val (.lst e2k)) (.val (.lst bsk)), []⟩ = .nx ⟨sl d (.val (.lst e2k)) (.val (.lst bsk)), []⟩ := by kernel_rfl
theorem s01_9 (d : SV) : (retS (DP.bin eqD (appM reprN (consM (lstM (consM (getX (lookJ [(20, "InvalidCases"), (21, "InvalidPeople"), (22, "InvalidText"), (23, "InvalidLot"), (24, "InvalidTold"), (25, "InvalidSteps"), (26, "InvalidBets"), (27, "InvalidOrder"), (28, "InvalidNumber"), (29, "InvalidName"), (30, "InvalidClaim"), (31, "InvalidIndex"), (32, "InvalidLine"), (33, "NotARoom"), (35, "UnknownName"), (36, "UnknownCase")]) (lookM ixD (slM 1) (DP.ret (.int 15)))) (consM (getX (lookJ [(20, "InvalidCases"), (21, "InvalidPeople"), (22, "InvalidText"), (23, "InvalidLot"), (24, "InvalidTold"), (25, "InvalidSteps"), (26, "InvalidBets"), (27, "InvalidOrder"), (28, "InvalidNumber"), (29, "InvalidName"), (30, "InvalidClaim"), (31, "InvalidIndex"), (32, "InvalidLine"), (33, "NotARoom"), (35, "UnknownName"), (36, "UnknownCase")]) (lookM ixD (slM 1) (DP.ret (.int 16)))) (consM (getX (lookJ [(34, "InvalidDeeds"), (37, "InUse"), (44, "Broken")]) (lookM ixD (slM 1) (DP.ret (.int 17)))) (consM (getX (lookJ [(41, "TooMany")]) (lookM ixD (slM 1) (DP.ret (.int 21)))) (consM (getX (lookJ [(34, "InvalidDeeds"), (37, "InUse"), (44, "Broken")]) (lookM ixD (slM 1) (DP.ret (.int 24)))) (nilM))))))) (nilM))) (appM reprN (consM (lstM (consM (lstM (nilM)) (consM (DP.ret (.int 5)) (consM (DP.ret (.int 3)) (consM (DP.ret (.int 4)) (consM (DP.ret (.int 6)) (nilM))))))) (nilM)))) : DS) ⟨sl d (.val (.lst e2k)) (.val (.lst bsk)), []⟩ = .rt (.bl true) ⟨sl d (.val (.lst e2k)) (.val (.lst bsk)), []⟩ := by kernel_rfl
end LK

namespace LK
open PySem PySem.Spec PyProof.Rows L2 He DP
theorem law01 (ns : List Int) (h : ns.length ≤ 63) (hb : ∀ z ∈ ns, z.natAbs.log2 ≤ 1048576) : ∃ hp, m_law [.lst (ns.map D.int)] [] = .ok (.bl true) hp :=
  ⟨_, right_go (b := b_law) (k := 4) (by rfl) (seqS_go (s01_0 _) (seqS_go (s01_1 _) (seqS_go (s01_2 _) (seqS_go (s01_3 _) (seqS_go (s01_4 _) (seqS_go (s01_5 _) (seqS_go (s01_6 _) (seqS_go (s01_7 _) (seqS_go (s01_8 _) (s01_9 _))))))))))⟩
end LK
open PySem PySem.W PyProof.Rows
theorem PySem.Challenge.cw_oneprior_k01_constants_and_errors_holds : PySem.Challenge.rw_oneprior_k01_constants_and_errors.Holds := by
  exact LK.holds_of LK.law01
