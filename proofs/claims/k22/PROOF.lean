import PyProof.Rows.All
import Wide.All
import OpenK.AllK
import Wide.FinOn
import HandS.ForMost
import HandS.WordsExc
import HandS.TupAny
import HandS.TupMul
import HandS.Wide
import HandS.WideBits
import HandS.Deep
import HandS.CallSlots
import HandS.Walk
import HandS.IsInst
import HandS.Property
import HandS.Conv
import HandS.Small
import HandS.WordsDict
import HandS.TupLen
import HandS.Zip
import KE.GoesMore
import KE.GoesEnum
import PyProof.ListStr
import KE.KDictPairs
import HandS.Codes
import HandS.ClsMeth
import HandS.FStr
import HandS.Defaults
import HandS.HeadHook1
import HandS.HeadHook2
import HandS.HeadNt
import HandS.Head0
import HandS.Head1
import HandS.Head2
import HandS.HeadEnd
import HandS.EndBits
import KE.KxText
import PySem.Challenge.RW_oneprior_k22_rooms_that_agree_to_differ
set_option Elab.async false
set_option linter.all false
set_option maxRecDepth 100000
set_option maxHeartbeats 4000000
/-! DP0: tuples whose object is known to have no dict of its own. -/
namespace DP
open PySem PySem.Spec PyProof.Rows L2

def Plain (o : Obj) : Prop := o.dict = none ∧ o.cls = .type "tuple"
/-- a tuple, laid by the program -/
def TupH (H : Hp) (a : Addr) (xs : List V) : Prop := ∃ o, H a = some (.frz o (.tup xs)) ∧ Plain o
def TupP (K : PySem.W.Frag) (H : Hp) (a : Addr) (xs : List V) : Prop :=
  TupH H a xs ∨ ∃ (o : Obj) (its : Array Value) (n : Nat), K.lookup a = some o ∧ Plain o ∧ o.data = .seq its n ∧ its.size ≤ sizeLine ∧ Vals xs its.toList
theorem TupH.rd {H : Hp} {a : Addr} {xs : List V} (h : TupH H a xs) : Rd H a (.tup xs) := let ⟨o, e, _⟩ := h; .inr ⟨o, e⟩
theorem TupP.sq {K : PySem.W.Frag} {H : Hp} {a : Addr} {xs : List V} (h : TupP K H a xs) : SqT K H a xs := by
  rcases h with h | ⟨o, its, n, h1, h2, h3, h4, h5⟩
  · exact .inl h.rd
  · exact .inr ⟨o, its, n, h1, h2.2, h3, h4, h5⟩
/-- something that is there a tuple: Q gets it -/
abbrev ForTup (H : Hp) (xs : List V) (Q : VK) : Prop := ∀ p o, Plain o → H p = none → Q (.ref p) (upd H p (.frz o (.tup xs)))
section
variable {X : Cx} {pins : List (Addr × Obj)} {σ : L2.St} {H : Hp} {s : Shared}
theorem laidT {h' : Heap} {a : Addr} {xs : List V} {its : List Value} {o : Obj} {n : Nat} {t' : Nat} (I : L2.Inv X pins σ H s) (k : ∀ b u, s.heap.get? b = some u → h'.get? b = some u) (hp : s.heap.objs.size ≤ a) (e : h'.get? a = some o) (ho : Plain o) (hd : o.data = .seq its.toArray n) (r : Vals xs its) (z : xs.length ≤ sizeLine) :
    L2.Inv X pins σ (upd H a (.frz o (.tup xs))) { s with heap := h', toks := t' } :=
  I.laid k hp ⟨e, z, its, r, o, e, ho.2, n, hd⟩
theorem plain_new {its : List Value} : Plain { cls := .type "tuple", data := .seq its.toArray } := ⟨rfl, rfl⟩
theorem laidT1 {xs : List V} {its : List Value} {t' : Nat} (I : L2.Inv X pins σ H s) (r : Vals xs its) (z : xs.length ≤ sizeLine) :
    L2.Inv X pins σ (upd H s.heap.objs.size (.frz { cls := .type "tuple", data := .seq its.toArray } (.tup xs))) { s with heap := s.heap.push { cls := .type "tuple", data := .seq its.toArray }, toks := t' } :=
  laidT I (fun b u e => Heap.get?_push_of_some _ e) (Nat.le_refl _) (Heap.get?_push_size _ rfl) plain_new rfl r z
end
theorem tuple_mul_same (l : Addr) (items : Array Value) (n : Nat) (dd : Option Addr) (sl : Array (Option Value)) (x : Int) (u : Tok) (c0 : (decide (x < -(2 ^ 63)) || decide (x ≥ 2 ^ 63)) = false) (c1 : (items.isEmpty || x == 1) = true) :
    Meets (Builtin.«tuple.__mul__» ⟨[.ref l, .int x u], []⟩) (fun _ R s => s.heap.get? l = some { cls := .type "tuple", dict := dd, data := .seq items n, slots := sl } ∧
      R (.ok (.ret (Value.ref l))) s) :=
  .of_wp fun prog w A R s h => by
    obtain ⟨hp, g, d, tk, os⟩ := s
    obtain ⟨hl, h⟩ := h
    have f1 := AutoSeq1.idx_int
    wp_walk using wpAny_loadPart' hl
    repeat (first
      | (refine wpAny_ite_false (decide_eq_false (by rw [c0]; exact Bool.false_ne_true)) ?_; wp_walk using wpAny_loadPart' hl)
      | (refine wpAny_ite_true (decide_eq_true (by rw [c1])) ?_; wp_walk using wpAny_loadPart' hl))
    exact ⟨_, rfl, h⟩
section
variable {X : Cx} {es : List Expr} {t : TA} {pos : Pos}
theorem pe_tupF {x1} (h : PA X es t) : PE X (.Tuple es x1 pos) (fun σ H Q => t σ H fun xs H1 => xs.length ≤ sizeLine ∧ ForTup H1 xs Q) := by
  refine ⟨fun pins s σ H Q I hq => ?_⟩
  refine wpAny_Tuple_spliced (thn (h.run pos pins s σ H _ I hq) fun us s1 ⟨xs, H1, I1, r, z, q⟩ => ⟨by rw [← r.length]; exact z, ?_⟩)
  exact ⟨.ref s1.heap.objs.size, _, laidT1 (t' := s1.toks) I1 r z, rfl, q _ _ plain_new (I1.hok.fresh (Nat.le_refl _))⟩
def rCatF (K : PySem.W.Frag) : R2 := fun x y H Q => ∃ a b xs ys, x = .ref a ∧ y = .ref b ∧ SqT K H a xs ∧ SqT K H b ys ∧ xs.length + ys.length ≤ sizeLine ∧
  (xs = [] → Q (.ref b) H) ∧ (xs ≠ [] → ys = [] → Q (.ref a) H) ∧ (xs ≠ [] → ys ≠ [] → ForTup H (xs ++ ys) Q)
theorem op_catF : OpR X (binaryOp .Add) (rCatF X.K) := by
  intro pins s σ H x y v u Q I rx ry h
  obtain ⟨a, b, xs, ys, rfl, rfl, ha, hb, hz, q0, q1, q2⟩ := h
  cases rx
  cases ry
  obtain ⟨its, r1, p1, _⟩ := I.tuple ha
  obtain ⟨its2, r2, p2, _⟩ := I.tuple hb
  by_cases hx : xs = []
  · subst hx
    cases r1
    exact cat_tup0 p1 p2 ⟨.ref b, H, I, rfl, q0 rfl⟩
  · refine HT.cat_tup p1 p2 (fun z => hx (r1.nil_iff.mp z)) (fun z => ⟨.ref a, H, I, rfl, q1 hx (r2.nil_iff.mp z)⟩) (fun z => ?_) (by rw [← r1.length, ← r2.length]; exact hz)
    exact ⟨.ref s.heap.objs.size, _, laidT1 (t' := s.toks) I (r1.append r2) (by rw [List.length_append]; exact hz), rfl, q2 hx (fun w => z (r2.nil_iff.mpr w)) _ _ plain_new (I.hok.fresh (Nat.le_refl _))⟩
def rRepF (K : PySem.W.Frag) : R2 := fun x y H Q => ∃ l k xs, x = .ref l ∧ y = .int k ∧ SqT K H l xs ∧ xs ≠ [] ∧ 2 ≤ k ∧ k ≤ 1000 ∧ xs.length ≤ 1000 ∧ ForTup H (List.replicate k.toNat xs).flatten Q
theorem op_repF : OpR X (binaryOp .Mult) (rRepF X.K) := by
  intro pins s σ H x y v u Q I rx ry h
  obtain ⟨l, k, xs, rfl, rfl, hT, hne, h1, h2, hz, q⟩ := h
  cases rx
  obtain ⟨t, rfl⟩ := ry
  obtain ⟨its, r, ⟨⟨cls, dd, data, sl⟩, ho, hc, n, hd⟩, hs⟩ := I.tuple hT
  simp only at hc hd
  subst hc hd
  have hle : its.length = xs.length := r.length.symm
  have hn : its ≠ [] := fun e => hne (List.eq_nil_of_length_eq_zero (by rw [← hle, e]; rfl))
  have hi : its.toArray.isEmpty = false := by
    cases its with
    | nil => exact absurd rfl hn
    | cons a b => rfl
  have hsz0 : its.toArray.size = xs.length := by rw [List.size_toArray, hle]
  have hm : ((its.toArray.size : Nat) : Int) * k ≤ 1000000 := by
    rw [hsz0]
    have a1 : ((xs.length : Nat) : Int) * k ≤ 1000 * k := Int.mul_le_mul_of_nonneg_right (by omega) (by omega)
    omega
  have fl : (List.replicate k.toNat xs).flatten.length ≤ sizeLine := by
    rw [PyProof.Rows.lm_len_rep_flat, sizeLine_eq]
    have a1 : k.toNat * xs.length ≤ 1000 * 1000 := Nat.mul_le_mul (by omega) hz
    omega
  have flen : (List.replicate k.toNat its).flatten.length ≤ sizeLine := by
    rw [PyProof.Rows.lm_len_rep_flat, hle, ← PyProof.Rows.lm_len_rep_flat]; exact fl
  have c0 : (decide (k < -(2 ^ 63)) || decide (k ≥ 2 ^ 63)) = false := by rw [decide_eq_false (by omega), decide_eq_false (by omega)] <;> rfl
  have c1 : (its.toArray.isEmpty || k == 1) = false := by rw [hi, Bool.false_or]; exact beq_eq_false_iff_ne.mpr (by omega)
  have c2 : (decide (k ≤ 0) || its.toArray.isEmpty) = false := by rw [hi, Bool.or_false]; exact decide_eq_false (by omega)
  have c4 : Builtin.Tuple.tupleTooMany (((its.toArray.size : Nat) : Int) * k) = false := by
    unfold Builtin.Tuple.tupleTooMany
    rw [sizeLine_eq]
    exact decide_eq_false (by omega)
  refine wpAny_binaryOp_repeat_ref (T := "tuple") (U := "int") (by decide) ⟨_, ho, rfl⟩ (fun s' => typeIs_int s' k t) noFill_tuple_mul F.fills_int_mul F.slot_int_rmul repeat_tuple F.slot_int_index.lookup
    (call_meets F.slot_int_rmul (typeIs_int s k t) F.entry_int_rmul (F.args_int_rmul_2 _ _) (int_rmul_tuple k t l its.toArray n dd sl)
      ⟨ho, rfl, ⟨_, ho, rfl⟩, call_meets F.slot_tuple_mul ⟨_, ho, rfl⟩ F.entry_tuple_mul (F.args_tuple_mul_2 _ _) (tuple_mulW l its.toArray n dd sl k t c0 c1 c2 (by omega) c4 (by rw [size_rep, List.size_toArray]; exact flen)) ⟨ho, ?_⟩⟩)
  rw [size_rep]
  exact ⟨.ref s.heap.objs.size, _, laidT1 (t' := s.toks) I (r.rep k.toNat) fl, rfl, q _ _ plain_new (I.hok.fresh (Nat.le_refl _))⟩
def rRep1 (K : PySem.W.Frag) : R2 := fun x y H Q => ∃ l xs, x = .ref l ∧ y = .int 1 ∧ SqT K H l xs ∧ Q (.ref l) H
theorem op_rep1 : OpR X (binaryOp .Mult) (rRep1 X.K) := by
  intro pins s σ H x y v u Q I rx ry h
  obtain ⟨l, xs, rfl, rfl, hT, q⟩ := h
  cases rx
  obtain ⟨t, rfl⟩ := ry
  obtain ⟨its, r, ⟨⟨cls, dd, data, sl⟩, ho, hc, n, hd⟩, hs⟩ := I.tuple hT
  simp only at hc hd
  subst hc hd
  refine wpAny_binaryOp_repeat_ref (T := "tuple") (U := "int") (by decide) ⟨_, ho, rfl⟩ (fun s' => typeIs_int s' 1 t) noFill_tuple_mul F.fills_int_mul F.slot_int_rmul repeat_tuple F.slot_int_index.lookup
    (call_meets F.slot_int_rmul (typeIs_int s 1 t) F.entry_int_rmul (F.args_int_rmul_2 _ _) (int_rmul_tuple 1 t l its.toArray n dd sl)
      ⟨ho, rfl, ⟨_, ho, rfl⟩, call_meets F.slot_tuple_mul ⟨_, ho, rfl⟩ F.entry_tuple_mul (F.args_tuple_mul_2 _ _) (tuple_mul_same l its.toArray n dd sl 1 t (by decide) (by simp)) ⟨ho, ?_⟩⟩)
  exact ⟨.ref l, H, I, rfl, q⟩
theorem call_divmodF : CallR X (.builtin "divmod") (fun xs H Q => ∃ i j, xs = [.int i, .int j] ∧ CDiv i j ∧ ForTup H [.int (i / j), .int (i % j)] Q) := by
  intro pins s σ H xs us Q I r h
  obtain ⟨i, j, rfl, ⟨h1, h2⟩, q⟩ := h
  obtain ⟨u, w', rfl, ⟨t, rfl⟩, ⟨t', rfl⟩⟩ := vals2 r
  refine divmod_int (by omega) ?_ (.inl (PyProof.noPylong_small (by omega)))
  rw [Int.fdiv_eq_ediv_of_nonneg i (by omega), Int.fmod_eq_emod_of_nonneg i (by omega)]
  exact ⟨.ref s.heap.objs.size, _, laidT (xs := [.int (i / j), .int (i % j)]) (its := [.int (i / j) s.toks, .int (i % j) (s.toks + 1)]) I (fun b o e => Heap.get?_push_of_some _ e) (Nat.le_refl _) (Heap.get?_push_size s.heap rfl) ⟨rfl, rfl⟩ rfl (.cons ⟨_, rfl⟩ (.cons ⟨_, rfl⟩ .nil)) (by simp only [List.length_cons, List.length_nil]; rw [sizeLine_eq]; decide), rfl, q _ _ ⟨rfl, rfl⟩ (I.hok.fresh (Nat.le_refl _))⟩
theorem call_tupleF : CallR X (.type "tuple") (fun xs H Q => ∃ p ys, xs = [.ref p] ∧ ((SqL X.K H p ys ∧ ForTup H ys Q) ∨ (SqT X.K H p ys ∧ Q (.ref p) H))) := by
  intro pins s σ H xs us Q I r h
  obtain ⟨p, ys, rfl, h⟩ := h
  obtain ⟨u, rfl, rx⟩ := vals1 r
  cases rx
  rcases h with ⟨hq, q⟩ | ⟨hq, q⟩
  · obtain ⟨its, r', pl, hz⟩ := I.list hq
    have hlen := r'.length
    refine call_tuple_list pl.isList (fun h' kp => ?_) (by simp only [List.size_toArray] <;> omega)
    have I1 : L2.Inv X pins σ H { s with heap := h' } := I.kept (t' := s.toks) kp
    exact ⟨.ref h'.objs.size, _, laidT1 (t' := s.toks) I1 r' hz, rfl, q _ _ plain_new (I1.hok.fresh (Nat.le_refl _))⟩
  · obtain ⟨its, r', pl, hz⟩ := I.tuple hq
    exact call_tuple_same pl ⟨.ref p, H, I, rfl, q⟩
def rSlF (K : PySem.W.Frag) : V → Option Int → Option Int → Hp → VK → Prop := fun x lo hi H Q => ∃ a xs, x = .ref a ∧ SqT K H a xs ∧
  (HT.sIx xs.length 0 lo = 0 ∧ HT.sIx xs.length xs.length hi = xs.length → Q (.ref a) H) ∧ (¬ (HT.sIx xs.length 0 lo = 0 ∧ HT.sIx xs.length xs.length hi = xs.length) → ForTup H (cutV xs lo hi) Q)
theorem sl_tupF : SlR X (rSlF X.K) := by
  intro pins s σ H x v vl vu lo hi sl Q I rx hs pl pu h
  obtain ⟨a, xs, rfl, hx, q1, q2⟩ := h
  cases rx
  obtain ⟨its, r, ht, hz⟩ := I.tuple hx
  have hlen : its.toArray.size = xs.length := by rw [List.size_toArray]; exact r.length.symm
  refine ⟨"tuple", _, PyProof.Rows.slot_tuple_getitem.lookup, ht.typeIs, ?_⟩
  by_cases hw : HT.sIx xs.length 0 lo = 0 ∧ HT.sIx xs.length xs.length hi = xs.length
  · exact getItem_tuple_whole ht hs pl pu (by rw [hlen]; exact hw) ⟨.ref a, H, I, rfl, q1 hw⟩
  · refine HT.getItem_tuple_cut ht hs pl pu (by rw [hlen]; exact hw) ?_ (by rw [hlen]; exact hz)
    rw [hlen]
    exact ⟨.ref s.heap.objs.size, _, laidT1 (t' := s.toks) I ((r.drop (HT.sIx xs.length 0 lo)).take (HT.sIx xs.length xs.length hi - HT.sIx xs.length 0 lo)) (Nat.le_trans (cutV_length xs lo hi) hz), rfl, q2 hw _ _ plain_new (I.hok.fresh (Nat.le_refl _))⟩
end
end DP
set_option Elab.async false
set_option linter.all false
set_option maxRecDepth 100000
set_option maxHeartbeats 4000000
/-! DP1: data, cells, slots; how data stands in the abstract heap; states and what is kept. -/
namespace DP
open PySem L2

inductive D where
  | non | bl (b : Bool) | int (i : Int) | str (x : Str)
  | tup (xs : List D) | lst (xs : List D)
  | dk (ks : List Key) (vs : List D)
  | dt (ks : List (List Key)) (vs : List D)
  | ins (c : Nat) (vs : List D)
  | ref (n : Nat)
instance : Inhabited D := ⟨.non⟩
inductive Cell where
  | lst (xs : List D)
  | dk (ks : List Key) (vs : List D)
  | dt (ks : List (List Key)) (vs : List D)
  | ins (c : Nat) (vs : List D)
def Cell.frz : Cell → D
  | .lst xs => .lst xs
  | .dk ks vs => .dk ks vs
  | .dt ks vs => .dt ks vs
  | .ins c vs => .ins c vs
inductive SV where
  | un | val (d : D) | own (c : Cell)
structure DSt where
  sl : List SV
  hp : List Cell
/-- an exception: its class's number, its one argument (if it has one) -/
structure XD where
  c : Nat
  arg : Option D
inductive R (α : Type) where
  | ok (a : α) (s : DSt) | err (x : XD) (s : DSt) | stuck
abbrev DM (α : Type) := DSt → R α
/-- how a statement ends -/
inductive RS where
  | nx (s : DSt) | rt (d : D) (s : DSt) | bk (s : DSt) | ct (s : DSt) | err (x : XD) (s : DSt) | stuck
abbrev DS := DSt → RS
/-- how a def ends -/
inductive RF where
  | ok (d : D) (hp : List Cell) | err (x : XD) (hp : List Cell) | stuck
abbrev DF := List D → List Cell → RF

/-- the ground: the written part, the classes' addresses and fields -/
structure Wd where
  K : PySem.W.Frag
  ca : Nat → Addr
  cf : Nat → List Str

/-- a list that is not written any more -/
def KeptL (K : PySem.W.Frag) (a : Addr) (xs : List V) : Prop := ∃ (o : Obj) (its : Array Value) (n : Nat), K.lookup a = some o ∧ o.cls = .type "list" ∧ o.dict = none ∧ o.data = .seq its n ∧ its.size ≤ sizeLine ∧ Vals xs its.toList
def FzL (K : PySem.W.Frag) (L : Addr → Prop) (H : Hp) (a : Addr) (xs : List V) : Prop :=
  (Rd H a (.lst xs) ∧ ¬ L a) ∨ KeptL K a xs
theorem FzL.sq {K : PySem.W.Frag} {L : Addr → Prop} {H : Hp} {a : Addr} {xs : List V} (h : FzL K L H a xs) : SqL K H a xs := by
  rcases h with h | h
  · exact .inl h.1
  · exact .inr h

mutual
inductive Rep (G : Wd) (rho : List Addr) (L : Addr → Prop) (H : Hp) : D → V → Prop where
  | non : Rep G rho L H .non .non
  | bl (b : Bool) : Rep G rho L H (.bl b) (.bl b)
  | int (i : Int) : Rep G rho L H (.int i) (.int i)
  | str (x : Str) : Rep G rho L H (.str x) (.str x)
  | tup {a : Addr} {vs : List V} {ds : List D} : TupP G.K H a vs → RepL G rho L H ds vs → Rep G rho L H (.tup ds) (.ref a)
  | lst {a : Addr} {vs : List V} {ds : List D} : FzL G.K L H a vs → RepL G rho L H ds vs → Rep G rho L H (.lst ds) (.ref a)
  | dk {a : Addr} {ks : List Key} {vs : List V} {ds : List D} : Rd H a (.dK (ks.zip vs)) → ¬ L a → ks.length = vs.length → RepL G rho L H ds vs → Rep G rho L H (.dk ks ds) (.ref a)
  | dt {a : Addr} {ks : List (List Key)} {vs : List V} {ds : List D} : Rd H a (.dT (ks.zip vs)) → ¬ L a → ks.length = vs.length → RepL G rho L H ds vs → Rep G rho L H (.dt ks ds) (.ref a)
  | ins {a dx : Addr} {c : Nat} {vs : List V} {ds : List D} : H a = some (.ins (G.ca c) dx ((G.cf c).zip vs)) → ¬ L a → RepL G rho L H ds vs → Rep G rho L H (.ins c ds) (.ref a)
  | ref {n : Nat} {a : Addr} : rho[n]? = some a → Rep G rho L H (.ref n) (.ref a)
inductive RepL (G : Wd) (rho : List Addr) (L : Addr → Prop) (H : Hp) : List D → List V → Prop where
  | nil : RepL G rho L H [] []
  | cons {d : D} {v : V} {ds : List D} {vs : List V} : Rep G rho L H d v → RepL G rho L H ds vs → RepL G rho L H (d :: ds) (v :: vs)
end

section
variable {G : Wd} {rho rho' : List Addr} {L L' : Addr → Prop} {H H' : Hp}
/-- what carries data over -/
structure Car (rho : List Addr) (L : Addr → Prop) (H : Hp) (rho' : List Addr) (L' : Addr → Prop) (H' : Hp) : Prop where
  rho : ∀ (n : Nat) (a : Addr), rho[n]? = some a → rho'[n]? = some a
  rd : ∀ (a : Addr) (o : HO), ¬ L a → Rd H a o → Rd H' a o
  ins : ∀ (a C dx : Addr) (fs : List (Str × V)), ¬ L a → H a = some (.ins C dx fs) → H' a = some (.ins C dx fs)
  dead : ∀ (a : Addr), ¬ L a → H a ≠ none → ¬ L' a
  tup : ∀ (a : Addr) (vs : List V), TupH H a vs → TupH H' a vs
theorem rdsome {H : Hp} {a : Addr} {u : HO} (h : Rd H a u) : H a ≠ none := by
  rcases h with h | ⟨o, h⟩ <;> rw [h] <;> exact fun z => by cases z
mutual
theorem Rep.car (c : Car rho L H rho' L' H') : ∀ {d : D} {v : V}, Rep G rho L H d v → Rep G rho' L' H' d v
  | .non, _, h => by cases h; exact .non
  | .bl b, _, h => by cases h; exact .bl b
  | .int i, _, h => by cases h; exact .int i
  | .str x, _, h => by cases h; exact .str x
  | .tup ds, _, h => by
    cases h with
    | tup ht ha =>
      refine .tup ?_ (RepL.car c ha)
      rcases ht with ht | ht
      · exact .inl (c.tup _ _ ht)
      · exact .inr ht
  | .lst ds, _, h => by
    cases h with
    | lst hl ha =>
      refine .lst ?_ (RepL.car c ha)
      rcases hl with ⟨hl, hn⟩ | hl
      · exact .inl ⟨c.rd _ _ hn hl, c.dead _ hn (rdsome hl)⟩
      · exact .inr hl
  | .dk ks ds, _, h => by
    cases h with
    | dk hl hn hz ha => exact .dk (c.rd _ _ hn hl) (c.dead _ hn (rdsome hl)) hz (RepL.car c ha)
  | .dt ks ds, _, h => by
    cases h with
    | dt hl hn hz ha => exact .dt (c.rd _ _ hn hl) (c.dead _ hn (rdsome hl)) hz (RepL.car c ha)
  | .ins k ds, _, h => by
    cases h with
    | ins hl hn ha => exact .ins (c.ins _ _ _ _ hn hl) (c.dead _ hn (by rw [hl]; exact fun z => by cases z)) (RepL.car c ha)
  | .ref n, _, h => by
    cases h with
    | ref hl => exact .ref (c.rho _ _ hl)
theorem RepL.car (c : Car rho L H rho' L' H') : ∀ {ds : List D} {vs : List V}, RepL G rho L H ds vs → RepL G rho' L' H' ds vs
  | [], _, h => by cases h; exact .nil
  | d :: ds, _, h => by
    cases h with
    | cons h1 h2 => exact .cons (Rep.car c h1) (RepL.car c h2)
end
theorem RepL.length : ∀ {ds : List D} {vs : List V}, RepL G rho L H ds vs → ds.length = vs.length
  | [], _, h => by cases h; rfl
  | d :: ds, _, h => by
    cases h with
    | cons h1 h2 => simp [RepL.length h2]
theorem RepL.get : ∀ {ds : List D} {vs : List V} {i : Nat} {v : V}, RepL G rho L H ds vs → vs[i]? = some v → ∃ d, ds[i]? = some d ∧ Rep G rho L H d v
  | [], _, _, _, h, e => by cases h; simp at e
  | d :: ds, _, 0, _, h, e => by
    cases h with
    | cons h1 h2 => simp at e; subst e; exact ⟨d, rfl, h1⟩
  | d :: ds, _, i + 1, v, h, e => by
    cases h with
    | cons h1 h2 =>
      obtain ⟨d', e', r⟩ := RepL.get (i := i) (v := v) h2 (by simpa using e)
      exact ⟨d', by simpa using e', r⟩
theorem RepL.get' : ∀ {ds : List D} {vs : List V} {i : Nat} {d : D}, RepL G rho L H ds vs → ds[i]? = some d → ∃ v, vs[i]? = some v ∧ Rep G rho L H d v
  | [], _, _, _, h, e => by simp at e
  | d :: ds, _, 0, _, h, e => by
    cases h with
    | cons h1 h2 => simp at e; subst e; exact ⟨_, rfl, h1⟩
  | d :: ds, _, i + 1, v, h, e => by
    cases h with
    | cons h1 h2 =>
      obtain ⟨d', e', r⟩ := RepL.get' (i := i) (d := v) h2 (by simpa using e)
      exact ⟨d', by simpa using e', r⟩
theorem RepL.append : ∀ {ds es : List D} {vs ws : List V}, RepL G rho L H ds vs → RepL G rho L H es ws → RepL G rho L H (ds ++ es) (vs ++ ws)
  | [], _, _, _, h, k => by cases h; exact k
  | d :: ds, _, _, _, h, k => by
    cases h with
    | cons h1 h2 => exact .cons h1 (RepL.append h2 k)
theorem RepL.set : ∀ {ds : List D} {vs : List V} {d : D} {v : V} (i : Nat), RepL G rho L H ds vs → Rep G rho L H d v → RepL G rho L H (ds.set i d) (vs.set i v)
  | [], _, _, _, _, h, _ => by cases h; exact .nil
  | d :: ds, _, _, _, 0, h, k => by
    cases h with
    | cons h1 h2 => exact .cons k h2
  | d :: ds, _, _, _, i + 1, h, k => by
    cases h with
    | cons h1 h2 => exact .cons h1 (RepL.set i h2 k)
theorem RepL.take : ∀ {ds : List D} {vs : List V} (n : Nat), RepL G rho L H ds vs → RepL G rho L H (ds.take n) (vs.take n)
  | _, _, 0, _ => .nil
  | [], _, n + 1, h => by cases h; exact .nil
  | d :: ds, _, n + 1, h => by
    cases h with
    | cons h1 h2 => exact .cons h1 (RepL.take n h2)
theorem RepL.drop : ∀ {ds : List D} {vs : List V} (n : Nat), RepL G rho L H ds vs → RepL G rho L H (ds.drop n) (vs.drop n)
  | _, _, 0, h => h
  | [], _, n + 1, h => by cases h; exact .nil
  | d :: ds, _, n + 1, h => by
    cases h with
    | cons h1 h2 => exact RepL.drop n h2
theorem RepL.snoc {ds : List D} {vs : List V} {d : D} {v : V} (h : RepL G rho L H ds vs) (k : Rep G rho L H d v) : RepL G rho L H (ds ++ [d]) (vs ++ [v]) := h.append (.cons k .nil)
theorem RepL.eraseIdx : ∀ {ds : List D} {vs : List V} (i : Nat), RepL G rho L H ds vs → RepL G rho L H (ds.eraseIdx i) (vs.eraseIdx i)
  | [], _, _, h => by cases h; exact .nil
  | d :: ds, _, 0, h => by
    cases h with
    | cons h1 h2 => exact h2
  | d :: ds, _, i + 1, h => by
    cases h with
    | cons h1 h2 => exact .cons h1 (RepL.eraseIdx i h2)
theorem RepL.reverse : ∀ {ds : List D} {vs : List V}, RepL G rho L H ds vs → RepL G rho L H ds.reverse vs.reverse
  | [], _, h => by cases h; exact .nil
  | d :: ds, _, h => by
    cases h with
    | cons h1 h2 => simp only [List.reverse_cons]; exact (RepL.reverse h2).append (.cons h1 .nil)
end

/-! ### states -/
structure Pt where
  rho : List Addr
  st : DSt
  sg : St
  H : Hp
/-- what may be written -/
def Pt.M (p : Pt) (a : Addr) : Prop := a ∈ p.rho ∨ ∃ (i : Nat) (c : Cell), p.st.sl[i]? = some (SV.own c) ∧ p.sg[i]? = some (some (V.ref a))
abbrev Pt.L (Z : Addr → Prop) (p : Pt) : Addr → Prop := fun a => p.M a ∨ Z a
abbrev RepP (G : Wd) (Z : Addr → Prop) (p : Pt) := Rep G p.rho (p.L Z) p.H
abbrev RepLP (G : Wd) (Z : Addr → Prop) (p : Pt) := RepL G p.rho (p.L Z) p.H
def CellAt (G : Wd) (rho : List Addr) (L : Addr → Prop) (H : Hp) (a : Addr) : Cell → Prop
  | .lst ds => ∃ vs, H a = some (.lst vs) ∧ RepL G rho L H ds vs
  | .dk ks ds => ∃ vs, H a = some (.dK (ks.zip vs)) ∧ ks.length = vs.length ∧ RepL G rho L H ds vs
  | .dt ks ds => ∃ vs, H a = some (.dT (ks.zip vs)) ∧ ks.length = vs.length ∧ RepL G rho L H ds vs
  | .ins c ds => ∃ dx vs, H a = some (.ins (G.ca c) dx ((G.cf c).zip vs)) ∧ RepL G rho L H ds vs
abbrev CellP (G : Wd) (Z : Addr → Prop) (p : Pt) := CellAt G p.rho (p.L Z) p.H
structure SR (G : Wd) (Z : Addr → Prop) (p : Pt) : Prop where
  len : p.st.sl.length = p.sg.length
  hlen : p.rho.length = p.st.hp.length
  val : ∀ (i : Nat) (d : D), p.st.sl[i]? = some (SV.val d) → ∃ v, p.sg[i]? = some (some v) ∧ RepP G Z p d v
  own : ∀ (i : Nat) (c : Cell), p.st.sl[i]? = some (SV.own c) → ∃ (a : Addr), p.sg[i]? = some (some (V.ref a)) ∧ CellP G Z p a c ∧ a ∉ p.rho ∧ ¬ Z a
  cell : ∀ (n : Nat) (c : Cell), p.st.hp[n]? = some c → ∃ (a : Addr), p.rho[n]? = some a ∧ CellP G Z p a c ∧ ¬ Z a
  nod : p.rho.Nodup
  dis : ∀ (i j : Nat) (c c' : Cell) (a : Addr), p.st.sl[i]? = some (SV.own c) → p.st.sl[j]? = some (SV.own c') → p.sg[i]? = some (some (V.ref a)) → p.sg[j]? = some (some (V.ref a)) → i = j
  zin : ∀ a, Z a → p.H a ≠ none

/-- from one state to a later one: what is kept -/
structure Le (p p' : Pt) : Prop where
  rho : ∀ (n : Nat) (a : Addr), p.rho[n]? = some a → p'.rho[n]? = some a
  keep : ∀ (a : Addr) (o : HO), p.H a = some o → ¬ p.M a → p'.H a = some o ∧ ¬ p'.M a
  tup : ∀ (a : Addr) (vs : List V), TupH p.H a vs → TupH p'.H a vs
  has : ∀ (a : Addr), p.H a ≠ none → p'.H a ≠ none
theorem Le.refl (p : Pt) : Le p p := ⟨fun _ _ h => h, fun _ _ h k => ⟨h, k⟩, fun _ _ h => h, fun _ h => h⟩
theorem Le.trans {p q r : Pt} (a : Le p q) (b : Le q r) : Le p r :=
  ⟨fun n x h => b.rho n x (a.rho n x h), fun x o h k => let ⟨h1, k1⟩ := a.keep x o h k; b.keep x o h1 k1, fun x v h => b.tup x v (a.tup x v h), fun x h => b.has x (a.has x h)⟩
theorem Le.car {p q : Pt} (Z : Addr → Prop) (a : Le p q) : Car p.rho (p.L Z) p.H q.rho (q.L Z) q.H where
  rho := a.rho
  rd := fun x o hn h => by
    have hm : ¬ p.M x := fun z => hn (.inl z)
    rcases h with h | ⟨u, h⟩
    · exact .inl (a.keep x _ h hm).1
    · exact .inr ⟨u, (a.keep x _ h hm).1⟩
  ins := fun x C dx fs hn h => (a.keep x _ h fun z => hn (.inl z)).1
  dead := fun x hn h => by
    cases e : p.H x with
    | none => exact absurd e h
    | some o =>
      rintro (z | z)
      · exact (a.keep x o e fun z => hn (.inl z)).2 z
      · exact hn (.inr z)
  tup := a.tup
theorem Le.rep {G : Wd} {Z : Addr → Prop} {p q : Pt} (a : Le p q) {d : D} {v : V} (h : RepP G Z p d v) : RepP G Z q d v := h.car (a.car Z)
theorem Le.repL {G : Wd} {Z : Addr → Prop} {p q : Pt} (a : Le p q) {ds : List D} {vs : List V} (h : RepLP G Z p ds vs) : RepLP G Z q ds vs := RepL.car (a.car Z) h

section
variable {G : Wd} {Z : Addr → Prop} {p : Pt}

theorem CellAt.some {rho : List Addr} {L : Addr → Prop} {H : Hp} {a : Addr} {c : Cell} (h : CellAt G rho L H a c) : H a ≠ none := by
  cases c with
  | lst _ => obtain ⟨vs, e, _⟩ := h; rw [e]; exact fun z => by cases z
  | dk _ _ => obtain ⟨vs, e, _⟩ := h; rw [e]; exact fun z => by cases z
  | dt _ _ => obtain ⟨vs, e, _⟩ := h; rw [e]; exact fun z => by cases z
  | ins _ _ => obtain ⟨dx, vs, e, _⟩ := h; rw [e]; exact fun z => by cases z
theorem CellAt.mut {rho : List Addr} {L : Addr → Prop} {H : Hp} {a : Addr} {c : Cell} (h : CellAt G rho L H a c) : Mut (H a) := by
  cases c with
  | lst _ => obtain ⟨vs, e, _⟩ := h; rw [e]; trivial
  | dk _ _ => obtain ⟨vs, e, _⟩ := h; rw [e]; trivial
  | dt _ _ => obtain ⟨vs, e, _⟩ := h; rw [e]; trivial
  | ins _ _ => obtain ⟨dx, vs, e, _⟩ := h; rw [e]; trivial
theorem SR.mut (S : SR G Z p) {a : Addr} (h : p.M a) : Mut (p.H a) := by
  rcases h with h | ⟨i, c, h, k⟩
  · obtain ⟨n, hn, rfl⟩ := List.getElem_of_mem h
    have hl : n < p.st.hp.length := by rw [← S.hlen]; exact hn
    obtain ⟨a, e, q, _⟩ := S.cell n _ (List.getElem?_eq_getElem hl)
    rw [List.getElem?_eq_getElem hn] at e
    cases e
    exact q.mut
  · obtain ⟨a', e, q, _⟩ := S.own i c h
    rw [k] at e
    cases e
    exact q.mut
theorem SR.has (S : SR G Z p) {a : Addr} (h : p.M a) : p.H a ≠ none := by
  have := S.mut h
  intro e
  rw [e] at this
  exact this
theorem SR.hasL (S : SR G Z p) {a : Addr} (h : p.L Z a) : p.H a ≠ none := by
  rcases h with h | h
  · exact S.has h
  · exact S.zin _ h
theorem SR.notTup (S : SR G Z p) {a : Addr} {vs : List V} (h : p.M a) (e : Rd p.H a (.tup vs)) : False := by
  have m := S.mut h
  rcases e with e | ⟨o, e⟩ <;> rw [e] at m <;> exact m
theorem SR.notFrz (S : SR G Z p) {a : Addr} {u : HO} {o : Obj} (h : p.M a) (e : p.H a = some (.frz o u)) : False := by
  have m := S.mut h
  rw [e] at m; exact m
end

/-! ### new things laid down: H' keeps H -/
theorem same_M {p : Pt} {H' : Hp} : ({ p with H := H' } : Pt).M = p.M := rfl
theorem SR.ext {G : Wd} {Z : Addr → Prop} {p : Pt} {H' : Hp} (S : SR G Z p) (e : Same p.H H') : SR G Z { p with H := H' } ∧ Le p { p with H := H' } := by
  have hh : ∀ a, p.H a ≠ none → H' a ≠ none := fun a h => by
    cases q : p.H a with
    | none => exact absurd q h
    | some o => rw [e a o q]; exact fun z => by cases z
  have l : Le p { p with H := H' } := ⟨fun _ _ h => h, fun a o h k => ⟨e a o h, k⟩, fun a vs ⟨o, h, hd⟩ => ⟨o, e a _ h, hd⟩, hh⟩
  have cc : ∀ a c, CellP G Z p a c → CellP G Z { p with H := H' } a c := fun a c h => by
    cases c with
    | lst ds => obtain ⟨vs, h1, h2⟩ := h; exact ⟨vs, e a _ h1, l.repL h2⟩
    | dk ks ds => obtain ⟨vs, h1, hz, h2⟩ := h; exact ⟨vs, e a _ h1, hz, l.repL h2⟩
    | dt ks ds => obtain ⟨vs, h1, hz, h2⟩ := h; exact ⟨vs, e a _ h1, hz, l.repL h2⟩
    | ins c ds => obtain ⟨dx, vs, h1, h2⟩ := h; exact ⟨dx, vs, e a _ h1, l.repL h2⟩
  refine ⟨⟨S.len, S.hlen, fun i d h => ?_, fun i c h => ?_, fun n c h => ?_, S.nod, S.dis, fun a h => hh a (S.zin a h)⟩, l⟩
  · obtain ⟨v, h1, h2⟩ := S.val i d h
    exact ⟨v, h1, l.rep h2⟩
  · obtain ⟨a, h1, h2, h3⟩ := S.own i c h
    exact ⟨a, h1, cc a c h2, h3⟩
  · obtain ⟨a, h1, h2, h3⟩ := S.cell n c h
    exact ⟨a, h1, cc a c h2, h3⟩
/-- a new object at a free place -/
theorem same_upd {H : Hp} {a : Addr} {o : HO} (h : H a = none) : Same H (upd H a o) := fun b u e => by
  rw [upd_ne (ne_of_none e h)]; exact e
theorem SR.freeL {G : Wd} {Z : Addr → Prop} {p : Pt} (S : SR G Z p) {a : Addr} (h : p.H a = none) : ¬ p.L Z a := fun z => S.hasL z h
end DP
set_option Elab.async false
set_option linter.all false
set_option maxRecDepth 100000
set_option maxHeartbeats 4000000
/-! DP2: the state's changes. -/
namespace DP
open PySem L2
section
variable {G : Wd} {Z : Addr → Prop} {p : Pt}

/-- what is laid for a cell, its data told in p -/
def CellO (G : Wd) (Z : Addr → Prop) (p : Pt) (o : HO) : Cell → Prop
  | .lst ds => ∃ vs, o = .lst vs ∧ RepLP G Z p ds vs
  | .dk ks ds => ∃ vs, o = .dK (ks.zip vs) ∧ ks.length = vs.length ∧ RepLP G Z p ds vs
  | .dt ks ds => ∃ vs, o = .dT (ks.zip vs) ∧ ks.length = vs.length ∧ RepLP G Z p ds vs
  | .ins c ds => ∃ dx vs, o = .ins (G.ca c) dx ((G.cf c).zip vs) ∧ RepLP G Z p ds vs
theorem CellO.at {p' : Pt} {o : HO} {c : Cell} {a : Addr} (l : Le p p') (h : CellO G Z p o c) (e : p'.H a = some o) : CellP G Z p' a c := by
  cases c with
  | lst ds => obtain ⟨vs, rfl, h⟩ := h; exact ⟨vs, e, l.repL h⟩
  | dk ks ds => obtain ⟨vs, rfl, hz, h⟩ := h; exact ⟨vs, e, hz, l.repL h⟩
  | dt ks ds => obtain ⟨vs, rfl, hz, h⟩ := h; exact ⟨vs, e, hz, l.repL h⟩
  | ins c ds => obtain ⟨dx, vs, rfl, h⟩ := h; exact ⟨dx, vs, e, l.repL h⟩
theorem cellTo {a : Addr} {c : Cell} (h : CellP G Z p a c) : ∃ o : HO, p.H a = Option.some o ∧ CellO G Z p o c := by
  cases c with
  | lst ds => obtain ⟨vs, e, h⟩ := h; exact ⟨_, e, vs, rfl, h⟩
  | dk ks ds => obtain ⟨vs, e, hz, h⟩ := h; exact ⟨_, e, vs, rfl, hz, h⟩
  | dt ks ds => obtain ⟨vs, e, hz, h⟩ := h; exact ⟨_, e, vs, rfl, hz, h⟩
  | ins c ds => obtain ⟨dx, vs, e, h⟩ := h; exact ⟨_, e, dx, vs, rfl, h⟩
theorem CellO.mut {o : HO} {c : Cell} (h : CellO G Z p o c) : Mut (some o) := by
  cases c with
  | lst ds => obtain ⟨vs, rfl, h⟩ := h; trivial
  | dk ks ds => obtain ⟨vs, rfl, hz, h⟩ := h; trivial
  | dt ks ds => obtain ⟨vs, rfl, hz, h⟩ := h; trivial
  | ins c ds => obtain ⟨dx, vs, rfl, h⟩ := h; trivial
/-- the same cell, where its object stands as it stood -/
theorem CellAt.keep {p' : Pt} {a : Addr} {c : Cell} (l : Le p p') (h : CellP G Z p a c) (e : p'.H a = p.H a) : CellP G Z p' a c := by
  obtain ⟨o, ho, hc⟩ := cellTo h
  exact hc.at l (e.trans ho)
/-- a cell as data that stays -/
theorem CellAt.frz {a : Addr} {c : Cell} (h : CellP G Z p a c) {p' : Pt} (l : Le p p') (e : p'.H a = p.H a) (n : ¬ p'.L Z a) : RepP G Z p' c.frz (.ref a) := by
  have h' := CellAt.keep l h e
  cases c with
  | lst ds => obtain ⟨vs, e, h⟩ := h'; exact .lst (.inl ⟨.inl e, n⟩) h
  | dk ks ds => obtain ⟨vs, e, hz, h⟩ := h'; exact .dk (.inl e) n hz h
  | dt ks ds => obtain ⟨vs, e, hz, h⟩ := h'; exact .dt (.inl e) n hz h
  | ins c ds => obtain ⟨dx, vs, e, h⟩ := h'; exact .ins e n h

abbrev Pt.setSl (p : Pt) (i : Nat) (x : SV) : Pt := { p with st := { p.st with sl := p.st.sl.set i x } }
theorem set_get {α : Type} {xs : List α} {i j : Nat} {x y : α} (h : (xs.set i x)[j]? = some y) : (i = j ∧ x = y ∧ i < xs.length) ∨ (i ≠ j ∧ xs[j]? = some y) := by
  by_cases e : i = j
  · subst e
    by_cases hl : i < xs.length
    · rw [List.getElem?_set_self hl] at h
      exact .inl ⟨rfl, Option.some.inj h, hl⟩
    · rw [List.getElem?_eq_none (by simpa using hl)] at h
      cases h
  · rw [List.getElem?_set_ne e] at h
    exact .inr ⟨e, h⟩

/-- a slot gets a value -/
theorem SR.setVal (S : SR G Z p) {i : Nat} {d : D} {v : V} (r : RepP G Z p d v) :
    SR G Z ⟨p.rho, ⟨p.st.sl.set i (.val d), p.st.hp⟩, p.sg.set i (some v), p.H⟩ ∧ Le p ⟨p.rho, ⟨p.st.sl.set i (.val d), p.st.hp⟩, p.sg.set i (some v), p.H⟩ := by
  have hm : ∀ a, Pt.M ⟨p.rho, ⟨p.st.sl.set i (.val d), p.st.hp⟩, p.sg.set i (some v), p.H⟩ a → p.M a := fun a h => by
    rcases h with h | ⟨j, c, h, k⟩
    · exact .inl h
    · rcases set_get h with ⟨_, z, _⟩ | ⟨ne, h⟩
      · cases z
      · have k' : (p.sg.set i (some v))[j]? = some (some (V.ref a)) := k
        rw [List.getElem?_set_ne ne] at k'
        exact .inr ⟨j, c, h, k'⟩
  have l : Le p ⟨p.rho, ⟨p.st.sl.set i (.val d), p.st.hp⟩, p.sg.set i (some v), p.H⟩ := ⟨fun _ _ h => h, fun a o h k => ⟨h, fun z => k (hm a z)⟩, fun _ _ h => h, fun _ h => h⟩
  refine ⟨⟨by simpa using S.len, S.hlen, fun j e h => ?_, fun j c h => ?_, fun n c h => ?_, S.nod, fun j k c c' a h1 h2 h3 h4 => ?_, S.zin⟩, l⟩
  · rcases set_get h with ⟨rfl, z, hl⟩ | ⟨ne, h⟩
    · cases z
      exact ⟨v, List.getElem?_set_self (by rw [← S.len]; exact hl), l.rep r⟩
    · obtain ⟨u, h1, h2⟩ := S.val j e h
      exact ⟨u, (List.getElem?_set_ne ne).trans h1, l.rep h2⟩
  · rcases set_get h with ⟨_, z, _⟩ | ⟨ne, h⟩
    · cases z
    · obtain ⟨a, h1, h2, h3⟩ := S.own j c h
      exact ⟨a, (List.getElem?_set_ne ne).trans h1, CellAt.keep l h2 rfl, h3⟩
  · obtain ⟨a, h1, h2, h3⟩ := S.cell n c h
    exact ⟨a, h1, CellAt.keep l h2 rfl, h3⟩
  · rcases set_get h1 with ⟨_, z, _⟩ | ⟨ne, h1⟩
    · cases z
    · rcases set_get h2 with ⟨_, z, _⟩ | ⟨ne2, h2⟩
      · cases z
      · have h3' : (p.sg.set i (some v))[j]? = some (some (V.ref a)) := h3
        have h4' : (p.sg.set i (some v))[k]? = some (some (V.ref a)) := h4
        rw [List.getElem?_set_ne ne] at h3'
        rw [List.getElem?_set_ne ne2] at h4'
        exact S.dis j k c c' a h1 h2 h3' h4'

/-- a slot is emptied -/
theorem SR.setUn (S : SR G Z p) {i : Nat} :
    SR G Z ⟨p.rho, ⟨p.st.sl.set i .un, p.st.hp⟩, p.sg.set i none, p.H⟩ ∧ Le p ⟨p.rho, ⟨p.st.sl.set i .un, p.st.hp⟩, p.sg.set i none, p.H⟩ := by
  have hm : ∀ a, Pt.M ⟨p.rho, ⟨p.st.sl.set i .un, p.st.hp⟩, p.sg.set i none, p.H⟩ a → p.M a := fun a h => by
    rcases h with h | ⟨j, c, h, k⟩
    · exact .inl h
    · rcases set_get h with ⟨_, z, _⟩ | ⟨ne, h⟩
      · cases z
      · have k' : (p.sg.set i none)[j]? = some (some (V.ref a)) := k
        rw [List.getElem?_set_ne ne] at k'
        exact .inr ⟨j, c, h, k'⟩
  have l : Le p ⟨p.rho, ⟨p.st.sl.set i .un, p.st.hp⟩, p.sg.set i none, p.H⟩ := ⟨fun _ _ h => h, fun a o h k => ⟨h, fun z => k (hm a z)⟩, fun _ _ h => h, fun _ h => h⟩
  refine ⟨⟨by simpa using S.len, S.hlen, fun j e h => ?_, fun j c h => ?_, fun n c h => ?_, S.nod, fun j k c c' a h1 h2 h3 h4 => ?_, S.zin⟩, l⟩
  · rcases set_get h with ⟨rfl, z, hl⟩ | ⟨ne, h⟩
    · cases z
    · obtain ⟨u, h1, h2⟩ := S.val j e h
      exact ⟨u, (List.getElem?_set_ne ne).trans h1, l.rep h2⟩
  · rcases set_get h with ⟨_, z, _⟩ | ⟨ne, h⟩
    · cases z
    · obtain ⟨a, h1, h2, h3⟩ := S.own j c h
      exact ⟨a, (List.getElem?_set_ne ne).trans h1, CellAt.keep l h2 rfl, h3⟩
  · obtain ⟨a, h1, h2, h3⟩ := S.cell n c h
    exact ⟨a, h1, CellAt.keep l h2 rfl, h3⟩
  · rcases set_get h1 with ⟨_, z, _⟩ | ⟨ne, h1⟩
    · cases z
    · rcases set_get h2 with ⟨_, z, _⟩ | ⟨ne2, h2⟩
      · cases z
      · have h3' : (p.sg.set i none)[j]? = some (some (V.ref a)) := h3
        have h4' : (p.sg.set i none)[k]? = some (some (V.ref a)) := h4
        rw [List.getElem?_set_ne ne] at h3'
        rw [List.getElem?_set_ne ne2] at h4'
        exact S.dis j k c c' a h1 h2 h3' h4'

theorem upd_has {H : Hp} {a : Addr} {o : HO} {b : Addr} (h : H b ≠ none) : upd H a o b ≠ none := by
  by_cases e : b = a
  · subst e; rw [upd_same]; exact fun z => by cases z
  · rw [upd_ne e]; exact h
/-- a slot gets a new cell -/
theorem SR.setOwn (S : SR G Z p) {i : Nat} {a : Addr} {o : HO} {c : Cell} (na : p.H a = none) (hc : CellO G Z p o c) :
    SR G Z ⟨p.rho, ⟨p.st.sl.set i (.own c), p.st.hp⟩, p.sg.set i (some (.ref a)), upd p.H a o⟩ ∧ Le p ⟨p.rho, ⟨p.st.sl.set i (.own c), p.st.hp⟩, p.sg.set i (some (.ref a)), upd p.H a o⟩ := by
  have nr : a ∉ p.rho := fun h => S.has (.inl h) na
  have hm : ∀ b, Pt.M ⟨p.rho, ⟨p.st.sl.set i (.own c), p.st.hp⟩, p.sg.set i (some (.ref a)), upd p.H a o⟩ b → b = a ∨ p.M b := fun b h => by
    rcases h with h | ⟨j, c', h, k⟩
    · exact .inr (.inl h)
    · have k' : (p.sg.set i (some (.ref a)))[j]? = some (some (V.ref b)) := k
      rcases set_get k' with ⟨rfl, z, _⟩ | ⟨ne, k'⟩
      · cases z; exact .inl rfl
      · rcases set_get h with ⟨e, _⟩ | ⟨_, h⟩
        · exact absurd e ne
        · exact .inr (.inr ⟨j, c', h, k'⟩)
  have l : Le p ⟨p.rho, ⟨p.st.sl.set i (.own c), p.st.hp⟩, p.sg.set i (some (.ref a)), upd p.H a o⟩ :=
    ⟨fun _ _ h => h, fun b u h k => ⟨same_upd na b u h, fun z => by
      rcases hm b z with e | z
      · rw [e, na] at h; cases h
      · exact k z⟩, fun b vs ⟨u, h, hd⟩ => ⟨u, same_upd na b _ h, hd⟩, fun b h => upd_has h⟩
  have kp : ∀ b c', CellP G Z p b c' → upd p.H a o b = p.H b := fun b c' h => by
    have hn := CellAt.some h
    exact upd_ne fun e => hn (e ▸ na)
  refine ⟨⟨by simpa using S.len, S.hlen, fun j e h => ?_, fun j c' h => ?_, fun n c' h => ?_, S.nod, fun j k c1 c2 b h1 h2 h3 h4 => ?_, fun b h => upd_has (S.zin b h)⟩, l⟩
  · rcases set_get h with ⟨rfl, z, hl⟩ | ⟨ne, h⟩
    · cases z
    · obtain ⟨u, h1, h2⟩ := S.val j e h
      exact ⟨u, (List.getElem?_set_ne ne).trans h1, l.rep h2⟩
  · rcases set_get h with ⟨rfl, z, hl⟩ | ⟨ne, h⟩
    · cases z
      exact ⟨a, List.getElem?_set_self (by rw [← S.len]; exact hl), hc.at l upd_same, nr, fun z => S.zin a z na⟩
    · obtain ⟨b, h1, h2, h3⟩ := S.own j c' h
      exact ⟨b, (List.getElem?_set_ne ne).trans h1, CellAt.keep l h2 (kp b c' h2), h3⟩
  · obtain ⟨b, h1, h2, h3⟩ := S.cell n c' h
    exact ⟨b, h1, CellAt.keep l h2 (kp b c' h2), h3⟩
  · have h3' : (p.sg.set i (some (.ref a)))[j]? = some (some (V.ref b)) := h3
    have h4' : (p.sg.set i (some (.ref a)))[k]? = some (some (V.ref b)) := h4
    have nob : ∀ (m : Nat) (c' : Cell), p.st.sl[m]? = some (SV.own c') → p.sg[m]? = some (some (V.ref a)) → False := fun m c' q1 q2 => S.has (.inr ⟨m, c', q1, q2⟩) na
    rcases set_get h1 with ⟨e1, z1, _⟩ | ⟨ne, h1⟩
    · rcases set_get h2 with ⟨e2, z2, _⟩ | ⟨ne2, h2⟩
      · rw [← e1, ← e2]
      · rw [List.getElem?_set_ne ne2] at h4'
        rw [← e1] at h3'
        rcases set_get h3' with ⟨_, z, _⟩ | ⟨ne3, _⟩
        · cases z; exact (nob k c2 h2 h4').elim
        · exact absurd rfl ne3
    · rw [List.getElem?_set_ne ne] at h3'
      rcases set_get h2 with ⟨e2, z2, _⟩ | ⟨ne2, h2⟩
      · rw [← e2] at h4'
        rcases set_get h4' with ⟨_, z, _⟩ | ⟨ne3, _⟩
        · cases z; exact (nob j c1 h1 h3').elim
        · exact absurd rfl ne3
      · rw [List.getElem?_set_ne ne2] at h4'
        exact S.dis j k c1 c2 b h1 h2 h3' h4'

/-- the writes at one place that may be written -/
theorem Le.write (S : SR G Z p) {a : Addr} {o : HO} {st : DSt} (m : p.M a) (hM : ∀ b, Pt.M ⟨p.rho, st, p.sg, upd p.H a o⟩ b → p.M b) : Le p ⟨p.rho, st, p.sg, upd p.H a o⟩ :=
  ⟨fun _ _ h => h, fun b u h k => ⟨(upd_ne fun e => k (by rw [e]; exact m)).trans h, fun z => k (hM b z)⟩, fun b vs h => by
    have ne : b ≠ a := fun e => S.notTup m (by rw [← e]; exact h.rd)
    obtain ⟨u, h, hd⟩ := h
    exact ⟨u, (upd_ne ne).trans h, hd⟩, fun b h => upd_has h⟩
/-- a slot's own cell is written -/
theorem SR.writeOwn (S : SR G Z p) {i : Nat} {a : Addr} {o : HO} {c c' : Cell} (hi : p.st.sl[i]? = some (.own c)) (hs : p.sg[i]? = some (some (.ref a))) (hc : CellO G Z p o c') :
    SR G Z ⟨p.rho, ⟨p.st.sl.set i (.own c'), p.st.hp⟩, p.sg, upd p.H a o⟩ ∧ Le p ⟨p.rho, ⟨p.st.sl.set i (.own c'), p.st.hp⟩, p.sg, upd p.H a o⟩ := by
  have m : p.M a := .inr ⟨i, c, hi, hs⟩
  obtain ⟨a', hs', ca, nr, nz⟩ := S.own i c hi
  rw [hs] at hs'; cases hs'
  have l : Le p ⟨p.rho, ⟨p.st.sl.set i (.own c'), p.st.hp⟩, p.sg, upd p.H a o⟩ := Le.write S m fun b h => by
    rcases h with h | ⟨j, c1, h, k⟩
    · exact .inl h
    · rcases set_get h with ⟨rfl, z, _⟩ | ⟨ne, h⟩
      · exact .inr ⟨i, c, hi, k⟩
      · exact .inr ⟨j, c1, h, k⟩
  refine ⟨⟨by simpa using S.len, S.hlen, fun j e h => ?_, fun j c1 h => ?_, fun n c1 h => ?_, S.nod, fun j k c1 c2 b h1 h2 h3 h4 => ?_, fun b h => upd_has (S.zin b h)⟩, l⟩
  · rcases set_get h with ⟨rfl, z, hl⟩ | ⟨ne, h⟩
    · cases z
    · obtain ⟨u, h1, h2⟩ := S.val j e h
      exact ⟨u, h1, l.rep h2⟩
  · rcases set_get h with ⟨rfl, z, hl⟩ | ⟨ne, h⟩
    · cases z
      exact ⟨a, hs, hc.at l upd_same, nr, nz⟩
    · obtain ⟨b, h1, h2, h3⟩ := S.own j c1 h
      refine ⟨b, h1, CellAt.keep l h2 (upd_ne fun e => ?_), h3⟩
      exact ne (S.dis i j c c1 a hi h hs (e ▸ h1))
  · obtain ⟨b, h1, h2, h3⟩ := S.cell n c1 h
    refine ⟨b, h1, CellAt.keep l h2 (upd_ne fun e => ?_), h3⟩
    subst e
    exact nr (List.mem_of_getElem? h1)
  · have g1 : ∃ c1', p.st.sl[j]? = some (SV.own c1') := by
      rcases set_get h1 with ⟨rfl, _, _⟩ | ⟨_, h⟩
      · exact ⟨c, hi⟩
      · exact ⟨c1, h⟩
    have g2 : ∃ c2', p.st.sl[k]? = some (SV.own c2') := by
      rcases set_get h2 with ⟨rfl, _, _⟩ | ⟨_, h⟩
      · exact ⟨c, hi⟩
      · exact ⟨c2, h⟩
    obtain ⟨x, hx⟩ := g1
    obtain ⟨y, hy⟩ := g2
    exact S.dis j k x y b hx hy h3 h4
/-- a cell of the heap is written -/
theorem SR.writeCell (S : SR G Z p) {n : Nat} {a : Addr} {o : HO} {c' : Cell} (hs : p.rho[n]? = some a) (hc : CellO G Z p o c') :
    SR G Z ⟨p.rho, ⟨p.st.sl, p.st.hp.set n c'⟩, p.sg, upd p.H a o⟩ ∧ Le p ⟨p.rho, ⟨p.st.sl, p.st.hp.set n c'⟩, p.sg, upd p.H a o⟩ := by
  have hmem : a ∈ p.rho := List.mem_of_getElem? hs
  have m : p.M a := .inl hmem
  have l : Le p ⟨p.rho, ⟨p.st.sl, p.st.hp.set n c'⟩, p.sg, upd p.H a o⟩ := Le.write S m fun b h => h
  have nl : n < p.rho.length := (List.getElem?_eq_some_iff.mp hs).1
  refine ⟨⟨S.len, by simpa using S.hlen, fun j e h => ?_, fun j c1 h => ?_, fun k c1 h => ?_, S.nod, S.dis, fun b h => upd_has (S.zin b h)⟩, l⟩
  · obtain ⟨u, h1, h2⟩ := S.val j e h
    exact ⟨u, h1, l.rep h2⟩
  · obtain ⟨b, h1, h2, h3⟩ := S.own j c1 h
    refine ⟨b, h1, CellAt.keep l h2 (upd_ne fun e => ?_), h3⟩
    subst e
    exact h3.1 hmem
  · rcases set_get h with ⟨rfl, z, hl⟩ | ⟨ne, h⟩
    · cases z
      obtain ⟨b, h1, h2, h3⟩ := S.cell n _ (List.getElem?_eq_getElem hl)
      rw [hs] at h1; cases h1
      exact ⟨a, hs, hc.at l upd_same, h3⟩
    · obtain ⟨b, h1, h2, h3⟩ := S.cell k c1 h
      refine ⟨b, h1, CellAt.keep l h2 (upd_ne fun e => ?_), h3⟩
      subst e
      have kl : k < p.rho.length := (List.getElem?_eq_some_iff.mp h1).1
      have e1 := (List.getElem?_eq_some_iff.mp hs).2
      have e2 := (List.getElem?_eq_some_iff.mp h1).2
      exact ne ((List.getElem_inj S.nod).mp (e1.trans e2.symm))
/-- a slot's own cell becomes data that stays -/
theorem SR.freeze (S : SR G Z p) {i : Nat} {a : Addr} {c : Cell} (hi : p.st.sl[i]? = some (.own c)) (hs : p.sg[i]? = some (some (.ref a))) :
    SR G Z (p.setSl i (.val c.frz)) ∧ Le p (p.setSl i (.val c.frz)) ∧ RepP G Z (p.setSl i (.val c.frz)) c.frz (.ref a) := by
  have hm : ∀ b, (p.setSl i (.val c.frz)).M b → p.M b ∧ b ≠ a := fun b h => by
    obtain ⟨a', hs', _, nr, _⟩ := S.own i c hi
    rw [hs] at hs'; cases hs'
    rcases h with h | ⟨j, c1, h, k⟩
    · exact ⟨.inl h, fun e => nr (e ▸ h)⟩
    · rcases set_get h with ⟨_, z, _⟩ | ⟨ne, h⟩
      · cases z
      · refine ⟨.inr ⟨j, c1, h, k⟩, fun e => ?_⟩
        have k' : p.sg[j]? = some (some (V.ref b)) := k
        rw [e] at k'
        exact ne (S.dis i j c c1 a hi h hs k')
  have l : Le p (p.setSl i (.val c.frz)) := ⟨fun _ _ h => h, fun b o h k => ⟨h, fun z => k (hm b z).1⟩, fun _ _ h => h, fun _ h => h⟩
  obtain ⟨a', hs', ca, nr, nz⟩ := S.own i c hi
  rw [hs] at hs'; cases hs'
  have rp : RepP G Z (p.setSl i (.val c.frz)) c.frz (.ref a) := CellAt.frz ca l rfl (by
    rintro (z | z)
    · exact (hm a z).2 rfl
    · exact nz z)
  refine ⟨⟨by simpa using S.len, S.hlen, fun j e h => ?_, fun j c1 h => ?_, fun n c1 h => ?_, S.nod, fun j k c1 c2 b h1 h2 h3 h4 => ?_, S.zin⟩, l, rp⟩
  · rcases set_get h with ⟨rfl, z, hl⟩ | ⟨ne, h⟩
    · cases z
      exact ⟨.ref a, hs, rp⟩
    · obtain ⟨u, h1, h2⟩ := S.val j e h
      exact ⟨u, h1, l.rep h2⟩
  · rcases set_get h with ⟨_, z, _⟩ | ⟨ne, h⟩
    · cases z
    · obtain ⟨b, h1, h2, h3⟩ := S.own j c1 h
      exact ⟨b, h1, CellAt.keep l h2 rfl, h3⟩
  · obtain ⟨b, h1, h2, h3⟩ := S.cell n c1 h
    exact ⟨b, h1, CellAt.keep l h2 rfl, h3⟩
  · rcases set_get h1 with ⟨_, z, _⟩ | ⟨ne, h1⟩
    · cases z
    · rcases set_get h2 with ⟨_, z, _⟩ | ⟨ne2, h2⟩
      · cases z
      · exact S.dis j k c1 c2 b h1 h2 h3 h4
/-- a new cell of the heap -/
theorem SR.newCell (S : SR G Z p) {a : Addr} {o : HO} {c : Cell} (na : p.H a = none) (hc : CellO G Z p o c) :
    SR G Z ⟨p.rho ++ [a], ⟨p.st.sl, p.st.hp ++ [c]⟩, p.sg, upd p.H a o⟩ ∧ Le p ⟨p.rho ++ [a], ⟨p.st.sl, p.st.hp ++ [c]⟩, p.sg, upd p.H a o⟩ := by
  have nr : a ∉ p.rho := fun h => S.has (.inl h) na
  have hm : ∀ b, Pt.M ⟨p.rho ++ [a], ⟨p.st.sl, p.st.hp ++ [c]⟩, p.sg, upd p.H a o⟩ b → b = a ∨ p.M b := fun b h => by
    rcases h with h | h
    · rcases List.mem_append.mp h with h | h
      · exact .inr (.inl h)
      · exact .inl (by simpa using h)
    · exact .inr (.inr h)
  have ra : ∀ n b, p.rho[n]? = some b → (p.rho ++ [a])[n]? = some b := fun n b h => by
    rw [List.getElem?_append_left (List.getElem?_eq_some_iff.mp h).1]; exact h
  have l : Le p ⟨p.rho ++ [a], ⟨p.st.sl, p.st.hp ++ [c]⟩, p.sg, upd p.H a o⟩ :=
    ⟨ra, fun b u h k => ⟨same_upd na b u h, fun z => by
      rcases hm b z with e | z
      · rw [e, na] at h; cases h
      · exact k z⟩, fun b vs ⟨u, h, hd⟩ => ⟨u, same_upd na b _ h, hd⟩, fun b h => upd_has h⟩
  have kp : ∀ b c', CellP G Z p b c' → upd p.H a o b = p.H b := fun b c' h => upd_ne fun e => CellAt.some h (e ▸ na)
  refine ⟨⟨S.len, by simp [S.hlen], fun j e h => ?_, fun j c1 h => ?_, fun k c1 h => ?_, ?_, S.dis, fun b h => upd_has (S.zin b h)⟩, l⟩
  · obtain ⟨u, h1, h2⟩ := S.val j e h
    exact ⟨u, h1, l.rep h2⟩
  · obtain ⟨b, h1, h2, h3, h4⟩ := S.own j c1 h
    refine ⟨b, h1, CellAt.keep l h2 (kp b c1 h2), fun z => ?_, h4⟩
    rcases List.mem_append.mp z with z | z
    · exact h3 z
    · have e : b = a := by simpa using z
      exact CellAt.some h2 (e ▸ na)
  · have h' : (p.st.hp ++ [c])[k]? = some c1 := h
    by_cases hk : k < p.st.hp.length
    · rw [List.getElem?_append_left hk] at h'
      obtain ⟨b, h1, h2, h3⟩ := S.cell k c1 h'
      exact ⟨b, ra k b h1, CellAt.keep l h2 (kp b c1 h2), h3⟩
    · have hk' : k = p.st.hp.length := by
        have := (List.getElem?_eq_some_iff.mp h').1
        simp at this
        omega
      subst hk'
      rw [List.getElem?_append_right (Nat.le_refl _)] at h'
      simp at h'
      subst h'
      refine ⟨a, ?_, hc.at l upd_same, fun z => S.zin a z na⟩
      show (p.rho ++ [a])[p.st.hp.length]? = some a
      rw [← S.hlen, List.getElem?_append_right (Nat.le_refl _)]
      simp
  · exact List.nodup_append.mpr ⟨S.nod, by simp, fun x hx y hy e => by
      have : y = a := by simpa using hy
      exact nr (this ▸ e ▸ hx)⟩
end
end DP
set_option Elab.async false
set_option linter.all false
set_option maxRecDepth 100000
set_option maxHeartbeats 4000000
/-! DP3: readings by data; names, constants, operators, tests, arguments, displays. -/
namespace DP
open PySem L2

/-- the classes' addresses and fields -/
structure CT where
  ca : Nat → Addr
  cf : Nat → List Str
abbrev wd (K : PySem.W.Frag) (C : CT) : Wd := ⟨K, C.ca, C.cf⟩

def bnd {α β : Type} (f : DM α) (k : α → DM β) : DM β := fun s => match f s with
  | .ok a s' => k a s'
  | .err x s' => .err x s'
  | .stuck => .stuck
def ret {α : Type} (a : α) : DM α := fun s => .ok a s
def lift {α : Type} (o : Option α) : DM α := fun s => match o with
  | some a => .ok a s
  | none => .stuck
/-- what an exception keeps -/
def XRel (G : Wd) (Z : Addr → Prop) (p : Pt) (x : XD) (cls : Value) (d : Option Addr) : Prop :=
  cls = .ref (G.ca x.c) ∧ match x.arg with
    | none => d = none
    | some g => ∃ dd v, d = some dd ∧ p.H dd = some (.xd ((G.cf x.c).zip [v])) ∧ ¬ p.L Z dd ∧ RepP G Z p g v

section
variable {α β γ δ : Type}
def Fin (G : Wd) (Z : Addr → Prop) (W : WX) (rel : Pt → α → β → Prop) (p : Pt) (r : R α) (Q : β → Hp → Prop) : Prop := match r with
  | .ok a st => ∀ (rho : List Addr) (H : Hp) (b : β), SR G Z ⟨rho, st, p.sg, H⟩ → Le p ⟨rho, st, p.sg, H⟩ → rel ⟨rho, st, p.sg, H⟩ a b → Q b H
  | .err x st => ∀ (rho : List Addr) (H : Hp) (cls : Value) (d : Option Addr), SR G Z ⟨rho, st, p.sg, H⟩ → Le p ⟨rho, st, p.sg, H⟩ → XRel G Z ⟨rho, st, p.sg, H⟩ x cls d → W cls d p.sg H
  | .stuck => False
abbrev relD (G : Wd) (Z : Addr → Prop) : Pt → D → V → Prop := fun p d v => RepP G Z p d v
abbrev relB : Pt → α → α → Prop := fun _ a b => a = b
abbrev relL (G : Wd) (Z : Addr → Prop) : Pt → List D → List V → Prop := fun p d v => RepLP G Z p d v
def tG (G : Wd) (W : WX) (rel : (Addr → Prop) → Pt → α → β → Prop) (f : DM α) : L2.St → Hp → (β → Hp → Prop) → Prop := fun σ H Q => ∃ Z p, p.sg = σ ∧ p.H = H ∧ SR G Z p ∧ Fin G Z W (rel Z) p (f p.st) Q
abbrev tD (G : Wd) (W : WX) (f : DM D) : TE := tG G W (relD G) f
abbrev tT (G : Wd) (W : WX) (f : DM Bool) : TT := tG G W (fun _ => relB) f
abbrev tL (G : Wd) (W : WX) (f : DM (List D)) : TA := tG G W (relL G) f

variable {G : Wd} {Z : Addr → Prop} {W : WX} {rel : Pt → α → β → Prop} {rel' : Pt → γ → δ → Prop} {p q : Pt}
theorem Fin.mono {r : R α} {Q Q' : β → Hp → Prop} (h : Fin G Z W rel p r Q) (k : ∀ b H, Q b H → Q' b H) : Fin G Z W rel p r Q' := by
  cases r with
  | ok a st => exact fun rho H b S l r => k _ _ (h rho H b S l r)
  | err x st => exact h
  | stuck => exact h
theorem Fin.later {r : R α} {Q : β → Hp → Prop} (h : Fin G Z W rel p r Q) (l : Le p q) (e : q.sg = p.sg) : Fin G Z W rel q r Q := by
  cases r with
  | ok a st => intro rho H b S l' r; rw [e] at S l' r; exact h rho H b S (l.trans l') r
  | err x st => intro rho H cls d S l' r; rw [e] at S l' r ⊢; exact h rho H cls d S (l.trans l') r
  | stuck => exact h
/-- one behind the other -/
theorem Fin.bnd {f : DM α} {k : α → DM γ} {Q : δ → Hp → Prop} (h : Fin G Z W rel' p (bnd f k p.st) Q) :
    Fin G Z W rel p (f p.st) (fun b H => ∃ q a, q.sg = p.sg ∧ q.H = H ∧ SR G Z q ∧ Le p q ∧ rel q a b ∧ Fin G Z W rel' q (k a q.st) Q) := by
  unfold DP.bnd at h
  cases e : f p.st with
  | ok a st =>
    rw [e] at h
    intro rho H b S l r
    exact ⟨⟨rho, st, p.sg, H⟩, a, rfl, rfl, S, l, r, Fin.later h l rfl⟩
  | err x st => rw [e] at h; exact h
  | stuck => rw [e] at h; exact h
theorem Fin.bndB {f : DM Bool} {k : Bool → DM γ} {Q : δ → Hp → Prop} (h : Fin G Z W rel' p (DP.bnd f k p.st) Q) :
    Fin G Z W relB p (f p.st) (fun b H => ∃ q, q.sg = p.sg ∧ q.H = H ∧ SR G Z q ∧ Le p q ∧ Fin G Z W rel' q (k b q.st) Q) :=
  (Fin.bnd (rel := relB) h).mono fun b H ⟨q, a, e1, e2, S, l, r, h⟩ => ⟨q, e1, e2, S, l, by cases r; exact h⟩
/-- at the end: the heap as it is, or with something more -/
theorem Fin.ok {a : α} {b : β} {Q : β → Hp → Prop} (h : Fin G Z W rel p (.ok a p.st) Q) (S : SR G Z p) (r : rel p a b) : Q b p.H := h p.rho p.H b S (Le.refl p) r
theorem Fin.more {a : α} {b : β} {H : Hp} {Q : β → Hp → Prop} (h : Fin G Z W rel p (.ok a p.st) Q) (S : SR G Z p) (e : Same p.H H) (r : rel { p with H := H } a b) : Q b H :=
  h p.rho H b (S.ext e).1 (S.ext e).2 r
end

/-! ### judgements -/
section
variable (X : Cx) (C : CT) (W : WX)
structure DE (e : Expr) (f : DM D) : Prop where
  pe : PE X e (tD (wd X.K C) W f)
structure DT (e : Expr) (f : DM Bool) : Prop where
  pt : PT X e (tT (wd X.K C) W f)
structure DA (es : List Expr) (f : DM (List D)) : Prop where
  pa : PA X es (tL (wd X.K C) W f)
end
section
variable {X : Cx} {C : CT} {W : WX}
theorem peImp {e : Expr} {t t' : TE} (h : PE X e t) (k : ∀ σ H Q, t' σ H Q → t σ H Q) : PE X e t' := ⟨fun pins s σ H Q I q => h.run pins s σ H Q I (k σ H Q q)⟩
theorem ptImp {e : Expr} {t t' : TT} (h : PT X e t) (k : ∀ σ H Q, t' σ H Q → t σ H Q) : PT X e t' := ⟨fun pins s σ H Q I q => h.run pins s σ H Q I (k σ H Q q)⟩
theorem paImp {es : List Expr} {t t' : TA} (h : PA X es t) (k : ∀ σ H Q, t' σ H Q → t σ H Q) : PA X es t' := ⟨fun pos pins s σ H Q I q => h.run pos pins s σ H Q I (k σ H Q q)⟩
theorem psImp {st : Stmt} {t t' : TS} (h : PS X st t) (k : ∀ D σ H, t' D σ H → t D σ H) : PS X st t' := ⟨fun pins s σ H D I q => h.run pins s σ H D I (k D σ H q)⟩
theorem pssImp {st : List Stmt} {t t' : TS} (h : PSs X st t) (k : ∀ D σ H, t' D σ H → t D σ H) : PSs X st t' := ⟨fun pins s σ H D I q => h.run pins s σ H D I (k D σ H q)⟩

/-! ### names and constants -/
/-- slot i; a cell of its own becomes data that stays -/
def varM (i : Nat) : DM D := fun s => match s.sl[i]? with
  | some (.val d) => .ok d s
  | some (.own c) => .ok c.frz { s with sl := s.sl.set i (.val c.frz) }
  | _ => .stuck
theorem de_var (i : Nat) {x : Str} {pos : Pos} (hN : X.N[i]? = some x) (hv : Vis X.env.scope x) (hd : (x == ("__debug__" : Str)) = false := by decide) (hcd : (x == ("__classdict__" : Str)) = false := by decide) : DE X C W (.Name x pos) (varM i) := by
  refine ⟨peImp (pe_var hN hv hd hcd) fun σ H Q h => ?_⟩
  obtain ⟨Z, p, rfl, rfl, S, h⟩ := h
  unfold varM at h
  cases e : p.st.sl[i]? with
  | none => rw [e] at h; exact h.elim
  | some x =>
    rw [e] at h
    cases x with
    | un => exact h.elim
    | val d =>
      obtain ⟨v, hv, r⟩ := S.val i d e
      exact ⟨v, hv, Fin.ok h S r⟩
    | own c =>
      obtain ⟨a, hs, _⟩ := S.own i c e
      obtain ⟨S', l, r⟩ := S.freeze e hs
      exact ⟨.ref a, hs, h p.rho p.H _ S' l r⟩
theorem de_const {e : Expr} {d : D} {v : V} (h : PE X e (tC v)) (r : ∀ rho L H, Rep (wd X.K C) rho L H d v) : DE X C W e (ret d) := by
  refine ⟨peImp h fun σ H Q h => ?_⟩
  obtain ⟨Z, p, rfl, rfl, S, h⟩ := h
  exact Fin.ok h S (r _ _ _)
theorem de_int {i : Int} {j pos} : DE X C W (.Constant (.int i) j pos) (ret (.int i)) := de_const pe_int fun _ _ _ => .int i
theorem de_bl {b : Bool} {j pos} : DE X C W (.Constant (.bool b) j pos) (ret (.bl b)) := de_const pe_bl fun _ _ _ => .bl b
theorem de_non {j pos} : DE X C W (.Constant .none j pos) (ret .non) := de_const pe_non fun _ _ _ => .non
theorem de_str {x : Str} {j pos} : DE X C W (.Constant (.str x) j pos) (ret (.str x)) := de_const pe_str fun _ _ _ => .str x

/-! ### operators by values -/
/-- an operator on data: what it gives (none: it isn't told) -/
def rD (G : Wd) (g : D → D → Option D) : R2 := fun x y H Q => ∃ (Z : Addr → Prop) (p : Pt) (d e f : D), p.H = H ∧ SR G Z p ∧ RepP G Z p d x ∧ RepP G Z p e y ∧ g d e = some f ∧ ∀ v H', Same H H' → RepP G Z { p with H := H' } f v → Q v H'
abbrev OpD (X : Cx) (C : CT) (op : Value → Value → Sem Value) (g : D → D → Option D) : Prop := OpR X op (rD (wd X.K C) g)
theorem OpR.imp {op : Value → Value → Sem Value} {r r' : R2} (h : OpR X op r) (k : ∀ x y H Q, r' x y H Q → r x y H Q) : OpR X op r' := fun pins s σ H x y v u Q I rx ry q => h pins s σ H x y v u Q I rx ry (k x y H Q q)
theorem OpR.or {op : Value → Value → Sem Value} {r r' : R2} (h : OpR X op r) (h' : OpR X op r') : OpR X op (fun x y H Q => r x y H Q ∨ r' x y H Q) := fun pins s σ H x y v u Q I rx ry q => by
  rcases q with q | q
  · exact h pins s σ H x y v u Q I rx ry q
  · exact h' pins s σ H x y v u Q I rx ry q
def bin (g : D → D → Option D) (fa fb : DM D) : DM D := bnd fa fun x => bnd fb fun y => lift (g x y)
theorem tOp_of {g : D → D → Option D} {fa fb : DM D} {σ : L2.St} {H : Hp} {Q : VK} (h : tD (wd X.K C) W (bin g fa fb) σ H Q) : tOp (rD (wd X.K C) g) (tD (wd X.K C) W fa) (tD (wd X.K C) W fb) σ H Q := by
  obtain ⟨Z, p, rfl, rfl, S, h⟩ := h
  refine ⟨Z, p, rfl, rfl, S, (Fin.bnd h).mono fun x H1 ⟨q1, d1, e1, e2, S1, l1, r1, h1⟩ => ?_⟩
  refine ⟨Z, q1, e1, e2, S1, (Fin.bnd h1).mono fun y H2 ⟨q2, d2, e3, e4, S2, l2, r2, h2⟩ => ?_⟩
  unfold lift at h2
  cases hg : g d1 d2 with
  | none => rw [hg] at h2; exact h2.elim
  | some f =>
    rw [hg] at h2
    refine ⟨Z, q2, d1, d2, f, e4, S2, l2.rep r1, r2, hg, fun v H' sm rv => Fin.more h2 S2 (e4 ▸ sm) rv⟩
theorem de_op {op : Operator} {a b : Expr} {pos : Pos} {g : D → D → Option D} {fa fb : DM D} (ho : OpD X C (binaryOp op) g) (ha : DE X C W a fa) (hb : DE X C W b fb) : DE X C W (.BinOp a op b pos) (bin g fa fb) :=
  ⟨peImp (pe_op ho ha.pe hb.pe) fun _ _ _ h => tOp_of h⟩
theorem de_cmp {op : CmpOp} {a b : Expr} {pos : Pos} {g : D → D → Option D} {fa fb : DM D} (ho : OpD X C (compareOp op) g) (ha : DE X C W a fa) (hb : DE X C W b fb) (hm : behindInMarks op b = false) : DE X C W (.Compare a [op] [b] pos) (bin g fa fb) :=
  ⟨peImp (pe_cmpR ho ha.pe hb.pe hm) fun _ _ _ h => tOp_of h⟩

/-! ### tests -/
def asB : D → Option Bool
  | .bl b => some b
  | _ => none
def tst (f : DM D) : DM Bool := bnd f fun d => lift (asB d)
theorem asB_rep {G : Wd} {rho : List Addr} {L : Addr → Prop} {H : Hp} {d : D} {v : V} {b : Bool} (r : Rep G rho L H d v) (h : asB d = some b) : v = .bl b := by
  cases d with
  | bl b' => cases r; cases h; rfl
  | _ => cases h
/-- an expression that gives True or False, as a test -/
theorem tB_of {f : DM D} {σ : L2.St} {H : Hp} {Q : Bool → Hp → Prop} (h : tT (wd X.K C) W (tst f) σ H Q) : tB (tD (wd X.K C) W f) σ H Q := by
  obtain ⟨Z, p, rfl, rfl, S, h⟩ := h
  refine ⟨Z, p, rfl, rfl, S, (Fin.bnd h).mono fun x H1 ⟨q1, d1, e1, e2, S1, l1, r1, h1⟩ => ?_⟩
  unfold lift at h1
  cases hg : asB d1 with
  | none => rw [hg] at h1; exact h1.elim
  | some b =>
    rw [hg] at h1
    exact ⟨b, asB_rep r1 hg, e2 ▸ Fin.ok h1 S1 rfl⟩
theorem dt_val {e : Expr} {f : DM D} (h : DE X C W e f) (he : ∀ whole, isTrue e X.env whole = (do let v ← whole; standAt e.pos; holding [v] (truthy v)) := by intro _; rfl) : DT X C W e (tst f) :=
  ⟨ptImp (pt_val h.pe he) fun _ _ _ h => tB_of h⟩
theorem dt_cmp {op : CmpOp} {a b : Expr} {pos : Pos} {g : D → D → Option D} {fa fb : DM D} (ho : OpD X C (compareOp op) g) (ha : DE X C W a fa) (hb : DE X C W b fb) (hm : behindInMarks op b = false) : DT X C W (.Compare a [op] [b] pos) (tst (bin g fa fb)) := by
  refine ⟨ptImp (pt_cmpR ho ha.pe hb.pe hm) fun σ H Q h => ?_⟩
  have h' := tB_of h
  obtain ⟨Z, p, e1, e2, S, h'⟩ := h'
  exact tOp_of ⟨Z, p, e1, e2, S, h'.mono fun b H ⟨c, e, q⟩ => ⟨c, e, q⟩⟩
def notT (f : DM Bool) : DM Bool := bnd f fun b => ret (!b)
theorem dt_not {a : Expr} {pos : Pos} {f : DM Bool} (h : DT X C W a f) : DT X C W (.UnaryOp .Not a pos) (notT f) := by
  refine ⟨ptImp (pt_not h.pt) fun σ H Q h => ?_⟩
  obtain ⟨Z, p, rfl, rfl, S, h⟩ := h
  unfold notT at h
  refine ⟨Z, p, rfl, rfl, S, (Fin.bndB h).mono fun d1 H1 ⟨q1, e1, e2, S1, l1, h1⟩ => ?_⟩
  exact e2 ▸ Fin.ok h1 S1 rfl
/-- a test whatever its whole is -/
structure DW (X : Cx) (C : CT) (W : WX) (e : Expr) (f : DM Bool) : Prop where
  pw : PW X e (tT (wd X.K C) W f)
theorem pwImp {e : Expr} {t t' : TT} (h : PW X e t) (k : ∀ σ H Q, t' σ H Q → t σ H Q) : PW X e t' := ⟨fun wh pins s σ H Q I q => h.run wh pins s σ H Q I (k σ H Q q)⟩
theorem DW.t {e : Expr} {f : DM Bool} (h : DW X C W e f) : DT X C W e f := ⟨h.pw.pt⟩
def andT (f g : DM Bool) : DM Bool := bnd f fun b => if b = true then g else ret false
def orT (f g : DM Bool) : DM Bool := bnd f fun b => if b = true then ret true else g
theorem dw_and1 {a : Expr} {pos : Pos} {f : DM Bool} (h : DT X C W a f) : DW X C W (.BoolOp .And [a] pos) f := ⟨pw_and1 h.pt⟩
theorem dw_or1 {a : Expr} {pos : Pos} {f : DM Bool} (h : DT X C W a f) : DW X C W (.BoolOp .Or [a] pos) f := ⟨pw_or1 h.pt⟩
theorem dw_and {a b : Expr} {rest : List Expr} {pos : Pos} {f g : DM Bool} (ha : DT X C W a f) (hb : DW X C W (.BoolOp .And (b :: rest) pos) g) : DW X C W (.BoolOp .And (a :: b :: rest) pos) (andT f g) := by
  refine ⟨pwImp (pw_and ha.pt hb.pw) fun σ H Q h => ?_⟩
  obtain ⟨Z, p, rfl, rfl, S, h⟩ := h
  unfold andT at h
  refine ⟨Z, p, rfl, rfl, S, (Fin.bndB h).mono fun d1 H1 ⟨q1, e1, e2, S1, l1, h1⟩ => ?_⟩
  cases d1 with
  | true => exact iteT ⟨Z, q1, e1, e2, S1, h1⟩
  | false => exact iteF (e2 ▸ Fin.ok h1 S1 rfl)
theorem dw_or {a b : Expr} {rest : List Expr} {pos : Pos} {f g : DM Bool} (ha : DT X C W a f) (hb : DW X C W (.BoolOp .Or (b :: rest) pos) g) : DW X C W (.BoolOp .Or (a :: b :: rest) pos) (orT f g) := by
  refine ⟨pwImp (pw_or ha.pt hb.pw) fun σ H Q h => ?_⟩
  obtain ⟨Z, p, rfl, rfl, S, h⟩ := h
  unfold orT at h
  refine ⟨Z, p, rfl, rfl, S, (Fin.bndB h).mono fun d1 H1 ⟨q1, e1, e2, S1, l1, h1⟩ => ?_⟩
  cases d1 with
  | true => exact iteT (e2 ▸ Fin.ok h1 S1 rfl)
  | false => exact iteF ⟨Z, q1, e1, e2, S1, h1⟩
/-! and, or, not as values: all but the last True or False -/
def andV (f g : DM D) : DM D := bnd f fun d => bnd (lift (asB d)) fun b => if b = true then g else ret (.bl false)
def orV (f g : DM D) : DM D := bnd f fun d => bnd (lift (asB d)) fun b => if b = true then ret (.bl true) else g
def notV (f : DM D) : DM D := bnd f fun d => bnd (lift (asB d)) fun b => ret (.bl (!b))
theorem de_one {op} {a : Expr} {pos : Pos} {f : DM D} (h : DE X C W a f) : DE X C W (.BoolOp op [a] pos) f := ⟨pe_one h.pe⟩
/-- a value that is a bool -/
theorem Fin.asB {α : Type} {β : Type} {rel : Pt → α → β → Prop} {G : Wd} {Z : Addr → Prop} {q : Pt} {d : D} {v : V} {k : Bool → DM α} {Q : β → Hp → Prop} (r : RepP G Z q d v) (h : Fin G Z W rel q (DP.bnd (lift (asB d)) k q.st) Q) :
    ∃ b, d = .bl b ∧ v = .bl b ∧ Fin G Z W rel q (k b q.st) Q := by
  unfold DP.bnd lift at h
  cases hg : DP.asB d with
  | none => rw [hg] at h; exact h.elim
  | some b =>
    rw [hg] at h
    refine ⟨b, ?_, asB_rep r hg, h⟩
    cases d with
    | bl b' => cases hg; rfl
    | _ => cases hg
theorem de_and {a b : Expr} {rest : List Expr} {pos : Pos} {f g : DM D} (ha : DE X C W a f) (hb : DE X C W (.BoolOp .And (b :: rest) pos) g) : DE X C W (.BoolOp .And (a :: b :: rest) pos) (andV f g) := by
  refine ⟨peImp (pe_and ha.pe hb.pe) fun σ H Q h => ?_⟩
  obtain ⟨Z, p, rfl, rfl, S, h⟩ := h
  refine ⟨Z, p, rfl, rfl, S, (Fin.bnd h).mono fun x H1 ⟨q1, d1, e1, e2, S1, l1, r1, h1⟩ => ?_⟩
  obtain ⟨b, rfl, rfl, h2⟩ := Fin.asB r1 h1
  refine ⟨b, rfl, ?_⟩
  cases b with
  | true => exact iteT ⟨Z, q1, e1, e2, S1, h2⟩
  | false => exact iteF (e2 ▸ Fin.ok h2 S1 (.bl false))
theorem de_or {a b : Expr} {rest : List Expr} {pos : Pos} {f g : DM D} (ha : DE X C W a f) (hb : DE X C W (.BoolOp .Or (b :: rest) pos) g) : DE X C W (.BoolOp .Or (a :: b :: rest) pos) (orV f g) := by
  refine ⟨peImp (pe_or ha.pe hb.pe) fun σ H Q h => ?_⟩
  obtain ⟨Z, p, rfl, rfl, S, h⟩ := h
  refine ⟨Z, p, rfl, rfl, S, (Fin.bnd h).mono fun x H1 ⟨q1, d1, e1, e2, S1, l1, r1, h1⟩ => ?_⟩
  obtain ⟨b, rfl, rfl, h2⟩ := Fin.asB r1 h1
  refine ⟨b, rfl, ?_⟩
  cases b with
  | true => exact iteT (e2 ▸ Fin.ok h2 S1 (.bl true))
  | false => exact iteF ⟨Z, q1, e1, e2, S1, h2⟩
theorem de_not {a : Expr} {pos : Pos} {f : DM D} (ha : DE X C W a f) : DE X C W (.UnaryOp .Not a pos) (notV f) := by
  refine ⟨peImp (pe_not ha.pe) fun σ H Q h => ?_⟩
  obtain ⟨Z, p, rfl, rfl, S, h⟩ := h
  refine ⟨Z, p, rfl, rfl, S, (Fin.bnd h).mono fun x H1 ⟨q1, d1, e1, e2, S1, l1, r1, h1⟩ => ?_⟩
  obtain ⟨b, rfl, rfl, h2⟩ := Fin.asB r1 h1
  exact ⟨b, rfl, e2 ▸ Fin.ok h2 S1 (.bl _)⟩
def ifM (c : DM Bool) (f g : DM D) : DM D := bnd c fun b => if b = true then f else g
theorem de_if {c a b : Expr} {pos : Pos} {fc : DM Bool} {fa fb : DM D} (hc : DT X C W c fc) (ha : DE X C W a fa) (hb : DE X C W b fb) : DE X C W (.IfExp c a b pos) (ifM fc fa fb) := by
  refine ⟨peImp (pe_ifExp hc.pt ha.pe hb.pe) fun σ H Q h => ?_⟩
  obtain ⟨Z, p, rfl, rfl, S, h⟩ := h
  unfold ifM at h
  refine ⟨Z, p, rfl, rfl, S, (Fin.bndB h).mono fun d1 H1 ⟨q1, e1, e2, S1, l1, h1⟩ => ?_⟩
  cases d1 with
  | true => exact iteT ⟨Z, q1, e1, e2, S1, h1⟩
  | false => exact iteF ⟨Z, q1, e1, e2, S1, h1⟩
/-- a < b < c -/
def chain (g g' : D → D → Option D) (fa fb fc : DM D) : DM D := bnd fa fun x => bnd fb fun y => bnd (lift ((g x y).bind asB)) fun b => if b = true then bnd fc fun z => lift (g' y z) else ret (.bl false)
theorem tChain_of {g g' : D → D → Option D} {fa fb fc : DM D} {σ : L2.St} {H : Hp} {Q : VK} (h : tD (wd X.K C) W (chain g g' fa fb fc) σ H Q) :
    tChain (rD (wd X.K C) g) (rD (wd X.K C) g') (tD (wd X.K C) W fa) (tD (wd X.K C) W fb) (tD (wd X.K C) W fc) σ H Q := by
  obtain ⟨Z, p, rfl, rfl, S, h⟩ := h
  refine ⟨Z, p, rfl, rfl, S, (Fin.bnd h).mono fun x H1 ⟨q1, d1, e1, e2, S1, l1, r1, h1⟩ => ?_⟩
  refine ⟨Z, q1, e1, e2, S1, (Fin.bnd h1).mono fun y H2 ⟨q2, d2, e3, e4, S2, l2, r2, h2⟩ => ?_⟩
  unfold bnd lift at h2
  cases hg : g d1 d2 with
  | none => simp only [hg, Option.bind] at h2; exact h2.elim
  | some f =>
    cases hb : asB f with
    | none => simp only [hg, Option.bind, hb] at h2; exact h2.elim
    | some b =>
      simp only [hg, Option.bind, hb] at h2
      refine ⟨Z, q2, d1, d2, f, e4, S2, l2.rep r1, r2, hg, fun v H' sm rv => ⟨b, asB_rep rv hb, ?_⟩⟩
      have S3 := (S2.ext (e4 ▸ sm)).1
      have l3 := (S2.ext (e4 ▸ sm)).2
      have h3 := Fin.later h2 l3 rfl
      cases b with
      | false => exact iteF (Fin.ok h3 S3 (.bl false))
      | true =>
        refine iteT ⟨Z, { q2 with H := H' }, e3.trans e1, rfl, S3, (Fin.bnd h3).mono fun z H4 ⟨q4, d4, e5, e6, S4, l4, r4, h4⟩ => ?_⟩
        cases hg' : g' d2 d4 with
        | none => rw [hg'] at h4; exact h4.elim
        | some f' =>
          rw [hg'] at h4
          exact ⟨Z, q4, d2, d4, f', e6, S4, l4.rep (l3.rep r2), r4, hg', fun v H' sm rv => Fin.more h4 S4 (e6 ▸ sm) rv⟩
theorem de_chain {op op' : CmpOp} {a b c : Expr} {pos : Pos} {g g' : D → D → Option D} {fa fb fc : DM D} (ho : OpD X C (compareOp op) g) (ho' : OpD X C (compareOp op') g') (ha : DE X C W a fa) (hb : DE X C W b fb) (hc : DE X C W c fc)
    (hm : lastMarks [op, op'] [b, c] = false := by rfl) : DE X C W (.Compare a [op, op'] [b, c] pos) (chain g g' fa fb fc) :=
  ⟨peImp (pe_chain ho ho' ha.pe hb.pe hc.pe hm) fun _ _ _ h => tChain_of h⟩

/-! ### argument lists, tuples, lists -/
def nilM : DM (List D) := ret []
def consM (f : DM D) (g : DM (List D)) : DM (List D) := bnd f fun x => bnd g fun xs => ret (x :: xs)
theorem da_nil : DA X C W [] nilM := ⟨paImp pa_nil fun σ H Q h => by
  obtain ⟨Z, p, rfl, rfl, S, h⟩ := h
  exact Fin.ok h S .nil⟩
theorem da_cons {e : Expr} {es : List Expr} {f : DM D} {g : DM (List D)} (h1 : DE X C W e f) (h2 : DA X C W es g) (hs : starEach (e :: es) X.env = (false, eval e X.env) :: starEach es X.env := by rfl) : DA X C W (e :: es) (consM f g) := by
  refine ⟨paImp (pa_cons h1.pe h2.pa hs) fun σ H Q h => ?_⟩
  obtain ⟨Z, p, rfl, rfl, S, h⟩ := h
  refine ⟨Z, p, rfl, rfl, S, (Fin.bnd h).mono fun x H1 ⟨q1, d1, e1, e2, S1, l1, r1, h1⟩ => ?_⟩
  refine ⟨Z, q1, e1, e2, S1, (Fin.bnd h1).mono fun y H2 ⟨q2, d2, e3, e4, S2, l2, r2, h2⟩ => ?_⟩
  exact e4 ▸ Fin.ok h2 S2 (.cons (l2.rep r1) r2)
def small (xs : List D) : Option (List D) := if xs.length ≤ sizeLine then some xs else none
def tupM (f : DM (List D)) : DM D := bnd f fun xs => bnd (lift (small xs)) fun xs => ret (.tup xs)
def lstM (f : DM (List D)) : DM D := bnd f fun xs => bnd (lift (small xs)) fun xs => ret (.lst xs)
theorem small_of {α β : Type} {rel : Pt → α → β → Prop} {G : Wd} {Z : Addr → Prop} {q : Pt} {ds : List D} {k : List D → DM α} {Q : β → Hp → Prop} (h : Fin G Z W rel q (DP.bnd (lift (small ds)) k q.st) Q) : ds.length ≤ sizeLine ∧ Fin G Z W rel q (k ds q.st) Q := by
  unfold small at h
  by_cases hl : ds.length ≤ sizeLine
  · rw [if_pos hl] at h; exact ⟨hl, h⟩
  · rw [if_neg hl] at h; exact h.elim
theorem repTup {G : Wd} {Z : Addr → Prop} {q : Pt} {ds : List D} {vs : List V} {a : Addr} {o : Obj} (S : SR G Z q) (po : Plain o) (na : q.H a = none) (r : RepLP G Z q ds vs) : RepP G Z { q with H := upd q.H a (.frz o (.tup vs)) } (.tup ds) (.ref a) :=
  .tup (.inl ⟨o, upd_same, po⟩) ((S.ext (same_upd na)).2.repL r)
theorem repLst {G : Wd} {Z : Addr → Prop} {q : Pt} {ds : List D} {vs : List V} {a : Addr} (S : SR G Z q) (na : q.H a = none) (r : RepLP G Z q ds vs) : RepP G Z { q with H := upd q.H a (.lst vs) } (.lst ds) (.ref a) :=
  .lst (.inl ⟨.inl upd_same, S.freeL na⟩) ((S.ext (same_upd na)).2.repL r)
theorem de_tup {es : List Expr} {x1} {pos : Pos} {f : DM (List D)} (h : DA X C W es f) : DE X C W (.Tuple es x1 pos) (tupM f) := by
  refine ⟨peImp (pe_tupF h.pa) fun σ H Q h => ?_⟩
  obtain ⟨Z, p, rfl, rfl, S, h⟩ := h
  refine ⟨Z, p, rfl, rfl, S, (Fin.bnd h).mono fun x H1 ⟨q1, d1, e1, e2, S1, l1, r1, h1⟩ => ?_⟩
  obtain ⟨hl, h2⟩ := small_of h1
  subst e2
  exact ⟨by rw [← RepL.length r1]; exact hl, fun a o po na => Fin.more h2 S1 (same_upd na) (repTup S1 po na r1)⟩
theorem de_lst {es : List Expr} {pos : Pos} {f : DM (List D)} (h : DA X C W es f) : DE X C W (.List es pos) (lstM f) := by
  refine ⟨peImp (pe_lst h.pa) fun σ H Q h => ?_⟩
  obtain ⟨Z, p, rfl, rfl, S, h⟩ := h
  refine ⟨Z, p, rfl, rfl, S, (Fin.bnd h).mono fun x H1 ⟨q1, d1, e1, e2, S1, l1, r1, h1⟩ => ?_⟩
  obtain ⟨hl, h2⟩ := small_of h1
  subst e2
  exact ⟨by rw [← RepL.length r1]; exact hl, fun a na => Fin.more h2 S1 (same_upd na) (repLst S1 na r1)⟩
end
end DP
set_option Elab.async false
set_option linter.all false
set_option maxRecDepth 100000
set_option maxHeartbeats 4000000
/-! DP4: operators by values, on data. -/
namespace DP
open PySem L2

/-! ### data as the library's data -/
mutual
def D.pd : D → PyData
  | .non => .none
  | .bl b => .bool b
  | .int i => .int i
  | .str x => .str x
  | .tup xs => .tuple (pdL xs)
  | .lst xs => .list (pdL xs)
  | .dk _ _ => .none
  | .dt _ _ => .none
  | .ins _ _ => .none
  | .ref _ => .none
def pdL : List D → List PyData
  | [] => []
  | x :: xs => x.pd :: pdL xs
end
/-- plain data: no dicts, no instances; n deep at most -/
def D.ok : Nat → D → Bool
  | _, .non => true
  | _, .bl _ => true
  | _, .int _ => true
  | _, .str x => x.cps.all (· < 0x110000)
  | n + 1, .tup xs => xs.all (D.ok n)
  | n + 1, .lst xs => xs.all (D.ok n)
  | _, _ => false
mutual
/-- == of plain data -/
def D.eqv : D → D → Bool
  | .non, .non => true
  | .bl a, .bl b => a == b
  | .bl a, .int j => (if a then 1 else 0) == j
  | .int i, .bl b => i == (if b then 1 else 0)
  | .int i, .int j => i == j
  | .str x, .str y => x == y
  | .lst xs, .lst ys => eqvL xs ys
  | .tup xs, .tup ys => eqvL xs ys
  | _, _ => false
def eqvL : List D → List D → Bool
  | [], [] => true
  | x :: xs, y :: ys => x.eqv y && eqvL xs ys
  | _, _ => false
end
theorem pdL_map : ∀ xs : List D, pdL xs = xs.map D.pd
  | [] => rfl
  | x :: xs => by simp [pdL, pdL_map xs]
section
variable {K : PySem.W.Frag} {ca : Nat → Addr} {cf : Nat → List Str} {rho : List Addr} {L : Addr → Prop} {H : Hp}
theorem ok_dp : ∀ (n : Nat), (∀ (d : D) (v : V), d.ok n = true → Rep ⟨K, ca, cf⟩ rho L H d v → Dp K H v d.pd) ∧ (∀ (ds : List D) (vs : List V), ds.all (D.ok n) = true → RepL ⟨K, ca, cf⟩ rho L H ds vs → DpAll K H vs (pdL ds))
  | 0 => by
    have one : ∀ (d : D) (v : V), d.ok 0 = true → Rep ⟨K, ca, cf⟩ rho L H d v → Dp K H v d.pd := fun d v h r => by
      cases d with
      | non => cases r; exact .non
      | bl b => cases r; exact .bl b
      | int i => cases r; exact .int i
      | str x => cases r; exact .str x
      | _ => simp [D.ok] at h
    refine ⟨one, fun ds => ?_⟩
    induction ds with
    | nil => intro vs _ r; cases r; exact .nil
    | cons d ds ih =>
      intro vs h r
      simp only [List.all_cons, Bool.and_eq_true] at h
      cases r with
      | cons r1 r2 => exact .cons (one d _ h.1 r1) (ih _ h.2 r2)
  | n + 1 => by
    obtain ⟨i1, i2⟩ := ok_dp n
    have one : ∀ (d : D) (v : V), d.ok (n + 1) = true → Rep ⟨K, ca, cf⟩ rho L H d v → Dp K H v d.pd := fun d v h r => by
      cases d with
      | non => cases r; exact .non
      | bl b => cases r; exact .bl b
      | int i => cases r; exact .int i
      | str x => cases r; exact .str x
      | tup xs =>
        cases r with
        | tup ht ha => exact .tup ht.sq (i2 xs _ h ha)
      | lst xs =>
        cases r with
        | lst hl ha => exact .lst hl.sq (i2 xs _ h ha)
      | _ => simp [D.ok] at h
    refine ⟨one, fun ds => ?_⟩
    induction ds with
    | nil => intro vs _ r; cases r; exact .nil
    | cons d ds ih =>
      intro vs h r
      simp only [List.all_cons, Bool.and_eq_true] at h
      cases r with
      | cons r1 r2 => exact .cons (one d _ h.1 r1) (ih _ h.2 r2)
theorem ok_shape : ∀ (n : Nat), (∀ (d : D), d.ok n = true → PyData.canLay0 d.pd = true ∧ d.pd.depth ≤ n) ∧ (∀ (ds : List D), ds.all (D.ok n) = true → PyData.canLayAll0 (pdL ds) = true ∧ PyData.depthAll (pdL ds) ≤ n)
  | 0 => by
    have one : ∀ (d : D), d.ok 0 = true → PyData.canLay0 d.pd = true ∧ d.pd.depth ≤ 0 := fun d h => by
      cases d with
      | non => exact ⟨rfl, Nat.le_refl _⟩
      | bl b => exact ⟨rfl, Nat.le_refl _⟩
      | int i => exact ⟨rfl, Nat.le_refl _⟩
      | str x => exact ⟨h, Nat.le_refl _⟩
      | _ => simp [D.ok] at h
    refine ⟨one, fun ds => ?_⟩
    induction ds with
    | nil => intro _; exact ⟨rfl, Nat.le_refl _⟩
    | cons d ds ih =>
      intro h
      simp only [List.all_cons, Bool.and_eq_true] at h
      have a := one d h.1
      have b := ih h.2
      simp only [pdL, PyData.canLayAll0, PyData.depthAll, Bool.and_eq_true]
      exact ⟨⟨a.1, b.1⟩, by omega⟩
  | n + 1 => by
    obtain ⟨i1, i2⟩ := ok_shape n
    have one : ∀ (d : D), d.ok (n + 1) = true → PyData.canLay0 d.pd = true ∧ d.pd.depth ≤ n + 1 := fun d h => by
      cases d with
      | non => exact ⟨rfl, Nat.zero_le _⟩
      | bl b => exact ⟨rfl, Nat.zero_le _⟩
      | int i => exact ⟨rfl, Nat.zero_le _⟩
      | str x => exact ⟨h, Nat.zero_le _⟩
      | tup xs =>
        have := i2 xs h
        simp only [D.pd, PyData.canLay0, PyData.depth]
        exact ⟨this.1, by omega⟩
      | lst xs =>
        have := i2 xs h
        simp only [D.pd, PyData.canLay0, PyData.depth]
        exact ⟨this.1, by omega⟩
      | _ => simp [D.ok] at h
    refine ⟨one, fun ds => ?_⟩
    induction ds with
    | nil => intro _; exact ⟨rfl, Nat.zero_le _⟩
    | cons d ds ih =>
      intro h
      simp only [List.all_cons, Bool.and_eq_true] at h
      have a := one d h.1
      have b := ih h.2
      simp only [pdL, PyData.canLayAll0, PyData.depthAll, Bool.and_eq_true]
      exact ⟨⟨a.1, b.1⟩, by omega⟩
theorem ok_shaped {n : Nat} {d : D} (h : d.ok n = true) (hn : n ≤ 64) : SeqAt.shaped d.pd = true := by
  have := (ok_shape n).1 d h
  unfold SeqAt.shaped
  rw [this.1]
  simp
  omega
theorem ok_eqv : ∀ (n : Nat) , (∀ (d e : D), d.ok n = true → e.ok n = true → D.eqv d e = PyData.eqv d.pd e.pd) ∧ (∀ (ds es : List D), ds.all (D.ok n) = true → es.all (D.ok n) = true → eqvL ds es = PyData.eqvAll (pdL ds) (pdL es))
  | 0 => by
    have one : ∀ (d e : D), d.ok 0 = true → e.ok 0 = true → D.eqv d e = PyData.eqv d.pd e.pd := fun d e h k => by
      cases d <;> simp [D.ok] at h <;> cases e <;> simp [D.ok] at k <;> simp [D.eqv, D.pd, PyData.eqv]
    refine ⟨one, fun ds => ?_⟩
    induction ds with
    | nil => intro es _ k; cases es <;> simp [eqvL, pdL, PyData.eqvAll]
    | cons d ds ih =>
      intro es h k
      cases es with
      | nil => simp [eqvL, pdL, PyData.eqvAll]
      | cons e es =>
        simp only [List.all_cons, Bool.and_eq_true] at h k
        simp only [eqvL, pdL, PyData.eqvAll, one d e h.1 k.1, ih es h.2 k.2]
  | n + 1 => by
    obtain ⟨i1, i2⟩ := ok_eqv n
    have one : ∀ (d e : D), d.ok (n + 1) = true → e.ok (n + 1) = true → D.eqv d e = PyData.eqv d.pd e.pd := fun d e h k => by
      cases d <;> simp only [D.ok] at h <;> cases e <;> simp only [D.ok] at k <;> first | (simp [D.eqv, D.pd, PyData.eqv]; done) | (simp only [D.eqv, D.pd, PyData.eqv]; exact i2 _ _ h k) | (exact Bool.noConfusion h) | (exact Bool.noConfusion k)
    refine ⟨one, fun ds => ?_⟩
    induction ds with
    | nil => intro es _ k; cases es <;> simp [eqvL, pdL, PyData.eqvAll]
    | cons d ds ih =>
      intro es h k
      cases es with
      | nil => simp [eqvL, pdL, PyData.eqvAll]
      | cons e es =>
        simp only [List.all_cons, Bool.and_eq_true] at h k
        simp only [eqvL, pdL, PyData.eqvAll, one d e h.1 k.1, ih es h.2 k.2]
end

/-! ### the operators -/
section
variable {X : Cx} {C : CT}
theorem OpD.or {op : Value → Value → Sem Value} {g g' : D → D → Option D} (h : OpD X C op g) (h' : OpD X C op g') : OpD X C op (fun x y => (g x y).orElse fun _ => g' x y) :=
  OpR.imp (OpR.or h h') fun x y H Q ⟨Z, p, d, e, f, e1, S, r1, r2, hg, k⟩ => by
    cases q : g d e with
    | some f' =>
      simp only [q, Option.orElse] at hg
      cases hg
      exact .inl ⟨Z, p, d, e, f, e1, S, r1, r2, q, k⟩
    | none =>
      simp only [q, Option.orElse] at hg
      exact .inr ⟨Z, p, d, e, f, e1, S, r1, r2, hg, k⟩
def intOp (g : Int → Int → Option D) : D → D → Option D := fun x y => match x, y with
  | .int i, .int j => g i j
  | _, _ => none
theorem intOp_str {g : Int → Int → Option D} {x : Str} {y : D} : intOp g (.str x) y = none := rfl
theorem intOp_tup {g : Int → Int → Option D} {x : List D} {y : D} : intOp g (.tup x) y = none := rfl
theorem intOp_lst {g : Int → Int → Option D} {x : List D} {y : D} : intOp g (.lst x) y = none := rfl
/-- an operator upon two ints -/
theorem opInt {op : Value → Value → Sem Value} {Cc : Int → Int → Prop} {gv : Int → Int → V} {g : Int → Int → Option D} (h : OpR X op (rI Cc gv)) (k : ∀ i j d, g i j = some d → Cc i j ∧ ∀ G rho L H, Rep G rho L H d (gv i j)) : OpD X C op (intOp g) :=
  OpR.imp h fun x y H Q ⟨Z, p, d, e, f, e1, S, r1, r2, hg, q⟩ => by
    unfold intOp at hg
    split at hg
    · cases r1
      cases r2
      obtain ⟨c, r⟩ := k _ _ _ hg
      exact ⟨_, _, rfl, rfl, c, q _ _ (Same.refl H) (r _ _ _ _)⟩
    · cases hg
theorem rI_of {op : Value → Value → Sem Value} {gv : Int → Int → V} (h : OpR X op (rI0 gv)) : OpR X op (rI (fun _ _ => True) gv) := OpR.imp h fun x y H Q ⟨i, j, e1, e2, _, q⟩ => ⟨i, j, e1, e2, q⟩
def addI : D → D → Option D := intOp fun i j => some (.int (i + j))
def subI : D → D → Option D := intOp fun i j => some (.int (i - j))
def mulI : D → D → Option D := intOp fun i j => if i.natAbs.log2 + j.natAbs.log2 < 134000000 then some (.int (i * j)) else none
def divI : D → D → Option D := intOp fun i j => if 0 < j then (if j.natAbs.log2 < 9000 then some (.int (i / j)) else none) else if j ≠ 0 ∧ j.natAbs < 1073741824 then some (.int (i.fdiv j)) else none
def modI : D → D → Option D := intOp fun i j => if 0 < j then some (.int (i % j)) else if j ≠ 0 then some (.int (i.fmod j)) else none
def powI : D → D → Option D := intOp fun i j => if 0 ≤ j ∧ j ≤ 1000000 ∧ i.natAbs < 2 ^ 64 then some (.int (i ^ j.toNat)) else none
def ltI : D → D → Option D := intOp fun i j => some (.bl (decide (i < j)))
def leI : D → D → Option D := intOp fun i j => some (.bl (decide (i ≤ j)))
def gtI : D → D → Option D := intOp fun i j => some (.bl (decide (j < i)))
def geI : D → D → Option D := intOp fun i j => some (.bl (decide (j ≤ i)))
theorem o_addI : OpD X C (binaryOp .Add) addI := opInt (rI_of op_add) fun i j d h => by cases h; exact ⟨trivial, fun _ _ _ _ => .int _⟩
theorem o_subI : OpD X C (binaryOp .Sub) subI := opInt (rI_of op_sub) fun i j d h => by cases h; exact ⟨trivial, fun _ _ _ _ => .int _⟩
theorem mulX {i j : Int} (h : i.natAbs.log2 + j.natAbs.log2 < 134000000) : CMulX i j := by
  have b : ∀ x : Int, Builtin.Int.intBits x ≤ x.natAbs.log2 + 1 := fun x => by
    unfold Builtin.Int.intBits
    split <;> omega
  have h1 := b i
  have h2 := b j
  unfold CMulX
  omega
theorem o_mulI : OpD X C (binaryOp .Mult) mulI := opInt op_mulX fun i j d h => by
  split at h
  · rename_i hc
    cases h
    exact ⟨mulX hc, fun _ _ _ _ => .int _⟩
  · cases h
theorem o_divI : OpD X C (binaryOp .FloorDiv) divI := by
  refine OpR.imp (OpR.or (op_fdivW (X := X)) (op_fdivN (X := X))) fun x y H Q ⟨Z, p, d, e, f, e1, S, r1, r2, hg, q⟩ => ?_
  unfold divI intOp at hg
  split at hg
  · cases r1
    cases r2
    dsimp only at hg
    split at hg
    · rename_i hp
      split at hg
      · rename_i hc
        cases hg
        exact .inl ⟨_, _, rfl, rfl, ⟨hp, hc⟩, q _ _ (Same.refl H) (.int _)⟩
      · cases hg
    · split at hg
      · rename_i hc
        cases hg
        exact .inr ⟨_, _, rfl, rfl, hc, q _ _ (Same.refl H) (.int _)⟩
      · cases hg
  · cases hg
theorem o_modI : OpD X C (binaryOp .Mod) modI := by
  refine OpR.imp (OpR.or (op_mod (X := X)) (op_modN (X := X))) fun x y H Q ⟨Z, p, d, e, f, e1, S, r1, r2, hg, q⟩ => ?_
  unfold modI intOp at hg
  split at hg
  · cases r1
    cases r2
    dsimp only at hg
    split at hg
    · rename_i hp
      cases hg
      exact .inl ⟨_, _, rfl, rfl, hp, q _ _ (Same.refl H) (.int _)⟩
    · split at hg
      · rename_i hc
        cases hg
        exact .inr ⟨_, _, rfl, rfl, hc, q _ _ (Same.refl H) (.int _)⟩
      · cases hg
  · cases hg
theorem o_powI : OpD X C (binaryOp .Pow) powI := opInt op_pow fun i j d h => by
  split at h
  · rename_i hc
    cases h
    exact ⟨hc, fun _ _ _ _ => .int _⟩
  · cases h
theorem o_ltI : OpD X C (compareOp .Lt) ltI := opInt (rI_of op_lt) fun i j d h => by cases h; exact ⟨trivial, fun _ _ _ _ => .bl _⟩
theorem o_leI : OpD X C (compareOp .LtE) leI := opInt (rI_of op_le) fun i j d h => by cases h; exact ⟨trivial, fun _ _ _ _ => .bl _⟩
theorem o_gtI : OpD X C (compareOp .Gt) gtI := opInt (rI_of op_gt) fun i j d h => by cases h; exact ⟨trivial, fun _ _ _ _ => .bl _⟩
theorem o_geI : OpD X C (compareOp .GtE) geI := opInt (rI_of op_ge) fun i j d h => by cases h; exact ⟨trivial, fun _ _ _ _ => .bl _⟩

/-! texts -/
def strOp (g : Str → Str → Option D) : D → D → Option D := fun x y => match x, y with
  | .str i, .str j => g i j
  | _, _ => none
theorem opStr {op : Value → Value → Sem Value} {Cc : Str → Str → Prop} {gv : Str → Str → V} {g : Str → Str → Option D} (h : OpR X op (fun x y H Q => ∃ i j, x = .str i ∧ y = .str j ∧ Cc i j ∧ Q (gv i j) H)) (k : ∀ i j d, g i j = some d → Cc i j ∧ ∀ G rho L H, Rep G rho L H d (gv i j)) : OpD X C op (strOp g) :=
  OpR.imp h fun x y H Q ⟨Z, p, d, e, f, e1, S, r1, r2, hg, q⟩ => by
    unfold strOp at hg
    split at hg
    · cases r1
      cases r2
      obtain ⟨c, r⟩ := k _ _ _ hg
      exact ⟨_, _, rfl, rfl, c, q _ _ (Same.refl H) (r _ _ _ _)⟩
    · cases hg
theorem opStr0 {op : Value → Value → Sem Value} {gv : Str → Str → V} (h : OpR X op (fun x y H Q => ∃ i j, x = .str i ∧ y = .str j ∧ Q (gv i j) H)) : OpR X op (fun x y H Q => ∃ i j, x = .str i ∧ y = .str j ∧ True ∧ Q (gv i j) H) := OpR.imp h fun x y H Q ⟨i, j, e1, e2, _, q⟩ => ⟨i, j, e1, e2, q⟩
def addS : D → D → Option D := strOp fun i j => if i.length + j.length ≤ sizeLine then some (.str (i ++ j)) else none
def ltS : D → D → Option D := strOp fun i j => some (.bl (decide (i.cps.toList < j.cps.toList)))
def leS : D → D → Option D := strOp fun i j => some (.bl (!decide (j.cps.toList < i.cps.toList)))
def gtS : D → D → Option D := strOp fun i j => some (.bl (decide (j.cps.toList < i.cps.toList)))
def geS : D → D → Option D := strOp fun i j => some (.bl (!decide (i.cps.toList < j.cps.toList)))
theorem o_addS : OpD X C (binaryOp .Add) addS := opStr op_add_str fun i j d h => by
  split at h
  · rename_i hc
    cases h
    exact ⟨hc, fun _ _ _ _ => .str _⟩
  · cases h
theorem o_ltS : OpD X C (compareOp .Lt) ltS := opStr (opStr0 op_lt_str) fun i j d h => by cases h; exact ⟨trivial, fun _ _ _ _ => .bl _⟩
theorem o_leS : OpD X C (compareOp .LtE) leS := opStr (opStr0 op_le_str) fun i j d h => by cases h; exact ⟨trivial, fun _ _ _ _ => .bl _⟩
theorem o_gtS : OpD X C (compareOp .Gt) gtS := opStr (opStr0 op_gt_str) fun i j d h => by cases h; exact ⟨trivial, fun _ _ _ _ => .bl _⟩
theorem o_geS : OpD X C (compareOp .GtE) geS := opStr (opStr0 op_ge_str) fun i j d h => by cases h; exact ⟨trivial, fun _ _ _ _ => .bl _⟩
/-- a text in a text: one sign, or any -/
def inStr (i j : Str) : Bool := match i.cps with
  | ⟨[c]⟩ => decide (c ∈ j.cps.toList)
  | _ => !(Builtin.Str.occurrences j i 0 j.length 1).isEmpty
def inS : D → D → Option D := strOp fun i j => some (.bl (inStr i j))
def ninS : D → D → Option D := strOp fun i j => some (.bl (!inStr i j))
theorem o_inS : OpD X C (compareOp .In) inS := by
  refine OpR.imp (OpR.or (op_in_sign (X := X)) (op_in_str (X := X))) fun x y H Q ⟨Z, p, d, e, f, e1, S, r1, r2, hg, q⟩ => ?_
  cases d with
  | str i => cases e with
    | str j =>
      cases r1
      cases r2
      cases hg
      unfold inStr at q
      obtain ⟨⟨l⟩⟩ := i
      match l, q with
      | [c], q => exact .inl ⟨c, j, rfl, rfl, q _ _ (Same.refl H) (.bl _)⟩
      | [], q => exact .inr ⟨_, j, rfl, rfl, q _ _ (Same.refl H) (.bl _)⟩
      | _ :: _ :: _, q => exact .inr ⟨_, j, rfl, rfl, q _ _ (Same.refl H) (.bl _)⟩
    | _ => exact nomatch (show (none : Option D) = some f from hg)
  | _ => exact nomatch (show (none : Option D) = some f from hg)
theorem o_ninS : OpD X C (compareOp .NotIn) ninS := by
  refine OpR.imp (OpR.or (op_notIn_sign (X := X)) (op_notIn_str (X := X))) fun x y H Q ⟨Z, p, d, e, f, e1, S, r1, r2, hg, q⟩ => ?_
  cases d with
  | str i => cases e with
    | str j =>
      cases r1
      cases r2
      cases hg
      unfold inStr at q
      obtain ⟨⟨l⟩⟩ := i
      match l, q with
      | [c], q => exact .inl ⟨c, j, rfl, rfl, q _ _ (Same.refl H) (.bl _)⟩
      | [], q => exact .inr ⟨_, j, rfl, rfl, q _ _ (Same.refl H) (.bl _)⟩
      | _ :: _ :: _, q => exact .inr ⟨_, j, rfl, rfl, q _ _ (Same.refl H) (.bl _)⟩
    | _ => exact nomatch (show (none : Option D) = some f from hg)
  | _ => exact nomatch (show (none : Option D) = some f from hg)

/-! lists and tuples together -/
def catL : D → D → Option D := fun x y => match x, y with
  | .lst xs, .lst ys => if xs.length + ys.length ≤ sizeLine then some (.lst (xs ++ ys)) else none
  | _, _ => none
def catT : D → D → Option D := fun x y => match x, y with
  | .tup xs, .tup ys => if xs.length + ys.length ≤ sizeLine then some (.tup (xs ++ ys)) else none
  | _, _ => none
/-- list + list, whatever lists they are -/
def rCatS (K : PySem.W.Frag) : R2 := fun x y H Q => ∃ l b xs zs, x = .ref l ∧ y = .ref b ∧ SqL K H l xs ∧ SqL K H b zs ∧ xs.length + zs.length ≤ sizeLine ∧ ∀ p, H p = none → Q (.ref p) (upd H p (.lst (xs ++ zs)))
theorem op_catS : OpR X (binaryOp .Add) (rCatS X.K) := by
  intro pins s σ H x y v u Q I rx ry h
  obtain ⟨l, b, xs, zs, rfl, rfl, hH, hB, hz, q⟩ := h
  cases rx
  cases ry
  obtain ⟨its, r, ⟨⟨cls, dd, data, sl⟩, n, ho, hc, hd0, hd⟩, _⟩ := I.list hH
  obtain ⟨its2, r2, ⟨⟨cls2, dd2, data2, sl2⟩, n2, ho2, hc2, hd02, hd2⟩, _⟩ := I.list hB
  simp only at hc hd hc2 hd2
  subst hc hd hc2 hd2
  have hl := r.length
  have hl2 := r2.length
  refine concat_meets ⟨_, ho, rfl⟩ ⟨_, ho2, rfl⟩ noFill_list_add seq_list_add PySem.F.slot_list_add PySem.F.entry_list_add (PySem.F.args_list_add_2 _ _) (PyProof.Rows.list_addW l b its.toArray its2.toArray n n2 dd dd2 sl sl2 (by rw [List.size_toArray, List.size_toArray]; omega)) ⟨ho, ho2, ?_⟩
  have ea : its.toArray ++ its2.toArray = (its ++ its2).toArray := by simp
  rw [ea]
  exact ⟨.ref _, _, I.lnew (t' := s.toks) (r.append r2) (by rw [List.length_append]; omega), rfl, q _ I.fresh⟩
theorem o_catL : OpD X C (binaryOp .Add) catL := by
  refine OpR.imp (op_catS (X := X)) fun x y H Q ⟨Z, p, d, e, f, e1, S, r1, r2, hg, q⟩ => ?_
  subst e1
  unfold catL at hg
  split at hg
  · split at hg
    · rename_i hc
      cases hg
      cases r1 with
      | lst h1 a1 =>
        cases r2 with
        | lst h2 a2 =>
          have z1 := RepL.length a1
          have z2 := RepL.length a2
          exact ⟨_, _, _, _, rfl, rfl, h1.sq, h2.sq, by omega, fun b nb => q _ _ (same_upd nb) (repLst S nb (a1.append a2))⟩
    · cases hg
  · cases hg
theorem o_catT : OpD X C (binaryOp .Add) catT := by
  refine OpR.imp (op_catF (X := X)) fun x y H Q ⟨Z, p, d, e, f, e1, S, r1, r2, hg, q⟩ => ?_
  subst e1
  unfold catT at hg
  split at hg
  · split at hg
    · rename_i hc
      cases hg
      cases r1 with
      | tup h1 a1 =>
        cases r2 with
        | tup h2 a2 =>
          have z1 := RepL.length a1
          have z2 := RepL.length a2
          refine ⟨_, _, _, _, rfl, rfl, h1.sq, h2.sq, by omega, fun e => ?_, fun e e' => ?_, fun e e' b o po nb => q _ _ (same_upd nb) (repTup S po nb (a1.append a2))⟩
          · subst e
            cases a1
            exact q _ _ (Same.refl _) (.tup h2 a2)
          · subst e'
            cases a2
            refine q _ _ (Same.refl _) ?_
            rw [List.append_nil]
            exact .tup h1 a1
    · cases hg
  · cases hg
/-- a + b -/
def addD : D → D → Option D := fun x y => match x with
  | .int _ => addI x y
  | .str _ => addS x y
  | .tup _ => catT x y
  | .lst _ => catL x y
  | _ => none
theorem OpD.of {op : Value → Value → Sem Value} {g g' : D → D → Option D} (h : OpD X C op g) (k : ∀ x y d, g' x y = some d → g x y = some d) : OpD X C op g' := OpR.imp h fun x y H Q ⟨Z, p, d, e, f, e1, S, r1, r2, hg, q⟩ => ⟨Z, p, d, e, f, e1, S, r1, r2, k _ _ _ hg, q⟩
theorem o_add : OpD X C (binaryOp .Add) addD := by
  refine ((o_addI.or o_addS).or (o_catT.or o_catL)).of fun x y d h => ?_
  unfold addD at h
  cases x <;> first | (cases h; done) | skip
  · simp [h]
  · simp [addI, intOp_str, h]
  · have h2 : ∀ xs, addS (.tup xs) y = none := fun _ => rfl
    simp [addI, intOp_tup, h2, h]
  · have h2 : ∀ xs, addS (.lst xs) y = none := fun _ => rfl
    have h3 : ∀ xs, catT (.lst xs) y = none := fun _ => rfl
    simp [addI, intOp_lst, h2, h3, h]
/-! tuple * int, list * int -/
def repT : D → D → Option D := fun x y => match x, y with
  | .tup xs, .int k => if k = 1 then some (.tup xs) else if xs ≠ [] ∧ 2 ≤ k ∧ k ≤ 1000 ∧ xs.length ≤ 1000 then some (.tup (List.replicate k.toNat xs).flatten) else none
  | _, _ => none
theorem RepL.flat {G : Wd} {rho : List Addr} {L : Addr → Prop} {H : Hp} {ds : List D} {vs : List V} (h : RepL G rho L H ds vs) : ∀ n : Nat, RepL G rho L H (List.replicate n ds).flatten (List.replicate n vs).flatten
  | 0 => .nil
  | n + 1 => by simp only [List.replicate_succ, List.flatten_cons]; exact h.append (RepL.flat h n)
end
theorem repL_nil {G : Wd} {rho : List Addr} {L : Addr → Prop} {H : Hp} {ds : List D} (h : RepL G rho L H ds []) : ds = [] := by cases h; rfl
section
variable {X : Cx} {C : CT}
theorem o_repT : OpD X C (binaryOp .Mult) repT := by
  refine OpR.imp ((op_repF (X := X)).or (op_rep1 (X := X))) fun x y H Q ⟨Z, p, d, e, f, e1, S, r1, r2, hg, q⟩ => ?_
  subst e1
  unfold repT at hg
  split at hg
  · split at hg
    · rename_i hc
      cases hg
      subst hc
      cases r2
      cases r1 with
      | tup h1 a1 => exact .inr ⟨_, _, rfl, rfl, h1.sq, q _ _ (Same.refl _) (.tup h1 a1)⟩
    split at hg
    · rename_i hc
      cases hg
      cases r2
      cases r1 with
      | tup h1 a1 =>
        have z1 := RepL.length a1
        refine .inl ⟨_, _, _, rfl, rfl, h1.sq, fun e => ?_, hc.2.1, hc.2.2.1, by have := hc.2.2.2; omega, fun b o po nb => q _ _ (same_upd nb) (repTup S po nb (a1.flat _))⟩
        subst e
        exact hc.1 (repL_nil a1)
    · cases hg
  · cases hg
/-- a * b -/
def mulD : D → D → Option D := fun x y => match x with
  | .int _ => mulI x y
  | .tup _ => repT x y
  | _ => none
theorem o_mul : OpD X C (binaryOp .Mult) mulD := by
  refine (o_mulI.or o_repT).of fun x y d h => ?_
  unfold mulD at h
  cases x <;> first | (cases h; done) | skip
  · simp [h]
  · simp [mulI, intOp_tup, h]
def ltD : D → D → Option D := fun x y => match x with
  | .int _ => ltI x y
  | _ => ltS x y
def leD : D → D → Option D := fun x y => match x with
  | .int _ => leI x y
  | _ => leS x y
def gtD : D → D → Option D := fun x y => match x with
  | .int _ => gtI x y
  | _ => gtS x y
def geD : D → D → Option D := fun x y => match x with
  | .int _ => geI x y
  | _ => geS x y
theorem o_lt : OpD X C (compareOp .Lt) ltD := by
  refine (o_ltI.or o_ltS).of fun x y d h => ?_
  unfold ltD at h
  cases x <;> first | (simp [h]; done) | (cases h; done) | (simp only [ltI, intOp_str]; exact h)
theorem o_le : OpD X C (compareOp .LtE) leD := by
  refine (o_leI.or o_leS).of fun x y d h => ?_
  unfold leD at h
  cases x <;> first | (simp [h]; done) | (cases h; done) | (simp only [leI, intOp_str]; exact h)
theorem o_gt : OpD X C (compareOp .Gt) gtD := by
  refine (o_gtI.or o_gtS).of fun x y d h => ?_
  unfold gtD at h
  cases x <;> first | (simp [h]; done) | (cases h; done) | (simp only [gtI, intOp_str]; exact h)
theorem o_ge : OpD X C (compareOp .GtE) geD := by
  refine (o_geI.or o_geS).of fun x y d h => ?_
  unfold geD at h
  cases x <;> first | (simp [h]; done) | (cases h; done) | (simp only [geI, intOp_str]; exact h)

/-! == and != of plain data -/
def deepest : Nat := 24
def eqD : D → D → Option D := fun x y => if x.ok deepest && y.ok deepest then some (.bl (x.eqv y)) else none
def neD : D → D → Option D := fun x y => if x.ok deepest && y.ok deepest then some (.bl (!x.eqv y)) else none
theorem o_eqD (hu : X.A.units + 64 < cLine) : OpD X C (compareOp .Eq) eqD := by
  refine OpR.imp (op_eqD (X := X) hu) fun x y H Q ⟨Z, p, d, e, f, e1, S, r1, r2, hg, q⟩ => ?_
  unfold eqD at hg
  split at hg
  · rename_i hc
    rw [Bool.and_eq_true] at hc
    cases hg
    refine ⟨d.pd, e.pd, e1 ▸ (ok_dp _).1 d x hc.1 r1, e1 ▸ (ok_dp _).1 e y hc.2 r2, ok_shaped hc.1 (by decide), ok_shaped hc.2 (by decide), ?_⟩
    rw [← (ok_eqv _).1 d e hc.1 hc.2]
    exact q _ _ (Same.refl H) (.bl _)
  · cases hg
theorem o_neD (hu : X.A.units + 64 < cLine) : OpD X C (compareOp .NotEq) neD := by
  refine OpR.imp (op_neD (X := X) hu) fun x y H Q ⟨Z, p, d, e, f, e1, S, r1, r2, hg, q⟩ => ?_
  unfold neD at hg
  split at hg
  · rename_i hc
    rw [Bool.and_eq_true] at hc
    cases hg
    refine ⟨d.pd, e.pd, e1 ▸ (ok_dp _).1 d x hc.1 r1, e1 ▸ (ok_dp _).1 e y hc.2 r2, ok_shaped hc.1 (by decide), ok_shaped hc.2 (by decide), ?_⟩
    rw [← (ok_eqv _).1 d e hc.1 hc.2]
    exact q _ _ (Same.refl H) (.bl _)
  · cases hg

/-! in, not in: texts, lists and tuples of plain data -/
def memD (x : D) (ys : List D) : Bool := ys.any fun z => z.eqv x
theorem memD_pd {n : Nat} {x : D} (hx : x.ok n = true) : ∀ {ys : List D}, ys.all (D.ok n) = true → memD x ys = (pdL ys).any fun z => PyData.eqv z x.pd
  | [], _ => rfl
  | y :: ys, h => by
    simp only [List.all_cons, Bool.and_eq_true] at h
    simp only [memD, List.any_cons, pdL, (ok_eqv n).1 y x h.1 hx]
    rw [← memD_pd hx h.2]
    rfl
def inQ (neg : Bool) : D → D → Option D := fun x y => match y with
  | .lst ys => if x.ok deepest && ys.all (D.ok deepest) then some (.bl (if neg then !memD x ys else memD x ys)) else none
  | .tup ys => if x.ok deepest && ys.all (D.ok deepest) then some (.bl (if neg then !memD x ys else memD x ys)) else none
  | _ => none
def rInT (K : PySem.W.Frag) (neg : Bool) : R2 := fun x y H Q => ∃ d ds, Dp K H x d ∧ Dp K H y (.tuple ds) ∧ SeqAt.shaped d = true ∧ SeqAt.shaped (.tuple ds) = true ∧ Q (.bl (if neg then !ds.any (fun z => PyData.eqv z d) else ds.any fun z => PyData.eqv z d)) H
theorem op_inT (hu : X.A.units + 66 < cLine) : OpR X (compareOp .In) (rInT X.K false) := by
  intro pins s σ H x y v u Q I rx ry h
  obtain ⟨d, ds, hd, he, sd, se, q⟩ := h
  obtain ⟨as, r1⟩ := Dp.reads I d x v hd rx
  obtain ⟨bs, r2⟩ := Dp.reads I (.tuple ds) y u he ry
  refine SeqAt.in_tuple_reads r2 r1 (SeqAt.canLay_of_shaped se) (SeqAt.canLay_of_shaped sd) ?_ ⟨.bl _, H, I, rfl, q⟩
  have h1 := SeqAt.depth_of_shaped sd
  have h2 : min (PyData.depthAll ds) d.depth ≤ d.depth := Nat.min_le_right _ _
  omega
theorem op_ninT (hu : X.A.units + 66 < cLine) : OpR X (compareOp .NotIn) (rInT X.K true) := by
  intro pins s σ H x y v u Q I rx ry h
  obtain ⟨d, ds, hd, he, sd, se, q⟩ := h
  obtain ⟨as, r1⟩ := Dp.reads I d x v hd rx
  obtain ⟨bs, r2⟩ := Dp.reads I (.tuple ds) y u he ry
  refine SeqAt.notIn_tuple_reads r2 r1 (SeqAt.canLay_of_shaped se) (SeqAt.canLay_of_shaped sd) ?_ ⟨.bl _, H, I, rfl, q⟩
  have h1 := SeqAt.depth_of_shaped sd
  have h2 : min (PyData.depthAll ds) d.depth ≤ d.depth := Nat.min_le_right _ _
  omega
theorem inQ_ok {n : Nat} {ys : List D} (h : ys.all (D.ok n) = true) : (D.lst ys).ok (n + 1) = true ∧ (D.tup ys).ok (n + 1) = true := ⟨h, h⟩
theorem o_inQ (hu : X.A.units + 66 < cLine) : OpD X C (compareOp .In) (inQ false) := by
  refine OpR.imp (OpR.or (op_inD (X := X) (by omega)) (op_inT (X := X) hu)) fun x y H Q ⟨Z, p, d, e, f, e1, S, r1, r2, hg, q⟩ => ?_
  subst e1
  unfold inQ at hg
  split at hg
  · split at hg
    · rename_i hc
      rw [Bool.and_eq_true] at hc
      cases hg
      refine .inl ⟨d.pd, _, (ok_dp _).1 d x hc.1 r1, (ok_dp _).1 _ y (inQ_ok hc.2).1 r2, ok_shaped hc.1 (by decide), ok_shaped (inQ_ok hc.2).1 (by decide), ?_⟩
      rw [← memD_pd hc.1 hc.2]
      exact q _ _ (Same.refl _) (.bl _)
    · cases hg
  · split at hg
    · rename_i hc
      rw [Bool.and_eq_true] at hc
      cases hg
      refine .inr ⟨d.pd, _, (ok_dp _).1 d x hc.1 r1, (ok_dp _).1 _ y (inQ_ok hc.2).2 r2, ok_shaped hc.1 (by decide), ok_shaped (inQ_ok hc.2).2 (by decide), ?_⟩
      rw [← memD_pd hc.1 hc.2]
      exact q _ _ (Same.refl _) (.bl _)
    · cases hg
  · cases hg
theorem o_ninQ (hu : X.A.units + 66 < cLine) : OpD X C (compareOp .NotIn) (inQ true) := by
  refine OpR.imp (OpR.or (op_notInD (X := X) (by omega)) (op_ninT (X := X) hu)) fun x y H Q ⟨Z, p, d, e, f, e1, S, r1, r2, hg, q⟩ => ?_
  subst e1
  unfold inQ at hg
  split at hg
  · split at hg
    · rename_i hc
      rw [Bool.and_eq_true] at hc
      cases hg
      refine .inl ⟨d.pd, _, (ok_dp _).1 d x hc.1 r1, (ok_dp _).1 _ y (inQ_ok hc.2).1 r2, ok_shaped hc.1 (by decide), ok_shaped (inQ_ok hc.2).1 (by decide), ?_⟩
      rw [← memD_pd hc.1 hc.2]
      exact q _ _ (Same.refl _) (.bl _)
    · cases hg
  · split at hg
    · rename_i hc
      rw [Bool.and_eq_true] at hc
      cases hg
      refine .inr ⟨d.pd, _, (ok_dp _).1 d x hc.1 r1, (ok_dp _).1 _ y (inQ_ok hc.2).2 r2, ok_shaped hc.1 (by decide), ok_shaped (inQ_ok hc.2).2 (by decide), ?_⟩
      show Q (.bl (!(pdL _).any fun z => PyData.eqv z d.pd)) _
      rw [← memD_pd hc.1 hc.2]
      exact q _ _ (Same.refl _) (.bl _)
    · cases hg
  · cases hg
/-! is None -/
def isNoneD : D → D → Option D := fun x y => match y with
  | .non => some (.bl (match x with | .non => true | _ => false))
  | _ => none
def notNoneD : D → D → Option D := fun x y => match y with
  | .non => some (.bl (match x with | .non => false | _ => true))
  | _ => none
theorem o_isN : OpD X C (compareOp .Is) isNoneD := by
  refine OpR.imp (op_isN (X := X)) fun x y H Q ⟨Z, p, d, e, f, e1, S, r1, r2, hg, q⟩ => ?_
  unfold isNoneD at hg
  split at hg
  · cases r2
    cases hg
    refine ⟨rfl, ?_⟩
    cases r1 <;> exact q _ _ (Same.refl H) (.bl _)
  · cases hg
theorem o_notN : OpD X C (compareOp .IsNot) notNoneD := by
  refine OpR.imp (op_notN (X := X)) fun x y H Q ⟨Z, p, d, e, f, e1, S, r1, r2, hg, q⟩ => ?_
  unfold notNoneD at hg
  split at hg
  · cases r2
    cases hg
    refine ⟨rfl, ?_⟩
    cases r1 <;> exact q _ _ (Same.refl H) (.bl _)
  · cases hg
end
end DP
set_option Elab.async false
set_option linter.all false
set_option maxRecDepth 100000
set_option maxHeartbeats 4000000
/-! DP5: what a def promises on data; calls of defs, methods, classes. -/
namespace DP
open PySem PySem.Spec PyProof.Rows L2

/-- how a def ends, from the state p (no slots) -/
def FinF (G : Wd) (Z : Addr → Prop) (p : Pt) (r : RF) (Q : VK) (E : XK) : Prop := match r with
  | .ok d hp => ∀ (rho : List Addr) (H : Hp) (v : V), SR G Z ⟨rho, ⟨[], hp⟩, [], H⟩ → Le p ⟨rho, ⟨[], hp⟩, [], H⟩ → RepP G Z ⟨rho, ⟨[], hp⟩, [], H⟩ d v → Q v H
  | .err x hp => ∀ (rho : List Addr) (H : Hp) (cls : Value) (d : Option Addr), SR G Z ⟨rho, ⟨[], hp⟩, [], H⟩ → Le p ⟨rho, ⟨[], hp⟩, [], H⟩ → XRel G Z ⟨rho, ⟨[], hp⟩, [], H⟩ x cls d → E cls d H
  | .stuck => False
/-- a def's promise on data -/
def spD (G : Wd) (m : DF) : Sp := fun vs H Q E => ∃ (Z : Addr → Prop) (rho : List Addr) (hp : List Cell) (ds : List D), SR G Z ⟨rho, ⟨[], hp⟩, [], H⟩ ∧ RepLP G Z ⟨rho, ⟨[], hp⟩, [], H⟩ ds vs ∧ FinF G Z ⟨rho, ⟨[], hp⟩, [], H⟩ (m ds hp) Q E
structure FnG (P : Program) (w : World) (K : PySem.W.Frag) (mg : Str → Option Value) (base : Heap) (C : CT) (k : Nat) (f : Addr) (fd : FuncData) (ps : List Str) (m : DF) : Prop where
  run : ∀ (A : Around) (outer : List Env) (s : Shared) (H : Hp) (args : Args) (us : List Value) (vs : List V) (Q : VK) (E : XK), Room k A → A.guards = some [] → Env0 P w K mg base A outer s H → BindsTo s fd args (ps.zip us) → Vals vs us → vs.length = ps.length → spD (wd K C) m vs H Q E →
    codeAny (model P w) A (.call (.ref f) args) (CR (L2.CX P w) outer P w H s Q E) s
theorem FnG.mono {P : Program} {w : World} {K : PySem.W.Frag} {mg : Str → Option Value} {base : Heap} {C : CT} {j k : Nat} {f : Addr} {fd : FuncData} {ps : List Str} {m : DF} (F : FnG P w K mg base C j f fd ps m) (h : j ≤ k) : FnG P w K mg base C k f fd ps m :=
  ⟨fun A outer s H args us vs Q E hr => F.run A outer s H args us vs Q E (hr.mono h)⟩
/-- a simpler function: it tells the same where it tells anything -/
theorem FnG.imp {P : Program} {w : World} {K : PySem.W.Frag} {mg : Str → Option Value} {base : Heap} {C : CT} {k : Nat} {f : Addr} {fd : FuncData} {ps : List Str} {m m' : DF} (F : FnG P w K mg base C k f fd ps m) (h : ∀ ds hp, m' ds hp = .stuck ∨ m' ds hp = m ds hp) : FnG P w K mg base C k f fd ps m' :=
  ⟨fun A outer s H args us vs Q E hr hg e0 hb r hl ⟨Z, rho, hp, ds, S, rd, q⟩ => F.run A outer s H args us vs Q E hr hg e0 hb r hl ⟨Z, rho, hp, ds, S, rd, by
    rcases h ds hp with e | e
    · rw [e] at q; exact q.elim
    · rw [← e]; exact q⟩⟩

/-! ### from a body to a callee and back -/
section
variable {G : Wd} {Z : Addr → Prop} {p : Pt}
/-- the caller's own cells -/
def Pt.own (p : Pt) (a : Addr) : Prop := ∃ (i : Nat) (c : Cell), p.st.sl[i]? = some (SV.own c) ∧ p.sg[i]? = some (some (V.ref a))
abbrev Pt.in (p : Pt) : Pt := ⟨p.rho, ⟨[], p.st.hp⟩, [], p.H⟩
abbrev Zin (Z : Addr → Prop) (p : Pt) : Addr → Prop := fun a => Z a ∨ p.own a
theorem in_M (a : Addr) : p.in.M a ↔ a ∈ p.rho := by
  constructor
  · rintro (h | ⟨i, c, h, _⟩)
    · exact h
    · simp at h
  · exact .inl
theorem in_L (a : Addr) : p.in.L (Zin Z p) a ↔ p.L Z a := by
  constructor
  · rintro (h | h | h)
    · exact .inl (.inl ((in_M a).mp h))
    · exact .inr h
    · exact .inl (.inr h)
  · rintro ((h | h) | h)
    · exact .inl ((in_M a).mpr h)
    · exact .inr (.inr h)
    · exact .inr (.inl h)
theorem car_L {rho : List Addr} {L L' : Addr → Prop} {H : Hp} (h : ∀ a, L' a → L a) : Car rho L H rho L' H := ⟨fun _ _ h => h, fun _ _ _ h => h, fun _ _ _ _ _ h => h, fun a n _ z => n (h a z), fun _ _ h => h⟩
theorem CellAt.car {rho : List Addr} {L L' : Addr → Prop} {H : Hp} {a : Addr} {c : Cell} (k : Car rho L H rho L' H) (h : CellAt G rho L H a c) : CellAt G rho L' H a c := by
  cases c with
  | lst ds => obtain ⟨vs, e, r⟩ := h; exact ⟨vs, e, RepL.car k r⟩
  | dk ks ds => obtain ⟨vs, e, z, r⟩ := h; exact ⟨vs, e, z, RepL.car k r⟩
  | dt ks ds => obtain ⟨vs, e, z, r⟩ := h; exact ⟨vs, e, z, RepL.car k r⟩
  | ins c ds => obtain ⟨dx, vs, e, r⟩ := h; exact ⟨dx, vs, e, RepL.car k r⟩
theorem SR.in (S : SR G Z p) : SR G (Zin Z p) p.in := by
  refine ⟨rfl, S.hlen, fun i d h => by simp at h, fun i c h => by simp at h, fun n c h => ?_, S.nod, fun i j c c' a h => by simp at h, fun a h => ?_⟩
  · obtain ⟨a, h1, h2, h3⟩ := S.cell n c h
    refine ⟨a, h1, CellAt.car (car_L fun a z => (in_L a).mp z) h2, ?_⟩
    rintro (z | ⟨i, c', z, z2⟩)
    · exact h3 z
    · obtain ⟨b, e, _, nb, _⟩ := S.own i c' z
      rw [z2] at e
      cases e
      exact nb (List.mem_of_getElem? h1)
  · rcases h with h | h
    · exact S.zin a h
    · exact S.has (.inr h)
theorem RepLP.in {ds : List D} {vs : List V} (h : RepLP G Z p ds vs) : RepLP G (Zin Z p) p.in ds vs := RepL.car (car_L fun a z => (in_L a).mp z) h
/-- behind the call -/
theorem SR.out (S : SR G Z p) {rho : List Addr} {hp : List Cell} {H : Hp} (S' : SR G (Zin Z p) ⟨rho, ⟨[], hp⟩, [], H⟩) (l : Le p.in ⟨rho, ⟨[], hp⟩, [], H⟩) :
    SR G Z ⟨rho, ⟨p.st.sl, hp⟩, p.sg, H⟩ ∧ Le p ⟨rho, ⟨p.st.sl, hp⟩, p.sg, H⟩ ∧ ∀ d v, RepP G (Zin Z p) ⟨rho, ⟨[], hp⟩, [], H⟩ d v → RepP G Z ⟨rho, ⟨p.st.sl, hp⟩, p.sg, H⟩ d v := by
  have nM : ∀ a, ¬ p.M a → ¬ p.in.M a := fun a h z => h (.inl ((in_M a).mp z))
  have l' : Le p ⟨rho, ⟨p.st.sl, hp⟩, p.sg, H⟩ := by
    refine ⟨l.rho, fun a o h k => ?_, l.tup, l.has⟩
    obtain ⟨h1, h2⟩ := l.keep a o h (nM a k)
    refine ⟨h1, ?_⟩
    rintro (z | z)
    · exact h2 (.inl z)
    · exact k (.inr z)
  have eL : ∀ a, Pt.L Z ⟨rho, ⟨p.st.sl, hp⟩, p.sg, H⟩ a → Pt.L (Zin Z p) ⟨rho, ⟨[], hp⟩, [], H⟩ a := fun a z => by
    rcases z with (z | z) | z
    · exact .inl (.inl z)
    · exact .inr (.inr z)
    · exact .inr (.inl z)
  refine ⟨⟨S.len, S'.hlen, fun i d h => ?_, fun i c h => ?_, fun n c h => ?_, S'.nod, S.dis, fun a h => S'.zin a (.inl h)⟩, l', fun d v r => Rep.car (car_L eL) r⟩
  · obtain ⟨v, h1, h2⟩ := S.val i d h
    exact ⟨v, h1, l'.rep h2⟩
  · obtain ⟨a, h1, h2, h3, h4⟩ := S.own i c h
    cases e : p.H a with
    | none => exact absurd e (CellAt.some h2)
    | some o =>
      obtain ⟨k1, k2⟩ := l.keep a o e fun z => h3 ((in_M a).mp z)
      exact ⟨a, h1, CellAt.keep l' h2 (k1.trans e.symm), fun z => k2 (.inl z), h4⟩
  · obtain ⟨a, h1, h2, h3⟩ := S'.cell n c h
    exact ⟨a, h1, CellAt.car (car_L eL) h2, fun z => h3 (.inl z)⟩
end

/-! ### a call of a def -/
def callM (m : DF) (f : DM (List D)) : DM D := bnd f fun xs s => match m xs s.hp with
  | .ok d hp => .ok d ⟨s.sl, hp⟩
  | .err x hp => .err x ⟨s.sl, hp⟩
  | .stuck => .stuck
section
variable {X : Cx} {C : CT} {W : WX} {k : Nat} {f : Addr} {fd : FuncData} {ps : List Str} {m : DF}
/-- the state at a call: what the callee wants, what comes back -/
theorem run_fnG {pins : List (Addr × Obj)} {σ : L2.St} {H : Hp} {s : Shared} {Q : VK} {args : Args} {us : List Value} {vs : List V} {p : Pt} {Z : Addr → Prop} {ds : List D} (F : FnG X.prog X.w X.K X.mg X.base C k f fd ps m) (hr : Room k X.A) (hg : X.A.guards = some []) (tk : Takes X W)
    (hb : BindsTo s fd args (ps.zip us)) (hl : vs.length = ps.length) (I : Inv X pins σ H s) (r : Vals vs us) (e1 : p.sg = σ) (e2 : p.H = H) (S : SR (wd X.K C) Z p) (rd : RepLP (wd X.K C) Z p ds vs)
    (h : Fin (wd X.K C) Z W (relD (wd X.K C) Z) p (match m ds p.st.hp with
      | .ok d hp => R.ok d ⟨p.st.sl, hp⟩
      | .err x hp => .err x ⟨p.st.sl, hp⟩
      | .stuck => .stuck) Q) :
    codeAny (model X.prog X.w) X.A (.call (.ref f) args) (fun r s' => match r with
      | .ok (.ret u) => EP X pins σ Q u s'
      | .ok _ => False
      | .error e => X.xe e s') s := by
  subst e1 e2
  refine codeAny_mono (F.run X.A X.stack s p.H args us vs Q (fun cls d H' => W cls d p.sg H') hr hg I.env0 hb r hl ⟨Zin Z p, p.rho, p.st.hp, ds, S.in, RepLP.in rd, ?_⟩) fun r s' hq => ?_
  · cases e : m ds p.st.hp with
    | ok d hp =>
      rw [e] at h
      intro rho H v S' l rv
      obtain ⟨S2, l2, r2⟩ := S.out S' l
      exact h rho H v S2 l2 (r2 d v rv)
    | err x hp =>
      rw [e] at h
      intro rho H cls d S' l xr
      obtain ⟨S2, l2, r2⟩ := S.out S' l
      refine h rho H cls d S2 l2 ⟨xr.1, ?_⟩
      have x2 := xr.2
      cases q : x.arg with
      | none => rw [q] at x2; exact x2
      | some g =>
        rw [q] at x2
        obtain ⟨dd, v, y1, y2, y3, y4⟩ := x2
        refine ⟨dd, v, y1, y2, fun z => y3 ?_, r2 g v y4⟩
        rcases z with (z | z) | z
        · exact .inl (.inl z)
        · exact .inr (.inr z)
        · exact .inr (.inl z)
    | stuck => rw [e] at h; exact h
  · cases r with
    | error e => exact tk e s' (XE.of_call I (fun _ _ _ h => h) hq)
    | ok fl =>
      cases fl with
      | ret u => exact I.after hq
      | next => exact hq
      | brk => exact hq
      | cont => exact hq
theorem run_fnC {pins : List (Addr × Obj)} {σ : L2.St} {H : Hp} {s : Shared} {Q : VK} {us : List Value} {kw : List (Str × Value)} {us' : List Value} {vs : List V} {p : Pt} {Z : Addr → Prop} {ds : List D} (F : FnG X.prog X.w X.K X.mg X.base C k f fd ps m) (hr : Room k X.A) (hg : X.A.guards = some []) (tk : Takes X W)
    (hb : BindsTo s fd ⟨us, kw⟩ (ps.zip us')) (hl : vs.length = ps.length) (I : Inv X pins σ H s) (r : Vals vs us') (e1 : p.sg = σ) (e2 : p.H = H) (S : SR (wd X.K C) Z p) (rd : RepLP (wd X.K C) Z p ds vs)
    (h : Fin (wd X.K C) Z W (relD (wd X.K C) Z) p (match m ds p.st.hp with
      | .ok d hp => R.ok d ⟨p.st.sl, hp⟩
      | .err x hp => .err x ⟨p.st.sl, hp⟩
      | .stuck => .stuck) Q) : wpAny (model X.prog X.w) X.A (call (.ref f) us kw) (EP X pins σ Q) X.xe s := by
  refine wpAny_call (codeAny_mono (run_fnG F hr hg tk hb hl I r e1 e2 S rd h) fun r s' hq => ?_)
  cases r with
  | error e => exact hq
  | ok fl =>
    cases fl with
    | ret u => exact hq
    | next => exact hq.elim
    | brk => exact hq.elim
    | cont => exact hq.elim

/-- a def of the module, as a callee: its place, its promise, how positional arguments bind -/
structure Fnx (X : Cx) (C : CT) (x : Str) (n : Nat) (m : DF) : Prop where
  ex : ∃ (k : Nat) (f : Addr) (fd : FuncData) (ps : List Str), FnG X.prog X.w X.K X.mg X.base C k f fd ps m ∧ Room k X.A ∧ X.mg x = some (.ref f) ∧ PySem.W.keepIn X.K (.ref f) = true ∧ Binds X.K fd ps [] ∧ ps.length = n
theorem de_call {x : Str} {n : Nat} {p pos : Pos} {e : Expr} {es : List Expr} {f : DM (List D)} (F : Fnx X C x n m) (tk : Takes X W) (hgd : X.A.guards = some []) (hg : Gl X x) (ha : DA X C W (e :: es) f) (hn : (e :: es).length = n)
    (hdb : (x == ("__debug__" : Str)) = false := by decide) (he : starEach (e :: es) X.env = (false, eval e X.env) :: starEach es X.env := by rfl) (hpl : (backTo pos (starEach es X.env)).any (·.1) = false := by rfl)
    (hlen : ∀ s ds s', f s = .ok ds s' → ds.length = (e :: es).length) : DE X C W (.Call (.Name x p) (e :: es) [] pos) (callM m f) := by
  obtain ⟨k, a, fd, ps, F, hr, hm, hk, hb, hps⟩ := F.ex
  refine ⟨⟨fun pins s σ H Q I h => ?_⟩⟩
  obtain ⟨Z, q, rfl, rfl, S, h⟩ := h
  refine wpAny_Call_Name_kw (ld_glob I hg hm ?_ hdb)
  refine PySem.W.callWith_K (h₀ := X.base) I.ok.mod.kin hk (thn (ha.pa.run pos pins s _ _ (fun vs H1 => vs.length = ps.length ∧ ∃ q1 ds, q1.sg = q.sg ∧ q1.H = H1 ∧ SR (wd X.K C) Z q1 ∧ RepLP (wd X.K C) Z q1 ds vs ∧ Fin (wd X.K C) Z W (relD (wd X.K C) Z) q1 (match m ds q1.st.hp with
      | .ok d hp => R.ok d ⟨q1.st.sl, hp⟩
      | .err x hp => .err x ⟨q1.st.sl, hp⟩
      | .stuck => .stuck) Q) I ⟨Z, q, rfl, rfl, S, ?_⟩) fun us s1 ⟨vs, H1, I1, r, hl, q1, ds, e1, e2, S1, rd, h1⟩ => ⟨I1.kIn, ?_⟩) he hpl
  · unfold callM bnd at h
    cases ef : f q.st with
    | ok ds st =>
      rw [ef] at h
      intro rho H1 vs S1 l1 r1
      refine ⟨?_, ⟨rho, st, q.sg, H1⟩, ds, rfl, rfl, S1, r1, Fin.later h l1 rfl⟩
      rw [← RepL.length r1, hlen _ _ _ ef, hn, hps]
    | err x st => rw [ef] at h; exact h
    | stuck => rw [ef] at h; exact h
  · have hus : (us ++ ([] : List Value)).length = ps.length := by rw [List.append_nil, ← r.length]; exact hl
    have hb1 := hb s1 us I1.kIn hus
    rw [List.append_nil] at hb1
    exact run_fnC F hr hgd tk hb1 hl I1 r e1 e2 S1 rd h1
end
end DP
set_option Elab.async false
set_option linter.all false
set_option maxRecDepth 100000
set_option maxHeartbeats 4000000
/-! DP6: statements, loops, defs by their bodies. -/
namespace DP
open PySem PySem.Spec PyProof.Rows L2

def FinS (G : Wd) (Z : Addr → Prop) (W : WX) (p : Pt) (r : RS) (D : Ends) : Prop := match r with
  | .nx st => ∀ (rho : List Addr) (sg : L2.St) (H : Hp), SR G Z ⟨rho, st, sg, H⟩ → Le p ⟨rho, st, sg, H⟩ → D.nx sg H
  | .rt d st => ∀ (rho : List Addr) (sg : L2.St) (H : Hp) (v : V), SR G Z ⟨rho, st, sg, H⟩ → Le p ⟨rho, st, sg, H⟩ → RepP G Z ⟨rho, st, sg, H⟩ d v → D.rt v H
  | .bk st => ∀ (rho : List Addr) (sg : L2.St) (H : Hp), SR G Z ⟨rho, st, sg, H⟩ → Le p ⟨rho, st, sg, H⟩ → D.bk sg H
  | .ct st => ∀ (rho : List Addr) (sg : L2.St) (H : Hp), SR G Z ⟨rho, st, sg, H⟩ → Le p ⟨rho, st, sg, H⟩ → D.ct sg H
  | .err x st => ∀ (rho : List Addr) (sg : L2.St) (H : Hp) (cls : Value) (d : Option Addr), SR G Z ⟨rho, st, sg, H⟩ → Le p ⟨rho, st, sg, H⟩ → XRel G Z ⟨rho, st, sg, H⟩ x cls d → W cls d sg H
  | .stuck => False
def tS (G : Wd) (W : WX) (f : DS) : TS := fun D σ H => ∃ Z p, p.sg = σ ∧ p.H = H ∧ SR G Z p ∧ FinS G Z W p (f p.st) D
structure ST (X : Cx) (C : CT) (W : WX) (st : Stmt) (f : DS) : Prop where
  ps : PS X st (tS (wd X.K C) W f)
structure STs (X : Cx) (C : CT) (W : WX) (st : List Stmt) (f : DS) : Prop where
  pss : PSs X st (tS (wd X.K C) W f)
section
variable {G : Wd} {Z : Addr → Prop} {W : WX} {p q : Pt}
theorem FinS.later {r : RS} {D : Ends} (h : FinS G Z W p r D) (l : Le p q) : FinS G Z W q r D := by
  cases r with
  | nx st => exact fun rho sg H S l' => h rho sg H S (l.trans l')
  | rt d st => exact fun rho sg H v S l' => h rho sg H v S (l.trans l')
  | bk st => exact fun rho sg H S l' => h rho sg H S (l.trans l')
  | ct st => exact fun rho sg H S l' => h rho sg H S (l.trans l')
  | err x st => exact fun rho sg H cls d S l' => h rho sg H cls d S (l.trans l')
  | stuck => exact h
/-- an expression first, then a statement -/
def bndS {α : Type} (f : DM α) (k : α → DS) : DS := fun s => match f s with
  | .ok a s' => k a s'
  | .err x s' => .err x s'
  | .stuck => .stuck
theorem FinS.bnd {α β : Type} {rel : Pt → α → β → Prop} {f : DM α} {k : α → DS} {D : Ends} (h : FinS G Z W p (bndS f k p.st) D) :
    Fin G Z W rel p (f p.st) (fun b H => ∃ q a, q.sg = p.sg ∧ q.H = H ∧ SR G Z q ∧ Le p q ∧ rel q a b ∧ FinS G Z W q (k a q.st) D) := by
  unfold bndS at h
  cases e : f p.st with
  | ok a st =>
    rw [e] at h
    intro rho H b S l r
    exact ⟨⟨rho, st, p.sg, H⟩, a, rfl, rfl, S, l, r, FinS.later h l⟩
  | err x st => rw [e] at h; exact fun rho H cls d S l x => h rho p.sg H cls d S l x
  | stuck => rw [e] at h; exact h
theorem FinS.bndB {f : DM Bool} {k : Bool → DS} {D : Ends} (h : FinS G Z W p (bndS f k p.st) D) :
    Fin G Z W relB p (f p.st) (fun b H => ∃ q, q.sg = p.sg ∧ q.H = H ∧ SR G Z q ∧ Le p q ∧ FinS G Z W q (k b q.st) D) :=
  (FinS.bnd (rel := relB) h).mono fun b H ⟨q, a, e1, e2, S, l, r, h⟩ => ⟨q, e1, e2, S, l, by cases r; exact h⟩
theorem FinS.nxt {D : Ends} (h : FinS G Z W p (.nx p.st) D) (S : SR G Z p) : D.nx p.sg p.H := h p.rho p.sg p.H S (Le.refl p)
end
def seqS (f g : DS) : DS := fun s => match f s with
  | .nx s' => g s'
  | r => r
def nxS : DS := fun s => .nx s
section
variable {X : Cx} {C : CT} {W : WX}
theorem sts_nil : STs X C W [] nxS := ⟨pssImp pss_nil fun D σ H ⟨Z, p, e1, e2, S, h⟩ => by
  subst e1 e2
  exact FinS.nxt h S⟩
theorem tSeq_of {f g : DS} {D : Ends} {σ : L2.St} {H : Hp} (h : tS (wd X.K C) W (seqS f g) D σ H) : tSeq (tS (wd X.K C) W f) (tS (wd X.K C) W g) D σ H := by
  obtain ⟨Z, p, rfl, rfl, S, h⟩ := h
  refine ⟨Z, p, rfl, rfl, S, ?_⟩
  unfold seqS at h
  cases e : f p.st with
  | nx st =>
    rw [e] at h
    exact fun rho sg H S' l => ⟨Z, ⟨rho, st, sg, H⟩, rfl, rfl, S', FinS.later h l⟩
  | rt d st => rw [e] at h; exact h
  | bk st => rw [e] at h; exact h
  | ct st => rw [e] at h; exact h
  | err x st => rw [e] at h; exact h
  | stuck => rw [e] at h; exact h
theorem sts_cons {st : Stmt} {rest : List Stmt} {f g : DS} (h1 : ST X C W st f) (h2 : STs X C W rest g) : STs X C W (st :: rest) (seqS f g) := ⟨pssImp (pss_cons h1.ps h2.pss) fun _ _ _ h => tSeq_of h⟩
theorem sts_one {st : Stmt} {f : DS} (h1 : ST X C W st f) : STs X C W [st] f := ⟨pss_one h1.ps⟩
theorem st_pass {pos : Pos} : ST X C W (.Pass pos) nxS := ⟨psImp ps_pass fun D σ H ⟨Z, p, e1, e2, S, h⟩ => by
  subst e1 e2
  exact FinS.nxt h S⟩
theorem st_break {pos : Pos} : ST X C W (.Break pos) (fun s => .bk s) := ⟨psImp ps_break fun D σ H ⟨Z, p, e1, e2, S, h⟩ => by
  subst e1 e2
  exact h p.rho p.sg p.H S (Le.refl p)⟩
theorem st_continue {pos : Pos} : ST X C W (.Continue pos) (fun s => .ct s) := ⟨psImp ps_continue fun D σ H ⟨Z, p, e1, e2, S, h⟩ => by
  subst e1 e2
  exact h p.rho p.sg p.H S (Le.refl p)⟩
def exprS (f : DM D) : DS := bndS f fun _ s => .nx s
theorem st_expr {e : Expr} {pos : Pos} {f : DM D} (h : DE X C W e f) (hs : swapsWith e none pos.line X.env = pure false := by rfl) : ST X C W (.Expr e pos) (exprS f) := ⟨psImp (ps_expr h.pe hs) fun D σ H ⟨Z, p, e1, e2, S, h⟩ => by
  subst e1 e2
  refine ⟨Z, p, rfl, rfl, S, (FinS.bnd h).mono fun x H1 ⟨q1, d1, e1, e2, S1, l1, r1, h1⟩ => ?_⟩
  exact e1 ▸ e2 ▸ FinS.nxt h1 S1⟩
def retS (f : DM D) : DS := bndS f fun d s => .rt d s
theorem st_ret {e : Expr} {pos : Pos} {f : DM D} (h : DE X C W e f) : ST X C W (.Return (some e) pos) (retS f) := ⟨psImp (ps_ret h.pe) fun D σ H ⟨Z, p, e1, e2, S, h⟩ => by
  subst e1 e2
  refine ⟨Z, p, rfl, rfl, S, (FinS.bnd h).mono fun x H1 ⟨q1, d1, e1, e2, S1, l1, r1, h1⟩ => ?_⟩
  exact e2 ▸ h1 q1.rho q1.sg q1.H x S1 (Le.refl q1) r1⟩
theorem st_retN {pos : Pos} : ST X C W (.Return none pos) (fun s => .rt .non s) := ⟨psImp ps_retN fun D σ H ⟨Z, p, e1, e2, S, h⟩ => by
  subst e1 e2
  exact h p.rho p.sg p.H _ S (Le.refl p) .non⟩
def ifS (c : DM Bool) (f g : DS) : DS := bndS c fun b => if b = true then f else g
theorem st_if {c : Expr} {a b : List Stmt} {pos : Pos} {fc : DM Bool} {fa fb : DS} (hc : DT X C W c fc) (ha : STs X C W a fa) (hb : STs X C W b fb) : ST X C W (.If c a b pos) (ifS fc fa fb) := ⟨psImp (ps_if hc.pt ha.pss hb.pss) fun D σ H ⟨Z, p, e1, e2, S, h⟩ => by
  subst e1 e2
  unfold ifS at h
  refine ⟨Z, p, rfl, rfl, S, (FinS.bndB h).mono fun d1 H1 ⟨q1, e1, e2, S1, l1, h1⟩ => ?_⟩
  cases d1 with
  | true => exact iteT ⟨Z, q1, e1, e2, S1, h1⟩
  | false => exact iteF ⟨Z, q1, e1, e2, S1, h1⟩⟩

/-! ### targets -/
/-- a target: what it makes of a value -/
abbrev DG := D → DSt → Option DSt
structure TGd (X : Cx) (C : CT) (tg : Expr) (t : TG) (g : DG) (ws : List Nat) : Prop where
  pg : PG X tg t
  k : ∀ (Z : Addr → Prop) (p : Pt) (d : D) (v : V) (st : DSt) (Q : L2.St → Hp → Prop), SR (wd X.K C) Z p → RepP (wd X.K C) Z p d v → g d p.st = some st →
    (∀ rho sg H, SR (wd X.K C) Z ⟨rho, st, sg, H⟩ → Le p ⟨rho, st, sg, H⟩ → sg.length = p.sg.length → (∀ i, i ∉ ws → sg[i]? = p.sg[i]?) → Q sg H) → t v p.sg p.H Q
def nameG (i : Nat) : DG := fun d s => some ⟨s.sl.set i (.val d), s.hp⟩
theorem tg_name {i : Nat} {x : Str} {pos : Pos} (hN : X.N.Nodup) (hi : X.N[i]? = some x) (hx : Loc X.env.scope x) (hf : X.fn x = true ∨ X.env.scope.names.lookup x = some .local := by first | exact .inl rfl | exact .inr rfl | assumption) : TGd X C (.Name x pos) (gName i) (nameG i) [i] :=
  ⟨pg_name hN hi hx hf, fun Z p d v st Q S r e k => by
    cases e
    obtain ⟨S', l⟩ := S.setVal (i := i) r
    exact k _ _ _ S' l (by simp) fun j hj => List.getElem?_set_ne fun e => hj (by simp [e])⟩
/-- targets in a row -/
def tupG : List DG → List D → DSt → Option DSt
  | [], [], s => some s
  | g :: gs, d :: ds, s => (g d s).bind (tupG gs ds)
  | _, _, _ => none
structure TGs (X : Cx) (C : CT) (tgs : List Expr) (t : L2.TGs) (gs : List DG) (ws : List Nat) : Prop where
  pg : PGs X tgs t
  k : ∀ (Z : Addr → Prop) (p : Pt) (ds : List D) (vs : List V) (st : DSt) (Q : L2.St → Hp → Prop), SR (wd X.K C) Z p → RepLP (wd X.K C) Z p ds vs → tupG gs ds p.st = some st →
    (∀ rho sg H, SR (wd X.K C) Z ⟨rho, st, sg, H⟩ → Le p ⟨rho, st, sg, H⟩ → sg.length = p.sg.length → (∀ i, i ∉ ws → sg[i]? = p.sg[i]?) → Q sg H) → t vs p.sg p.H Q
theorem tgs_nil : TGs X C [] gNil [] [] := ⟨pgs_nil, fun Z p ds vs st Q S r e k => by
  cases ds with
  | nil => cases r; cases e; exact ⟨rfl, k _ _ _ S (Le.refl p) rfl fun _ _ => rfl⟩
  | cons d ds => cases e⟩
theorem tgs_cons {e : Expr} {es : List Expr} {t : TG} {u : L2.TGs} {g : DG} {gs : List DG} {ws vs : List Nat} (h1 : TGd X C e t g ws) (h2 : TGs X C es u gs vs) (hs : (assignEach (e :: es) X.env).map (·.2) = assign e X.env :: (assignEach es X.env).map (·.2) := by rfl) : TGs X C (e :: es) (gCons t u) (g :: gs) (ws ++ vs) := by
  refine ⟨pgs_cons h1.pg h2.pg hs, fun Z p ds vs st Q S r e k => ?_⟩
  cases ds with
  | nil => cases e
  | cons d ds =>
    cases r with
    | cons r1 r2 =>
      unfold tupG at e
      cases q : g d p.st with
      | none => rw [q] at e; cases e
      | some st1 =>
        rw [q] at e
        refine ⟨_, _, rfl, h1.k Z p d _ st1 _ S r1 q fun rho sg H S1 l1 hl1 hw1 => ?_⟩
        exact h2.k Z ⟨rho, st1, sg, H⟩ ds _ st Q S1 (l1.repL r2) e fun rho2 sg2 H2 S2 l2 hl2 hw2 => k rho2 sg2 H2 S2 (l1.trans l2) (hl2.trans hl1) fun i hi => by
          rw [List.mem_append, not_or] at hi
          exact (hw2 i hi.2).trans (hw1 i hi.1)
def tupleG (gs : List DG) : DG := fun d s => match d with
  | .tup ds => if ds.length = gs.length then tupG gs ds s else none
  | _ => none
theorem tg_tup (K : PySem.W.Frag) {es : List Expr} {k : Nat} {t : L2.TGs} {gs : List DG} {ws : List Nat} {pos : Pos} (hc : X.calm = true) (h : TGs X C es t gs ws) (hl : es.length = gs.length := by rfl)
    (hn : (assignEach es X.env).length = gs.length := by rfl) (hst : (assignEach es X.env).findIdx? (·.1) = none := by rfl) (hK : X.K = K := by rfl) : TGd X C (.Tuple es k pos) (gTup K gs.length t) (tupleG gs) ws := by
  subst hK
  refine ⟨pg_tup hc h.pg hn hst, fun Z p d v st Q S r e k => ?_⟩
  unfold tupleG at e
  cases d with
  | tup ds =>
    dsimp only at e
    split at e
    · rename_i hl2
      cases r with
      | tup h1 h2 => exact ⟨_, _, rfl, h1.sq, (RepL.length h2).symm.trans hl2, h.k Z p ds _ st Q S h2 e k⟩
    · cases e
  | _ => cases e

/-! ### assignments -/
def asgS (g : DG) (f : DM D) : DS := bndS f fun d s => match g d s with
  | some s' => .nx s'
  | none => .stuck
theorem st_asg {tg e : Expr} {pos : Pos} {f : DM D} {t : TG} {g : DG} {ws : List Nat} (he : DE X C W e f) (hg : TGd X C tg t g ws) (hs : swapsWithSole [tg] e pos.line X.env = pure false := by rfl) (hw : swappedStores [tg] e X.env = pure none := by rfl)
    (h1 : (assignEach [tg] X.env).map (·.2) = [assign tg X.env] := by rfl) : ST X C W (.Assign [tg] e pos) (asgS g f) := by
  refine ⟨psImp (ps_asg he.pe hg.pg hs hw h1) fun D σ H ⟨Z, p, e1, e2, S, h⟩ => ?_⟩
  subst e1 e2
  refine ⟨Z, p, rfl, rfl, S, (FinS.bnd h).mono fun x H1 ⟨q1, d1, e1, e2, S1, l1, r1, h1⟩ => ?_⟩
  cases q : g d1 q1.st with
  | none => simp only [q] at h1; exact h1.elim
  | some st =>
    simp only [q] at h1
    rw [← e1, ← e2]
    exact hg.k Z q1 d1 x st D.nx S1 r1 q fun rho sg H S2 l2 _ _ => h1 rho sg H S2 l2
/-- x = e -/
def setS (i : Nat) (f : DM D) : DS := asgS (nameG i) f
theorem st_set {i : Nat} {x : Str} {e : Expr} {pos pos' : Pos} {f : DM D} (hN : X.N.Nodup) (hi : X.N[i]? = some x) (hx : Loc X.env.scope x) (he : DE X C W e f) (hs : swapsWith e (some (.Name x pos')) pos.line X.env = pure false := by rfl)
    (hf : X.fn x = true ∨ X.env.scope.names.lookup x = some .local := by first | exact .inl rfl | exact .inr rfl | assumption) : ST X C W (.Assign [.Name x pos'] e pos) (setS i f) := by
  refine ⟨psImp (ps_set hN hi hx he.pe hs hf) fun D σ H ⟨Z, p, e1, e2, S, h⟩ => ?_⟩
  subst e1 e2
  refine ⟨Z, p, rfl, rfl, S, (FinS.bnd h).mono fun x H1 ⟨q1, d1, e1, e2, S1, l1, r1, h1⟩ => ?_⟩
  rw [← e1, ← e2]
  obtain ⟨S', l⟩ := S1.setVal (i := i) r1
  exact h1 _ _ _ S' l
/-- a, b = e1, e2 (both sides written, two local names) -/
def parS (i j : Nat) (f : DM (List D)) : DS := bndS f fun ds s => match ds with
  | [d, e] => .nx ⟨(s.sl.set i (.val d)).set j (.val e), s.hp⟩
  | _ => .stuck
theorem repL_two {G : Wd} {rho : List Addr} {L : Addr → Prop} {H : Hp} {d e : D} {vs : List V} (h : RepL G rho L H [d, e] vs) : ∃ v w, vs = [v, w] ∧ Rep G rho L H d v ∧ Rep G rho L H e w := by
  cases h with
  | cons h1 h2 => cases h2 with
    | cons h3 h4 => cases h4; exact ⟨_, _, rfl, h1, h3⟩
theorem st_par {i j : Nat} {st : Stmt} {f : DM (List D)} {ta : TA} (h : PS X st (tPar i j (tL (wd X.K C) W f))) : ST X C W st (parS i j f) := by
  refine ⟨psImp h fun D σ H ⟨Z, p, e1, e2, S, h⟩ => ?_⟩
  subst e1 e2
  refine ⟨Z, p, rfl, rfl, S, (FinS.bnd h).mono fun x H1 ⟨q1, d1, e1, e2, S1, l1, r1, h1⟩ => ?_⟩
  match d1, r1, h1 with
  | [d, e], r1, h1 =>
    obtain ⟨v, w, rfl, rd, re⟩ := repL_two r1
    refine ⟨v, w, rfl, ?_⟩
    rw [← e1, ← e2]
    obtain ⟨S2, l2⟩ := S1.setVal (i := i) rd
    obtain ⟨S3, l3⟩ := S2.setVal (i := j) (l2.rep re)
    exact h1 _ _ _ S3 (l2.trans l3)

/-! ### loops -/
/-- what is walked: the items as data -/
def Iters (G : Wd) (Z : Addr → Prop) (J : It) (ds : List D) (p : Pt) : Prop := ∃ (Gd : Hp → Prop) (Y : Nat → Hp → V → Hp → Prop), Walk J ds.length Gd Y ∧ (∀ q, Le p q → Gd q.H) ∧
  ∀ (Z' : Addr → Prop) q i x H', (∀ a, Z' a → Z a ∨ p.H a = none) → SR G Z' q → Le p q → i < ds.length → Y i q.H x H' → ∃ d, ds[i]? = some d ∧ Same q.H H' ∧ RepP G Z' { q with H := H' } d x
theorem Le.carZ {p q : Pt} {Z Z' : Addr → Prop} (a : Le p q) (hz : ∀ a, Z' a → Z a ∨ p.H a = none) : Car p.rho (p.L Z) p.H q.rho (q.L Z') q.H :=
  let c := a.car Z
  ⟨c.rho, c.rd, c.ins, fun x n h z => by
    rcases z with z | z
    · exact c.dead x n h (.inl z)
    · rcases hz x z with w | w
      · exact n (.inr w)
      · exact h w, c.tup⟩
def tI (G : Wd) (W : WX) (f : DM (List D)) : TI := fun σ H R => ∃ Z p, p.sg = σ ∧ p.H = H ∧ SR G Z p ∧ Fin G Z W (fun q ds J => Iters G Z J ds q) p (f p.st) R
structure DI (X : Cx) (C : CT) (W : WX) (tg it : Expr) (f : DM (List D)) : Prop where
  pi : PI X tg it (tI (wd X.K C) W f)
theorem piImp {tg l : Expr} {t t' : TI} (h : PI X tg l t) (k : ∀ σ H R, t' σ H R → t σ H R) : PI X tg l t' := ⟨fun pins s σ H R I q => h.run pins s σ H R I (k σ H R q)⟩
theorem piOr {tg l : Expr} {t t' : TI} (h : PI X tg l t) (h' : PI X tg l t') : PI X tg l (fun σ H R => t σ H R ∨ t' σ H R) := ⟨fun pins s σ H R I q => by
  rcases q with q | q
  · exact h.run pins s σ H R I q
  · exact h'.run pins s σ H R I q⟩
def forL (g : DG) (b : DS) : List D → DS
  | [], s => .nx s
  | d :: ds, s => match g d s with
    | none => .stuck
    | some s1 => match b s1 with
      | .nx s2 => forL g b ds s2
      | .ct s2 => forL g b ds s2
      | .bk s2 => .nx s2
      | r => r
def forS (g : DG) (f : DM (List D)) (b : DS) : DS := bndS f fun ds => forL g b ds
theorem st_for {tg iter : Expr} {body : List Stmt} {pos : Pos} {t : TG} {g : DG} {ws : List Nat} {f : DM (List D)} {b : DS} (hp : PassesOwn (model X.prog X.w) X.A X.env X.xe) (hc : X.calm = true) (hi : DI X C W tg iter f) (hg : TGd X C tg t g ws) (hb : STs X C W body b)
    (hs : ∀ x, foldedSetIterable iter X.env x = pure x := by intro _; rfl) : ST X C W (.For tg iter body [] pos) (forS g f b) := by
  refine ⟨psImp (ps_for hp hc hi.pi hg.pg hb.pss hs) fun D σ H ⟨Z, p, e1, e2, S, h⟩ => ?_⟩
  subst e1 e2
  refine ⟨Z, p, rfl, rfl, S, (FinS.bnd h).mono fun J H1 ⟨q1, ds, e1, e2, S1, l1, ⟨Gd, Y, wk, hG, hY⟩, h1⟩ => ?_⟩
  refine for_it wk (fun i σ H => ∃ q, q.sg = σ ∧ q.H = H ∧ SR (wd X.K C) Z q ∧ Le q1 q ∧ FinS (wd X.K C) Z W q (forL g b (ds.drop i) q.st) D) ⟨q1, e1, e2, S1, Le.refl _, by simpa using h1⟩ (fun i σ H _ ⟨q, a1, a2, a3, a4, _⟩ => a2 ▸ hG q a4) ?_ ?_
  · rintro i x σ H H' hi ⟨q, rfl, rfl, Sq, lq, hq⟩ y
    obtain ⟨d, hd, sm, rd⟩ := hY Z q i x H' (fun _ z => .inl z) Sq lq hi y
    obtain ⟨S2, l2⟩ := Sq.ext sm
    have hdr : ds.drop i = d :: ds.drop (i + 1) := by
      have hi' := (List.getElem?_eq_some_iff.mp hd)
      obtain ⟨hlt, e⟩ := hi'
      rw [← e]
      exact List.drop_eq_getElem_cons hlt
    rw [hdr] at hq
    unfold forL at hq
    cases qg : g d q.st with
    | none => rw [qg] at hq; exact hq.elim
    | some st1 =>
      rw [qg] at hq
      refine hg.k Z { q with H := H' } d x st1 _ S2 rd qg fun rho sg H2 S3 l3 _ _ => ?_
      refine ⟨Z, ⟨rho, st1, sg, H2⟩, rfl, rfl, S3, ?_⟩
      have lq3 : Le q ⟨rho, st1, sg, H2⟩ := l2.trans l3
      dsimp only at hq ⊢
      cases eb : b st1 with
      | nx st2 => rw [eb] at hq; exact fun rho sg H S4 l4 => ⟨⟨rho, st2, sg, H⟩, rfl, rfl, S4, lq.trans (lq3.trans l4), FinS.later hq (lq3.trans l4)⟩
      | ct st2 => rw [eb] at hq; exact fun rho sg H S4 l4 => ⟨⟨rho, st2, sg, H⟩, rfl, rfl, S4, lq.trans (lq3.trans l4), FinS.later hq (lq3.trans l4)⟩
      | bk st2 => rw [eb] at hq; exact fun rho sg H S4 l4 => hq rho sg H S4 (lq3.trans l4)
      | rt d st2 => rw [eb] at hq; exact fun rho sg H v S4 l4 r4 => hq rho sg H v S4 (lq3.trans l4) r4
      | err x st2 => rw [eb] at hq; exact fun rho sg H cls d S4 l4 x4 => hq rho sg H cls d S4 (lq3.trans l4) x4
      | stuck => rw [eb] at hq; exact hq.elim
  · rintro σ H ⟨q, rfl, rfl, Sq, lq, hq⟩
    rw [List.drop_length] at hq
    exact FinS.nxt hq Sq
def whileL (c : DM Bool) (b : DS) : Nat → DS
  | 0, _ => .stuck
  | n + 1, s => bndS c (fun k s1 => if k = true then (match b s1 with
      | .nx s2 => whileL c b n s2
      | .ct s2 => whileL c b n s2
      | .bk s2 => .nx s2
      | r => r) else .nx s1) s
theorem st_while {c : Expr} {body : List Stmt} {pos : Pos} {fc : DM Bool} {b : DS} (n : Nat) (hp : PassesOwn (model X.prog X.w) X.A X.env X.xe) (hc : DT X C W c fc) (hb : STs X C W body b) : ST X C W (.While c body [] pos) (whileL fc b n) := by
  refine ⟨psImp (ps_while hp hc.pt hb.pss) fun D σ H ⟨Z, p, e1, e2, S, h⟩ => ?_⟩
  refine ⟨fun m σ H => ∃ q, q.sg = σ ∧ q.H = H ∧ SR (wd X.K C) Z q ∧ FinS (wd X.K C) Z W q (whileL fc b m q.st) D, ⟨n, p, e1, e2, S, h⟩, ?_⟩
  rintro m σ H ⟨q, rfl, rfl, Sq, hq⟩
  cases m with
  | zero => exact hq.elim
  | succ m =>
    unfold whileL at hq
    refine ⟨Z, q, rfl, rfl, Sq, (FinS.bndB hq).mono fun k H1 ⟨q1, e1, e2, S1, l1, h1⟩ => ?_⟩
    cases k with
    | false => exact iteF (e1 ▸ e2 ▸ FinS.nxt h1 S1)
    | true =>
      refine iteT ⟨fun σ' H' => ∃ q, q.sg = σ' ∧ q.H = H' ∧ SR (wd X.K C) Z q ∧ FinS (wd X.K C) Z W q (whileL fc b m q.st) D, fun σ' H' h' => ⟨m, Nat.lt_succ_self m, h'⟩, Z, q1, e1, e2, S1, ?_⟩
      have h2 : FinS (wd X.K C) Z W q1 (match b q1.st with
        | .nx s2 => whileL fc b m s2
        | .ct s2 => whileL fc b m s2
        | .bk s2 => .nx s2
        | r => r) D := h1
      cases eb : b q1.st with
      | nx st2 => rw [eb] at h2; exact fun rho sg H S4 l4 => ⟨⟨rho, st2, sg, H⟩, rfl, rfl, S4, FinS.later h2 l4⟩
      | ct st2 => rw [eb] at h2; exact fun rho sg H S4 l4 => ⟨⟨rho, st2, sg, H⟩, rfl, rfl, S4, FinS.later h2 l4⟩
      | bk st2 => rw [eb] at h2; exact fun rho sg H S4 l4 => h2 rho sg H S4 l4
      | rt d st2 => rw [eb] at h2; exact fun rho sg H v S4 l4 r4 => h2 rho sg H v S4 l4 r4
      | err x st2 => rw [eb] at h2; exact fun rho sg H cls d S4 l4 x4 => h2 rho sg H cls d S4 l4 x4
      | stuck => rw [eb] at h2; exact h2.elim
end

/-! ### a def by its body -/
/-- the data's function of a body: N names in all -/
def defF (n : Nat) (b : DS) : DF := fun ds hp => match b ⟨ds.map .val ++ List.replicate (n - ds.length) .un, hp⟩ with
  | .nx s => .ok .non s.hp
  | .rt d s => .ok d s.hp
  | .err x s => .err x s.hp
  | _ => .stuck
theorem start_SR {G : Wd} {Z : Addr → Prop} {rho : List Addr} {hp : List Cell} {H : Hp} {ds : List D} {vs : List V} {N : List Str} (S : SR G Z ⟨rho, ⟨[], hp⟩, [], H⟩) (r : RepLP G Z ⟨rho, ⟨[], hp⟩, [], H⟩ ds vs) :
    SR G Z ⟨rho, ⟨ds.map .val ++ List.replicate (N.length - ds.length) .un, hp⟩, L2.start N vs, H⟩ ∧ Le ⟨rho, ⟨[], hp⟩, [], H⟩ ⟨rho, ⟨ds.map .val ++ List.replicate (N.length - ds.length) .un, hp⟩, L2.start N vs, H⟩ := by
  have hz := RepL.length r
  have noown : ∀ (i : Nat) (c : Cell), (ds.map SV.val ++ List.replicate (N.length - ds.length) .un)[i]? ≠ some (SV.own c) := fun i c h => by
    by_cases hi : i < ds.length
    · rw [List.getElem?_append_left (by simpa using hi), List.getElem?_map] at h
      cases q : ds[i]? with
      | none => rw [q] at h; cases h
      | some d => rw [q] at h; cases h
    · rw [List.getElem?_append_right (by simpa using hi), List.getElem?_replicate] at h
      split at h <;> cases h
  have hm : ∀ a, Pt.M ⟨rho, ⟨ds.map .val ++ List.replicate (N.length - ds.length) .un, hp⟩, L2.start N vs, H⟩ a → Pt.M ⟨rho, ⟨[], hp⟩, [], H⟩ a := fun a h => by
    rcases h with h | ⟨i, c, h, _⟩
    · exact .inl h
    · exact (noown i c h).elim
  have l : Le ⟨rho, ⟨[], hp⟩, [], H⟩ ⟨rho, ⟨ds.map .val ++ List.replicate (N.length - ds.length) .un, hp⟩, L2.start N vs, H⟩ := ⟨fun _ _ h => h, fun a o h k => ⟨h, fun z => k (hm a z)⟩, fun _ _ h => h, fun _ h => h⟩
  refine ⟨⟨?_, S.hlen, fun i d h => ?_, fun i c h => (noown i c h).elim, fun n c h => ?_, S.nod, fun i j c c' a h => (noown i c h).elim, S.zin⟩, l⟩
  · unfold L2.start
    simp only [List.length_append, List.length_map, List.length_replicate]
    omega
  · have h' : (ds.map SV.val ++ List.replicate (N.length - ds.length) .un)[i]? = some (.val d) := h
    by_cases hi : i < ds.length
    · rw [List.getElem?_append_left (by simpa using hi), List.getElem?_map] at h'
      cases q : ds[i]? with
      | none => rw [q] at h'; cases h'
      | some d' =>
        rw [q] at h'
        cases h'
        obtain ⟨v, hv, rv⟩ := RepL.get' r q
        refine ⟨v, ?_, l.rep rv⟩
        show (L2.start N vs)[i]? = _
        unfold L2.start
        rw [List.getElem?_append_left (by simp; omega), List.getElem?_map, hv]
        rfl
    · rw [List.getElem?_append_right (by simpa using hi), List.getElem?_replicate] at h'
      split at h' <;> cases h'
  · obtain ⟨a, h1, h2, h3⟩ := S.cell n c h
    exact ⟨a, h1, CellAt.keep l h2 rfl, h3⟩
/-- back at the end of a body: the slots are left -/
theorem SR.leave {G : Wd} {Z : Addr → Prop} {rho : List Addr} {st : DSt} {sg : L2.St} {H : Hp} {p : Pt} (S : SR G Z ⟨rho, st, sg, H⟩) (l : Le p ⟨rho, st, sg, H⟩) :
    SR G Z ⟨rho, ⟨[], st.hp⟩, [], H⟩ ∧ Le p ⟨rho, ⟨[], st.hp⟩, [], H⟩ ∧ ∀ d v, RepP G Z ⟨rho, st, sg, H⟩ d v → RepP G Z ⟨rho, ⟨[], st.hp⟩, [], H⟩ d v := by
  have hm : ∀ a, Pt.M ⟨rho, ⟨[], st.hp⟩, [], H⟩ a → Pt.M ⟨rho, st, sg, H⟩ a := fun a h => by
    rcases h with h | ⟨i, c, h, _⟩
    · exact .inl h
    · simp at h
  have l1 : Le ⟨rho, st, sg, H⟩ ⟨rho, ⟨[], st.hp⟩, [], H⟩ := ⟨fun _ _ h => h, fun a o h k => ⟨h, fun z => k (hm a z)⟩, fun _ _ h => h, fun _ h => h⟩
  refine ⟨⟨rfl, S.hlen, fun i d h => by simp at h, fun i c h => by simp at h, fun n c h => ?_, S.nod, fun i j c c' a h => by simp at h, S.zin⟩, l.trans l1, fun d v r => l1.rep r⟩
  obtain ⟨a, h1, h2, h3⟩ := S.cell n c h
  exact ⟨a, h1, CellAt.keep l1 h2 rfl, h3⟩
abbrev cxD (P : Program) (w : World) (K : PySem.W.Frag) (mg : Str → Option Value) (base : Heap) (N : List Str) (qual : Str) (scope : Scope) (f : Addr) (cd : Value) (A : Around) (outer : List Env) (s : Shared) (H : Hp) (E : XK) : Cx := cxOf (L2.CX P w) P w K mg base N qual scope f cd A outer s H E
abbrev wE (E : XK) : WX := fun cls d _ H => E cls d H
/-- THE RULE for a def -/
theorem fn_ofD {P : Program} {w : World} {K : PySem.W.Frag} {mg : Str → Option Value} {base : Heap} {C : CT} {k : Nat} {x qual : Str} {st : Stmt} {f : Addr} {fd : FuncData} {N ps : List Str} {b : DS} (F : Fun K x qual st f fd) (S : FnScope N ps (defScope st)) 
    (hbody : ∀ (cdv : Value) (A : Around) (outer : List Env) (s : Shared) (H : Hp) (E : XK), Room k (A.deeper (envOfC qual (defScope st) s.heap.objs.size f cdv)) → A.guards = some [] →
      STs (cxD P w K mg base N qual (defScope st) f cdv A outer s H E) C (wE E) (defBody st) b) : FnG P w K mg base C (k + 1) f fd ps (defF N.length b) := by
  obtain ⟨oc, od, kV, doc, pm, an, cdv, ct, osl, rfl, lk, hcd⟩ := F.ex
  refine ⟨fun A outer s H args us vs Q E hr hgd e0 hb r hl hsp => ?_⟩
  have KX : K.In s.heap := e0.mod.kin.keeps fun b o e => (e0.bs b o e).1
  have lim : s.heap.NoLimit := e0.mod.nolimit.keeps fun b o e => (e0.bs b o e).1
  have hkind : ∀ y ∈ ps.zip us, (defScope st).names.lookup y.1 = some .local ∨ ((defScope st).names.lookup y.1 = some .cell ∧ ((cellsFrom (s.heap.objs.size + 1) (defScope st).names []).lookup y.1).isSome = true) := fun ⟨n, v⟩ hy => by
    rcases S.par n (List.of_mem_zip hy).1 with q | q
    · exact .inl q
    · exact .inr ⟨q, PySem.W.cellsFrom_some _ _ _ (.inl q)⟩
  refine codeAny_call_function hr.depth (KX _ _ lk) rfl S.co S.gen rfl (PySem.W.codeRec_of KX hcd) (hb _ _ _ _ ?_)
  refine wpAny_newFunctionEnv_cells S.kind hkind fun env he s1 x => ?_
  subst he
  refine ⟨lim.keeps x.toInCall.keep, codeAny_func ?_⟩
  have hB := hbody cdv A outer s H E (hr.deeper _) hgd
  have I : L2.Inv (cxD P w K mg base N qual (defScope st) f cdv A outer s H E) [] (L2.start N vs) H s1 := inv_start S hr.hd e0 hl r x
  obtain ⟨Z, rho, hp, ds, S0, rd, hq⟩ := hsp
  obtain ⟨S1, l1⟩ := start_SR (N := N) S0 rd
  have hres : FinS (wd K C) Z (wE E) ⟨rho, ⟨ds.map .val ++ List.replicate (N.length - ds.length) .un, hp⟩, L2.start N vs, H⟩ (b ⟨ds.map .val ++ List.replicate (N.length - ds.length) .un, hp⟩) { nx := fun _ H' => Q .non H', rt := Q } := by
    unfold defF at hq
    cases e : b ⟨ds.map .val ++ List.replicate (N.length - ds.length) .un, hp⟩ with
    | nx s2 =>
      rw [e] at hq
      intro rho2 sg2 H2 S2 l2
      obtain ⟨S3, l3, _⟩ := S2.leave (l1.trans l2)
      exact hq rho2 H2 .non S3 l3 .non
    | rt d s2 =>
      rw [e] at hq
      intro rho2 sg2 H2 v S2 l2 rv
      obtain ⟨S3, l3, k3⟩ := S2.leave (l1.trans l2)
      exact hq rho2 H2 v S3 l3 (k3 d v rv)
    | err x s2 =>
      rw [e] at hq
      intro rho2 sg2 H2 cls d S2 l2 xr
      obtain ⟨S3, l3, k3⟩ := S2.leave (l1.trans l2)
      refine hq rho2 H2 cls d S3 l3 ⟨xr.1, ?_⟩
      have x2 := xr.2
      cases q : x.arg with
      | none => rw [q] at x2; exact x2
      | some g =>
        rw [q] at x2
        obtain ⟨dd, v, y1, y2, y3, y4⟩ := x2
        refine ⟨dd, v, y1, y2, fun z => y3 ?_, k3 g v y4⟩
        rcases z with (z | ⟨i, c, z, _⟩) | z
        · exact .inl (.inl z)
        · simp at z
        · exact .inr z
    | bk s2 => rw [e] at hq; exact hq.elim
    | ct s2 => rw [e] at hq; exact hq.elim
    | stuck => rw [e] at hq; exact hq.elim
  refine wpAny_mono (hB.pss.run [] s1 (L2.start N vs) H _ I ⟨Z, _, rfl, rfl, S1, hres⟩) (fun fl s' hs => ?_) fun e s' hs => hs
  have fin : ∀ {σ' : L2.St} {H' : Hp} {v : V} {u : Value}, L2.Inv (cxD P w K mg base N qual (defScope st) f cdv A outer s H E) [] σ' H' s' → RelV v u → Q v H' → CE outer P w H s Q u s' :=
    fun {σ' H' v u} J rv q => ⟨v, H', J.os, J.bare, J.base, J.hok, rv, q⟩
  cases fl with
  | ret u =>
    obtain ⟨v, σ', H', J, rv, q⟩ := hs
    exact fin J rv q
  | next =>
    obtain ⟨σ', H', J, q⟩ := hs
    exact fin (v := V.non) (u := Value.none) J rfl q
  | brk =>
    obtain ⟨_, _, _, q⟩ := hs
    exact False.elim q
  | cont =>
    obtain ⟨_, _, _, q⟩ := hs
    exact False.elim q
end DP
set_option Elab.async false
set_option linter.all false
set_option maxRecDepth 100000
set_option maxHeartbeats 4000000
/-! DP7: fresh lists and dicts; comprehensions. -/
namespace DP
open PySem PySem.Spec PyProof.Rows L2

/-- a new cell that nobody else knows -/
def FinC (G : Wd) (Z : Addr → Prop) (W : WX) (p : Pt) (r : R Cell) (Q : VK) : Prop := match r with
  | .ok c st => ∀ (rho : List Addr) (H0 : Hp) (a : Addr) (o : HO), SR G Z ⟨rho, st, p.sg, H0⟩ → Le p ⟨rho, st, p.sg, H0⟩ → H0 a = none → CellO G Z ⟨rho, st, p.sg, H0⟩ o c → Q (.ref a) (upd H0 a o)
  | .err x st => ∀ (rho : List Addr) (H : Hp) (cls : Value) (d : Option Addr), SR G Z ⟨rho, st, p.sg, H⟩ → Le p ⟨rho, st, p.sg, H⟩ → XRel G Z ⟨rho, st, p.sg, H⟩ x cls d → W cls d p.sg H
  | .stuck => False
def tF (G : Wd) (W : WX) (f : DM Cell) : TE := fun σ H Q => ∃ Z p, p.sg = σ ∧ p.H = H ∧ SR G Z p ∧ FinC G Z W p (f p.st) Q
structure FE (X : Cx) (C : CT) (W : WX) (e : Expr) (f : DM Cell) : Prop where
  pe : PE X e (tF (wd X.K C) W f)
section
variable {G : Wd} {Z : Addr → Prop} {W : WX} {p q : Pt}
theorem FinC.later {r : R Cell} {Q : VK} (h : FinC G Z W p r Q) (l : Le p q) (e : q.sg = p.sg) : FinC G Z W q r Q := by
  cases r with
  | ok a st => intro rho H b o S l' ha hc; rw [e] at S l' hc; exact h rho H b o S (l.trans l') ha hc
  | err x st => intro rho H cls d S l' r; rw [e] at S l' r ⊢; exact h rho H cls d S (l.trans l') r
  | stuck => exact h
theorem FinC.bnd {α β : Type} {rel : Pt → α → β → Prop} {f : DM α} {k : α → DM Cell} {Q : VK} (h : FinC G Z W p (DP.bnd f k p.st) Q) :
    Fin G Z W rel p (f p.st) (fun b H => ∃ q a, q.sg = p.sg ∧ q.H = H ∧ SR G Z q ∧ Le p q ∧ rel q a b ∧ FinC G Z W q (k a q.st) Q) := by
  unfold DP.bnd at h
  cases e : f p.st with
  | ok a st =>
    rw [e] at h
    intro rho H b S l r
    exact ⟨⟨rho, st, p.sg, H⟩, a, rfl, rfl, S, l, r, FinC.later h l rfl⟩
  | err x st => rw [e] at h; exact h
  | stuck => rw [e] at h; exact h
theorem FinC.ok {c : Cell} {a : Addr} {o : HO} {Q : VK} (h : FinC G Z W p (.ok c p.st) Q) (S : SR G Z p) (ha : p.H a = none) (hc : CellO G Z p o c) : Q (.ref a) (upd p.H a o) := h p.rho p.H a o S (Le.refl p) ha hc
end
theorem small_ofC {G : Wd} {Z : Addr → Prop} {W : WX} {q : Pt} {ds : List D} {k : List D → DM Cell} {Q : VK} (h : FinC G Z W q (DP.bnd (lift (small ds)) k q.st) Q) : ds.length ≤ sizeLine ∧ FinC G Z W q (k ds q.st) Q := by
  unfold small at h
  by_cases hl : ds.length ≤ sizeLine
  · rw [if_pos hl] at h; exact ⟨hl, h⟩
  · rw [if_neg hl] at h; exact h.elim
def frzM (f : DM Cell) : DM D := bnd f fun c => ret c.frz
section
variable {X : Cx} {C : CT} {W : WX}
theorem frz_go {f : DM Cell} {σ : L2.St} {H : Hp} {Q : VK} (h : tD (wd X.K C) W (frzM f) σ H Q) : tF (wd X.K C) W f σ H Q := by
  obtain ⟨Z, p, rfl, rfl, S, h⟩ := h
  refine ⟨Z, p, rfl, rfl, S, ?_⟩
  unfold frzM bnd ret at h
  cases ef : f p.st with
  | ok c st =>
    rw [ef] at h
    intro rho H0 a o S0 l0 ha hc
    obtain ⟨S1, l1⟩ := S0.ext (same_upd (o := o) ha)
    have hq : CellP (wd X.K C) Z ⟨rho, st, p.sg, upd H0 a o⟩ a c := hc.at l1 upd_same
    exact h rho _ _ S1 (l0.trans l1) (CellAt.frz hq (Le.refl _) rfl fun z => S0.freeL ha z)
  | err x st => rw [ef] at h; exact h
  | stuck => rw [ef] at h; exact h
theorem FE.de {e : Expr} {f : DM Cell} (h : FE X C W e f) : DE X C W e (frzM f) := ⟨peImp h.pe fun _ _ _ h => frz_go h⟩
/-- x = e, a cell of its own -/
def ownS (i : Nat) (f : DM Cell) : DS := bndS f fun c s => .nx ⟨s.sl.set i (.own c), s.hp⟩
theorem own_go {i : Nat} {te : TE} {f : DM Cell} (k : ∀ σ H Q, tF (wd X.K C) W f σ H Q → te σ H Q) {D : Ends} {σ : L2.St} {H : Hp} (h : tS (wd X.K C) W (ownS i f) D σ H) : tAsg te (gName i) D σ H := by
  obtain ⟨Z, p, rfl, rfl, S, h⟩ := h
  refine k _ _ _ ⟨Z, p, rfl, rfl, S, ?_⟩
  unfold ownS bndS at h
  cases ef : f p.st with
  | ok c st =>
    rw [ef] at h
    intro rho H0 a o S0 l0 ha hc
    obtain ⟨S1, l1⟩ := S0.setOwn (i := i) ha hc
    exact h rho _ _ S1 (l0.trans l1)
  | err x st => rw [ef] at h; exact fun rho H cls d S l x => h rho p.sg H cls d S l x
  | stuck => rw [ef] at h; exact h
theorem st_own {i : Nat} {x : Str} {e : Expr} {pos pos' : Pos} {f : DM Cell} (hN : X.N.Nodup) (hi : X.N[i]? = some x) (hx : Loc X.env.scope x) (he : FE X C W e f) (hs : swapsWith e (some (.Name x pos')) pos.line X.env = pure false := by rfl)
    (hf : X.fn x = true ∨ X.env.scope.names.lookup x = some .local := by first | exact .inl rfl | exact .inr rfl | assumption) : ST X C W (.Assign [.Name x pos'] e pos) (ownS i f) :=
  ⟨psImp (ps_set hN hi hx he.pe hs hf) fun _ _ _ h => own_go (fun _ _ _ h => h) h⟩
/-- [a, b] -/
def lstC (f : DM (List D)) : DM Cell := bnd f fun xs => bnd (lift (small xs)) fun xs => ret (.lst xs)
theorem fe_lst {es : List Expr} {pos : Pos} {f : DM (List D)} (h : DA X C W es f) : FE X C W (.List es pos) (lstC f) := by
  refine ⟨peImp (pe_lst h.pa) fun σ H Q h => ?_⟩
  obtain ⟨Z, p, rfl, rfl, S, h⟩ := h
  refine ⟨Z, p, rfl, rfl, S, (FinC.bnd h).mono fun x H1 ⟨q1, d1, e1, e2, S1, l1, r1, h1⟩ => ?_⟩
  obtain ⟨hl, h2⟩ := small_ofC h1
  subst e2
  exact ⟨by rw [← RepL.length r1]; exact hl, fun a na => FinC.ok h2 S1 na ⟨x, rfl, r1⟩⟩
end

/-! ### slots that a comprehension's block forgets -/
def unL (sl : List SV) : List Nat → List SV
  | [] => sl
  | v :: vs => (unL sl vs).set v .un
def backL (sl0 sl : List SV) : List Nat → List SV
  | [] => sl
  | v :: vs => (backL sl0 sl vs).set v (sl0.getD v .un)
theorem unL_length (sl : List SV) : ∀ vs, (unL sl vs).length = sl.length
  | [] => rfl
  | v :: vs => by simp [unL, unL_length sl vs]
theorem backL_length (sl0 sl : List SV) : ∀ vs, (backL sl0 sl vs).length = sl.length
  | [] => rfl
  | v :: vs => by simp [backL, backL_length sl0 sl vs]
theorem unL_out {sl : List SV} {i : Nat} : ∀ {vs : List Nat}, i ∉ vs → (unL sl vs)[i]? = sl[i]?
  | [], _ => rfl
  | v :: vs, h => by
    simp only [List.mem_cons, not_or] at h
    unfold unL
    rw [List.getElem?_set_ne (fun e => h.1 e.symm)]
    exact unL_out h.2
theorem unL_in {sl : List SV} {i : Nat} (hi : i < sl.length) : ∀ {vs : List Nat}, i ∈ vs → (unL sl vs)[i]? = some .un
  | v :: vs, h => by
    unfold unL
    by_cases e : v = i
    · subst e
      rw [List.getElem?_set_self (by rw [unL_length]; exact hi)]
    · rw [List.getElem?_set_ne e]
      exact unL_in hi (by rcases List.mem_cons.mp h with h | h; exact absurd h.symm e; exact h)
theorem backL_out {sl0 sl : List SV} {i : Nat} : ∀ {vs : List Nat}, i ∉ vs → (backL sl0 sl vs)[i]? = sl[i]?
  | [], _ => rfl
  | v :: vs, h => by
    simp only [List.mem_cons, not_or] at h
    unfold backL
    rw [List.getElem?_set_ne (fun e => h.1 e.symm)]
    exact backL_out h.2
theorem backL_in {sl0 sl : List SV} {i : Nat} (hi : i < sl.length) (h0 : sl0.length = sl.length) : ∀ {vs : List Nat}, i ∈ vs → (backL sl0 sl vs)[i]? = sl0[i]?
  | v :: vs, h => by
    unfold backL
    by_cases e : v = i
    · subst e
      rw [List.getElem?_set_self (by rw [backL_length]; exact hi), List.getD_eq_getElem?_getD]
      cases q : sl0[v]? with
      | none => rw [List.getElem?_eq_none_iff] at q; omega
      | some x => rfl
    · rw [List.getElem?_set_ne e]
      exact backL_in hi h0 (by rcases List.mem_cons.mp h with h | h; exact absurd h.symm e; exact h)
theorem wipe_out {σ : L2.St} {i : Nat} : ∀ {vs : List Nat}, i ∉ vs → (wipe σ vs)[i]? = σ[i]?
  | [], _ => rfl
  | v :: vs, h => by
    simp only [List.mem_cons, not_or] at h
    unfold wipe
    rw [List.getElem?_set_ne (fun e => h.1 e.symm)]
    exact wipe_out h.2
theorem wipe_wipe (σ : L2.St) (vs : List Nat) : wipe (wipe σ vs) vs = wipe σ vs := by
  apply List.ext_getElem?
  intro i
  by_cases h : i ∈ vs
  · have key : ∀ (τ : L2.St) (ws : List Nat), i ∈ ws → (wipe τ ws)[i]? = if i < τ.length then some none else none := by
      intro τ ws
      induction ws with
      | nil => intro h; cases h
      | cons v ws ih =>
        intro h
        unfold wipe
        by_cases e : v = i
        · subst e
          by_cases hl : v < τ.length
          · rw [List.getElem?_set_self (by rw [wipe_length]; exact hl), if_pos hl]
          · rw [List.getElem?_eq_none (by simpa [wipe_length] using hl), if_neg hl]
        · rw [List.getElem?_set_ne e]
          exact ih (by rcases List.mem_cons.mp h with h | h; exact absurd h.symm e; exact h)
    rw [key _ _ h, key _ _ h, wipe_length]
  · rw [wipe_out h]
section
variable {G : Wd} {Z : Addr → Prop} {p : Pt}
theorem SR.wipe (S : SR G Z p) : ∀ vs : List Nat, SR G Z ⟨p.rho, ⟨unL p.st.sl vs, p.st.hp⟩, L2.wipe p.sg vs, p.H⟩ ∧ Le p ⟨p.rho, ⟨unL p.st.sl vs, p.st.hp⟩, L2.wipe p.sg vs, p.H⟩
  | [] => ⟨S, Le.refl p⟩
  | v :: vs => by
    obtain ⟨S1, l1⟩ := SR.wipe S vs
    obtain ⟨S2, l2⟩ := S1.setUn (i := v)
    exact ⟨S2, l1.trans l2⟩
/-- no slot of these has a cell of its own -/
def freeOf (sl : List SV) (vs : List Nat) : Bool := vs.all fun v => match sl[v]? with
  | some (.own _) => false
  | _ => true
theorem freeOf_no {sl : List SV} {vs : List Nat} (h : freeOf sl vs = true) {i : Nat} {c : Cell} (hi : i ∈ vs) : sl[i]? ≠ some (.own c) := fun e => by
  have := List.all_eq_true.mp h i hi
  rw [e] at this
  cases this
/-- behind the block: the slots are as they were -/
theorem SR.unwipe (S : SR G Z p) {vs : List Nat} (hf : freeOf p.st.sl vs = true) {rho : List Addr} {st : DSt} {H : Hp} {p0 : Pt} (hp0 : Le p p0) (S' : SR G Z ⟨rho, st, L2.wipe p.sg vs, H⟩) (l : Le p ⟨rho, st, L2.wipe p.sg vs, H⟩) :
    SR G Z ⟨rho, ⟨backL p.st.sl st.sl vs, st.hp⟩, p.sg, H⟩ ∧ Le p ⟨rho, ⟨backL p.st.sl st.sl vs, st.hp⟩, p.sg, H⟩ ∧ (∀ d v, RepP G Z ⟨rho, st, L2.wipe p.sg vs, H⟩ d v → RepP G Z ⟨rho, ⟨backL p.st.sl st.sl vs, st.hp⟩, p.sg, H⟩ d v) := by
  have hlen : p.st.sl.length = st.sl.length := by rw [S.len, S'.len]; exact (wipe_length _ _).symm
  have hown : ∀ (i : Nat) (c : Cell), (backL p.st.sl st.sl vs)[i]? = some (SV.own c) → i ∉ vs ∧ st.sl[i]? = some (SV.own c) := fun i c h => by
    by_cases hi : i ∈ vs
    · by_cases hl : i < st.sl.length
      · rw [backL_in hl hlen hi] at h
        exact (freeOf_no hf hi h).elim
      · rw [List.getElem?_eq_none (by rw [backL_length]; omega)] at h
        cases h
    · rw [backL_out hi] at h
      exact ⟨hi, h⟩
  have hm : ∀ a, Pt.M ⟨rho, ⟨backL p.st.sl st.sl vs, st.hp⟩, p.sg, H⟩ a → Pt.M ⟨rho, st, L2.wipe p.sg vs, H⟩ a := fun a h => by
    rcases h with h | ⟨i, c, h, k⟩
    · exact .inl h
    · obtain ⟨hi, h'⟩ := hown i c h
      exact .inr ⟨i, c, h', (wipe_out hi).trans k⟩
  have l1 : Le ⟨rho, st, L2.wipe p.sg vs, H⟩ ⟨rho, ⟨backL p.st.sl st.sl vs, st.hp⟩, p.sg, H⟩ := ⟨fun _ _ h => h, fun a o h k => ⟨h, fun z => k (hm a z)⟩, fun _ _ h => h, fun _ h => h⟩
  have l2 := l.trans l1
  refine ⟨⟨?_, S'.hlen, fun i d h => ?_, fun i c h => ?_, fun n c h => ?_, S'.nod, fun i j c c' a h1 h2 h3 h4 => ?_, S'.zin⟩, l2, fun d v r => l1.rep r⟩
  · show (backL p.st.sl st.sl vs).length = p.sg.length
    rw [backL_length, ← hlen]
    exact S.len
  · have h' : (backL p.st.sl st.sl vs)[i]? = some (SV.val d) := h
    by_cases hi : i ∈ vs
    · by_cases hl : i < st.sl.length
      · rw [backL_in hl hlen hi] at h'
        obtain ⟨v, h1, h2⟩ := S.val i d h'
        exact ⟨v, h1, l2.rep h2⟩
      · rw [List.getElem?_eq_none (by rw [backL_length]; omega)] at h'
        cases h'
    · rw [backL_out hi] at h'
      obtain ⟨v, h1, h2⟩ := S'.val i d h'
      exact ⟨v, (wipe_out hi).symm.trans h1, l1.rep h2⟩
  · obtain ⟨hi, h'⟩ := hown i c h
    obtain ⟨a, h1, h2, h3⟩ := S'.own i c h'
    exact ⟨a, (wipe_out hi).symm.trans h1, CellAt.keep l1 h2 rfl, h3⟩
  · obtain ⟨a, h1, h2, h3⟩ := S'.cell n c h
    exact ⟨a, h1, CellAt.keep l1 h2 rfl, h3⟩
  · obtain ⟨hi, h1'⟩ := hown i c h1
    obtain ⟨hj, h2'⟩ := hown j c' h2
    exact S'.dis i j c c' a h1' h2' ((wipe_out hi).trans h3) ((wipe_out hj).trans h4)

theorem SR.unwipe_le (S : SR G Z p) {vs : List Nat} (hf : freeOf p.st.sl vs = true) {rho : List Addr} {st : DSt} {H : Hp} (S' : SR G Z ⟨rho, st, L2.wipe p.sg vs, H⟩) : Le ⟨rho, st, L2.wipe p.sg vs, H⟩ ⟨rho, ⟨backL p.st.sl st.sl vs, st.hp⟩, p.sg, H⟩ := by
  have hlen : p.st.sl.length = st.sl.length := by rw [S.len, S'.len]; exact (wipe_length _ _).symm
  refine ⟨fun _ _ h => h, fun a o h k => ⟨h, fun z => k ?_⟩, fun _ _ h => h, fun _ h => h⟩
  rcases z with z | ⟨i, c, z, z2⟩
  · exact .inl z
  · have z' : (backL p.st.sl st.sl vs)[i]? = some (SV.own c) := z
    by_cases hi : i ∈ vs
    · by_cases hl : i < st.sl.length
      · rw [backL_in hl hlen hi] at z'
        exact (freeOf_no hf hi z').elim
      · rw [List.getElem?_eq_none (by rw [backL_length]; omega)] at z'
        cases z'
    · rw [backL_out hi] at z'
      exact .inr ⟨i, c, z', (wipe_out hi).trans z2⟩
/-! ### an object that is hidden from the data: at a place of Z -/
abbrev Zp (Z : Addr → Prop) (a : Addr) : Addr → Prop := fun b => Z b ∨ b = a
/-- what lies at a is a list, and is not told of -/
theorem hide_car {L : Addr → Prop} {rho : List Addr} {H : Hp} {a : Addr} {o : HO} (na : H a = none) : Car rho L H rho (fun b => L b ∨ b = a) (upd H a o) :=
  ⟨fun _ _ h => h, fun b u _ h => by
    rcases h with h | ⟨w, h⟩
    · exact .inl (same_upd na b _ h)
    · exact .inr ⟨w, same_upd na b _ h⟩, fun b C dx fs _ h => same_upd na b _ h, fun b n h z => by
    rcases z with z | z
    · exact n z
    · exact h (z ▸ na), fun b vs ⟨w, h, hd⟩ => ⟨w, same_upd na b _ h, hd⟩⟩
theorem Car.eqL {rho rho' : List Addr} {L L' M' : Addr → Prop} {H H' : Hp} (c : Car rho L H rho' L' H') (h : ∀ a, M' a → L' a) : Car rho L H rho' M' H' := ⟨c.rho, c.rd, c.ins, fun a n x z => c.dead a n x (h a z), c.tup⟩
theorem Car.src {rho rho' : List Addr} {L L' M : Addr → Prop} {H H' : Hp} (c : Car rho L H rho' L' H') (h : ∀ a, L a → M a) : Car rho M H rho' L' H' := ⟨c.rho, fun a o n => c.rd a o fun z => n (h a z), fun a C dx fs n => c.ins a C dx fs fun z => n (h a z), fun a n => c.dead a fun z => n (h a z), c.tup⟩
/-- the state's parts carried over where no slot, no cell changes -/
theorem SR.carry {Z' : Addr → Prop} {H' : Hp} (S : SR G Z p) (c : Car p.rho (p.L Z) p.H p.rho (p.L Z') H') (hc : ∀ a, p.M a → H' a = p.H a) (hz : ∀ a, Z' a → H' a ≠ none ∧ ¬ p.M a) : SR G Z' { p with H := H' } := by
  have cc : ∀ a k, p.M a → CellP G Z p a k → CellP G Z' { p with H := H' } a k := fun a k m h => by
    have e := hc a m
    cases k with
    | lst ds => obtain ⟨vs, h1, h2⟩ := h; exact ⟨vs, e.trans h1, RepL.car c h2⟩
    | dk ks ds => obtain ⟨vs, h1, z, h2⟩ := h; exact ⟨vs, e.trans h1, z, RepL.car c h2⟩
    | dt ks ds => obtain ⟨vs, h1, z, h2⟩ := h; exact ⟨vs, e.trans h1, z, RepL.car c h2⟩
    | ins k ds => obtain ⟨dx, vs, h1, h2⟩ := h; exact ⟨dx, vs, e.trans h1, RepL.car c h2⟩
  refine ⟨S.len, S.hlen, fun i d h => ?_, fun i k h => ?_, fun n k h => ?_, S.nod, S.dis, fun a h => (hz a h).1⟩
  · obtain ⟨v, h1, h2⟩ := S.val i d h
    exact ⟨v, h1, Rep.car c h2⟩
  · obtain ⟨a, h1, h2, h3, h4⟩ := S.own i k h
    have m : p.M a := .inr ⟨i, k, h, h1⟩
    exact ⟨a, h1, cc a k m h2, h3, fun z => (hz a z).2 m⟩
  · obtain ⟨a, h1, h2, h3⟩ := S.cell n k h
    have m : p.M a := .inl (List.mem_of_getElem? h1)
    exact ⟨a, h1, cc a k m h2, fun z => (hz a z).2 m⟩
theorem L_split {Z : Addr → Prop} {a : Addr} (b : Addr) : p.L (Zp Z a) b ↔ (p.L Z b ∨ b = a) := by
  constructor
  · rintro (h | h | h)
    · exact .inl (.inl h)
    · exact .inl (.inr h)
    · exact .inr h
  · rintro ((h | h) | h)
    · exact .inl h
    · exact .inr (.inl h)
    · exact .inr (.inr h)
theorem SR.hide (S : SR G Z p) {a : Addr} {o : HO} (na : p.H a = none) : SR G (Zp Z a) { p with H := upd p.H a o } := by
  refine S.carry ((hide_car na).eqL fun b z => (L_split b).mp z) (fun b m => upd_ne fun e => S.has m (e ▸ na)) fun b z => ?_
  rcases z with z | z
  · exact ⟨upd_has (S.zin b z), fun m => by
      cases m with
      | inl m =>
        obtain ⟨n, hn, rfl⟩ := List.getElem_of_mem m
        obtain ⟨x, e, _, h3⟩ := S.cell n _ (List.getElem?_eq_getElem (by rw [← S.hlen]; exact hn))
        rw [List.getElem?_eq_getElem hn] at e
        cases e
        exact h3 z
      | inr m =>
        obtain ⟨i, c, h1, h2⟩ := m
        obtain ⟨x, e, _, _, h4⟩ := S.own i c h1
        rw [h2] at e
        cases e
        exact h4 z⟩
  · exact ⟨by rw [z, upd_same]; exact fun q => (by cases q), fun m => S.has m (z ▸ na)⟩
theorem SR.noZ (S : SR G Z p) {a : Addr} (z : Z a) : ¬ p.M a := fun m => by
  cases m with
  | inl m =>
    obtain ⟨n, hn, rfl⟩ := List.getElem_of_mem m
    obtain ⟨x, e, _, h3⟩ := S.cell n _ (List.getElem?_eq_getElem (by rw [← S.hlen]; exact hn))
    rw [List.getElem?_eq_getElem hn] at e
    cases e
    exact h3 z
  | inr m =>
    obtain ⟨i, c, h1, h2⟩ := m
    obtain ⟨x, e, _, _, h4⟩ := S.own i c h1
    rw [h2] at e
    cases e
    exact h4 z
/-- the hidden list is written -/
theorem poke_car {L : Addr → Prop} {rho : List Addr} {H : Hp} {a : Addr} {o : HO} {xs : List V} (ha : H a = some (.lst xs)) (hL : L a) : Car rho L H rho L (upd H a o) := by
  have nt : ∀ (b : Addr) (vs : List V), TupH H b vs → b ≠ a := fun b vs h e => by
    subst e
    obtain ⟨w, h, _⟩ := h
    rw [ha] at h
    cases h
  refine ⟨fun _ _ h => h, fun b u n h => ?_, fun b C dx fs n h => ?_, fun b n _ => n, fun b vs h => ?_⟩
  · have ne : b ≠ a := fun e => n (e ▸ hL)
    rcases h with h | ⟨w, h⟩
    · exact .inl ((upd_ne ne).trans h)
    · exact .inr ⟨w, (upd_ne ne).trans h⟩
  · have ne : b ≠ a := fun e => n (e ▸ hL)
    exact (upd_ne ne).trans h
  · have ne := nt b vs h
    obtain ⟨w, h, hd⟩ := h
    exact ⟨w, (upd_ne ne).trans h, hd⟩
theorem SR.poke (S : SR G Z p) {a : Addr} {o : HO} {xs : List V} (z : Z a) (ha : p.H a = some (.lst xs)) : SR G Z { p with H := upd p.H a o } :=
  S.carry (poke_car ha (.inr z)) (fun b m => upd_ne fun e => S.noZ z (e ▸ m)) fun b zb => ⟨upd_has (S.zin b zb), S.noZ zb⟩
/-- the hidden list comes to light: as if it had not been there -/
def del (H : Hp) (a : Addr) : Hp := fun b => if b = a then none else H b
theorem del_same {H : Hp} {a : Addr} : del H a a = none := by unfold del; rw [if_pos rfl]
theorem del_ne {H : Hp} {a b : Addr} (h : b ≠ a) : del H a b = H b := by unfold del; rw [if_neg h]
theorem upd_del {H : Hp} {a : Addr} {o : HO} (h : H a = some o) : upd (del H a) a o = H := by
  funext b
  by_cases e : b = a
  · subst e; rw [upd_same, h]
  · rw [upd_ne e, del_ne e]
theorem del_car {L : Addr → Prop} {rho : List Addr} {H : Hp} {a : Addr} {xs : List V} (ha : H a = some (.lst xs)) : Car rho (fun b => L b ∨ b = a) H rho L (del H a) := by
  have nt : ∀ (b : Addr) (vs : List V), TupH H b vs → b ≠ a := fun b vs h e => by
    subst e
    obtain ⟨w, h, _⟩ := h
    rw [ha] at h
    cases h
  refine ⟨fun _ _ h => h, fun b u n h => ?_, fun b C dx fs n h => ?_, fun b n _ z => n (.inl z), fun b vs h => ?_⟩
  · have ne : b ≠ a := fun e => n (.inr e)
    rcases h with h | ⟨w, h⟩
    · exact .inl ((del_ne ne).trans h)
    · exact .inr ⟨w, (del_ne ne).trans h⟩
  · have ne : b ≠ a := fun e => n (.inr e)
    exact (del_ne ne).trans h
  · have ne := nt b vs h
    obtain ⟨w, h, hd⟩ := h
    exact ⟨w, (del_ne ne).trans h, hd⟩
theorem SR.light {a : Addr} (S : SR G (Zp Z a) p) {xs : List V} (ha : p.H a = some (.lst xs)) (hZ : ¬ Z a) : SR G Z { p with H := del p.H a } := by
  have na : ¬ p.M a := S.noZ (Z := Zp Z a) (.inr rfl)
  refine S.carry (Car.src (del_car (L := p.L Z) ha) fun b z => (L_split b).mpr z) (fun b m => del_ne fun e => na (e ▸ m)) fun b z => ⟨?_, S.noZ (Z := Zp Z a) (.inl z)⟩
  have ne : b ≠ a := fun e => hZ (e ▸ z)
  rw [del_ne ne]
  exact S.zin b (.inl z)
end

/-! ### comprehensions -/
def lcL (g : DG) (t : DM Bool) (e : DM D) (vs : List Nat) : List D → DM (List D)
  | [], s => .ok [] s
  | d :: ds, s => match g d s with
    | none => .stuck
    | some s1 => match t s1 with
      | .ok true s2 => (match e s2 with
        | .ok y s3 => (match lcL g t e vs ds ⟨unL s3.sl vs, s3.hp⟩ with
          | .ok ys s4 => .ok (y :: ys) s4
          | _ => .stuck)
        | _ => .stuck)
      | .ok false s2 => lcL g t e vs ds ⟨unL s2.sl vs, s2.hp⟩
      | _ => .stuck
/-- [e for target in f if t], vs: the slots of the block's own names -/
def lcC (vs : List Nat) (f : DM (List D)) (g : DG) (t : DM Bool) (e : DM D) : DM Cell := bnd f fun ds s =>
  if ds.length ≤ sizeLine ∧ freeOf s.sl vs = true then (match lcL g t e vs ds ⟨unL s.sl vs, s.hp⟩ with
    | .ok ys s' => .ok (.lst ys) ⟨backL s.sl s'.sl vs, s'.hp⟩
    | _ => .stuck) else .stuck
abbrev W0 : WX := fun _ _ _ _ => False
structure DTs (X : Cx) (C : CT) (ifs : List Expr) (f : DM Bool) : Prop where
  pts : PTs X ifs (tT (wd X.K C) W0 f)
section
variable {X : Cx} {C : CT} {W : WX}
theorem dts_nil : DTs X C [] (ret true) := ⟨⟨fun pins s σ H Q I h => by
  obtain ⟨Z, p, rfl, rfl, S, h⟩ := h
  exact pts_nil.run pins s _ _ Q I (Fin.ok h S rfl)⟩⟩
theorem dts_one {c : Expr} {f : DM Bool} (h : DT X C W0 c f) : DTs X C [c] f := ⟨pts_one h.pt⟩
theorem wipe_same {σ τ : L2.St} {vs ws : List Nat} (hl : σ.length = τ.length) (hs : ∀ i ∈ ws, i ∈ vs) (h : ∀ i, i ∉ ws → σ[i]? = τ[i]?) : wipe σ vs = wipe τ vs := by
  apply List.ext_getElem?
  intro i
  by_cases hi : i ∈ vs
  · have key : ∀ (τ : L2.St) (ws : List Nat), i ∈ ws → (wipe τ ws)[i]? = if i < τ.length then some none else none := by
      intro τ ws
      induction ws with
      | nil => intro h; cases h
      | cons v ws ih =>
        intro h
        unfold wipe
        by_cases e : v = i
        · subst e
          by_cases hl : v < τ.length
          · rw [List.getElem?_set_self (by rw [wipe_length]; exact hl), if_pos hl]
          · rw [List.getElem?_eq_none (by simpa [wipe_length] using hl), if_neg hl]
        · rw [List.getElem?_set_ne e]
          exact ih (by rcases List.mem_cons.mp h with h | h; exact absurd h.symm e; exact h)
    rw [key _ _ hi, key _ _ hi, hl]
  · rw [wipe_out hi, wipe_out hi]
    exact h i fun z => hi (hs i z)
theorem lc_go {tg : Expr} {scope : Scope} {own : List (Str × Nat)} {t : TG} {g : DG} {ws : List Nat} {f : DM (List D)} {ft : DM Bool} {fe : DM D} (hg : ∀ (s : Shared) (H : Hp) (B : Addr) (cl : List (Str × Addr)) (fp : List Addr), TGd (X.blk s H scope (compEnvC scope cl B X.env) fp) C tg t g ws) 
    (hws : ∀ i ∈ ws, i ∈ own.map (·.2)) {σ : L2.St} {H : Hp} {Q : VK} (h : tF (wd X.K C) W (lcC (own.map (·.2)) f g ft fe) σ H Q) :
    tLc (tI (wd X.K C) W f) t (tT (wd X.K C) W0 ft) (tD (wd X.K C) W0 fe) (own.map (·.2)) σ H Q := by
  have hk := fun (s : Shared) (H : Hp) (B : Addr) (cl : List (Str × Addr)) (fp : List Addr) => (hg s H B cl fp).k
  replace hk := hk ({ } : Shared) (fun _ => none) 0 [] []
  generalize hvs : own.map (·.2) = vs at *
  obtain ⟨Z, p, rfl, rfl, S, h⟩ := h
  refine ⟨Z, p, rfl, rfl, S, (FinC.bnd h).mono fun J H1 ⟨q1, ds, e1, e2, S1, l1, ⟨Gd, Y, wk, hG, hY⟩, h1⟩ => fun D nD => ?_⟩
  subst e2

  have hcc : ds.length ≤ sizeLine ∧ freeOf q1.st.sl vs = true := by
    by_cases hcc : ds.length ≤ sizeLine ∧ freeOf q1.st.sl vs = true
    · exact hcc
    · rw [if_neg hcc] at h1; exact h1.elim
  rw [if_pos hcc] at h1
  obtain ⟨hsz, hfr⟩ := hcc
  cases eL : lcL g ft fe vs ds ⟨unL q1.st.sl vs, q1.st.hp⟩ with
  | err x st => rw [eL] at h1; exact h1.elim
  | stuck => rw [eL] at h1; exact h1.elim
  | ok ys st' =>
    rw [eL] at h1
    have hzD : ∀ a, Zp Z D a → Z a ∨ q1.H a = none := fun a z => by
      rcases z with z | z
      · exact .inl z
      · exact .inr (z ▸ nD)
    have nZD : ¬ Z D := fun z => S1.zin D z nD
    rw [← e1]
    refine lc_it wk (fun i H => ∃ (q : Pt) (acc : List V) (done rest : List DP.D), q.H = H ∧ q.sg = wipe q1.sg vs ∧ SR (wd X.K C) (Zp Z D) q ∧ Le q1 q ∧ q.H D = some (.lst acc) ∧ RepLP (wd X.K C) (Zp Z D) q done acc ∧ acc.length ≤ i ∧ lcL g ft fe vs (ds.drop i) q.st = .ok rest st' ∧ ys = done ++ rest) ?_ ?_ ?_ ?_
    · obtain ⟨S2, l2⟩ := S1.wipe vs
      have nD2 : (⟨q1.rho, ⟨unL q1.st.sl vs, q1.st.hp⟩, wipe q1.sg vs, q1.H⟩ : Pt).H D = none := nD
      refine ⟨⟨q1.rho, ⟨unL q1.st.sl vs, q1.st.hp⟩, wipe q1.sg vs, upd q1.H D (.lst [])⟩, [], [], ys, rfl, rfl, S2.hide nD2, l2.trans (S2.ext (same_upd nD2)).2, upd_same, .nil, Nat.le_refl _, by simpa using eL, rfl⟩
    · rintro i H hi ⟨q, acc, done, rest, rfl, _, _, l2, _⟩
      exact hG q l2
    · rintro i x H H' hi ⟨q, acc, done, rest, rfl, esg, Sq, lq, hD, hdone, hacc, hrest, hys⟩ y
      obtain ⟨d, hd, sm, rd⟩ := hY (Zp Z D) q i x H' hzD Sq lq hi y
      obtain ⟨S2, l2⟩ := Sq.ext sm
      have hdr : ds.drop i = d :: ds.drop (i + 1) := by
        obtain ⟨hlt, e⟩ := List.getElem?_eq_some_iff.mp hd
        rw [← e]
        exact List.drop_eq_getElem_cons hlt
      rw [hdr] at hrest
      unfold lcL at hrest
      cases qg : g d q.st with
      | none => rw [qg] at hrest; cases hrest
      | some st1 =>
        rw [qg] at hrest
        dsimp only at hrest
        rw [← esg]
        refine hk (Zp Z D) { q with H := H' } d x st1 _ S2 rd qg fun rho sg H2 S3 l3 hlen hw => ?_
        have ew : wipe sg vs = wipe q.sg vs := wipe_same hlen hws hw
        have eqw : wipe q.sg vs = q.sg := by rw [esg, wipe_wipe]
        refine ⟨ew.trans (by rw [eqw]), Zp Z D, ⟨rho, st1, sg, H2⟩, rfl, rfl, S3, ?_⟩
        have lq3 : Le q ⟨rho, st1, sg, H2⟩ := l2.trans l3
        have nMD : ¬ q.M D := Sq.noZ (Z := Zp Z D) (.inr rfl)
        cases et : ft st1 with
        | err x st => rw [et] at hrest; cases hrest
        | stuck => rw [et] at hrest; cases hrest
        | ok b st2 =>
          rw [et] at hrest
          intro rho3 H3 b3 S4 l4 eb
          cases eb
          have lq4 : Le q ⟨rho3, st2, sg, H3⟩ := lq3.trans l4
          cases b with
          | false =>
            refine iteF ?_
            dsimp only at hrest
            obtain ⟨S5, l5⟩ := S4.wipe vs
            have lq5 := lq4.trans l5
            refine ⟨⟨rho3, ⟨unL st2.sl vs, st2.hp⟩, wipe sg vs, H3⟩, acc, done, rest, rfl, ew.trans eqw, S5, lq.trans lq5, (lq4.keep D _ hD nMD).1, lq5.repL hdone, by omega, hrest, hys⟩
          | true =>
            refine iteT ⟨Zp Z D, ⟨rho3, st2, sg, H3⟩, rfl, rfl, S4, ?_⟩
            dsimp only at hrest ⊢
            cases ee : fe st2 with
            | err x st => rw [ee] at hrest; cases hrest
            | stuck => rw [ee] at hrest; cases hrest
            | ok yd st3 =>
              rw [ee] at hrest
              dsimp only at hrest
              intro rho4 H4 yv S5 l5 ry
              have lq5 : Le q ⟨rho4, st3, sg, H4⟩ := lq4.trans l5
              have hD4 : H4 D = some (.lst acc) := (lq5.keep D _ hD nMD).1
              refine ⟨acc, hD4, by omega, ?_⟩
              obtain ⟨S6, l6⟩ := S5.wipe vs
              have pc : Car rho4 (Pt.L (Zp Z D) ⟨rho4, ⟨unL st3.sl vs, st3.hp⟩, wipe sg vs, H4⟩) H4 rho4 (Pt.L (Zp Z D) ⟨rho4, ⟨unL st3.sl vs, st3.hp⟩, wipe sg vs, H4⟩) (upd H4 D (.lst (acc ++ [yv]))) := poke_car hD4 (.inr (.inr rfl))
              cases er : lcL g ft fe vs (ds.drop (i + 1)) ⟨unL st3.sl vs, st3.hp⟩ with
              | err x st => rw [er] at hrest; cases hrest
              | stuck => rw [er] at hrest; cases hrest
              | ok ys2 st4 =>
                rw [er] at hrest
                dsimp only at hrest
                cases hrest
                refine ⟨⟨rho4, ⟨unL st3.sl vs, st3.hp⟩, wipe sg vs, upd H4 D (.lst (acc ++ [yv]))⟩, acc ++ [yv], done ++ [yd], ys2, rfl, ew.trans eqw, S6.poke (Z := Zp Z D) (.inr rfl) hD4, ?_, upd_same, RepL.car pc ((l6.repL (lq5.repL hdone)).snoc (l6.rep ry)), by simp; omega, er, by simp [hys]⟩
                have l7 := lq.trans (lq5.trans l6)
                refine ⟨l7.rho, fun a o ha hm => ?_, fun a vs' ha => ?_, fun a ha => upd_has (l7.has a ha)⟩
                · have ne : a ≠ D := fun e => by rw [e, nD] at ha; cases ha
                  exact ⟨(upd_ne ne).trans (l7.keep a o ha hm).1, (l7.keep a o ha hm).2⟩
                · have ne : a ≠ D := fun e => by
                    rw [e] at ha
                    obtain ⟨w, ha, _⟩ := ha
                    rw [nD] at ha
                    cases ha
                  obtain ⟨w, z, zd⟩ := l7.tup a vs' ha
                  exact ⟨w, (upd_ne ne).trans z, zd⟩
    · rintro H ⟨q, acc, done, rest, rfl, esg, Sq, lq, hD, hdone, hacc, hrest, hys⟩
      rw [List.drop_length] at hrest
      unfold lcL at hrest
      cases hrest
      rw [List.append_nil] at hys
      subst hys
      have S2 := Sq.light hD nZD
      have l2 : Le q1 ⟨q.rho, q.st, wipe q1.sg vs, del q.H D⟩ := by
        have el : (⟨q.rho, q.st, wipe q1.sg vs, del q.H D⟩ : Pt).M = q.M := by rw [← esg]; rfl
        refine ⟨lq.rho, fun a o ha hm => ?_, fun a vs' ha => ?_, fun a ha => ?_⟩
        · have ne : a ≠ D := fun e => by rw [e, nD] at ha; cases ha
          exact ⟨(del_ne ne).trans (lq.keep a o ha hm).1, by rw [el]; exact (lq.keep a o ha hm).2⟩
        · have ne : a ≠ D := fun e => by
            rw [e] at ha
            obtain ⟨w, ha, _⟩ := ha
            rw [nD] at ha
            cases ha
          obtain ⟨w, z, zd⟩ := lq.tup a vs' ha
          exact ⟨w, (del_ne ne).trans z, zd⟩
        · have ne : a ≠ D := fun e => ha (e ▸ nD)
          show del q.H D a ≠ none
          rw [del_ne ne]
          exact lq.has a ha
      have S2' : SR (wd X.K C) Z ⟨q.rho, q.st, wipe q1.sg vs, del q.H D⟩ := by rw [← esg]; exact S2
      obtain ⟨S3, l3, k3⟩ := S1.unwipe hfr (Le.refl q1) S2' l2
      have hd2 : RepLP (wd X.K C) Z ⟨q.rho, q.st, wipe q1.sg vs, del q.H D⟩ ys acc := by
        have := RepL.car (Car.src (del_car (L := q.L Z) (rho := q.rho) hD) fun b z => (L_split b).mpr z) hdone
        rw [← esg]
        exact this
      have l4 : Le ⟨q.rho, q.st, wipe q1.sg vs, del q.H D⟩ ⟨q.rho, ⟨backL q1.st.sl q.st.sl vs, q.st.hp⟩, q1.sg, del q.H D⟩ := SR.unwipe_le S1 hfr S2'
      have h2 := h1 q.rho (del q.H D) D (.lst acc) S3 l3 del_same ⟨acc, rfl, l4.repL hd2⟩
      rw [upd_del hD] at h2
      exact h2
theorem fe_lc {elt tg iter : Expr} {ifs : List Expr} {scope : Scope} {own : List (Str × Nat)} {pos : Pos} {t : TG} {g : DG} {ws : List Nat} {f : DM (List D)} {ft : DM Bool} {fe : DM D} (hc : X.calm = true) (hN : X.N.Nodup) (hi : DI X C W tg iter f) (ok : BlkOk X.N X.env.scope scope own)
    (hg : ∀ (s : Shared) (H : Hp) (B : Addr) (cl : List (Str × Addr)) (fp : List Addr), TGd (X.blk s H scope (compEnvC scope cl B X.env) fp) C tg t g ws) (ht : ∀ (s : Shared) (H : Hp) (B : Addr) (cl : List (Str × Addr)) (fp : List Addr), DTs (X.blk s H scope (compEnvC scope cl B X.env) fp) C ifs ft)
    (he : ∀ (s : Shared) (H : Hp) (B : Addr) (cl : List (Str × Addr)) (fp : List Addr), DE (X.blk s H scope (compEnvC scope cl B X.env) fp) C W0 elt fe) (hws : ∀ i ∈ ws, i ∈ own.map (·.2)) (hs : ∀ x, foldedSetIterable iter X.env x = pure x := by intro _; rfl) :
    FE X C W (.ListComp elt [⟨tg, iter, ifs, 0⟩] scope pos) (lcC (own.map (·.2)) f g ft fe) :=
  ⟨peImp (pe_lc (g := t) (tt := tT (wd X.K C) W0 ft) (te := tD (wd X.K C) W0 fe) hc hN hi.pi ok (fun s H B cl fp => (hg s H B cl fp).pg) (fun s H B cl fp => (ht s H B cl fp).pts) (fun s H B cl fp => (he s H B cl fp).pe) hs) fun σ H Q h => lc_go hg hws h⟩
theorem set_go {i : Nat} {te : TE} {f : DM Cell} (k : ∀ σ H Q, tF (wd X.K C) W f σ H Q → te σ H Q) {D : Ends} {σ : L2.St} {H : Hp} (h : tS (wd X.K C) W (setS i (frzM f)) D σ H) : tAsg te (gName i) D σ H := by
  refine k _ _ _ (frz_go ?_)
  obtain ⟨Z, p, rfl, rfl, S, h⟩ := h
  refine ⟨Z, p, rfl, rfl, S, (FinS.bnd h).mono fun x H1 ⟨q1, d1, e1, e2, S1, l1, r1, h1⟩ => ?_⟩
  show D.nx (p.sg.set i (some x)) H1
  rw [← e1, ← e2]
  obtain ⟨S', l⟩ := S1.setVal (i := i) r1
  exact h1 _ _ _ S' l
/-- x = [.. for ..], x a local, on one line -/
theorem st_ownLc {i : Nat} {y : Str} {py spos : Pos} {elt tg iter : Expr} {ifs : List Expr} {scope : Scope} {own : List (Str × Nat)} {pos : Pos} {t : TG} {g : DG} {ws : List Nat} {f : DM (List D)} {ft : DM Bool} {fe : DM D} (hy : X.N[i]? = some y) (hyl : X.env.scope.names.lookup y = some .local)
    (hsw : swapsWith (.ListComp elt [⟨tg, iter, ifs, 0⟩] scope pos) (some (.Name y py)) spos.line X.env = pure true) (hc : X.calm = true) (hN : X.N.Nodup) (hi : DI X C W tg iter f) (ok : BlkOk X.N X.env.scope scope own)
    (hg : ∀ (s : Shared) (H : Hp) (B : Addr) (cl : List (Str × Addr)) (fp : List Addr), TGd (X.blk s H scope (compEnvC scope cl B X.env) fp) C tg t g ws) (ht : ∀ (s : Shared) (H : Hp) (B : Addr) (cl : List (Str × Addr)) (fp : List Addr), DTs (X.blk s H scope (compEnvC scope cl B X.env) fp) C ifs ft)
    (he : ∀ (s : Shared) (H : Hp) (B : Addr) (cl : List (Str × Addr)) (fp : List Addr), DE (X.blk s H scope (compEnvC scope cl B X.env) fp) C W0 elt fe) (hws : ∀ i ∈ ws, i ∈ own.map (·.2)) (hs : ∀ x, foldedSetIterable iter X.env x = pure x := by intro _; rfl) : ST X C W (.Assign [.Name y py] (.ListComp elt [⟨tg, iter, ifs, 0⟩] scope pos) spos) (ownS i (lcC (own.map (·.2)) f g ft fe)) :=
  ⟨psImp (ps_setLc (g := t) (tt := tT (wd X.K C) W0 ft) (te := tD (wd X.K C) W0 fe) hc hN hy hyl hsw hi.pi ok (fun s H B cl fp => (hg s H B cl fp).pg) (fun s H B cl fp => (ht s H B cl fp).pts) (fun s H B cl fp => (he s H B cl fp).pe) hs) fun _ _ _ h => own_go (fun _ _ _ h => lc_go hg hws h) h⟩
theorem st_setLc {i : Nat} {y : Str} {py spos : Pos} {elt tg iter : Expr} {ifs : List Expr} {scope : Scope} {own : List (Str × Nat)} {pos : Pos} {t : TG} {g : DG} {ws : List Nat} {f : DM (List D)} {ft : DM Bool} {fe : DM D} (hy : X.N[i]? = some y) (hyl : X.env.scope.names.lookup y = some .local)
    (hsw : swapsWith (.ListComp elt [⟨tg, iter, ifs, 0⟩] scope pos) (some (.Name y py)) spos.line X.env = pure true) (hc : X.calm = true) (hN : X.N.Nodup) (hi : DI X C W tg iter f) (ok : BlkOk X.N X.env.scope scope own)
    (hg : ∀ (s : Shared) (H : Hp) (B : Addr) (cl : List (Str × Addr)) (fp : List Addr), TGd (X.blk s H scope (compEnvC scope cl B X.env) fp) C tg t g ws) (ht : ∀ (s : Shared) (H : Hp) (B : Addr) (cl : List (Str × Addr)) (fp : List Addr), DTs (X.blk s H scope (compEnvC scope cl B X.env) fp) C ifs ft)
    (he : ∀ (s : Shared) (H : Hp) (B : Addr) (cl : List (Str × Addr)) (fp : List Addr), DE (X.blk s H scope (compEnvC scope cl B X.env) fp) C W0 elt fe) (hws : ∀ i ∈ ws, i ∈ own.map (·.2)) (hs : ∀ x, foldedSetIterable iter X.env x = pure x := by intro _; rfl) : ST X C W (.Assign [.Name y py] (.ListComp elt [⟨tg, iter, ifs, 0⟩] scope pos) spos) (setS i (frzM (lcC (own.map (·.2)) f g ft fe))) :=
  ⟨psImp (ps_setLc (g := t) (tt := tT (wd X.K C) W0 ft) (te := tD (wd X.K C) W0 fe) hc hN hy hyl hsw hi.pi ok (fun s H B cl fp => (hg s H B cl fp).pg) (fun s H B cl fp => (ht s H B cl fp).pts) (fun s H B cl fp => (he s H B cl fp).pe) hs) fun _ _ _ h => set_go (fun _ _ _ h => lc_go hg hws h) h⟩
end
end DP
set_option Elab.async false
set_option linter.all false
set_option maxRecDepth 100000
set_option maxHeartbeats 4000000
/-! DP8: subscripts, slices, builtins, walks. -/
namespace DP
open PySem PySem.Spec PyProof.Rows L2

/-! ### subscripts -/
/-- a key: an int, a text -/
def D.key : D → Option Key
  | .int i => some (.inl i)
  | .str x => some (.inr x)
  | _ => none
def keysOf : List D → Option (List Key)
  | [] => some []
  | d :: ds => (d.key).bind fun k => (keysOf ds).map fun ks => k :: ks
def valOf {κ : Type} [DecidableEq κ] (ks : List κ) (vs : List D) (k : κ) : Option D := ((ks.zip vs).find? fun kv => decide (kv.1 = k)).map (·.2)
/-- d[k] -/
def ixD : D → D → Option D := fun x y => match x, y with
  | .lst xs, .int i => atI xs i
  | .tup xs, .int i => atI xs i
  | .str z, .int i => (atI z.cps.toList i).bind fun c => if z.length ≤ sizeLine then some (.str ⟨#[c]⟩) else none
  | .dk ks vs, y => (D.key y).bind fun k => valOf ks vs k
  | .dt ks vs, .tup ys => (keysOf ys).bind fun k => valOf ks vs k
  | _, _ => none
section
variable {G : Wd} {rho : List Addr} {L : Addr → Prop} {H : Hp}
theorem atI_rep {ds : List D} {vs : List V} {i : Int} {d : D} (r : RepL G rho L H ds vs) (h : atI ds i = some d) : ∃ v, atI vs i = some v ∧ Rep G rho L H d v := by
  unfold atI at h ⊢
  rw [← RepL.length r]
  cases e : ixN ds.length i with
  | none => rw [e] at h; cases h
  | some j => rw [e] at h; exact RepL.get' r h
theorem key_rep {d : D} {v : V} {k : Key} (r : Rep G rho L H d v) (h : d.key = some k) : v = kV k := by
  cases d with
  | int i => cases r; cases h; rfl
  | str x => cases r; cases h; rfl
  | _ => cases h
theorem keys_rep : ∀ {ds : List D} {vs : List V} {ks : List Key}, RepL G rho L H ds vs → keysOf ds = some ks → vs = ks.map kV
  | [], _, _, r, h => by cases r; cases h; rfl
  | d :: ds, _, _, r, h => by
    cases r with
    | cons r1 r2 =>
      unfold keysOf at h
      cases e : d.key with
      | none => rw [e] at h; cases h
      | some k =>
        rw [e] at h
        cases e2 : keysOf ds with
        | none => simp [e2] at h
        | some ks2 =>
          simp [e2] at h
          subst h
          rw [key_rep r1 e, keys_rep r2 e2]
          rfl
theorem val_rep {κ : Type} [DecidableEq κ] {k : κ} : ∀ {ks : List κ} {ds : List D} {vs : List V} {o : Option D}, RepL G rho L H ds vs → ks.length = vs.length → valOf ks ds k = o → (o = none → valV (ks.zip vs) k = none) ∧ (∀ d, o = some d → ∃ v, valV (ks.zip vs) k = some v ∧ Rep G rho L H d v)
  | [], _, _, _, r, hz, h => by subst h; exact ⟨fun _ => rfl, fun d e => by cases e⟩
  | k' :: ks, [], _, _, r, hz, h => by cases r; cases hz
  | k' :: ks, d :: ds, _, o, r, hz, h => by
    cases r with
    | cons r1 r2 =>
      rename_i v vs
      unfold valOf at h
      simp only [List.zip_cons_cons, List.find?_cons] at h
      unfold valV
      simp only [List.zip_cons_cons, List.find?_cons]
      by_cases e : k' = k
      · simp only [e, decide_true, Option.map_some] at h ⊢
        subst h
        refine ⟨(fun z => nomatch z), fun d' e' => ?_⟩
        cases e'
        exact ⟨v, rfl, r1⟩
      · simp only [decide_eq_false e] at h ⊢
        exact val_rep (ks := ks) (ds := ds) (vs := vs) (o := o) r2 (by simpa using hz) h
end
section
variable {X : Cx} {C : CT} {W : WX}
/-- a dict's item, a tuple's own key wherever the tuple stands -/
theorem d_getItemS {pins : List (Addr × Obj)} {σ : L2.St} {H : Hp} {s : Shared} {a b : Addr} {u : Value} {A : Around} {E : Value → Shared → Prop} {kvs : List (List Key × V)} {k : List Key} {v : V} {Q : Value → Shared → Prop} (hu : A.units + 1 < cLine) (I : Inv X pins σ H s) (e : Rd H a (.dT kvs)) (eb : SqT X.K H b (k.map kV)) (l : valV kvs k = some v) (ry : RelV (.ref b) u)
    (h : ∀ w' s', Inv X pins σ H s' → RelV v w' → Q w' s') : wpAny (model X.prog X.w) A (getItem (.ref a) u) Q E s := by
  cases (show u = Value.ref b from ry)
  obtain ⟨z, hd, xs, rel, dd⟩ := dt_rd I.hok e
  obtain ⟨w', hw, rw'⟩ := RelO.some_of (v := v) (o := (atKey xs k).map (·.2)) (by rw [← l]; exact rel.val k)
  obtain ⟨p, hp, hp2⟩ := Option.map_eq_some_iff.mp hw
  have hk : (tupleKind (mixKind X.prog X.w)).is s.heap k b := by
    obtain ⟨its, r, ⟨o, h1, h2, n, h3⟩, _⟩ := I.tuple eb
    exact ⟨o, its.toArray, n, h1, h2, h3, by simpa using items_are r⟩
  refine wpAny_getItem_heap (tupleKind_room_in1 hu) hk dd hp ?_
  rw [hp2]
  exact h w' _ (I.tok _) rw'
theorem d_inS {pins : List (Addr × Obj)} {σ : L2.St} {H : Hp} {s : Shared} {a b : Addr} {u : Value} {A : Around} {E : Value → Shared → Prop} {kvs : List (List Key × V)} {k : List Key} {Q : Value → Shared → Prop} (hu : A.units + 1 < cLine) (I : Inv X pins σ H s) (e : Rd H a (.dT kvs)) (eb : SqT X.K H b (k.map kV)) (ry : RelV (.ref b) u)
    (h : ∀ s', Inv X pins σ H s' → Q (.bool (valV kvs k).isSome) s') : wpAny (model X.prog X.w) A (compareOp .In u (.ref a)) Q E s := by
  cases (show u = Value.ref b from ry)
  obtain ⟨z, hd, xs, rel, dd⟩ := dt_rd I.hok e
  have hk : (tupleKind (mixKind X.prog X.w)).is s.heap k b := by
    obtain ⟨its, r, ⟨o, h1, h2, n, h3⟩, _⟩ := I.tuple eb
    exact ⟨o, its.toArray, n, h1, h2, h3, by simpa using items_are r⟩
  refine wpAny_in_heap (tupleKind_room_in1 hu) hk hd dd ?_
  have q := (rel.val k).isSome_eq
  rw [Option.isSome_map] at q
  rw [← q]
  exact h _ (I.tok _)
theorem d_notInS {pins : List (Addr × Obj)} {σ : L2.St} {H : Hp} {s : Shared} {a b : Addr} {u : Value} {A : Around} {E : Value → Shared → Prop} {kvs : List (List Key × V)} {k : List Key} {Q : Value → Shared → Prop} (hu : A.units + 1 < cLine) (I : Inv X pins σ H s) (e : Rd H a (.dT kvs)) (eb : SqT X.K H b (k.map kV)) (ry : RelV (.ref b) u)
    (h : ∀ s', Inv X pins σ H s' → Q (.bool (!(valV kvs k).isSome)) s') : wpAny (model X.prog X.w) A (compareOp .NotIn u (.ref a)) Q E s := by
  cases (show u = Value.ref b from ry)
  obtain ⟨z, hd, xs, rel, dd⟩ := dt_rd I.hok e
  have hk : (tupleKind (mixKind X.prog X.w)).is s.heap k b := by
    obtain ⟨its, r, ⟨o, h1, h2, n, h3⟩, _⟩ := I.tuple eb
    exact ⟨o, its.toArray, n, h1, h2, h3, by simpa using items_are r⟩
  refine wpAny_notIn_heap (tupleKind_room_in1 hu) hk hd dd ?_
  have q := (rel.val k).isSome_eq
  rw [Option.isSome_map] at q
  rw [← q]
  exact h _ (I.tok _)
theorem ix_dk (hu : X.A.units + 1 < cLine) : IxR X (fun x y H Q => ∃ a v, x = .ref a ∧ DGet H a y (some v) ∧ Q v H) := by
  intro value slice pins s σ H x y v u Q I rx ry h hs
  obtain ⟨a, z, rfl, g, q⟩ := h
  cases rx
  exact tail_any (dict_typeIs I g) PySem.F.slot_dict_getitem.lookup (d_getItem hu I g ry fun w' s3 I3 rw' => ⟨z, H, I3, rw', q⟩) hs
theorem ix_dt (hu : X.A.units + 1 < cLine) : IxR X (fun x y H Q => ∃ a b kvs k v, x = .ref a ∧ y = .ref b ∧ Rd H a (.dT kvs) ∧ SqT X.K H b (k.map kV) ∧ valV kvs k = some v ∧ Q v H) := by
  intro value slice pins s σ H x y v u Q I rx ry h hs
  obtain ⟨a, b, kvs, k, z, rfl, rfl, e, eb, l, q⟩ := h
  cases rx
  have ty : s.TypeIs (.ref a) "dict" := by
    obtain ⟨_, hd, xs, rel, dd⟩ := dt_rd I.hok e
    exact dd.typeIs
  exact tail_any ty PySem.F.slot_dict_getitem.lookup (d_getItemS hu I e eb l ry fun w' s3 I3 rw' => ⟨z, H, I3, rw', q⟩) hs
theorem IxR.imp {r r' : R2} (h : IxR X r) (k : ∀ x y H Q, r' x y H Q → r x y H Q) : IxR X r' := fun value slice pins s σ H x y v u Q I rx ry q hs => h value slice pins s σ H x y v u Q I rx ry (k x y H Q q) hs
theorem ix_all (hu : X.A.units + 1 < cLine) : IxR X (rD (wd X.K C) ixD) := by
  refine IxR.imp (IxR.or (ix_seq (X := X)) (IxR.or (ix_dk hu) (ix_dt hu))) fun x y H Q ⟨Z, p, d, e, f, e1, S, r1, r2, hg, q⟩ => ?_
  subst e1
  unfold ixD at hg
  split at hg
  · cases r2
    cases r1 with
    | lst h1 a1 =>
      obtain ⟨v, hv, rv⟩ := atI_rep a1 hg
      exact .inl (.inl ⟨_, _, _, v, rfl, rfl, h1.sq, hv, q _ _ (Same.refl _) rv⟩)
  · cases r2
    cases r1 with
    | tup h1 a1 =>
      obtain ⟨v, hv, rv⟩ := atI_rep a1 hg
      exact .inl (.inr (.inl ⟨_, _, _, v, rfl, rfl, h1.sq, hv, q _ _ (Same.refl _) rv⟩))
  · rename_i z i
    cases r2
    cases r1
    cases hc : atI z.cps.toList i with
    | none => rw [hc] at hg; cases hg
    | some c =>
      rw [hc] at hg
      simp only [Option.bind] at hg
      split at hg
      · rename_i hz
        cases hg
        exact .inl (.inr (.inr ⟨z, i, c, rfl, rfl, hz, hc, q _ _ (Same.refl _) (.str _)⟩))
      · cases hg
  · rename_i ks vs
    cases hk : D.key e with
    | none => rw [hk] at hg; cases hg
    | some k =>
      rw [hk] at hg
      simp only [Option.bind] at hg
      cases r1 with
      | dk h1 hn hz a1 =>
        obtain ⟨v, hv, rv⟩ := (val_rep a1 hz hg).2 f rfl
        exact .inr (.inl ⟨_, v, rfl, .inl ⟨_, k, h1, key_rep r2 hk, hv.symm⟩, q _ _ (Same.refl _) rv⟩)
  · rename_i ks vs ys
    cases hk : keysOf ys with
    | none => rw [hk] at hg; cases hg
    | some k =>
      rw [hk] at hg
      simp only [Option.bind] at hg
      cases r1 with
      | dt h1 hn hz a1 =>
        cases r2 with
        | tup h2 a2 =>
          obtain ⟨v, hv, rv⟩ := (val_rep a1 hz hg).2 f rfl
          have h2 := h2.sq
          rw [keys_rep a2 hk] at h2
          exact .inr (.inr ⟨_, _, _, k, v, rfl, rfl, h1, h2, hv, q _ _ (Same.refl _) rv⟩)
  · cases hg
theorem de_ix {a b : Expr} {pos : Pos} {fa fb : DM D} (hu : X.A.units + 1 < cLine) (ha : DE X C W a fa) (hb : DE X C W b fb) (hs : PlainIx b := by intro _ _; rfl) : DE X C W (.Subscript a b pos) (bin ixD fa fb) :=
  ⟨peImp (pe_ix (ix_all hu) ha.pe hb.pe hs) fun _ _ _ h => tOp_of h⟩
/-! k in d -/
def inK (neg : Bool) : D → D → Option D := fun x y => match y with
  | .dk ks vs => (x.key).map fun k => .bl (if neg then !(valOf ks vs k).isSome else (valOf ks vs k).isSome)
  | .dt ks vs => (match x with
    | .tup xs => (keysOf xs).map fun k => .bl (if neg then !(valOf ks vs k).isSome else (valOf ks vs k).isSome)
    | _ => none)
  | _ => none
theorem valSome {G : Wd} {rho : List Addr} {L : Addr → Prop} {H : Hp} {κ : Type} [DecidableEq κ] {k : κ} {ks : List κ} {ds : List D} {vs : List V} (r : RepL G rho L H ds vs) (hz : ks.length = vs.length) : (valV (ks.zip vs) k).isSome = (valOf ks ds k).isSome := by
  have h := val_rep (k := k) r hz rfl
  cases e : valOf ks ds k with
  | none => rw [(h.1 e)]; rfl
  | some d =>
    obtain ⟨v, hv, _⟩ := h.2 d e
    rw [hv]; rfl
theorem op_inK (hu : X.A.units + 1 < cLine) : OpR X (compareOp .In) (fun x y H Q => (∃ a o, y = .ref a ∧ DGet H a x o ∧ Q (.bl o.isSome) H) ∨ ∃ a b kvs k, y = .ref a ∧ x = .ref b ∧ Rd H a (.dT kvs) ∧ SqT X.K H b (k.map kV) ∧ Q (.bl (valV kvs k).isSome) H) := by
  intro pins s σ H x y v u Q I rx ry h
  rcases h with ⟨a, o, rfl, g, q⟩ | ⟨a, b, kvs, k, rfl, rfl, e, eb, q⟩
  · cases ry
    exact d_in hu I g rx fun s' I' => ⟨.bl _, H, I', rfl, q⟩
  · cases ry
    exact d_inS hu I e eb rx fun s' I' => ⟨.bl _, H, I', rfl, q⟩
theorem op_ninK (hu : X.A.units + 1 < cLine) : OpR X (compareOp .NotIn) (fun x y H Q => (∃ a o, y = .ref a ∧ DGet H a x o ∧ Q (.bl (!o.isSome)) H) ∨ ∃ a b kvs k, y = .ref a ∧ x = .ref b ∧ Rd H a (.dT kvs) ∧ SqT X.K H b (k.map kV) ∧ Q (.bl (!(valV kvs k).isSome)) H) := by
  intro pins s σ H x y v u Q I rx ry h
  rcases h with ⟨a, o, rfl, g, q⟩ | ⟨a, b, kvs, k, rfl, rfl, e, eb, q⟩
  · cases ry
    exact d_notIn hu I g rx fun s' I' => ⟨.bl _, H, I', rfl, q⟩
  · cases ry
    exact d_notInS hu I e eb rx fun s' I' => ⟨.bl _, H, I', rfl, q⟩
theorem inK_go {neg : Bool} {x y : V} {H : Hp} {Q : VK} (h : rD (wd X.K C) (inK neg) x y H Q) : (∃ a o, y = .ref a ∧ DGet H a x o ∧ Q (.bl (if neg then !o.isSome else o.isSome)) H) ∨ ∃ a b kvs k, y = .ref a ∧ x = .ref b ∧ Rd H a (.dT kvs) ∧ SqT X.K H b (k.map kV) ∧ Q (.bl (if neg then !(valV kvs k).isSome else (valV kvs k).isSome)) H := by
  obtain ⟨Z, p, d, e, f, e1, S, r1, r2, hg, q⟩ := h
  subst e1
  unfold inK at hg
  split at hg
  · rename_i ks vs
    cases hk : d.key with
    | none => rw [hk] at hg; cases hg
    | some k =>
      rw [hk] at hg
      simp only [Option.map_some] at hg
      cases hg
      cases r2 with
      | dk h1 hn hz a1 =>
        refine .inl ⟨_, _, rfl, .inl ⟨_, k, h1, key_rep r1 hk, rfl⟩, ?_⟩
        rw [valSome a1 hz]
        exact q _ _ (Same.refl _) (.bl _)
  · rename_i ks vs
    split at hg
    · rename_i xs
      cases hk : keysOf xs with
      | none => rw [hk] at hg; cases hg
      | some k =>
        rw [hk] at hg
        simp only [Option.map_some] at hg
        cases hg
        cases r2 with
        | dt h1 hn hz a1 =>
          cases r1 with
          | tup h2 a2 =>
            have h2 := h2.sq
            rw [keys_rep a2 hk] at h2
            refine .inr ⟨_, _, _, k, rfl, rfl, h1, h2, ?_⟩
            rw [valSome a1 hz]
            exact q _ _ (Same.refl _) (.bl _)
    · cases hg
  · cases hg
theorem o_inK (hu : X.A.units + 1 < cLine) : OpD X C (compareOp .In) (inK false) := OpR.imp (op_inK hu) fun _ _ _ _ h => inK_go h
theorem o_ninK (hu : X.A.units + 1 < cLine) : OpD X C (compareOp .NotIn) (inK true) := OpR.imp (op_ninK hu) fun _ _ _ _ h => inK_go h
/-- x in y, whatever y is -/
def inD : D → D → Option D := fun x y => match y with
  | .str _ => inS x y
  | .lst _ => inQ false x y
  | .tup _ => inQ false x y
  | _ => inK false x y
def ninD : D → D → Option D := fun x y => match y with
  | .str _ => ninS x y
  | .lst _ => inQ true x y
  | .tup _ => inQ true x y
  | _ => inK true x y
theorem OpD.or2 {op : Value → Value → Sem Value} {g g' g'' : D → D → Option D} (h : OpD X C op g) (h' : OpD X C op g') (k : ∀ x y d, g'' x y = some d → g x y = some d ∨ g' x y = some d) : OpD X C op g'' :=
  OpR.imp (OpR.or h h') fun x y H Q ⟨Z, p, d, e, f, e1, S, r1, r2, hg, q⟩ => by
    rcases k d e f hg with z | z
    · exact .inl ⟨Z, p, d, e, f, e1, S, r1, r2, z, q⟩
    · exact .inr ⟨Z, p, d, e, f, e1, S, r1, r2, z, q⟩
theorem o_in (hu : X.A.units + 66 < cLine) : OpD X C (compareOp .In) inD := by
  refine (o_inS.or2 ((o_inQ hu).or2 (o_inK (by omega)) (g'' := fun x y => match y with | .lst _ => inQ false x y | .tup _ => inQ false x y | _ => inK false x y) fun x y d h => ?_) fun x y d h => ?_)
  · cases y <;> first | exact .inl h | exact .inr h
  · unfold inD at h
    cases y <;> first | exact .inl h | exact .inr h
theorem o_nin (hu : X.A.units + 66 < cLine) : OpD X C (compareOp .NotIn) ninD := by
  refine (o_ninS.or2 ((o_ninQ hu).or2 (o_ninK (by omega)) (g'' := fun x y => match y with | .lst _ => inQ true x y | .tup _ => inQ true x y | _ => inK true x y) fun x y d h => ?_) fun x y d h => ?_)
  · cases y <;> first | exact .inl h | exact .inr h
  · unfold ninD at h
    cases y <;> first | exact .inl h | exact .inr h

/-! ### slices -/
def cutD {α : Type} (xs : List α) (lo hi : Option Int) : List α := (xs.drop (HT.sIx xs.length 0 lo)).take (HT.sIx xs.length xs.length hi - HT.sIx xs.length 0 lo)
theorem cut_whole {α : Type} {xs : List α} {lo hi : Option Int} (hw : HT.sIx xs.length 0 lo = 0 ∧ HT.sIx xs.length xs.length hi = xs.length) : cutD xs lo hi = xs := by
  unfold cutD
  rw [hw.1, hw.2, List.drop_zero, Nat.sub_zero, List.take_length]
def asI : D → Option Int
  | .int i => some i
  | _ => none
def noPart : DM (Option Int) := ret none
def partM (f : DM D) : DM (Option Int) := bnd f fun d => bnd (lift (asI d)) fun i => ret (some i)
structure DO (X : Cx) (C : CT) (W : WX) (e : Option Expr) (f : DM (Option Int)) : Prop where
  po : PO X e (tG (wd X.K C) W (fun _ => relB) f)
theorem do_none : DO X C W none noPart := ⟨⟨fun pins s σ H Q I ⟨Z, p, e1, e2, S, h⟩ => by
  subst e1 e2
  exact po_none.run pins s _ _ Q I (Fin.ok h S rfl)⟩⟩
theorem do_some {e : Expr} {f : DM D} (h : DE X C W e f) : DO X C W (some e) (partM f) := ⟨⟨fun pins s σ H Q I ⟨Z, p, e1, e2, S, h'⟩ => by
  subst e1 e2
  refine (po_some h.pe).run pins s _ _ Q I ⟨Z, p, rfl, rfl, S, (Fin.bnd h').mono fun x H1 ⟨q1, d1, e1, e2, S1, l1, r1, h1⟩ => ?_⟩
  unfold bnd lift at h1
  cases hg : asI d1 with
  | none => rw [hg] at h1; exact h1.elim
  | some i =>
    rw [hg] at h1
    cases d1 with
    | int j =>
      cases hg
      cases r1
      exact ⟨_, rfl, e2 ▸ Fin.ok h1 S1 rfl⟩
    | _ => cases hg⟩⟩
def sliceD : D → Option Int → Option Int → Option D := fun x lo hi => match x with
  | .lst xs => some (.lst (cutD xs lo hi))
  | .tup xs => some (.tup (cutD xs lo hi))
  | .str z => if z.length ≤ sizeLine then some (.str (cutS z lo hi)) else none
  | _ => none
def sliceM (f : DM D) (l h : DM (Option Int)) : DM D := bnd f fun x => bnd l fun lo => bnd h fun hi => lift (sliceD x lo hi)
theorem repL_cut {G : Wd} {rho : List Addr} {L : Addr → Prop} {H : Hp} {ds : List D} {vs : List V} {lo hi : Option Int} (r : RepL G rho L H ds vs) : RepL G rho L H (cutD ds lo hi) (cutV vs lo hi) := by
  unfold cutD cutV
  rw [RepL.length r]
  exact (r.drop _).take _
theorem SlR.imp {r r' : V → Option Int → Option Int → Hp → VK → Prop} (h : SlR X r) (k : ∀ x lo hi H Q, r' x lo hi H Q → r x lo hi H Q) : SlR X r' := fun pins s σ H x v vl vu lo hi sl Q I rx hs pl pu q => h pins s σ H x v vl vu lo hi sl Q I rx hs pl pu (k _ _ _ _ _ q)
def rSl (G : Wd) : V → Option Int → Option Int → Hp → VK → Prop := fun x lo hi H Q => ∃ (Z : Addr → Prop) (p : Pt) (d f : D), p.H = H ∧ SR G Z p ∧ RepP G Z p d x ∧ sliceD d lo hi = some f ∧ ∀ v H', Same H H' → RepP G Z { p with H := H' } f v → Q v H'
theorem sl_all : SlR X (rSl (wd X.K C)) := by
  refine SlR.imp (SlR.or (sl_list (X := X)) (SlR.or (sl_tupF (X := X)) (sl_str (X := X)))) fun x lo hi H Q ⟨Z, p, d, f, e1, S, r1, hg, q⟩ => ?_
  subst e1
  unfold sliceD at hg
  split at hg
  · cases hg
    cases r1 with
    | lst h1 a1 => exact .inl ⟨_, _, rfl, h1.sq, fun b nb => q _ _ (same_upd nb) (repLst S nb (repL_cut a1))⟩
  · cases hg
    cases r1 with
    | tup h1 a1 =>
      refine .inr (.inl ⟨_, _, rfl, h1.sq, fun hw => q _ _ (Same.refl _) (.tup h1 ?_), fun hw b o po nb => q _ _ (same_upd nb) (repTup S po nb (repL_cut a1))⟩)
      rw [cut_whole (by rw [RepL.length a1]; exact hw)]
      exact a1
  · split at hg
    · rename_i hz
      cases hg
      cases r1
      exact .inr (.inr ⟨_, rfl, hz, q _ _ (Same.refl _) (.str _)⟩)
    · cases hg
  · cases hg
theorem de_slice {e : Expr} {lo hi : Option Expr} {p2 pos : Pos} {f : DM D} {l h : DM (Option Int)} (he : DE X C W e f) (hl : DO X C W lo l) (hh : DO X C W hi h) : DE X C W (.Subscript e (.Slice lo hi none p2) pos) (sliceM f l h) := by
  refine ⟨peImp (pe_slice (sl_all (C := C)) he.pe hl.po hh.po) fun σ H Q h => ?_⟩
  obtain ⟨Z, p, rfl, rfl, S, h⟩ := h
  refine ⟨Z, p, rfl, rfl, S, (Fin.bnd h).mono fun x H1 ⟨q1, d1, e1, e2, S1, l1, r1, h1⟩ => ?_⟩
  refine ⟨Z, q1, e1, e2, S1, (Fin.bnd (rel := relB) h1).mono fun lo H2 ⟨q2, lo', e3, e4, S2, l2, r2, h2⟩ => ?_⟩
  cases r2
  refine ⟨Z, q2, e3.trans e1, e4, S2, (Fin.bnd (rel := relB) h2).mono fun hi H3 ⟨q3, hi', e5, e6, S3, l3, r3, h3⟩ => ?_⟩
  cases r3
  unfold lift at h3
  cases hg : sliceD d1 lo hi with
  | none => rw [hg] at h3; exact h3.elim
  | some f =>
    rw [hg] at h3
    exact ⟨Z, q3, d1, f, e6, S3, l3.rep (l2.rep r1), hg, fun v H' sm rv => Fin.more h3 S3 (e6 ▸ sm) rv⟩
end
end DP
set_option Elab.async false
set_option linter.all false
set_option maxRecDepth 100000
set_option maxHeartbeats 4000000
/-! DP9: builtins, walks. -/
namespace DP
open PySem PySem.Spec PyProof.Rows L2

/-! ### calls of builtins by values -/
def rN (G : Wd) (g : List D → Option D) : List V → Hp → VK → Prop := fun vs H Q => ∃ (Z : Addr → Prop) (p : Pt) (ds : List D) (f : D), p.H = H ∧ SR G Z p ∧ RepLP G Z p ds vs ∧ g ds = some f ∧ ∀ v H', Same H H' → RepP G Z { p with H := H' } f v → Q v H'
/-- what is made is new -/
def rNC (G : Wd) (g : List D → Option Cell) : List V → Hp → VK → Prop := fun vs H Q => ∃ (Z : Addr → Prop) (p : Pt) (ds : List D) (c : Cell), p.H = H ∧ SR G Z p ∧ RepLP G Z p ds vs ∧ g ds = some c ∧ ∀ a o, H a = none → CellO G Z p o c → Q (.ref a) (upd H a o)
abbrev CallD (X : Cx) (C : CT) (f : Value) (g : List D → Option D) : Prop := CallR X f (rN (wd X.K C) g)
abbrev CallC (X : Cx) (C : CT) (f : Value) (g : List D → Option Cell) : Prop := CallR X f (rNC (wd X.K C) g)
def appM (g : List D → Option D) (f : DM (List D)) : DM D := bnd f fun ds => lift (g ds)
def appC (g : List D → Option Cell) (f : DM (List D)) : DM Cell := bnd f fun ds => lift (g ds)
section
variable {X : Cx} {C : CT} {W : WX}
theorem CallR.imp {f : Value} {r r' : List V → Hp → VK → Prop} (h : CallR X f r) (k : ∀ vs H Q, r' vs H Q → r vs H Q) : CallR X f r' := fun pins s σ H vs us Q I r q => h pins s σ H vs us Q I r (k vs H Q q)
theorem CallR.or {f : Value} {r r' : List V → Hp → VK → Prop} (h : CallR X f r) (h' : CallR X f r') : CallR X f (fun vs H Q => r vs H Q ∨ r' vs H Q) := fun pins s σ H vs us Q I r q => by
  rcases q with q | q
  · exact h pins s σ H vs us Q I r q
  · exact h' pins s σ H vs us Q I r q
theorem tCB_of {g : List D → Option D} {f : DM (List D)} {σ : L2.St} {H : Hp} {Q : VK} (h : tD (wd X.K C) W (appM g f) σ H Q) : tCB (rN (wd X.K C) g) (tL (wd X.K C) W f) σ H Q := by
  obtain ⟨Z, p, rfl, rfl, S, h⟩ := h
  refine ⟨Z, p, rfl, rfl, S, (Fin.bnd h).mono fun x H1 ⟨q1, d1, e1, e2, S1, l1, r1, h1⟩ => ?_⟩
  unfold lift at h1
  cases hg : g d1 with
  | none => rw [hg] at h1; exact h1.elim
  | some f =>
    rw [hg] at h1
    exact ⟨Z, q1, d1, f, e2, S1, r1, hg, fun v H' sm rv => Fin.more h1 S1 (e2 ▸ sm) rv⟩
theorem tCBC_of {g : List D → Option Cell} {f : DM (List D)} {σ : L2.St} {H : Hp} {Q : VK} (h : tF (wd X.K C) W (appC g f) σ H Q) : tCB (rNC (wd X.K C) g) (tL (wd X.K C) W f) σ H Q := by
  obtain ⟨Z, p, rfl, rfl, S, h⟩ := h
  refine ⟨Z, p, rfl, rfl, S, (FinC.bnd h).mono fun x H1 ⟨q1, d1, e1, e2, S1, l1, r1, h1⟩ => ?_⟩
  subst e2
  unfold lift at h1
  cases hg : g d1 with
  | none => rw [hg] at h1; exact h1.elim
  | some c =>
    rw [hg] at h1
    exact ⟨Z, q1, d1, c, rfl, S1, r1, hg, fun a o na hc => FinC.ok h1 S1 na hc⟩
theorem de_callB {id : String} {g : List D → Option D} {x : Str} {p pos : Pos} {e : Expr} {es : List Expr} {f : DM (List D)} (hc : CallD X C (.builtin id) g) (hg : Gl X x) (hm : X.mg x = none) (hv : bootBuiltins x = some (.builtin id)) (ha : DA X C W (e :: es) f)
    (hn : x ≠ "__name__" := by decide) (hdb : (x == ("__debug__" : Str)) = false := by decide) (he : starEach (e :: es) X.env = (false, eval e X.env) :: starEach es X.env := by rfl) (hpl : (backTo pos (starEach es X.env)).any (·.1) = false := by rfl) : DE X C W (.Call (.Name x p) (e :: es) [] pos) (appM g f) :=
  ⟨peImp (pe_callB hc hg hm hv ha.pa hn hdb he hpl) fun _ _ _ h => tCB_of h⟩
theorem de_callTy {T : String} {g : List D → Option D} {x : Str} {p pos : Pos} {e : Expr} {es : List Expr} {f : DM (List D)} (hc : CallD X C (.type T) g) (hg : Gl X x) (hm : X.mg x = none) (hv : bootBuiltins x = some (.type T)) (ha : DA X C W (e :: es) f)
    (hn : x ≠ "__name__" := by decide) (hdb : (x == ("__debug__" : Str)) = false := by decide) (he : starEach (e :: es) X.env = (false, eval e X.env) :: starEach es X.env := by rfl) (hpl : (backTo pos (starEach es X.env)).any (·.1) = false := by rfl) : DE X C W (.Call (.Name x p) (e :: es) [] pos) (appM g f) :=
  ⟨peImp (pe_callTy hc hg hm hv ha.pa hn hdb he hpl) fun _ _ _ h => tCB_of h⟩
theorem fe_callB {id : String} {g : List D → Option Cell} {x : Str} {p pos : Pos} {e : Expr} {es : List Expr} {f : DM (List D)} (hc : CallC X C (.builtin id) g) (hg : Gl X x) (hm : X.mg x = none) (hv : bootBuiltins x = some (.builtin id)) (ha : DA X C W (e :: es) f)
    (hn : x ≠ "__name__" := by decide) (hdb : (x == ("__debug__" : Str)) = false := by decide) (he : starEach (e :: es) X.env = (false, eval e X.env) :: starEach es X.env := by rfl) (hpl : (backTo pos (starEach es X.env)).any (·.1) = false := by rfl) : FE X C W (.Call (.Name x p) (e :: es) [] pos) (appC g f) :=
  ⟨peImp (pe_callB hc hg hm hv ha.pa hn hdb he hpl) fun _ _ _ h => tCBC_of h⟩
theorem fe_callTy {T : String} {g : List D → Option Cell} {x : Str} {p pos : Pos} {e : Expr} {es : List Expr} {f : DM (List D)} (hc : CallC X C (.type T) g) (hg : Gl X x) (hm : X.mg x = none) (hv : bootBuiltins x = some (.type T)) (ha : DA X C W (e :: es) f)
    (hn : x ≠ "__name__" := by decide) (hdb : (x == ("__debug__" : Str)) = false := by decide) (he : starEach (e :: es) X.env = (false, eval e X.env) :: starEach es X.env := by rfl) (hpl : (backTo pos (starEach es X.env)).any (·.1) = false := by rfl) : FE X C W (.Call (.Name x p) (e :: es) [] pos) (appC g f) :=
  ⟨peImp (pe_callTy hc hg hm hv ha.pa hn hdb he hpl) fun _ _ _ h => tCBC_of h⟩

/-! ### shapes of arguments -/
section
variable {G : Wd} {rho : List Addr} {L : Addr → Prop} {H : Hp}
theorem repL_one {d : D} {vs : List V} (h : RepL G rho L H [d] vs) : ∃ v, vs = [v] ∧ Rep G rho L H d v := by
  cases h with
  | cons h1 h2 => cases h2; exact ⟨_, rfl, h1⟩
def intsOf : List D → Option (List Int)
  | [] => some []
  | .int i :: ds => (intsOf ds).map fun is => i :: is
  | _ => none
theorem ints_rep : ∀ {ds : List D} {vs : List V} {is : List Int}, RepL G rho L H ds vs → intsOf ds = some is → vs = is.map V.int
  | [], _, _, r, h => by cases r; cases h; rfl
  | d :: ds, _, _, r, h => by
    cases d with
    | int i =>
      cases r with
      | cons r1 r2 =>
        cases r1
        unfold intsOf at h
        cases e : intsOf ds with
        | none => rw [e] at h; cases h
        | some js => rw [e] at h; cases h; rw [ints_rep r2 e]; rfl
    | _ => exact nomatch (show (none : Option (List Int)) = some _ from h)
theorem rep_ints : ∀ {is : List Int}, RepL G rho L H (is.map D.int) (is.map V.int)
  | [] => .nil
  | i :: is => .cons (.int i) rep_ints
def strsOf : List D → Option (List Str)
  | [] => some []
  | .str x :: ds => (strsOf ds).map fun xs => x :: xs
  | _ => none
theorem strs_rep : ∀ {ds : List D} {vs : List V} {is : List Str}, RepL G rho L H ds vs → strsOf ds = some is → vs = is.map V.str
  | [], _, _, r, h => by cases r; cases h; rfl
  | d :: ds, _, _, r, h => by
    cases d with
    | str i =>
      cases r with
      | cons r1 r2 =>
        cases r1
        unfold strsOf at h
        cases e : strsOf ds with
        | none => rw [e] at h; cases h
        | some js => rw [e] at h; cases h; rw [strs_rep r2 e]; rfl
    | _ => exact nomatch (show (none : Option (List Str)) = some _ from h)
theorem rep_strs : ∀ {is : List Str}, RepL G rho L H (is.map D.str) (is.map V.str)
  | [] => .nil
  | i :: is => .cons (.str i) rep_strs
def boolsOf : List D → Option (List Bool)
  | [] => some []
  | .bl x :: ds => (boolsOf ds).map fun xs => x :: xs
  | _ => none
theorem bools_rep : ∀ {ds : List D} {vs : List V} {is : List Bool}, RepL G rho L H ds vs → boolsOf ds = some is → vs = is.map V.bl
  | [], _, _, r, h => by cases r; cases h; rfl
  | d :: ds, _, _, r, h => by
    cases d with
    | bl i =>
      cases r with
      | cons r1 r2 =>
        cases r1
        unfold boolsOf at h
        cases e : boolsOf ds with
        | none => rw [e] at h; cases h
        | some js => rw [e] at h; cases h; rw [bools_rep r2 e]; rfl
    | _ => exact nomatch (show (none : Option (List Bool)) = some _ from h)
end

/-! ### the builtins -/
def lenN : List D → Option D
  | [.lst xs] => some (.int xs.length)
  | [.tup xs] => some (.int xs.length)
  | [.str z] => if z.length ≤ sizeLine then some (.int z.length) else none
  | _ => none
theorem c_len : CallD X C (.builtin "len") lenN := by
  refine CallR.imp call_len fun vs H Q ⟨Z, p, ds, f, e1, S, r, hg, q⟩ => ?_
  subst e1
  unfold lenN at hg
  split at hg
  · cases hg
    obtain ⟨v, rfl, r1⟩ := repL_one r
    cases r1 with
    | lst h1 a1 => exact ⟨_, _, rfl, .inl ⟨_, h1.sq, (RepL.length a1)⟩, q _ _ (Same.refl _) (.int _)⟩
  · cases hg
    obtain ⟨v, rfl, r1⟩ := repL_one r
    cases r1 with
    | tup h1 a1 => exact ⟨_, _, rfl, .inr ⟨_, h1.sq, (RepL.length a1)⟩, q _ _ (Same.refl _) (.int _)⟩
  · split at hg
    · rename_i hz
      cases hg
      obtain ⟨v, rfl, r1⟩ := repL_one r
      cases r1
      exact ⟨_, _, rfl, ⟨hz, rfl⟩, q _ _ (Same.refl _) (.int _)⟩
    · cases hg
  · cases hg
def allN : List D → Option D
  | [.lst xs] => (boolsOf xs).map fun bs => .bl (bs.all id)
  | _ => none
def anyN : List D → Option D
  | [.lst xs] => (boolsOf xs).map fun bs => .bl (bs.any id)
  | _ => none
theorem c_all (hc : X.calm = true) : CallD X C (.builtin "all") allN := by
  refine CallR.imp (cr_all hc) fun vs H Q ⟨Z, p, ds, f, e1, S, r, hg, q⟩ => ?_
  subst e1
  unfold allN at hg
  split at hg
  · rename_i xs
    obtain ⟨v, rfl, r1⟩ := repL_one r
    cases e : boolsOf xs with
    | none => rw [e] at hg; cases hg
    | some bs =>
      rw [e] at hg
      cases hg
      cases r1 with
      | lst h1 a1 =>
        have h2 := h1.sq
        rw [bools_rep a1 e] at h2
        exact ⟨_, bs, rfl, h2, q _ _ (Same.refl _) (.bl _)⟩
  · cases hg
theorem c_any (hc : X.calm = true) : CallD X C (.builtin "any") anyN := by
  refine CallR.imp (cr_any hc) fun vs H Q ⟨Z, p, ds, f, e1, S, r, hg, q⟩ => ?_
  subst e1
  unfold anyN at hg
  split at hg
  · rename_i xs
    obtain ⟨v, rfl, r1⟩ := repL_one r
    cases e : boolsOf xs with
    | none => rw [e] at hg; cases hg
    | some bs =>
      rw [e] at hg
      cases hg
      cases r1 with
      | lst h1 a1 =>
        have h2 := h1.sq
        rw [bools_rep a1 e] at h2
        exact ⟨_, bs, rfl, h2, q _ _ (Same.refl _) (.bl _)⟩
  · cases hg
def sumN : List D → Option D
  | [.lst xs] => (intsOf xs).map fun is => .int is.sum
  | _ => none
theorem c_sum (hc : X.calm = true) : CallD X C (.builtin "sum") sumN := by
  refine CallR.imp (cr_sum hc) fun vs H Q ⟨Z, p, ds, f, e1, S, r, hg, q⟩ => ?_
  subst e1
  unfold sumN at hg
  split at hg
  · rename_i xs
    obtain ⟨v, rfl, r1⟩ := repL_one r
    cases e : intsOf xs with
    | none => rw [e] at hg; cases hg
    | some bs =>
      rw [e] at hg
      cases hg
      cases r1 with
      | lst h1 a1 =>
        have h2 := h1.sq
        rw [ints_rep a1 e] at h2
        exact ⟨_, bs, rfl, h2, q _ _ (Same.refl _) (.int _)⟩
  · cases hg
def maxI : List Int → Int
  | [] => 0
  | [x] => x
  | x :: xs => max x (maxI xs)
def minI : List Int → Int
  | [] => 0
  | [x] => x
  | x :: xs => min x (minI xs)
theorem maxI_ge : ∀ {xs : List Int} {y : Int}, y ∈ xs → y ≤ maxI xs
  | [x], y, h => by simp at h; subst h; exact Int.le_refl _
  | x :: z :: xs, y, h => by
    rcases List.mem_cons.mp h with h | h
    · subst h; exact Int.le_max_left _ _
    · exact Int.le_trans (maxI_ge h) (Int.le_max_right _ _)
theorem maxI_mem : ∀ {xs : List Int}, xs ≠ [] → maxI xs ∈ xs
  | [x], _ => by simp [maxI]
  | x :: z :: xs, _ => by
    have ih := maxI_mem (xs := z :: xs) (by simp)
    show max x (maxI (z :: xs)) ∈ _
    rcases Int.le_total x (maxI (z :: xs)) with h | h
    · rw [Int.max_eq_right h]; exact List.mem_cons_of_mem _ ih
    · rw [Int.max_eq_left h]; exact List.mem_cons_self
theorem minI_le : ∀ {xs : List Int} {y : Int}, y ∈ xs → minI xs ≤ y
  | [x], y, h => by simp at h; subst h; exact Int.le_refl _
  | x :: z :: xs, y, h => by
    rcases List.mem_cons.mp h with h | h
    · subst h; exact Int.min_le_left _ _
    · exact Int.le_trans (Int.min_le_right _ _) (minI_le h)
theorem minI_mem : ∀ {xs : List Int}, xs ≠ [] → minI xs ∈ xs
  | [x], _ => by simp [minI]
  | x :: z :: xs, _ => by
    have ih := minI_mem (xs := z :: xs) (by simp)
    show min x (minI (z :: xs)) ∈ _
    rcases Int.le_total x (minI (z :: xs)) with h | h
    · rw [Int.min_eq_left h]; exact List.mem_cons_self
    · rw [Int.min_eq_right h]; exact List.mem_cons_of_mem _ ih
def maxN : List D → Option D
  | [.lst xs] => (intsOf xs).bind fun is => if is = [] then none else some (.int (maxI is))
  | [.int i, .int j] => some (.int (if j > i then j else i))
  | _ => none
def minN : List D → Option D
  | [.lst xs] => (intsOf xs).bind fun is => if is = [] then none else some (.int (minI is))
  | [.int i, .int j] => some (.int (if j < i then j else i))
  | _ => none
theorem c_max (hc : X.calm = true) : CallD X C (.builtin "max") maxN := by
  refine CallR.imp (CallR.or (cr_max hc) (call_max2 hc)) fun vs H Q ⟨Z, p, ds, f, e1, S, r, hg, q⟩ => ?_
  subst e1
  unfold maxN at hg
  split at hg
  · rename_i xs
    obtain ⟨v, rfl, r1⟩ := repL_one r
    cases e : intsOf xs with
    | none => rw [e] at hg; cases hg
    | some bs =>
      rw [e] at hg
      simp only [Option.bind] at hg
      split at hg
      · cases hg
      · rename_i hne
        cases hg
        cases r1 with
        | lst h1 a1 =>
          have h2 := h1.sq
          rw [ints_rep a1 e] at h2
          refine .inl ⟨_, bs, rfl, h2, List.length_pos_iff.mpr hne, fun m hm hy => ?_⟩
          have em : m = maxI bs := Int.le_antisymm (maxI_ge hm) (hy _ (maxI_mem hne))
          rw [em]
          exact q _ _ (Same.refl _) (.int _)
  · cases hg
    obtain ⟨v, w, rfl, r1, r2⟩ := repL_two r
    cases r1
    cases r2
    exact .inr ⟨_, _, rfl, q _ _ (Same.refl _) (.int _)⟩
  · cases hg
theorem c_min (hc : X.calm = true) : CallD X C (.builtin "min") minN := by
  refine CallR.imp (CallR.or (cr_min hc) (call_min2 hc)) fun vs H Q ⟨Z, p, ds, f, e1, S, r, hg, q⟩ => ?_
  subst e1
  unfold minN at hg
  split at hg
  · rename_i xs
    obtain ⟨v, rfl, r1⟩ := repL_one r
    cases e : intsOf xs with
    | none => rw [e] at hg; cases hg
    | some bs =>
      rw [e] at hg
      simp only [Option.bind] at hg
      split at hg
      · cases hg
      · rename_i hne
        cases hg
        cases r1 with
        | lst h1 a1 =>
          have h2 := h1.sq
          rw [ints_rep a1 e] at h2
          refine .inl ⟨_, bs, rfl, h2, List.length_pos_iff.mpr hne, fun m hm hy => ?_⟩
          have em : m = minI bs := Int.le_antisymm (hy _ (minI_mem hne)) (minI_le hm)
          rw [em]
          exact q _ _ (Same.refl _) (.int _)
  · cases hg
    obtain ⟨v, w, rfl, r1, r2⟩ := repL_two r
    cases r1
    cases r2
    exact .inr ⟨_, _, rfl, q _ _ (Same.refl _) (.int _)⟩
  · cases hg
def absN : List D → Option D
  | [.int i] => some (.int (if i < 0 then -i else i))
  | _ => none
theorem c_abs : CallD X C (.builtin "abs") absN := by
  refine CallR.imp call_abs fun vs H Q ⟨Z, p, ds, f, e1, S, r, hg, q⟩ => ?_
  unfold absN at hg
  split at hg
  · cases hg
    obtain ⟨v, rfl, r1⟩ := repL_one r
    cases r1
    exact ⟨_, rfl, q _ _ (Same.refl _) (.int _)⟩
  · cases hg
def intN : List D → Option D
  | [.int i] => some (.int i)
  | [.bl b] => some (.int (if b then 1 else 0))
  | [.str z] => if z.length ≤ 640 then (PySem.intText? z).map .int else none
  | _ => none
theorem c_int : CallD X C (.type "int") intN := by
  refine CallR.imp (CallR.or call_int1 call_int_str) fun vs H Q ⟨Z, p, ds, f, e1, S, r, hg, q⟩ => ?_
  unfold intN at hg
  split at hg
  · cases hg
    obtain ⟨v, rfl, r1⟩ := repL_one r
    cases r1
    exact .inl (.inl ⟨_, rfl, q _ _ (Same.refl _) (.int _)⟩)
  · cases hg
    obtain ⟨v, rfl, r1⟩ := repL_one r
    cases r1
    exact .inl (.inr ⟨_, rfl, q _ _ (Same.refl _) (.int _)⟩)
  · rename_i z
    split at hg
    · rename_i hz
      obtain ⟨v, rfl, r1⟩ := repL_one r
      cases r1
      cases e : PySem.intText? z with
      | none => rw [e] at hg; cases hg
      | some n =>
        rw [e] at hg
        cases hg
        exact .inr ⟨z, n, rfl, e, hz, q _ _ (Same.refl _) (.int _)⟩
    · cases hg
  · cases hg
def divmodN : List D → Option D
  | [.int i, .int j] => if 0 < j ∧ j.natAbs < 1073741824 then some (.tup [.int (i / j), .int (i % j)]) else none
  | _ => none
theorem c_divmod : CallD X C (.builtin "divmod") divmodN := by
  refine CallR.imp call_divmodF fun vs H Q ⟨Z, p, ds, f, e1, S, r, hg, q⟩ => ?_
  subst e1
  unfold divmodN at hg
  split at hg
  · split at hg
    · rename_i hc
      cases hg
      obtain ⟨v, w, rfl, r1, r2⟩ := repL_two r
      cases r1
      cases r2
      exact ⟨_, _, rfl, ⟨hc.1, by have := hc.2; omega⟩, fun a o po na => q _ _ (same_upd na) (repTup S po na (.cons (.int _) (.cons (.int _) .nil)))⟩
    · cases hg
  · cases hg
/-! sorted, of texts -/
def leStr (x y : Str) : Bool := !decide (y.cps.toList < x.cps.toList)
def insStr (x : Str) : List Str → List Str
  | [] => [x]
  | y :: ys => if leStr x y then x :: y :: ys else y :: insStr x ys
def sortStr : List Str → List Str
  | [] => []
  | x :: xs => insStr x (sortStr xs)
/-! list, tuple -/
def tupleN : List D → Option D
  | [.lst xs] => some (.tup xs)
  | [.tup xs] => some (.tup xs)
  | _ => none
theorem c_tuple : CallD X C (.type "tuple") tupleN := by
  refine CallR.imp call_tupleF fun vs H Q ⟨Z, p, ds, f, e1, S, r, hg, q⟩ => ?_
  subst e1
  unfold tupleN at hg
  split at hg
  · cases hg
    obtain ⟨v, rfl, r1⟩ := repL_one r
    cases r1 with
    | lst h1 a1 => exact ⟨_, _, rfl, .inl ⟨h1.sq, fun a o po na => q _ _ (same_upd na) (repTup S po na a1)⟩⟩
  · cases hg
    obtain ⟨v, rfl, r1⟩ := repL_one r
    cases r1 with
    | tup h1 a1 => exact ⟨_, _, rfl, .inr ⟨h1.sq, q _ _ (Same.refl _) (.tup h1 a1)⟩⟩
  · cases hg
def listC : List D → Option Cell
  | [.lst xs] => some (.lst xs)
  | [.tup xs] => some (.lst xs)
  | _ => none
theorem c_list : CallC X C (.type "list") listC := by
  refine CallR.imp call_list_of fun vs H Q ⟨Z, p, ds, f, e1, S, r, hg, q⟩ => ?_
  subst e1
  unfold listC at hg
  split at hg
  · cases hg
    obtain ⟨v, rfl, r1⟩ := repL_one r
    cases r1 with
    | lst h1 a1 => exact ⟨_, _, rfl, .inl h1.sq, fun a na => q a _ na ⟨_, rfl, a1⟩⟩
  · cases hg
    obtain ⟨v, rfl, r1⟩ := repL_one r
    cases r1 with
    | tup h1 a1 => exact ⟨_, _, rfl, .inr h1.sq, fun a na => q a _ na ⟨_, rfl, a1⟩⟩
  · cases hg

/-! ### what is walked -/
def itemsOf : D → Option (List D)
  | .lst xs => some xs
  | .tup xs => some xs
  | .str z => some (z.cps.toList.map fun c => .str ⟨#[c]⟩)
  | _ => none
def iterM (f : DM D) : DM (List D) := bnd f fun d => lift (itemsOf d)
theorem items_at {G : Wd} {Z : Addr → Prop} {p : Pt} {ds : List D} {vs : List V} {Gd : Hp → Prop} {J : It} (r : RepLP G Z p ds vs) (wk : Walk J vs.length Gd (YAt vs)) (hG : ∀ q, Le p q → Gd q.H) : Iters G Z J ds p := by
  refine ⟨Gd, YAt vs, by rw [RepL.length r]; exact wk, hG, fun Z' q i x H' hz S l hi y => ?_⟩
  obtain ⟨rfl, hx⟩ := y
  obtain ⟨d, hd, rd⟩ := RepL.get r hx
  exact ⟨d, hd, Same.refl _, Rep.car (l.carZ hz) rd⟩
theorem di_iter {tg e : Expr} {f : DM D} (he : DE X C W e f) (hs : ∀ {t : TE}, PE X e t → PI X tg e (fun σ H R => t σ H fun x H1 => ∃ z, x = .str z ∧ R (Its z) H1)) : DI X C W tg e (iterM f) := by
  refine ⟨piImp (piOr (pi_list he.pe) (piOr (pi_tup he.pe) (hs he.pe))) fun σ H R h => ?_⟩
  obtain ⟨Z, p, rfl, rfl, S, h⟩ := h
  unfold iterM bnd lift at h
  cases ef : f p.st with
  | err x st =>
    rw [ef] at h
    exact .inl ⟨Z, p, rfl, rfl, S, by rw [ef]; exact h⟩
  | stuck => rw [ef] at h; exact h.elim
  | ok d st =>
    rw [ef] at h
    cases ei : itemsOf d with
    | none => simp only [ei] at h; exact h.elim
    | some ds =>
      simp only [ei] at h
      unfold itemsOf at ei
      split at ei
      · cases ei
        refine .inl ⟨Z, p, rfl, rfl, S, ?_⟩
        rw [ef]
        intro rho H1 v S1 l1 r1
        cases r1 with
        | lst h1 a1 => exact ⟨_, rfl, ⟨_, h1.sq⟩, h rho H1 _ S1 l1 (items_at a1 walk_list fun q l => by
            have hh := Rep.car (l.car Z) (Rep.lst h1 a1)
            cases hh with
            | lst h2 a2 =>
              rcases h1 with h1 | h1
              · refine .inl ?_
                rcases h1.1 with z | ⟨o, z⟩
                · exact .inl (l.keep _ _ z fun m => h1.2 (.inl m)).1
                · exact .inr ⟨o, (l.keep _ _ z fun m => h1.2 (.inl m)).1⟩
              · exact .inr h1)⟩
      · cases ei
        refine .inr (.inl ⟨Z, p, rfl, rfl, S, ?_⟩)
        rw [ef]
        intro rho H1 v S1 l1 r1
        cases r1 with
        | tup h1 a1 => exact ⟨_, rfl, ⟨_, h1.sq⟩, h rho H1 _ S1 l1 (items_at a1 walk_tup fun q l => by
            rcases h1 with z | z
            · exact .inl (l.tup _ _ z).rd
            · exact (show TupP X.K q.H _ _ from .inr z).sq)⟩
      · cases ei
        refine .inr (.inr ⟨Z, p, rfl, rfl, S, ?_⟩)
        rw [ef]
        intro rho H1 v S1 l1 r1
        cases r1
        rename_i z
        refine ⟨z, rfl, h rho H1 _ S1 l1 ⟨fun _ => True, _, (show Walk (Its z) (z.cps.toList.map fun c => D.str ⟨#[c]⟩).length (fun _ => True) (fun i H v H' => H' = H ∧ ∃ c, z.cps[i]? = some c ∧ v = .str ⟨#[c]⟩) by
          rw [List.length_map, Array.length_toList]; exact walk_str), fun _ _ => trivial, fun Z' q i x H' hz S2 l2 hi y => ?_⟩⟩
        obtain ⟨rfl, c, hc, rfl⟩ := y
        refine ⟨.str ⟨#[c]⟩, ?_, Same.refl _, .str _⟩
        rw [List.getElem?_map, Array.getElem?_toList, hc]
        rfl
      · cases ei
def rangeL (lo : Int) (n : Nat) : List D := (List.range n).map fun i => .int (lo + (i : Nat))
theorem range_iters {G : Wd} {Z : Addr → Prop} {p : Pt} {lo : Int} {n : Nat} : Iters G Z (Itr lo n) (rangeL lo n) p := by
  refine ⟨fun _ => True, YFn fun i => .int (lo + i), by unfold rangeL; rw [List.length_map, List.length_range]; exact walk_range, fun _ _ => trivial, fun Z' q i x H' hz S l hi y => ?_⟩
  obtain ⟨rfl, rfl⟩ := y
  refine ⟨.int (lo + (i : Nat)), ?_, Same.refl _, .int _⟩
  unfold rangeL at hi ⊢
  rw [List.length_map, List.length_range] at hi
  rw [List.getElem?_map, List.getElem?_range hi]
  rfl
def rangeOf : List D → Option (List D)
  | [.int j] => if j.natAbs < 4611686018427387904 then some (rangeL 0 j.toNat) else none
  | [.int i, .int j] => if i.natAbs < 4611686018427387904 ∧ j.natAbs < 4611686018427387904 then some (rangeL i (j - i).toNat) else none
  | _ => none
def rangeM (f : DM (List D)) : DM (List D) := bnd f fun ds => lift (rangeOf ds)
theorem di_range1 {tg a : Expr} {p pos : Pos} {f : DM (List D)} (hg : Gl X "range") (hm : X.mg "range" = none) (ha : DA X C W [a] f) (hl : ∀ s ds s', f s = .ok ds s' → ds.length = 1) (hs : starEach [a] X.env = [(false, eval a X.env)] := by rfl) : DI X C W tg (.Call (.Name "range" p) [a] [] pos) (rangeM f) := by
  refine ⟨piImp (pi_range1 hg hm ha.pa hs) fun σ H R h => ?_⟩
  obtain ⟨Z, p, rfl, rfl, S, h⟩ := h
  refine ⟨Z, p, rfl, rfl, S, ?_⟩
  unfold rangeM bnd lift at h
  cases ef : f p.st with
  | err x st => rw [ef] at h; exact h
  | stuck => rw [ef] at h; exact h
  | ok ds st =>
    rw [ef] at h
    have hl1 := hl _ _ _ ef
    intro rho H1 vs S1 l1 r1
    unfold rangeOf at h
    match ds, hl1, h, r1 with
    | [d], _, h, r1 =>
      obtain ⟨v, rfl, r2⟩ := repL_one r1
      cases d with
      | int j =>
        cases r2
        dsimp only at h
        by_cases hc : j.natAbs < 4611686018427387904
        · rw [if_pos hc] at h
          exact ⟨j, rfl, by omega, by omega, h rho H1 _ S1 l1 range_iters⟩
        · rw [if_neg hc] at h; exact h.elim
      | _ => exact h.elim
theorem di_range2 {tg a b : Expr} {p pos : Pos} {f : DM (List D)} (hg : Gl X "range") (hm : X.mg "range" = none) (ha : DA X C W [a, b] f) (hl : ∀ s ds s', f s = .ok ds s' → ds.length = 2) (hs : starEach [a, b] X.env = [(false, eval a X.env), (false, eval b X.env)] := by rfl) (hs2 : starEach [b] X.env = [(false, eval b X.env)] := by rfl) : DI X C W tg (.Call (.Name "range" p) [a, b] [] pos) (rangeM f) := by
  refine ⟨piImp (pi_range2 hg hm ha.pa hs hs2) fun σ H R h => ?_⟩
  obtain ⟨Z, p, rfl, rfl, S, h⟩ := h
  refine ⟨Z, p, rfl, rfl, S, ?_⟩
  unfold rangeM bnd lift at h
  cases ef : f p.st with
  | err x st => rw [ef] at h; exact h
  | stuck => rw [ef] at h; exact h
  | ok ds st =>
    rw [ef] at h
    have hl1 := hl _ _ _ ef
    intro rho H1 vs S1 l1 r1
    unfold rangeOf at h
    match ds, hl1, h, r1 with
    | [d, e], _, h, r1 =>
      obtain ⟨v, w, rfl, r2, r3⟩ := repL_two r1
      cases d with
      | int i =>
        cases e with
        | int j =>
          cases r2
          cases r3
          dsimp only at h
          by_cases hc : i.natAbs < 4611686018427387904 ∧ j.natAbs < 4611686018427387904
          · rw [if_pos hc] at h
            exact ⟨i, j, rfl, ⟨by omega, by omega, by omega, by omega⟩, h rho H1 _ S1 l1 range_iters⟩
          · rw [if_neg hc] at h; exact h.elim
        | _ => exact h.elim
      | _ => cases e <;> exact h.elim
end
end DP
set_option Elab.async false
set_option linter.all false
set_option maxRecDepth 100000
set_option maxHeartbeats 4000000
/-! DP10: places: what may be looked into and written. -/
namespace DP
open PySem PySem.Spec PyProof.Rows L2

/-- where a list, a dict is: a slot, or data (a reference into the heap's cells among it) -/
inductive Plc where
  | sl (i : Nat) | d (x : D)
def relP (G : Wd) (Z : Addr → Prop) : Pt → Plc → V → Prop
  | p, .sl i, v => p.sg[i]? = some (some v)
  | p, .d x, v => RepP G Z p x v
/-- data, looked through a reference -/
def deref (hp : List Cell) : D → Option D
  | .ref n => (hp[n]?).map Cell.frz
  | d => some d
def readP : Plc → DSt → Option D
  | .sl i, s => match s.sl[i]? with
    | some (.own c) => some c.frz
    | some (.val d) => deref s.hp d
    | _ => none
  | .d x, s => deref s.hp x
def cellP : Plc → DSt → Option Cell
  | .sl i, s => match s.sl[i]? with
    | some (.own c) => some c
    | some (.val (.ref n)) => s.hp[n]?
    | _ => none
  | .d (.ref n), s => s.hp[n]?
  | _, _ => none
def putP : Plc → Cell → DSt → DSt
  | .sl i, c, s => match s.sl[i]? with
    | some (.own _) => ⟨s.sl.set i (.own c), s.hp⟩
    | some (.val (.ref n)) => ⟨s.sl, s.hp.set n c⟩
    | _ => s
  | .d (.ref n), c, s => ⟨s.sl, s.hp.set n c⟩
  | _, _, s => s
/-- what can be seen at a value -/
inductive Look (G : Wd) (rho : List Addr) (L : Addr → Prop) (H : Hp) : D → V → Prop where
  | of {d : D} {v : V} : Rep G rho L H d v → Look G rho L H d v
  | lst {a : Addr} {vs : List V} {ds : List D} : H a = some (.lst vs) → RepL G rho L H ds vs → Look G rho L H (.lst ds) (.ref a)
  | dk {a : Addr} {ks : List Key} {vs : List V} {ds : List D} : H a = some (.dK (ks.zip vs)) → ks.length = vs.length → RepL G rho L H ds vs → Look G rho L H (.dk ks ds) (.ref a)
  | dt {a : Addr} {ks : List (List Key)} {vs : List V} {ds : List D} : H a = some (.dT (ks.zip vs)) → ks.length = vs.length → RepL G rho L H ds vs → Look G rho L H (.dt ks ds) (.ref a)
  | ins {a dx : Addr} {c : Nat} {vs : List V} {ds : List D} : H a = some (.ins (G.ca c) dx ((G.cf c).zip vs)) → RepL G rho L H ds vs → Look G rho L H (.ins c ds) (.ref a)
section
variable {G : Wd} {rho : List Addr} {L : Addr → Prop} {H : Hp}
theorem CellAt.look {a : Addr} {c : Cell} (h : CellAt G rho L H a c) : Look G rho L H c.frz (.ref a) := by
  cases c with
  | lst ds => obtain ⟨vs, e, r⟩ := h; exact .lst e r
  | dk ks ds => obtain ⟨vs, e, z, r⟩ := h; exact .dk e z r
  | dt ks ds => obtain ⟨vs, e, z, r⟩ := h; exact .dt e z r
  | ins k ds => obtain ⟨dx, vs, e, r⟩ := h; exact .ins e r
theorem Look.lst' {ds : List D} {v : V} (h : Look G rho L H (.lst ds) v) : ∃ a vs, v = .ref a ∧ SqL G.K H a vs ∧ RepL G rho L H ds vs := by
  cases h with
  | of h => cases h with
    | lst h1 a1 => exact ⟨_, _, rfl, h1.sq, a1⟩
  | lst e r => exact ⟨_, _, rfl, .inl (.inl e), r⟩
theorem Look.tup' {ds : List D} {v : V} (h : Look G rho L H (.tup ds) v) : ∃ a vs, v = .ref a ∧ SqT G.K H a vs ∧ RepL G rho L H ds vs := by
  cases h with
  | of h => cases h with
    | tup h1 a1 => exact ⟨_, _, rfl, h1.sq, a1⟩
theorem Look.tupP {ds : List D} {v : V} (h : Look G rho L H (.tup ds) v) : ∃ a vs, v = .ref a ∧ TupP G.K H a vs ∧ RepL G rho L H ds vs := by
  cases h with
  | of h => cases h with
    | tup h1 a1 => exact ⟨_, _, rfl, h1, a1⟩
theorem Look.str' {x : Str} {v : V} (h : Look G rho L H (.str x) v) : v = .str x := by
  cases h with
  | of h => cases h; rfl
theorem Look.dk' {ks : List Key} {ds : List D} {v : V} (h : Look G rho L H (.dk ks ds) v) : ∃ a vs, v = .ref a ∧ Rd H a (.dK (ks.zip vs)) ∧ ks.length = vs.length ∧ RepL G rho L H ds vs := by
  cases h with
  | of h => cases h with
    | dk h1 hn hz a1 => exact ⟨_, _, rfl, h1, hz, a1⟩
  | dk e z r => exact ⟨_, _, rfl, .inl e, z, r⟩
theorem Look.dt' {ks : List (List Key)} {ds : List D} {v : V} (h : Look G rho L H (.dt ks ds) v) : ∃ a vs, v = .ref a ∧ Rd H a (.dT (ks.zip vs)) ∧ ks.length = vs.length ∧ RepL G rho L H ds vs := by
  cases h with
  | of h => cases h with
    | dt h1 hn hz a1 => exact ⟨_, _, rfl, h1, hz, a1⟩
  | dt e z r => exact ⟨_, _, rfl, .inl e, z, r⟩
theorem Look.ins' {c : Nat} {ds : List D} {v : V} (h : Look G rho L H (.ins c ds) v) : ∃ a dx vs, v = .ref a ∧ H a = some (.ins (G.ca c) dx ((G.cf c).zip vs)) ∧ RepL G rho L H ds vs := by
  cases h with
  | of h => cases h with
    | ins h1 hn a1 => exact ⟨_, _, _, rfl, h1, a1⟩
  | ins e r => exact ⟨_, _, _, rfl, e, r⟩
end
abbrev LookP (G : Wd) (Z : Addr → Prop) (p : Pt) := Look G p.rho (p.L Z) p.H
section
variable {G : Wd} {Z : Addr → Prop} {p q : Pt}
theorem relP.later {P : Plc} {v : V} (h : relP G Z p P v) (l : Le p q) (e : q.sg = p.sg) : relP G Z q P v := by
  cases P with
  | sl i => exact (congrArg (·[i]?) e).trans h
  | d x => exact l.rep h
theorem SR.deref (S : SR G Z p) {x d : D} {v : V} (r : RepP G Z p x v) (h : DP.deref p.st.hp x = some d) : LookP G Z p d v := by
  unfold DP.deref at h
  split at h
  · rename_i n
    cases r with
    | ref hr =>
      cases e : p.st.hp[n]? with
      | none => rw [e] at h; cases h
      | some c =>
        rw [e] at h
        cases h
        obtain ⟨a, h1, h2, _⟩ := S.cell n c e
        rw [hr] at h1
        cases h1
        exact h2.look
  · cases h
    exact .of r
theorem SR.read (S : SR G Z p) {P : Plc} {d : D} {v : V} (r : relP G Z p P v) (h : readP P p.st = some d) : LookP G Z p d v := by
  cases P with
  | sl i =>
    have r' : p.sg[i]? = some (some v) := r
    simp only [readP] at h
    cases e : p.st.sl[i]? with
    | none => rw [e] at h; cases h
    | some x =>
      rw [e] at h
      cases x with
      | un => cases h
      | val x =>
        obtain ⟨w, hw, rw'⟩ := S.val i x e
        rw [r'] at hw
        cases hw
        exact S.deref rw' h
      | own c =>
        cases h
        obtain ⟨a, h1, h2, _⟩ := S.own i c e
        rw [r'] at h1
        cases h1
        exact h2.look
  | d x => exact S.deref r h
/-- what may be written: its cell, and what is so behind the write -/
theorem SR.place (S : SR G Z p) {P : Plc} {c : Cell} {v : V} (r : relP G Z p P v) (h : cellP P p.st = some c) : ∃ a, v = .ref a ∧ CellP G Z p a c ∧
    ∀ o c', CellO G Z p o c' → SR G Z ⟨p.rho, putP P c' p.st, p.sg, upd p.H a o⟩ ∧ Le p ⟨p.rho, putP P c' p.st, p.sg, upd p.H a o⟩ := by
  have ref : ∀ n, p.st.hp[n]? = some c → RepP G Z p (.ref n) v → ∃ a, v = .ref a ∧ CellP G Z p a c ∧ ∀ o c', CellO G Z p o c' → SR G Z ⟨p.rho, ⟨p.st.sl, p.st.hp.set n c'⟩, p.sg, upd p.H a o⟩ ∧ Le p ⟨p.rho, ⟨p.st.sl, p.st.hp.set n c'⟩, p.sg, upd p.H a o⟩ := fun n hn rr => by
    cases rr with
    | ref hr =>
      obtain ⟨a, h1, h2, _⟩ := S.cell n c hn
      rw [hr] at h1
      cases h1
      exact ⟨_, rfl, h2, fun o c' hc => S.writeCell hr hc⟩
  cases P with
  | sl i =>
    have r' : p.sg[i]? = some (some v) := r
    simp only [cellP] at h
    cases e : p.st.sl[i]? with
    | none => rw [e] at h; cases h
    | some x =>
      rw [e] at h
      simp only [putP, e]
      cases x with
      | un => cases h
      | val x =>
        cases x with
        | ref n =>
          obtain ⟨w, hw, rw'⟩ := S.val i _ e
          rw [r'] at hw
          cases hw
          exact ref n h rw'
        | _ => cases h
      | own c0 =>
        cases h
        obtain ⟨a, h1, h2, _⟩ := S.own i c e
        rw [r'] at h1
        cases h1
        exact ⟨a, rfl, h2, fun o c' hc => S.writeOwn e r' hc⟩
  | d x =>
    cases x with
    | ref n => exact ref n h r
    | _ => cases h
end

/-! ### places as expressions -/
abbrev tP (G : Wd) (W : WX) (f : DM Plc) : TE := tG G W (relP G) f
structure DL (X : Cx) (C : CT) (W : WX) (e : Expr) (f : DM Plc) : Prop where
  pe : PE X e (tP (wd X.K C) W f)
def slM (i : Nat) : DM Plc := fun s => match s.sl[i]? with
  | some (.val _) => .ok (.sl i) s
  | some (.own _) => .ok (.sl i) s
  | _ => .stuck
def datM (f : DM D) : DM Plc := bnd f fun x => ret (.d x)
section
variable {X : Cx} {C : CT} {W : WX}
theorem dl_var (i : Nat) {x : Str} {pos : Pos} (hN : X.N[i]? = some x) (hv : Vis X.env.scope x) (hd : (x == ("__debug__" : Str)) = false := by decide) (hcd : (x == ("__classdict__" : Str)) = false := by decide) : DL X C W (.Name x pos) (slM i) := by
  refine ⟨peImp (pe_var hN hv hd hcd) fun σ H Q h => ?_⟩
  obtain ⟨Z, p, rfl, rfl, S, h⟩ := h
  unfold slM at h
  cases e : p.st.sl[i]? with
  | none => rw [e] at h; exact h.elim
  | some x =>
    rw [e] at h
    cases x with
    | un => exact h.elim
    | val d =>
      obtain ⟨v, hv, r⟩ := S.val i d e
      exact ⟨v, hv, Fin.ok h S hv⟩
    | own c =>
      obtain ⟨a, hs, _⟩ := S.own i c e
      exact ⟨.ref a, hs, Fin.ok h S hs⟩
theorem DE.dl {e : Expr} {f : DM D} (h : DE X C W e f) : DL X C W e (datM f) := by
  refine ⟨peImp h.pe fun σ H Q h => ?_⟩
  obtain ⟨Z, p, rfl, rfl, S, h⟩ := h
  refine ⟨Z, p, rfl, rfl, S, (Fin.bnd h).mono fun b H1 ⟨q, a, e1, e2, S1, l1, r1, h1⟩ => ?_⟩
  subst e2
  exact Fin.ok h1 S1 r1

/-! ### looks -/
/-- an operator whose left side is looked into -/
def rLk (G : Wd) (g : D → D → Option D) : R2 := fun x y H Q => ∃ (Z : Addr → Prop) (p : Pt) (d e f : D), p.H = H ∧ SR G Z p ∧ LookP G Z p d x ∧ RepP G Z p e y ∧ g d e = some f ∧ ∀ v H', Same H H' → RepP G Z { p with H := H' } f v → Q v H'
def rLk2 (G : Wd) (g : D → D → Option D) : R2 := fun x y H Q => ∃ (Z : Addr → Prop) (p : Pt) (d e f : D), p.H = H ∧ SR G Z p ∧ RepP G Z p d x ∧ LookP G Z p e y ∧ g d e = some f ∧ ∀ v H', Same H H' → RepP G Z { p with H := H' } f v → Q v H'
def lookM (g : D → D → Option D) (fP : DM Plc) (fb : DM D) : DM D := bnd fP fun P => bnd fb fun y s => match (readP P s).bind fun d => g d y with
  | some f => .ok f s
  | none => .stuck
def lookM2 (g : D → D → Option D) (fa : DM D) (fP : DM Plc) : DM D := bnd fa fun x => bnd fP fun P s => match (readP P s).bind fun d => g x d with
  | some f => .ok f s
  | none => .stuck
theorem tOpL_of {g : D → D → Option D} {fP : DM Plc} {fb : DM D} {σ : L2.St} {H : Hp} {Q : VK} (h : tD (wd X.K C) W (lookM g fP fb) σ H Q) : tOp (rLk (wd X.K C) g) (tP (wd X.K C) W fP) (tD (wd X.K C) W fb) σ H Q := by
  obtain ⟨Z, p, rfl, rfl, S, h⟩ := h
  refine ⟨Z, p, rfl, rfl, S, (Fin.bnd h).mono fun x H1 ⟨q1, P, e1, e2, S1, l1, r1, h1⟩ => ?_⟩
  refine ⟨Z, q1, e1, e2, S1, (Fin.bnd h1).mono fun y H2 ⟨q2, d2, e3, e4, S2, l2, r2, h2⟩ => ?_⟩
  cases hr : readP P q2.st with
  | none => rw [hr] at h2; exact h2.elim
  | some d =>
    rw [hr] at h2
    simp only [Option.bind] at h2
    cases hg : g d d2 with
    | none => rw [hg] at h2; exact h2.elim
    | some f =>
      rw [hg] at h2
      exact ⟨Z, q2, d, d2, f, e4, S2, S2.read (r1.later l2 e3) hr, r2, hg, fun v H' sm rv => Fin.more h2 S2 (e4 ▸ sm) rv⟩
theorem tOpL2_of {g : D → D → Option D} {fP : DM Plc} {fa : DM D} {σ : L2.St} {H : Hp} {Q : VK} (h : tD (wd X.K C) W (lookM2 g fa fP) σ H Q) : tOp (rLk2 (wd X.K C) g) (tD (wd X.K C) W fa) (tP (wd X.K C) W fP) σ H Q := by
  obtain ⟨Z, p, rfl, rfl, S, h⟩ := h
  refine ⟨Z, p, rfl, rfl, S, (Fin.bnd h).mono fun x H1 ⟨q1, d1, e1, e2, S1, l1, r1, h1⟩ => ?_⟩
  refine ⟨Z, q1, e1, e2, S1, (Fin.bnd h1).mono fun y H2 ⟨q2, P, e3, e4, S2, l2, r2, h2⟩ => ?_⟩
  cases hr : readP P q2.st with
  | none => rw [hr] at h2; exact h2.elim
  | some d =>
    rw [hr] at h2
    simp only [Option.bind] at h2
    cases hg : g d1 d with
    | none => rw [hg] at h2; exact h2.elim
    | some f =>
      rw [hg] at h2
      exact ⟨Z, q2, d1, d, f, e4, S2, l2.rep r1, S2.read r2 hr, hg, fun v H' sm rv => Fin.more h2 S2 (e4 ▸ sm) rv⟩
theorem ix_look (hu : X.A.units + 1 < cLine) : IxR X (rLk (wd X.K C) ixD) := by
  refine IxR.imp (IxR.or (ix_seq (X := X)) (IxR.or (ix_dk hu) (ix_dt hu))) fun x y H Q ⟨Z, p, d, e, f, e1, S, r1, r2, hg, q⟩ => ?_
  subst e1
  unfold ixD at hg
  split at hg
  · cases r2
    obtain ⟨a, vs, rfl, h1, a1⟩ := r1.lst'
    obtain ⟨v, hv, rv⟩ := atI_rep a1 hg
    exact .inl (.inl ⟨_, _, _, v, rfl, rfl, h1, hv, q _ _ (Same.refl _) rv⟩)
  · cases r2
    obtain ⟨a, vs, rfl, h1, a1⟩ := r1.tup'
    obtain ⟨v, hv, rv⟩ := atI_rep a1 hg
    exact .inl (.inr (.inl ⟨_, _, _, v, rfl, rfl, h1, hv, q _ _ (Same.refl _) rv⟩))
  · rename_i z i
    cases r2
    obtain rfl := r1.str'
    cases hc : atI z.cps.toList i with
    | none => rw [hc] at hg; cases hg
    | some c =>
      rw [hc] at hg
      simp only [Option.bind] at hg
      split at hg
      · rename_i hz
        cases hg
        exact .inl (.inr (.inr ⟨z, i, c, rfl, rfl, hz, hc, q _ _ (Same.refl _) (.str _)⟩))
      · cases hg
  · rename_i ks vs
    cases hk : D.key e with
    | none => rw [hk] at hg; cases hg
    | some k =>
      rw [hk] at hg
      simp only [Option.bind] at hg
      obtain ⟨a, vs, rfl, h1, hz, a1⟩ := r1.dk'
      obtain ⟨v, hv, rv⟩ := (val_rep a1 hz hg).2 f rfl
      exact .inr (.inl ⟨_, v, rfl, .inl ⟨_, k, h1, key_rep r2 hk, hv.symm⟩, q _ _ (Same.refl _) rv⟩)
  · rename_i ks vs ys
    cases hk : keysOf ys with
    | none => rw [hk] at hg; cases hg
    | some k =>
      rw [hk] at hg
      simp only [Option.bind] at hg
      obtain ⟨a, vs, rfl, h1, hz, a1⟩ := r1.dt'
      obtain ⟨v, hv, rv⟩ := (val_rep a1 hz hg).2 f rfl
      cases r2 with
      | tup h2 a2 =>
        have h2 := h2.sq
        rw [keys_rep a2 hk] at h2
        exact .inr (.inr ⟨_, _, _, k, v, rfl, rfl, h1, h2, hv, q _ _ (Same.refl _) rv⟩)
  · cases hg
/-- a[i], whatever a is -/
theorem de_ixL {a b : Expr} {pos : Pos} {fP : DM Plc} {fb : DM D} (hu : X.A.units + 1 < cLine) (ha : DL X C W a fP) (hb : DE X C W b fb) (hs : PlainIx b := by intro _ _; rfl) : DE X C W (.Subscript a b pos) (lookM ixD fP fb) :=
  ⟨peImp (pe_ix (ix_look hu) ha.pe hb.pe hs) fun _ _ _ h => tOpL_of h⟩
end
end DP
set_option Elab.async false
set_option linter.all false
set_option maxRecDepth 100000
set_option maxHeartbeats 4000000
/-! DP11: looks at places (in, len); writes at places; new cells of the heap. -/
namespace DP
open PySem PySem.Spec PyProof.Rows L2

/-! ### x in a place -/
section
variable {X : Cx} {C : CT} {W : WX}
section
variable {K : PySem.W.Frag} {ca : Nat → Addr} {cf : Nat → List Str} {rho : List Addr} {L : Addr → Prop} {H : Hp}
theorem look_dpL {ds : List D} {v : V} {n : Nat} (h : ds.all (D.ok n) = true) (r : Look ⟨K, ca, cf⟩ rho L H (.lst ds) v) : Dp K H v (D.lst ds).pd := by
  obtain ⟨a, vs, rfl, h1, a1⟩ := r.lst'
  exact .lst h1 ((ok_dp n).2 ds vs h a1)
theorem look_dpT {ds : List D} {v : V} {n : Nat} (h : ds.all (D.ok n) = true) (r : Look ⟨K, ca, cf⟩ rho L H (.tup ds) v) : Dp K H v (D.tup ds).pd := by
  obtain ⟨a, vs, rfl, h1, a1⟩ := r.tup'
  exact .tup h1 ((ok_dp n).2 ds vs h a1)
end
theorem o_inQL (hu : X.A.units + 66 < cLine) : OpR X (compareOp .In) (rLk2 (wd X.K C) (inQ false)) := by
  refine OpR.imp (OpR.or (op_inD (X := X) (by omega)) (op_inT (X := X) hu)) fun x y H Q ⟨Z, p, d, e, f, e1, S, r1, r2, hg, q⟩ => ?_
  subst e1
  unfold inQ at hg
  split at hg
  · split at hg
    · rename_i hc
      rw [Bool.and_eq_true] at hc
      cases hg
      refine .inl ⟨d.pd, _, (ok_dp _).1 d x hc.1 r1, look_dpL hc.2 r2, ok_shaped hc.1 (by decide), ok_shaped (inQ_ok hc.2).1 (by decide), ?_⟩
      rw [← memD_pd hc.1 hc.2]
      exact q _ _ (Same.refl _) (.bl _)
    · cases hg
  · split at hg
    · rename_i hc
      rw [Bool.and_eq_true] at hc
      cases hg
      refine .inr ⟨d.pd, _, (ok_dp _).1 d x hc.1 r1, look_dpT hc.2 r2, ok_shaped hc.1 (by decide), ok_shaped (inQ_ok hc.2).2 (by decide), ?_⟩
      rw [← memD_pd hc.1 hc.2]
      exact q _ _ (Same.refl _) (.bl _)
    · cases hg
  · cases hg
theorem o_ninQL (hu : X.A.units + 66 < cLine) : OpR X (compareOp .NotIn) (rLk2 (wd X.K C) (inQ true)) := by
  refine OpR.imp (OpR.or (op_notInD (X := X) (by omega)) (op_ninT (X := X) hu)) fun x y H Q ⟨Z, p, d, e, f, e1, S, r1, r2, hg, q⟩ => ?_
  subst e1
  unfold inQ at hg
  split at hg
  · split at hg
    · rename_i hc
      rw [Bool.and_eq_true] at hc
      cases hg
      refine .inl ⟨d.pd, _, (ok_dp _).1 d x hc.1 r1, look_dpL hc.2 r2, ok_shaped hc.1 (by decide), ok_shaped (inQ_ok hc.2).1 (by decide), ?_⟩
      rw [← memD_pd hc.1 hc.2]
      exact q _ _ (Same.refl _) (.bl _)
    · cases hg
  · split at hg
    · rename_i hc
      rw [Bool.and_eq_true] at hc
      cases hg
      refine .inr ⟨d.pd, _, (ok_dp _).1 d x hc.1 r1, look_dpT hc.2 r2, ok_shaped hc.1 (by decide), ok_shaped (inQ_ok hc.2).2 (by decide), ?_⟩
      rw [← memD_pd hc.1 hc.2]
      exact q _ _ (Same.refl _) (.bl _)
    · cases hg
  · cases hg
theorem inKL_go {neg : Bool} {x y : V} {H : Hp} {Q : VK} (h : rLk2 (wd X.K C) (inK neg) x y H Q) : (∃ a o, y = .ref a ∧ DGet H a x o ∧ Q (.bl (if neg then !o.isSome else o.isSome)) H) ∨ ∃ a b kvs k, y = .ref a ∧ x = .ref b ∧ Rd H a (.dT kvs) ∧ SqT X.K H b (k.map kV) ∧ Q (.bl (if neg then !(valV kvs k).isSome else (valV kvs k).isSome)) H := by
  obtain ⟨Z, p, d, e, f, e1, S, r1, r2, hg, q⟩ := h
  subst e1
  unfold inK at hg
  split at hg
  · rename_i ks vs
    cases hk : d.key with
    | none => rw [hk] at hg; cases hg
    | some k =>
      rw [hk] at hg
      simp only [Option.map_some] at hg
      cases hg
      obtain ⟨a, vs', rfl, h1, hz, a1⟩ := r2.dk'
      refine .inl ⟨_, _, rfl, .inl ⟨_, k, h1, key_rep r1 hk, rfl⟩, ?_⟩
      rw [valSome a1 hz]
      exact q _ _ (Same.refl _) (.bl _)
  · rename_i ks vs
    split at hg
    · rename_i xs
      cases hk : keysOf xs with
      | none => rw [hk] at hg; cases hg
      | some k =>
        rw [hk] at hg
        simp only [Option.map_some] at hg
        cases hg
        obtain ⟨a, vs', rfl, h1, hz, a1⟩ := r2.dt'
        cases r1 with
        | tup h2 a2 =>
          have h2 := h2.sq
          rw [keys_rep a2 hk] at h2
          refine .inr ⟨_, _, _, k, rfl, rfl, h1, h2, ?_⟩
          rw [valSome a1 hz]
          exact q _ _ (Same.refl _) (.bl _)
    · cases hg
  · cases hg
theorem o_inSL : OpR X (compareOp .In) (rLk2 (wd X.K C) inS) := OpR.imp o_inS fun x y H Q ⟨Z, p, d, e, f, e1, S, r1, r2, hg, q⟩ => by
  refine ⟨Z, p, d, e, f, e1, S, r1, ?_, hg, q⟩
  unfold inS strOp at hg
  split at hg
  · rw [r2.str']; exact .str _
  · cases hg
theorem o_ninSL : OpR X (compareOp .NotIn) (rLk2 (wd X.K C) ninS) := OpR.imp o_ninS fun x y H Q ⟨Z, p, d, e, f, e1, S, r1, r2, hg, q⟩ => by
  refine ⟨Z, p, d, e, f, e1, S, r1, ?_, hg, q⟩
  unfold ninS strOp at hg
  split at hg
  · rw [r2.str']; exact .str _
  · cases hg
theorem o_inKL (hu : X.A.units + 1 < cLine) : OpR X (compareOp .In) (rLk2 (wd X.K C) (inK false)) := OpR.imp (op_inK hu) fun _ _ _ _ h => inKL_go h
theorem o_ninKL (hu : X.A.units + 1 < cLine) : OpR X (compareOp .NotIn) (rLk2 (wd X.K C) (inK true)) := OpR.imp (op_ninK hu) fun _ _ _ _ h => inKL_go h
theorem rLk2_or {op : Value → Value → Sem Value} {g g' g'' : D → D → Option D} (h : OpR X op (rLk2 (wd X.K C) g)) (h' : OpR X op (rLk2 (wd X.K C) g')) (k : ∀ x y d, g'' x y = some d → g x y = some d ∨ g' x y = some d) : OpR X op (rLk2 (wd X.K C) g'') :=
  OpR.imp (OpR.or h h') fun x y H Q ⟨Z, p, d, e, f, e1, S, r1, r2, hg, q⟩ => by
    rcases k d e f hg with z | z
    · exact .inl ⟨Z, p, d, e, f, e1, S, r1, r2, z, q⟩
    · exact .inr ⟨Z, p, d, e, f, e1, S, r1, r2, z, q⟩
theorem o_inL (hu : X.A.units + 66 < cLine) : OpR X (compareOp .In) (rLk2 (wd X.K C) inD) := by
  refine rLk2_or o_inSL (rLk2_or (o_inQL hu) (o_inKL (by omega)) (g'' := fun x y => match y with | .lst _ => inQ false x y | .tup _ => inQ false x y | _ => inK false x y) fun x y d h => ?_) fun x y d h => ?_
  · cases y <;> first | exact .inl h | exact .inr h
  · unfold inD at h
    cases y <;> first | exact .inl h | exact .inr h
theorem o_ninL (hu : X.A.units + 66 < cLine) : OpR X (compareOp .NotIn) (rLk2 (wd X.K C) ninD) := by
  refine rLk2_or o_ninSL (rLk2_or (o_ninQL hu) (o_ninKL (by omega)) (g'' := fun x y => match y with | .lst _ => inQ true x y | .tup _ => inQ true x y | _ => inK true x y) fun x y d h => ?_) fun x y d h => ?_
  · cases y <;> first | exact .inl h | exact .inr h
  · unfold ninD at h
    cases y <;> first | exact .inl h | exact .inr h
theorem de_inL {op : CmpOp} {a b : Expr} {pos : Pos} {g : D → D → Option D} {fa : DM D} {fP : DM Plc} (ho : OpR X (compareOp op) (rLk2 (wd X.K C) g)) (ha : DE X C W a fa) (hb : DL X C W b fP) (hm : behindInMarks op b = false) : DE X C W (.Compare a [op] [b] pos) (lookM2 g fa fP) :=
  ⟨peImp (pe_cmpR ho ha.pe hb.pe hm) fun _ _ _ h => tOpL2_of h⟩
theorem dt_inL {op : CmpOp} {a b : Expr} {pos : Pos} {g : D → D → Option D} {fa : DM D} {fP : DM Plc} (ho : OpR X (compareOp op) (rLk2 (wd X.K C) g)) (ha : DE X C W a fa) (hb : DL X C W b fP) (hm : behindInMarks op b = false) : DT X C W (.Compare a [op] [b] pos) (tst (lookM2 g fa fP)) := by
  refine ⟨ptImp (pt_cmpR ho ha.pe hb.pe hm) fun σ H Q h => ?_⟩
  have h' := tB_of h
  obtain ⟨Z, p, e1, e2, S, h'⟩ := h'
  exact tOpL2_of ⟨Z, p, e1, e2, S, h'.mono fun b H ⟨c, e, q⟩ => ⟨c, e, q⟩⟩
end

/-! ### a builtin with one place -/
def rLk1 (G : Wd) (g : D → Option D) : List V → Hp → VK → Prop := fun vs H Q => ∃ (Z : Addr → Prop) (p : Pt) (d f : D) (v : V), p.H = H ∧ SR G Z p ∧ vs = [v] ∧ LookP G Z p d v ∧ g d = some f ∧ ∀ v H', Same H H' → RepP G Z { p with H := H' } f v → Q v H'
def look1M (g : D → Option D) (fP : DM Plc) : DM D := bnd fP fun P s => match (readP P s).bind g with
  | some f => .ok f s
  | none => .stuck
section
variable {X : Cx} {C : CT} {W : WX}
theorem de_look1 {id : String} {g : D → Option D} {x : Str} {p pos : Pos} {e : Expr} {fP : DM Plc} (hc : CallR X (.builtin id) (rLk1 (wd X.K C) g)) (hg : Gl X x) (hm : X.mg x = none) (hv : bootBuiltins x = some (.builtin id)) (ha : DL X C W e fP)
    (hn : x ≠ "__name__" := by decide) (hdb : (x == ("__debug__" : Str)) = false := by decide) (he : starEach [e] X.env = (false, eval e X.env) :: starEach [] X.env := by rfl) (hpl : (backTo pos (starEach [] X.env)).any (·.1) = false := by rfl) : DE X C W (.Call (.Name x p) [e] [] pos) (look1M g fP) := by
  refine ⟨peImp (pe_callB hc hg hm hv (pa_cons ha.pe pa_nil he) hn hdb he hpl) fun σ H Q h => ?_⟩
  obtain ⟨Z, p, rfl, rfl, S, h⟩ := h
  refine ⟨Z, p, rfl, rfl, S, (Fin.bnd h).mono fun v H1 ⟨q1, P, e1, e2, S1, l1, r1, h1⟩ => ?_⟩
  cases hr : readP P q1.st with
  | none => rw [hr] at h1; exact h1.elim
  | some d =>
    rw [hr] at h1
    simp only [Option.bind] at h1
    cases hg : g d with
    | none => rw [hg] at h1; exact h1.elim
    | some f =>
      rw [hg] at h1
      exact ⟨Z, q1, d, f, v, e2, S1, rfl, S1.read r1 hr, hg, fun v H' sm rv => Fin.more h1 S1 (e2 ▸ sm) rv⟩
def lenD : D → Option D
  | .lst xs => some (.int xs.length)
  | .tup xs => some (.int xs.length)
  | .str z => if z.length ≤ sizeLine then some (.int z.length) else none
  | .dk ks _ => some (.int ks.length)
  | .dt ks _ => some (.int ks.length)
  | _ => none
theorem zipLen {α β : Type} {ks : List α} {vs : List β} (h : ks.length = vs.length) : (ks.zip vs).length = ks.length := by simp [h]
/-- len of a dict, its length in bounds -/
theorem call_lenK : CallR X (.builtin "len") (fun xs H Q => ∃ a kvs, xs = [V.ref a] ∧ Rd H a (.dK kvs) ∧ Q (.int kvs.length) H) := by
  intro pins s σ H xs us Q I r h
  obtain ⟨a, kvs, rfl, ha, q⟩ := h
  obtain ⟨u, rfl, ru⟩ := vals1 r
  cases ru
  exact d_len I ha fun t s' I' => ⟨.int _, H, I', ⟨_, rfl⟩, q⟩
theorem call_lenT : CallR X (.builtin "len") (fun xs H Q => ∃ a kvs, xs = [V.ref a] ∧ Rd H a (.dT kvs) ∧ Q (.int kvs.length) H) := by
  intro pins s σ H xs us Q I r h
  obtain ⟨a, kvs, rfl, ha, q⟩ := h
  obtain ⟨u, rfl, ru⟩ := vals1 r
  cases ru
  obtain ⟨hz, hd, xs, rel, dd⟩ := dt_rd I.hok ha
  have hl := rel.length
  have hn := line63
  refine call_len_dictH hd dd (by omega) ?_
  rw [← hl]
  exact ⟨.int _, H, I.tok _, ⟨_, rfl⟩, q⟩
theorem c_lenL : CallR X (.builtin "len") (rLk1 (wd X.K C) lenD) := by
  refine CallR.imp (CallR.or call_len (CallR.or call_lenK call_lenT)) fun vs H Q ⟨Z, p, d, f, v, e1, S, e2, r, hg, q⟩ => ?_
  subst e1 e2
  unfold lenD at hg
  split at hg
  · cases hg
    obtain ⟨a, vs, rfl, h1, a1⟩ := r.lst'
    exact .inl ⟨_, _, rfl, .inl ⟨_, h1, RepL.length a1⟩, q _ _ (Same.refl _) (.int _)⟩
  · cases hg
    obtain ⟨a, vs, rfl, h1, a1⟩ := r.tup'
    exact .inl ⟨_, _, rfl, .inr ⟨_, h1, RepL.length a1⟩, q _ _ (Same.refl _) (.int _)⟩
  · split at hg
    · rename_i hz
      cases hg
      obtain rfl := r.str'
      exact .inl ⟨_, _, rfl, ⟨hz, rfl⟩, q _ _ (Same.refl _) (.int _)⟩
    · cases hg
  · cases hg
    obtain ⟨a, vs, rfl, h1, hz, a1⟩ := r.dk'
    refine .inr (.inl ⟨_, _, rfl, h1, ?_⟩)
    rw [zipLen hz]
    exact q _ _ (Same.refl _) (.int _)
  · cases hg
    obtain ⟨a, vs, rfl, h1, hz, a1⟩ := r.dt'
    refine .inr (.inr ⟨_, _, rfl, h1, ?_⟩)
    rw [zipLen hz]
    exact q _ _ (Same.refl _) (.int _)
  · cases hg
end

theorem _root_.L2.MtR.imp' {X : Cx} {id : String} {r r' : V → List V → Hp → VK → Prop} (h : MtR X id r) (k : ∀ x xs H Q, r' x xs H Q → r x xs H Q) : MtR X id r' := fun pins s σ H x xs v us Q I rx rs q => h pins s σ H x xs v us Q I rx rs (k x xs H Q q)
/-! ### stores at places -/
def putKD (ks : List Key) (vs : List D) (k : Key) (d : D) : Cell :=
  if (ks.any fun j => decide (j = k)) = true then .dk ks ((ks.zip vs).map fun kv => if kv.1 = k then d else kv.2) else .dk (ks ++ [k]) (vs ++ [d])
def storeC : Cell → D → D → Option Cell
  | .lst xs, .int k, d => (ixN xs.length k).map fun j => .lst (xs.set j d)
  | .dk ks vs, y, d => y.key.bind fun k => if ks.length < sizeLine then some (putKD ks vs k d) else none
  | _, _, _ => none
section
variable {G : Wd} {Z : Addr → Prop} {p : Pt}
theorem zip_any {ks : List Key} : ∀ {vs : List V} {k : Key}, ks.length = vs.length → (ks.zip vs).any (fun kv => decide (kv.1 = k)) = ks.any fun j => decide (j = k) := by
  induction ks with
  | nil => intros; rfl
  | cons j ks ih =>
    intro vs k h
    cases vs with
    | nil => cases h
    | cons v vs => simp only [List.zip_cons_cons, List.any_cons]; rw [ih (by simpa using h)]
theorem put_rep {ks : List Key} {ds : List D} {vs : List V} {k : Key} {d : D} {v : V} (hz : ks.length = vs.length) (r : RepLP G Z p ds vs) (rd : RepP G Z p d v) : CellO G Z p (.dK (putK (ks.zip vs) k v)) (putKD ks ds k d) := by
  unfold putK putKD
  rw [zip_any hz]
  by_cases h : (ks.any fun j => decide (j = k)) = true
  · rw [if_pos h, if_pos h]
    have key : ∀ (ks : List Key) (ds : List D) (vs : List V), ks.length = vs.length → RepLP G Z p ds vs → ∃ ws, (ks.zip vs).map (fun kv => if kv.1 = k then (kv.1, v) else kv) = ks.zip ws ∧ ks.length = ws.length ∧ RepLP G Z p ((ks.zip ds).map fun kv => if kv.1 = k then d else kv.2) ws := by
      intro ks
      induction ks with
      | nil => intro ds vs h r; cases vs with
        | nil => cases r; exact ⟨[], rfl, rfl, .nil⟩
        | cons _ _ => cases h
      | cons j ks ih =>
        intro ds vs h r
        cases vs with
        | nil => cases h
        | cons w vs =>
          cases r with
          | cons r1 r2 =>
            obtain ⟨ws, e1, e2, e3⟩ := ih _ vs (by simpa using h) r2
            refine ⟨(if j = k then v else w) :: ws, ?_, by simp [e2], ?_⟩
            · simp only [List.zip_cons_cons, List.map_cons, e1]
              by_cases hj : j = k <;> simp [hj]
            · simp only [List.zip_cons_cons, List.map_cons]
              by_cases hj : j = k
              · simp only [hj, if_true]; exact .cons rd e3
              · simp only [hj, if_false]; exact .cons r1 e3
    obtain ⟨ws, e1, e2, e3⟩ := key ks ds vs hz r
    exact ⟨ws, congrArg HO.dK e1, e2, e3⟩
  · rw [if_neg h, if_neg h]
    refine ⟨vs ++ [v], ?_, by simp [hz], r.snoc rd⟩
    rw [List.zip_append hz]
    rfl
end
def storeP (P : Plc) (y d : D) (s : DSt) : Option DSt := (cellP P s).bind fun c => (storeC c y d).map fun c' => putP P c' s
/-- o[i] = .. -/
def ixG (fP : DM Plc) (fi : DM D) : DG := fun d s => match fP s with
  | .ok P s1 => (match fi s1 with
    | .ok y s2 => storeP P y d s2
    | _ => none)
  | _ => none
section
variable {X : Cx} {C : CT} {W : WX}
abbrev tsLD : TSet := fun o i v H Q => rSetL o i v H Q ∨ rSetD o i v H Q
theorem set_ld (hu : X.A.units + 1 < cLine) : PSet X tsLD := fun pins s σ H o i v ov iv u Q I ro ri rv h => by
  rcases h with h | h
  · exact set_list pins s σ H o i v ov iv u Q I ro ri rv h
  · exact set_dict hu pins s σ H o i v ov iv u Q I ro ri rv h
theorem store_go {G : Wd} {Z : Addr → Prop} {q : Pt} {P : Plc} {y d : D} {o i v : V} {st : DSt} {Q : Hp → Prop} (S : SR G Z q) (rP : relP G Z q P o) (ry : RepP G Z q y i) (rd : RepP G Z q d v) (h : storeP P y d q.st = some st)
    (k : ∀ H, SR G Z ⟨q.rho, st, q.sg, H⟩ → Le q ⟨q.rho, st, q.sg, H⟩ → Q H) : tsLD o i v q.H Q := by
  unfold storeP at h
  cases hc : cellP P q.st with
  | none => rw [hc] at h; cases h
  | some c =>
    rw [hc] at h
    simp only [Option.bind] at h
    cases hs : storeC c y d with
    | none => rw [hs] at h; cases h
    | some c' =>
      rw [hs] at h
      simp only [Option.map] at h
      cases h
      obtain ⟨a, rfl, ca, wr⟩ := S.place rP hc
      unfold storeC at hs
      split at hs
      · rename_i xs j
        cases ry
        obtain ⟨vs, e, r⟩ := ca
        cases hj : ixN xs.length j with
        | none => rw [hj] at hs; cases hs
        | some n =>
          rw [hj] at hs
          simp only [Option.map] at hs
          cases hs
          refine .inl ⟨a, vs, j, n, rfl, rfl, e, by rw [← RepL.length r]; exact hj, ?_⟩
          obtain ⟨S', l'⟩ := wr (.lst (vs.set n v)) (.lst (xs.set n d)) ⟨_, rfl, r.set n rd⟩
          exact k _ S' l'
      · rename_i ks vs
        cases hk : y.key with
        | none => rw [hk] at hs; cases hs
        | some kk =>
          rw [hk] at hs
          simp only [Option.bind] at hs
          split at hs
          · rename_i hz
            cases hs
            obtain ⟨ws, e, ez, r⟩ := ca
            obtain ⟨S', l'⟩ := wr _ _ (put_rep (k := kk) ez r rd)
            exact .inr ⟨a, _, rfl, .inl ⟨_, kk, e, key_rep ry hk, by rw [zipLen ez]; exact hz, rfl⟩, k _ S' l'⟩
          · cases hs
      · cases hs
theorem tg_ix {o i : Expr} {pos : Pos} {fP : DM Plc} {fi : DM D} (hu : X.A.units + 1 < cLine) (ho : DL X C (fun _ _ _ _ => False) o fP) (hi : DE X C (fun _ _ _ _ => False) i fi)
    (ha : ∀ v, assign (.Subscript o i pos) X.env v = (do
      let ov ← holding [v] (eval o X.env)
      let iv ← holding [v, ov] (eval i X.env)
      standAt pos
      holding [v, ov, iv] (setItem ov iv v)
      release [v, ov, iv] []) := by intro _; rfl) : TGd X C (.Subscript o i pos) (gSub (tP (wd X.K C) (fun _ _ _ _ => False) fP) (tD (wd X.K C) (fun _ _ _ _ => False) fi) tsLD) (ixG fP fi) [] := by
  refine ⟨pg_sub ho.pe hi.pe (set_ld hu) ha, fun Z p d v st Q S r e k => ?_⟩
  unfold ixG at e
  cases e1 : fP p.st with
  | err x s => rw [e1] at e; cases e
  | stuck => rw [e1] at e; cases e
  | ok P s1 =>
    rw [e1] at e
    dsimp only at e
    cases e2 : fi s1 with
    | err x s => rw [e2] at e; cases e
    | stuck => rw [e2] at e; cases e
    | ok y s2 =>
      rw [e2] at e
      dsimp only at e
      refine ⟨Z, p, rfl, rfl, S, ?_⟩
      rw [e1]
      intro rho1 H1 o S1 l1 r1
      refine ⟨Z, ⟨rho1, s1, p.sg, H1⟩, rfl, rfl, S1, ?_⟩
      show Fin _ _ _ _ _ (fi s1) _
      rw [e2]
      intro rho2 H2 i S2 l2 r2
      exact store_go S2 (r1.later l2 rfl) r2 ((l1.trans l2).rep r) e fun H S3 l3 => k _ _ _ S3 ((l1.trans l2).trans l3) rfl fun _ _ => rfl
/-! ### methods that write -/
def MtW (X : Cx) (C : CT) (id : String) (g : Cell → List D → Option (D × Cell)) : Prop :=
  MtR X id fun x xs H Q => ∃ (Z : Addr → Prop) (p : Pt) (P : Plc) (c : Cell) (ds : List D) (f : D) (c' : Cell), p.H = H ∧ SR (wd X.K C) Z p ∧ relP (wd X.K C) Z p P x ∧ cellP P p.st = some c ∧ RepLP (wd X.K C) Z p ds xs ∧ g c ds = some (f, c') ∧
    ∀ v H', SR (wd X.K C) Z ⟨p.rho, putP P c' p.st, p.sg, H'⟩ → Le p ⟨p.rho, putP P c' p.st, p.sg, H'⟩ → RepP (wd X.K C) Z ⟨p.rho, putP P c' p.st, p.sg, H'⟩ f v → Q v H'
def mutM (g : Cell → List D → Option (D × Cell)) (fP : DM Plc) (fs : DM (List D)) : DM D := bnd fP fun P => bnd fs fun ds s => match (cellP P s).bind fun c => g c ds with
  | some (f, c') => .ok f (putP P c' s)
  | none => .stuck
def appendN : Cell → List D → Option (D × Cell)
  | .lst xs, [d] => if xs.length < sizeLine then some (.non, .lst (xs ++ [d])) else none
  | _, _ => none
theorem m_append : MtW X C "list.append" appendN := by
  refine (show MtR X "list.append" rAppend from mt_append).imp' fun x xs H Q ⟨Z, p, P, c, ds, f, c', e1, S, rP, hc, r, hg, q⟩ => ?_
  subst e1
  unfold appendN at hg
  split at hg
  · split at hg
    · rename_i hz
      cases hg
      obtain ⟨v, rfl, r1⟩ := repL_one r
      obtain ⟨a, rfl, ca, wr⟩ := S.place rP hc
      obtain ⟨vs, e, rv⟩ := ca
      refine ⟨a, vs, v, rfl, rfl, e, by rw [← RepL.length rv]; exact hz, ?_⟩
      obtain ⟨S', l'⟩ := wr (.lst (vs ++ [v])) (.lst (_ ++ [_])) ⟨_, rfl, rv.snoc r1⟩
      exact q _ _ S' l' .non
    · cases hg
  · cases hg
def popN : Cell → List D → Option (D × Cell)
  | .lst xs, [] => (xs[xs.length - 1]?).map fun d => (d, .lst xs.dropLast)
  | .lst xs, [.int i] => if i.natAbs < 4611686018427387904 then (seqIndex? i xs.length).bind fun k => (xs[k]?).map fun d => (d, .lst (xs.eraseIdx k)) else none
  | _, _ => none
theorem repL_dropLast {G : Wd} {rho : List Addr} {L : Addr → Prop} {H : Hp} {ds : List D} {vs : List V} (r : RepL G rho L H ds vs) : RepL G rho L H ds.dropLast vs.dropLast := by
  rw [List.dropLast_eq_take, List.dropLast_eq_take, RepL.length r]
  exact r.take _
theorem m_pop : MtW X C "list.pop" popN := by
  refine (MtR.or (show MtR X "list.pop" rPop from mt_pop) (show MtR X "list.pop" rPopAt from mt_popAt)).imp' fun x xs H Q ⟨Z, p, P, c, ds, f, c', e1, S, rP, hc, r, hg, q⟩ => ?_
  subst e1
  unfold popN at hg
  split at hg
  · rename_i ys
    cases r
    obtain ⟨a, rfl, ca, wr⟩ := S.place rP hc
    obtain ⟨vs, e, rv⟩ := ca
    cases hd : ys[ys.length - 1]? with
    | none => rw [hd] at hg; cases hg
    | some d =>
      rw [hd] at hg
      simp only [Option.map] at hg
      cases hg
      obtain ⟨v, hv, r1⟩ := RepL.get' rv hd
      refine .inl ⟨a, vs, v, rfl, rfl, e, by rw [← RepL.length rv]; exact hv, ?_⟩
      obtain ⟨S', l'⟩ := wr (.lst vs.dropLast) (.lst ys.dropLast) ⟨_, rfl, repL_dropLast rv⟩
      exact q _ _ S' l' (l'.rep r1)
  · rename_i ys i
    split at hg
    · rename_i hi
      obtain ⟨v0, rfl, r0⟩ := repL_one r
      cases r0
      obtain ⟨a, rfl, ca, wr⟩ := S.place rP hc
      obtain ⟨vs, e, rv⟩ := ca
      cases hk : seqIndex? i ys.length with
      | none => rw [hk] at hg; cases hg
      | some k =>
        rw [hk] at hg
        simp only [Option.bind] at hg
        cases hd : ys[k]? with
        | none => rw [hd] at hg; cases hg
        | some d =>
          rw [hd] at hg
          simp only [Option.map] at hg
          cases hg
          obtain ⟨v, hv, r1⟩ := RepL.get' rv hd
          refine .inr ⟨a, vs, i, k, v, rfl, rfl, e, (by omega), (by omega), by rw [← RepL.length rv]; exact hk, hv, ?_⟩
          obtain ⟨S', l'⟩ := wr (.lst (vs.eraseIdx k)) (.lst (ys.eraseIdx k)) ⟨_, rfl, rv.eraseIdx k⟩
          exact q _ _ S' l' (l'.rep r1)
    · cases hg
  · cases hg
end
end DP
set_option Elab.async false
set_option linter.all false
set_option maxRecDepth 100000
set_option maxHeartbeats 4000000
/-! DP12: enumerate over texts, lists, tuples. -/
namespace DP
open PySem PySem.Spec PyProof.Rows L2

theorem meets_enum1 {v : Value} {o : Obj} {HH : Heap → Prop} (B : Begins v o HH) :
    Meets (Builtin.«enumerate.__new__» ⟨[.type "enumerate", v], []⟩) (fun _ R s => HH s.heap ∧
      R (.ok (.ret (.ref (s.heap.push o).objs.size))) { s with heap := (s.heap.push o).push { cls := .type "enumerate", data := .fields #[.none, .bool false, .ref s.heap.objs.size, rawInt 0, .none, .none] } }) :=
  .of_wp fun prog w A R s h => by
    obtain ⟨hp, g, d, tk, os⟩ := s; obtain ⟨h1, h⟩ := h
    have hsub := sub_enumerate
    have q1 : ∀ {A' : Around} {E : Value → Shared → Prop} {Q : Value → Shared → Prop}, Q (.ref hp.objs.size) ⟨hp.push o, g, d, tk, os⟩ → wpAny (model prog w) A' (pyIter v) Q E ⟨hp, g, d, tk, os⟩ :=
      fun q => B.iter prog w _ _ ⟨hp, g, d, tk, os⟩ _ h1 q
    wp_walk using q1
    refine wpAny_stack_any fun st => wpAny_pure ?_
    split
    · rename_i c _ _ _ _ _
      cases (c == Value.type "enumerate")
      · wp_walk using q1
        exact ⟨_, rfl, h⟩
      · wp_walk using q1
        exact ⟨_, rfl, h⟩
    · wp_walk using q1
      exact ⟨_, rfl, h⟩
theorem call_enum1 {prog : Program} {w : World} {A : Around} {E : Value → Shared → Prop} {s : Shared} {v : Value} {o : Obj} {HH : Heap → Prop} {Q : Value → Shared → Prop} (B : Begins v o HH) (h1 : HH s.heap)
    (h : ∀ h', IsEnum h' (s.heap.objs.size + 1) s.heap.objs.size 0 .none → h'.get? s.heap.objs.size = some o → (∀ b o, s.heap.get? b = some o → h'.get? b = some o) → Q (.ref (s.heap.objs.size + 1)) { s with heap := h' }) :
    wpAny (model prog w) A (call (.type "enumerate") [v]) Q E s := by
  refine callType_new F.called_enumerate (by decide) (F.typeCall_enumerate_1 _) (F.newCall_enumerate_1 _) (fun obj => F.args_object_init_2 obj _) F.entry_enumerate_new (meets_enum1 B) ⟨h1, ?_⟩
  have hz : (s.heap.push o).objs.size = s.heap.objs.size + 1 := Heap.size_push ..
  show _ ∧ _
  rw [hz]
  have he : IsEnum ((s.heap.push o).push { cls := .type "enumerate", data := .fields #[.none, .bool false, .ref s.heap.objs.size, rawInt 0, .none, .none] }) (s.heap.objs.size + 1) s.heap.objs.size 0 .none := by
    have e := Heap.get?_push_size (s.heap.push o) (o := { cls := .type "enumerate", data := .fields #[.none, .bool false, .ref s.heap.objs.size, rawInt 0, .none, .none] }) rfl
    rw [hz] at e; exact e
  exact ⟨⟨_, he, rfl⟩, h _ he (Heap.get?_push_of_some _ (Heap.get?_push_size _ B.free)) fun b o x => Heap.get?_push_of_some _ (Heap.get?_push_of_some _ x)⟩

/-! ### what an iterator draws from -/
structure ESrc (P : Program) (w : World) (K : PySem.W.Frag) (it : Addr) (Gd : Hp → Prop) (xs : List V) (St : Nat → Heap → Prop) : Prop where
  obj : ∀ i h, St i h → ∃ o, h.get? it = some o ∧ ∀ v, o.data ≠ .cell v
  keep : ∀ i h h', St i h → (∀ o, h.get? it = some o → h'.get? it = some o) → St i h'
  draws : ∀ (X : Cx), X.prog = P → X.w = w → X.K = K → X.calm = true → ∀ (pins : List (Addr × Obj)) (s : Shared) (σ : L2.St) (H : Hp) (i : Nat), Inv X pins σ H s → Gd H → St i s.heap →
    ∃ (fp : List Addr) (Pv : Nat → Value → Prop) (St' : Nat → Heap → Prop), Draws P w X.A.in1 it fp xs.length Pv St' ∧ (∀ i v, Pv i v → ∃ x, xs[i]? = some x ∧ RelV x v) ∧
      (∀ b ∈ fp, b = it ∨ ∃ o, s.heap.get? b = some o ∧ o.cls ≠ .type "enumerate") ∧ St' i s.heap ∧ ∀ i h, St' i h → St i h
/-- a value that is walked through, as it stands -/
def SeqV (K : PySem.W.Frag) (H : Hp) (x : V) (xs : List V) (Gd : Hp → Prop) : Prop :=
  (∃ z : Str, x = .str z ∧ xs = z.cps.toList.map (fun c => V.str ⟨#[c]⟩) ∧ Gd = fun _ => True) ∨ (∃ a, x = .ref a ∧ SqL K H a xs ∧ Gd = fun H => SqL K H a xs) ∨ ∃ a, x = .ref a ∧ SqT K H a xs ∧ Gd = fun H => SqT K H a xs
theorem esrc_str {P : Program} {w : World} {K : PySem.W.Frag} (it : Addr) (x : Str) (t : Tok) : ESrc P w K it (fun _ => True) (x.cps.toList.map fun c => V.str ⟨#[c]⟩) (fun i h => h.IsStrIter it (strIterType x) x t i) where
  obj := fun i h st => by
    obtain ⟨o, e, c, d⟩ := st
    exact ⟨o, e, fun v z => by rw [d] at z; cases z⟩
  keep := fun i h h' st k => let ⟨o, ho, r⟩ := st; ⟨o, k o ho, r⟩
  draws := by
    intro X hP hw hK hc pins s σ H i I _ hst
    subst hP hw hK
    have hl : (x.cps.toList.map fun c => V.str ⟨#[c]⟩).length = x.cps.size := by simp
    rw [hl]
    refine ⟨[it], _, (fun i h => h.IsStrIter it (strIterType x) x t i), (?_ : Draws X.prog X.w X.A.in1 it [it] x.cps.size (fun i v => ∃ c u, x.cps[i]? = some c ∧ v = .str ⟨#[c]⟩ u) _), fun i v ⟨c, u, h1, h2⟩ => ⟨.str ⟨#[c]⟩, by rw [List.getElem?_map, Array.getElem?_toList, h1]; rfl, ⟨u, h2⟩⟩, fun b hb => .inl (by simpa using hb), hst, fun i h q => q⟩
    have hh : X.A.in1.handled = none := I.ok.hd hc
    cases ha : x.cps.all (· < 128)
    · have e1 : strIterType x = "str_iterator" := by simp [strIterType, ha]
      rw [e1]
      exact Draws.strWide hh it x t
    · have e1 : strIterType x = "str_ascii_iterator" := by simp [strIterType, ha]
      rw [e1]
      exact Draws.strAscii hh it x t
theorem esrc_list {P : Program} {w : World} {K : PySem.W.Frag} (it a : Addr) (xs : List V) : ESrc P w K it (fun H => SqL K H a xs) xs (fun i h => h.IsListIter it a i) where
  obj := fun i h st => by
    obtain ⟨o, e, c, d⟩ := st
    exact ⟨o, e, fun v z => by rw [d] at z; cases z⟩
  keep := fun i h h' st k => st.at k
  draws := by
    intro X hP hw hK hc pins s σ H i I hq hst
    subst hP hw hK
    obtain ⟨its, rv, pl, hz⟩ := I.list hq
    have hL := pl.isList
    obtain ⟨o, eo, co, _⟩ := id hL
    obtain ⟨oi, ei, ci, _⟩ := id hst
    have ne : a ≠ it := fun e => by
      rw [e, ei] at eo
      cases eo
      rw [ci] at co
      simp at co
    refine ⟨[it, a], (fun i v => its.toArray[i]? = some v), (fun i h => h.IsListIter it a i ∧ h.IsList a its.toArray), (by rw [rv.length, ← List.size_toArray]; exact Draws.list (show X.A.in1.handled = none from I.ok.hd hc) it a ne its.toArray), fun i v e => ?_, fun b hb => ?_, ⟨hst, hL⟩, fun i h q => q.1⟩
    · have e' : its[i]? = some v := by simpa using e
      have hi := (List.getElem?_eq_some_iff.mp e').1
      rw [← rv.length] at hi
      obtain ⟨u, hu, ru⟩ := rv.get (List.getElem?_eq_getElem hi)
      rw [e'] at hu
      cases hu
      exact ⟨_, List.getElem?_eq_getElem hi, ru⟩
    · rcases List.mem_cons.mp hb with e | hb
      · exact .inl e
      · refine .inr ⟨o, by rw [List.mem_singleton.mp hb]; exact eo, fun z => ?_⟩
        rw [z] at co
        simp at co
theorem esrc_tup {P : Program} {w : World} {K : PySem.W.Frag} (it a : Addr) (xs : List V) : ESrc P w K it (fun H => SqT K H a xs) xs (fun i h => h.IsTupleIter it a i) where
  obj := fun i h st => by
    obtain ⟨o, e, c, d⟩ := st
    exact ⟨o, e, fun v z => by rw [d] at z; cases z⟩
  keep := fun i h h' st k => let ⟨o, ho, r⟩ := st; ⟨o, k o ho, r⟩
  draws := by
    intro X hP hw hK hc pins s σ H i I hq hst
    subst hP hw hK
    obtain ⟨its, rv, pl, hz⟩ := I.tuple hq
    obtain ⟨o, eo, co, _⟩ := id pl
    obtain ⟨oi, ei, ci, _⟩ := id hst
    have ne : a ≠ it := fun e => by
      rw [e, ei] at eo
      cases eo
      rw [ci] at co
      simp at co
    refine ⟨[it, a], (fun i v => its.toArray[i]? = some v), (fun i h => h.IsTupleIter it a i ∧ h.IsTuple a its.toArray), (by rw [rv.length, ← List.size_toArray]; exact Draws.tuple (show X.A.in1.handled = none from I.ok.hd hc) it a ne its.toArray), fun i v e => ?_, fun b hb => ?_, ⟨hst, pl⟩, fun i h q => q.1⟩
    · have e' : its[i]? = some v := by simpa using e
      have hi := (List.getElem?_eq_some_iff.mp e').1
      rw [← rv.length] at hi
      obtain ⟨u, hu, ru⟩ := rv.get (List.getElem?_eq_getElem hi)
      rw [e'] at hu
      cases hu
      exact ⟨_, List.getElem?_eq_getElem hi, ru⟩
    · rcases List.mem_cons.mp hb with e | hb
      · exact .inl e
      · refine .inr ⟨o, by rw [List.mem_singleton.mp hb]; exact eo, fun z => ?_⟩
        rw [z] at co
        simp at co
/-- where such a value's iterator begins -/
theorem SeqV.begin {X : Cx} {pins : List (Addr × Obj)} {σ : L2.St} {H : Hp} {s : Shared} {x : V} {xs : List V} {Gd : Hp → Prop} {v : Value} (h : SeqV X.K H x xs Gd) (I : L2.Inv X pins σ H s) (r : RelV x v) :
    ∃ (o : Obj) (HH : Heap → Prop), Begins v o HH ∧ HH s.heap ∧ ∀ it, ∃ St : Nat → Heap → Prop, ESrc X.prog X.w X.K it Gd xs St ∧ ∀ h', h'.get? it = some o → St 0 h' := by
  rcases h with ⟨z, rfl, rfl, rfl⟩ | ⟨a, rfl, hq, rfl⟩ | ⟨a, rfl, hq, rfl⟩
  · obtain ⟨t, rfl⟩ := r
    exact ⟨_, _, begins_text z t, trivial, fun it => ⟨_, esrc_str it z t, fun h' e => ⟨_, e, rfl, rfl⟩⟩⟩
  · cases r
    obtain ⟨its, rv, pl, hz⟩ := I.list hq
    exact ⟨_, _, begins_list a its.toArray, pl.isList, fun it => ⟨_, esrc_list it a xs, fun h' e => ⟨_, e, rfl, rfl⟩⟩⟩
  · cases r
    obtain ⟨its, rv, pl, hz⟩ := I.tuple hq
    exact ⟨_, _, begins_tuple a its.toArray, pl, fun it => ⟨_, esrc_tup it a xs, fun h' e => ⟨_, e, rfl, rfl⟩⟩⟩
def Itn (xs : List V) (Gd : Hp → Prop) : It :=
  ⟨fun i H => i < xs.length ∧ Gd H, fun i H v H' => ∃ T x o, v = .ref T ∧ H T = none ∧ Plain o ∧ H' = upd H T (.frz o (.tup [.int (i : Nat), x])) ∧ xs[i]? = some x, fun i H => i = xs.length ∧ Gd H⟩
theorem turn_esrc {P : Program} {w : World} {K : PySem.W.Frag} {elts : List Expr} {kk : Nat} {tpos : Pos} {it : Addr} {Gd : Hp → Prop} {xs : List V} {St : Nat → Heap → Prop} (E0 : ESrc P w K it Gd xs St) (e : Addr) :
    Turn P w K (.Tuple elts kk tpos) (Itn xs Gd) [e, it] e (fun i h => (∃ old, IsEnum h e it ((i : Nat) : Int) old) ∧ St i h ∧ e ≠ it) where
  mem := by simp
  obj := fun i h st b hb => by
    obtain ⟨⟨old, he⟩, hs, _⟩ := st
    have e' : b = e ∨ b = it := by simpa using hb
    rcases e' with z | z
    · rw [z]; exact ⟨_, he, fun v q => nomatch q⟩
    · rw [z]; exact E0.obj i h hs
  keep := fun i h h' st k => let ⟨⟨old, he⟩, hs, hne⟩ := st; ⟨⟨old, k e (by simp) _ he⟩, E0.keep i h h' hs (fun o q => k it (by simp) o q), hne⟩
  item := by
    intro X hP hw hK hc i pins s σ H E I hf st hg
    obtain ⟨⟨old, he⟩, hs, hne⟩ := st
    obtain ⟨fp, Pv, St', D, hv, hfp, hto, hfro⟩ := E0.draws X hP hw hK hc pins s σ H i I hg.2 hs
    subst hP hw hK
    have hel : e < s.heap.objs.size := Heap.lt_size he
    have hil : it < s.heap.objs.size := by obtain ⟨_, q, _⟩ := E0.obj i s.heap hs; exact Heap.lt_size q
    have hef : e ∉ fp := fun z => by
      rcases hfp e z with q | ⟨o, q, c⟩
      · exact hne q
      · rw [he] at q
        cases q
        exact c rfl
    refine wpAny_pyNext_enum_itemD D he hto hg.1 hne hef fun u h' tk hP2 ho hit' hT hsz hk => ?_
    obtain ⟨x, hx, ru⟩ := hv i u hP2
    refine ⟨_, rfl, wpAny_letOwnedTupleGo_enum (s := { s with heap := h', toks := tk + 1 }) ho fun h'' he' sb => ?_⟩
    have hT2 : h''.get? s.heap.objs.size = some { cls := .type "tuple", data := .seq #[.int i tk, u] } := (sb.2 _ (Nat.ne_of_gt hel)).trans hT
    have new : ObjOk X.prog X.w (upd H s.heap.objs.size (.frz { cls := .type "tuple", data := .seq #[.int i tk, u] } (.tup [.int (i : Nat), x]))) h'' s.heap.objs.size (.frz { cls := .type "tuple", data := .seq #[.int i tk, u] } (.tup [.int (i : Nat), x])) :=
      ⟨hT2, by show 2 ≤ sizeLine; decide, [.int i tk, u], .cons ⟨_, rfl⟩ (.cons ru .nil), ⟨_, hT2, rfl, _, rfl⟩⟩
    have I1 : Inv X pins σ (upd H s.heap.objs.size (.frz { cls := .type "tuple", data := .seq #[.int i tk, u] } (.tup [.int (i : Nat), x]))) { s with heap := h'', toks := tk + 1 } :=
      I.turnedNew (ch := [e, it]) (fun b ob hb q => (sb.2 b (fun z => hb (by simp [z]))).trans (hk b ob (fun z => hb (by simp [z])) (fun z => hb (by simp [z])) q)) hf (Nat.le_refl _) new
    refine ⟨.ref s.heap.objs.size, _, I1, rfl, ⟨_, x, _, rfl, I.hok.fresh (Nat.le_refl _), ⟨rfl, rfl⟩, rfl, hx⟩, ⟨⟨u, ?_⟩, E0.keep _ _ _ (hfro _ _ hit') fun o q => (sb.2 it (Ne.symm hne)).trans q, hne⟩, fun b hb => ?_⟩
    · have e1 : ((i + 1 : Nat) : Int) = (i : Int) + 1 := by omega
      rw [e1]; exact he'
    · have hb' : b < s.heap.objs.size := by
        have e' : b = e ∨ b = it := by simpa using hb
        rcases e' with z | z
        · rw [z]; exact hel
        · rw [z]; exact hil
      rw [upd_ne (Nat.ne_of_lt hb')]
      exact (hf b hb).1
  done := by
    intro X hP hw hK hc i pins s σ H E I hf st hg
    obtain ⟨⟨old, he⟩, hs, hne⟩ := st
    obtain ⟨fp, Pv, St', D, hv, hfp, hto, hfro⟩ := E0.draws X hP hw hK hc pins s σ H i I hg.2 hs
    subst hP hw hK
    obtain ⟨f0, f1, f2, f3, f4, f5⟩ := hf it (by simp)
    rw [hg.1] at hto
    exact wpAny_pyNext_enum_endD D he hto fun h' eb => ⟨rfl, I.turned (t' := s.toks) (fun b o hb q => eb b o hb q) f0 f1 f3 f4 f5⟩
  self := fun A i s Q E st h => let ⟨⟨_, he⟩, _⟩ := st; wpAny_pyIter_enum he h
/-- enumerate(x) -/
theorem pi_enumV {X : Cx} {e : Expr} {ta : TA} {p pos tpos : Pos} {elts : List Expr} {kk : Nat} (hg : Gl X "enumerate") (hm : X.mg "enumerate" = none) (ha : PA X [e] ta) (hs : starEach [e] X.env = [(false, eval e X.env)] := by rfl) :
    PI X (.Tuple elts kk tpos) (.Call (.Name "enumerate" p) [e] [] pos) (fun σ H R => ta σ H fun vs H1 => ∃ x xs Gd, vs = [x] ∧ SeqV X.K H1 x xs Gd ∧ R (Itn xs Gd) H1) := by
  refine ⟨fun pins s σ H R I h => ?_⟩
  refine Call_ (ld_blt I hg hm boot_enumerate (PyProof.Rows.callWith_type1 (thn (ha.run pos pins s σ H _ I h) fun us s1 ⟨vs, H1, I1, r1, q1⟩ => ?_) hs rfl))
  obtain ⟨x, xs, Gd, ex, hq, q⟩ := q1
  subst ex
  cases r1 with
  | cons r rr =>
    cases rr
    obtain ⟨o, HH, B, hh, hst⟩ := hq.begin I1 r
    obtain ⟨St, E0, st0⟩ := hst s1.heap.objs.size
    refine call_enum1 B hh fun h' he hit hk => wpAny_pyIter_enum he ?_
    have I2 : L2.Inv X pins σ H1 { s1 with heap := h' } := I1.kept (t' := s1.toks) hk
    refine ⟨s1.heap.objs.size + 1, [s1.heap.objs.size + 1, s1.heap.objs.size], _, _, H1, rfl, I2, turn_esrc E0 (s1.heap.objs.size + 1), ⟨⟨.none, he⟩, st0 _ hit, Nat.succ_ne_self _⟩, fun b hb => ?_, q⟩
    have e' : b = s1.heap.objs.size + 1 ∨ b = s1.heap.objs.size := by simpa using hb
    have hle : s1.heap.objs.size ≤ b := by
      rcases e' with z | z
      · rw [z]; exact Nat.le_add_right _ _
      · rw [z]; exact Nat.le_refl _
    exact I1.fpOk hle (I1.hok.fresh hle)
def enumL (k : Nat) : List D → List D
  | [] => []
  | d :: ds => .tup [.int (k : Nat), d] :: enumL (k + 1) ds
theorem enumL_get : ∀ {ds : List D} {k i : Nat}, (enumL k ds)[i]? = (ds[i]?).map fun d => .tup [.int ((k + i : Nat)), d]
  | [], _, _ => by simp [enumL]
  | d :: ds, k, 0 => by simp [enumL]
  | d :: ds, k, i + 1 => by
    simp only [enumL, List.getElem?_cons_succ]
    rw [enumL_get]
    have : k + 1 + i = k + (i + 1) := by omega
    rw [this]
theorem enumL_length : ∀ {ds : List D} {k : Nat}, (enumL k ds).length = ds.length
  | [], _ => rfl
  | d :: ds, k => by simp [enumL, enumL_length]
section
variable {X : Cx} {C : CT} {W : WX} {G : Wd}
theorem rep_signs {rho : List Addr} {L : Addr → Prop} {H : Hp} : ∀ cs : List Nat, RepL G rho L H (cs.map fun c => D.str ⟨#[c]⟩) (cs.map fun c => V.str ⟨#[c]⟩)
  | [] => .nil
  | c :: cs => .cons (.str _) (rep_signs cs)
/-- data that is walked through: it stays as it is -/
theorem seq_of {Z : Addr → Prop} {p : Pt} {d : D} {ds : List D} {v : V} (r : RepP (wd X.K C) Z p d v) (h : itemsOf d = some ds) : ∃ xs Gd, SeqV X.K p.H v xs Gd ∧ RepLP (wd X.K C) Z p ds xs ∧ ∀ q, Le p q → Gd q.H := by
  unfold itemsOf at h
  split at h
  · cases h
    cases r with
    | lst h1 a1 =>
      refine ⟨_, _, .inr (.inl ⟨_, rfl, h1.sq, rfl⟩), a1, fun q l => ?_⟩
      rcases h1 with h1 | h1
      · rcases h1.1 with z | ⟨o, z⟩
        · exact .inl (.inl (l.keep _ _ z fun m => h1.2 (.inl m)).1)
        · exact .inl (.inr ⟨o, (l.keep _ _ z fun m => h1.2 (.inl m)).1⟩)
      · exact .inr h1
  · cases h
    cases r with
    | tup h1 a1 =>
      refine ⟨_, _, .inr (.inr ⟨_, rfl, h1.sq, rfl⟩), a1, fun q l => ?_⟩
      rcases h1 with z | z
      · exact .inl (l.tup _ _ z).rd
      · exact (show TupP X.K q.H _ _ from .inr z).sq
  · cases h
    cases r
    rename_i z
    exact ⟨_, _, .inl ⟨z, rfl, rfl, rfl⟩, rep_signs _, fun _ _ => trivial⟩
  · cases h
theorem enum_iters {Z : Addr → Prop} {p : Pt} {ds : List D} {vs : List V} {Gd : Hp → Prop} (r : RepLP G Z p ds vs) (hG : ∀ q, Le p q → Gd q.H) : Iters G Z (Itn vs Gd) (enumL 0 ds) p := by
  refine ⟨Gd, (Itn vs Gd).yld, ⟨fun i H hi g => ⟨by rw [enumL_length, RepL.length r] at hi; exact hi, g⟩, fun H g => ⟨by rw [enumL_length, RepL.length r], g⟩, fun i H x H' _ _ y => y⟩, hG, fun Z' q i x H' hz S l hi y => ?_⟩
  obtain ⟨T, x', o, rfl, hT, po, rfl, hx⟩ := y
  obtain ⟨d, hd, rd⟩ := RepL.get r hx
  exact ⟨.tup [.int (i : Nat), d], by rw [enumL_get, hd]; simp, same_upd hT, repTup S po hT (.cons (.int _) (.cons (Rep.car (l.carZ hz) rd) .nil))⟩
/-- the items of an enumerate -/
def enumOf : List D → Option (List D)
  | [d] => (itemsOf d).map (enumL 0)
  | _ => none
def enumM (f : DM (List D)) : DM (List D) := bnd f fun ds => lift (enumOf ds)
theorem di_enum {e : Expr} {p pos tpos : Pos} {elts : List Expr} {kk : Nat} {f : DM (List D)} (hg : Gl X "enumerate") (hm : X.mg "enumerate" = none) (ha : DA X C W [e] f) (hs : starEach [e] X.env = [(false, eval e X.env)] := by rfl) :
    DI X C W (.Tuple elts kk tpos) (.Call (.Name "enumerate" p) [e] [] pos) (enumM f) := by
  refine ⟨piImp (pi_enumV hg hm ha.pa hs) fun σ H R h => ?_⟩
  obtain ⟨Z, p, rfl, rfl, S, h⟩ := h
  unfold enumM bnd lift at h
  refine ⟨Z, p, rfl, rfl, S, ?_⟩
  cases ef : f p.st with
  | err x st => rw [ef] at h; exact h
  | stuck => rw [ef] at h; exact h
  | ok ds st =>
    rw [ef] at h
    match ds, h with
    | [], h => exact h.elim
    | _ :: _ :: _, h => exact h.elim
    | [d], h =>
      cases ei : itemsOf d with
      | none => simp only [enumOf, ei] at h; exact h.elim
      | some es =>
        simp only [enumOf, ei] at h
        intro rho H1 v S1 l1 r1
        obtain ⟨v, rfl, r2⟩ := repL_one r1
        obtain ⟨xs, Gd, hq, rx, hG⟩ := seq_of r2 ei
        exact ⟨v, xs, Gd, rfl, hq, h rho H1 _ S1 l1 (enum_iters rx hG)⟩
end
end DP
set_option Elab.async false
set_option linter.all false
set_option maxRecDepth 100000
set_option maxHeartbeats 4000000
/-! DP13: methods, new cells, isinstance, list(text), dict(pairs), sorted texts. -/
namespace DP
open PySem PySem.Spec PyProof.Rows L2

/-! ### methods of builtin types -/
abbrev WF : WX := fun _ _ _ _ => False
def MtX (X : Cx) (C : CT) (id : String) (act : Plc → List D → DM D) : Prop :=
  MtR X id fun x xs H Q => ∃ (Z : Addr → Prop) (p : Pt) (P : Plc) (ds : List D), p.H = H ∧ SR (wd X.K C) Z p ∧ relP (wd X.K C) Z p P x ∧ RepLP (wd X.K C) Z p ds xs ∧ Fin (wd X.K C) Z WF (relD (wd X.K C) Z) p (act P ds p.st) Q
def actW (g : Cell → List D → Option (D × Cell)) : Plc → List D → DM D := fun P ds s => match (cellP P s).bind fun c => g c ds with
  | some (f, c') => .ok f (putP P c' s)
  | none => .stuck
def actR (g : D → List D → Option D) : Plc → List D → DM D := fun P ds s => match (readP P s).bind fun c => g c ds with
  | some f => .ok f s
  | none => .stuck
/-- a method that looks, and makes at most something new -/
def MtD (X : Cx) (C : CT) (id : String) (g : D → List D → Option D) : Prop :=
  MtR X id fun x xs H Q => ∃ (Z : Addr → Prop) (p : Pt) (d : D) (ds : List D) (f : D), p.H = H ∧ SR (wd X.K C) Z p ∧ LookP (wd X.K C) Z p d x ∧ RepLP (wd X.K C) Z p ds xs ∧ g d ds = some f ∧
    ∀ v H', Same H H' → RepP (wd X.K C) Z { p with H := H' } f v → Q v H'
section
variable {X : Cx} {C : CT} {W : WX}
theorem MtW.x {id : String} {g : Cell → List D → Option (D × Cell)} (h : MtW X C id g) : MtX X C id (actW g) := by
  refine MtR.imp' h fun x xs H Q ⟨Z, p, P, ds, e1, S, rP, r, q⟩ => ?_
  unfold actW at q
  cases hc : cellP P p.st with
  | none => rw [hc] at q; exact q.elim
  | some c =>
    rw [hc] at q
    simp only [Option.bind] at q
    cases hg : g c ds with
    | none => rw [hg] at q; exact q.elim
    | some fc =>
      rw [hg] at q
      obtain ⟨f, c'⟩ := fc
      exact ⟨Z, p, P, c, ds, f, c', e1, S, rP, hc, r, hg, fun v H' S' l' rv => q p.rho H' v S' l' rv⟩
theorem MtD.x {id : String} {g : D → List D → Option D} (h : MtD X C id g) : MtX X C id (actR g) := by
  refine MtR.imp' h fun x xs H Q ⟨Z, p, P, ds, e1, S, rP, r, q⟩ => ?_
  unfold actR at q
  cases hc : readP P p.st with
  | none => rw [hc] at q; exact q.elim
  | some c =>
    rw [hc] at q
    simp only [Option.bind] at q
    cases hg : g c ds with
    | none => rw [hg] at q; exact q.elim
    | some f =>
      rw [hg] at q
      exact ⟨Z, p, c, ds, f, e1, S, S.read rP hc, r, hg, fun v H' sm rv => Fin.more q S (e1 ▸ sm) rv⟩
/-- the builtin type of what is seen -/
def isTy (T : String) : D → Bool
  | .str _ => T == "str"
  | .lst _ => T == "list"
  | _ => false
theorem isTy_v {T : String} {p : Pt} {Z : Addr → Prop} {d : D} {v : V} (h : isTy T d = true) (r : LookP (wd X.K C) Z p d v) : tyV X.K T v p.H := by
  cases d with
  | str z => rw [r.str']; exact beq_iff_eq.mp h
  | lst xs =>
    obtain ⟨a, vs, rfl, h1, _⟩ := r.lst'
    exact .inl ⟨beq_iff_eq.mp h, vs, h1⟩
  | _ => cases h
def methM (T : String) (act : Plc → List D → DM D) (fP : DM Plc) (fs : DM (List D)) : DM D := bnd fP fun P s => if (readP P s).any (isTy T) = true then bnd fs (fun ds => act P ds) s else .stuck
theorem Fin.mono0 {α β : Type} {G : Wd} {Z : Addr → Prop} {rel : Pt → α → β → Prop} {p : Pt} {r : R α} {Q : β → Hp → Prop} {W : WX} (h : Fin G Z W rel p r Q) (ne : ∀ x s, r ≠ .err x s) : Fin G Z WF rel p r Q := by
  cases r with
  | ok a st => exact h
  | err x st => exact absurd rfl (ne x st)
  | stuck => exact h
theorem act_same {G : Wd} {Z : Addr → Prop} {p q : Pt} {r : R D} {Q : VK} (e : p.sg = q.sg) (h : Fin G Z WF (relD G Z) q r Q) (l : Le q p) : Fin G Z WF (relD G Z) p r Q := Fin.later h l e
theorem meth_go {T : String} {act : Plc → List D → DM D} {fP : DM Plc} {fs : DM (List D)} {σ : L2.St} {H : Hp} {Q : VK} (ne : ∀ P ds s x s', act P ds s ≠ .err x s') (h : tD (wd X.K C) W (methM T act fP fs) σ H Q) :
    tP (wd X.K C) W fP σ H fun x H1 => tyV X.K T x H1 ∧ tL (wd X.K C) W fs σ H1 fun xs H2 => ∃ (Z : Addr → Prop) (p : Pt) (P : Plc) (ds : List D), p.H = H2 ∧ SR (wd X.K C) Z p ∧ relP (wd X.K C) Z p P x ∧ RepLP (wd X.K C) Z p ds xs ∧ Fin (wd X.K C) Z WF (relD (wd X.K C) Z) p (act P ds p.st) Q := by
  obtain ⟨Z, p, rfl, rfl, S, h⟩ := h
  refine ⟨Z, p, rfl, rfl, S, (Fin.bnd h).mono fun x H1 ⟨q1, P, e1, e2, S1, l1, r1, h1⟩ => ?_⟩
  subst e2
  cases hr : readP P q1.st with
  | none => rw [hr] at h1; exact h1.elim
  | some d =>
    rw [hr] at h1
    by_cases ht : isTy T d = true
    · rw [if_pos (show (some d).any (isTy T) = true from ht)] at h1
      refine ⟨isTy_v ht (S1.read r1 hr), Z, q1, e1, rfl, S1, (Fin.bnd h1).mono fun y H2 ⟨q2, ds, e3, e4, S2, l2, r2, h2⟩ => ?_⟩
      exact ⟨Z, q2, P, ds, e4, S2, r1.later l2 e3, r2, Fin.mono0 h2 (ne P ds _)⟩
    · rw [if_neg (show ¬ (some d).any (isTy T) = true from ht)] at h1
      exact h1.elim
theorem de_meth {T id : String} {name : Str} {act : Plc → List D → DM D} {o e : Expr} {es : List Expr} {apos cpos : Pos} {fP : DM Plc} {fs : DM (List D)} (pa : PlainAttrs T) (slot : Slot T name id) (hty : typeOf (.builtin id) = pure (.type "method_descriptor")) (hm : MtX X C id act) (ne : ∀ P ds s x s', act P ds s ≠ .err x s') (ho : DL X C W o fP) (ha : DA X C W (e :: es) fs)
    (hbase : attributeBase o name X.env (eval o X.env) = eval o X.env := by rfl)
    (hfew : ((backTo cpos (starEach (e :: es) X.env)).all (fun x => !x.1) && (backToKw cpos (keywordEach [] X.env)).all (fun x => x.1.isSome)
      && decide ((e :: es).length + ([] : List Keyword).length + (if ([] : List Keyword).isEmpty then 0 else 1) < 30)) = true := by rfl)
    (hline : (apos.endLine == cpos.line) = true := by rfl) (hs : starEach (e :: es) X.env = (false, eval e X.env) :: starEach es X.env := by rfl) (hplain : (backTo cpos (starEach es X.env)).any (·.1) = false := by rfl) :
    DE X C W (.Call (.Attribute o name apos) (e :: es) [] cpos) (methM T act fP fs) :=
  ⟨peImp (pe_bm pa slot hty hm ho.pe ha.pa hbase hfew hline hs hplain) fun σ H Q h => meth_go ne h⟩
theorem de_meth0 {T id : String} {name : Str} {act : Plc → List D → DM D} {o : Expr} {apos cpos : Pos} {fP : DM Plc} (pa : PlainAttrs T) (slot : Slot T name id) (hty : typeOf (.builtin id) = pure (.type "method_descriptor")) (hm : MtX X C id act) (ne : ∀ P ds s x s', act P ds s ≠ .err x s') (ho : DL X C W o fP)
    (hbase : attributeBase o name X.env (eval o X.env) = eval o X.env := by rfl) (hline : (apos.endLine == cpos.line) = true := by rfl) : DE X C W (.Call (.Attribute o name apos) [] [] cpos) (methM T act fP nilM) := by
  refine ⟨peImp (pe_bm0 pa slot hty hm ho.pe hbase hline) fun σ H Q h => ?_⟩
  obtain ⟨Z, p, e1, e2, S, h2⟩ := meth_go ne h
  refine ⟨Z, p, e1, e2, S, h2.mono fun x H1 ⟨ty, Z2, p2, e3, e4, S2, h3⟩ => ⟨ty, ?_⟩⟩
  subst e4
  exact Fin.ok (show Fin _ _ _ (relL (wd X.K C) Z2) p2 (.ok [] p2.st) _ from h3) S2 .nil
theorem actW_ne {g : Cell → List D → Option (D × Cell)} : ∀ P ds s x s', actW g P ds s ≠ .err x s' := fun P ds s x s' h => by
  unfold actW at h
  split at h <;> cases h
theorem actR_ne {g : D → List D → Option D} : ∀ P ds s x s', actR g P ds s ≠ .err x s' := fun P ds s x s' h => by
  unfold actR at h
  split at h <;> cases h
def joinN : D → List D → Option D
  | .str a, [.lst xs] => (strsOf xs).bind fun ys => if (ys.map (·.length)).sum + ys.length * a.length ≤ 16777216 then some (.str (Txt.join a ys)) else none
  | .str a, [.tup xs] => (strsOf xs).bind fun ys => if (ys.map (·.length)).sum + ys.length * a.length ≤ 16777216 then some (.str (Txt.join a ys)) else none
  | _, _ => none
theorem m_join : MtD X C "str.join" joinN := by
  refine MtR.imp' mt_join fun x xs H Q ⟨Z, p, d, ds, f, e1, S, rd, r, hg, q⟩ => ?_
  subst e1
  unfold joinN at hg
  split at hg
  · rename_i a ys
    obtain rfl := rd.str'
    obtain ⟨v, rfl, r1⟩ := repL_one r
    cases e : strsOf ys with
    | none => rw [e] at hg; cases hg
    | some zs =>
      rw [e] at hg
      simp only [Option.bind] at hg
      split at hg
      · rename_i hz
        cases hg
        cases r1 with
        | lst h1 a1 =>
          have h2 := h1.sq (K := X.K)
          rw [strs_rep a1 e] at h2
          exact ⟨a, _, zs, rfl, rfl, .inl h2, hz, q _ _ (Same.refl _) (.str _)⟩
      · cases hg
  · rename_i a ys
    obtain rfl := rd.str'
    obtain ⟨v, rfl, r1⟩ := repL_one r
    cases e : strsOf ys with
    | none => rw [e] at hg; cases hg
    | some zs =>
      rw [e] at hg
      simp only [Option.bind] at hg
      split at hg
      · rename_i hz
        cases hg
        cases r1 with
        | tup h1 a1 =>
          have h1 := h1.sq
          rw [strs_rep a1 e] at h1
          exact ⟨a, _, zs, rfl, rfl, .inr h1, hz, q _ _ (Same.refl _) (.str _)⟩
      · cases hg
  · cases hg
def splitN : D → List D → Option D
  | .str a, [.str b] => if b.length ≠ 0 ∧ a.length + 2 ≤ sizeLine then some (.lst ((Txt.split a b).map .str)) else none
  | _, _ => none
theorem m_split : MtD X C "str.split" splitN := by
  refine MtR.imp' mt_split fun x xs H Q ⟨Z, p, d, ds, f, e1, S, rd, r, hg, q⟩ => ?_
  subst e1
  unfold splitN at hg
  split at hg
  · rename_i a b
    split at hg
    · rename_i hz
      cases hg
      obtain rfl := rd.str'
      obtain ⟨v, rfl, r1⟩ := repL_one r
      cases r1
      exact ⟨a, b, rfl, rfl, beq_eq_false_iff_ne.mpr hz.1, hz.2, fun p na => q _ _ (same_upd na) (repLst S na rep_strs)⟩
    · cases hg
  · cases hg

/-! ### a new cell of the heap -/
def newM (f : DM Cell) : DM D := fun s => match f s with
  | .ok c s' => .ok (.ref s'.hp.length) ⟨s'.sl, s'.hp ++ [c]⟩
  | .err x s' => .err x s'
  | .stuck => .stuck
theorem FE.new {e : Expr} {f : DM Cell} (h : FE X C W e f) : DE X C W e (newM f) := by
  refine ⟨peImp h.pe fun σ H Q h => ?_⟩
  obtain ⟨Z, p, rfl, rfl, S, h⟩ := h
  refine ⟨Z, p, rfl, rfl, S, ?_⟩
  unfold newM at h
  cases ef : f p.st with
  | ok c st =>
    rw [ef] at h
    intro rho H0 a o S0 l0 ha hc
    obtain ⟨S1, l1⟩ := S0.newCell ha hc
    refine h _ _ _ S1 (l0.trans l1) (.ref ?_)
    show (rho ++ [a])[st.hp.length]? = some a
    have := S0.hlen
    dsimp only at this
    rw [← this, List.getElem?_append_right (Nat.le_refl _)]
    simp
  | err x st => rw [ef] at h; exact h
  | stuck => rw [ef] at h; exact h

/-! ### isinstance -/
inductive TyD where
  | b (n : String) | own (c : Nat)
def tyD (hp : List Cell) : D → Option TyD
  | .non => some (.b "NoneType")
  | .bl _ => some (.b "bool")
  | .int _ => some (.b "int")
  | .str _ => some (.b "str")
  | .tup _ => some (.b "tuple")
  | .lst _ => some (.b "list")
  | .dk _ _ => none
  | .dt _ _ => none
  | .ins c _ => some (.own c)
  | .ref n => match hp[n]? with
    | some (.lst _) => some (.b "list")
    | some (.dk _ _) => some (.b "dict")
    | some (.dt _ _) => some (.b "dict")
    | some (.ins c _) => some (.own c)
    | none => none
def tyVal (C : CT) : TyD → Value
  | .b n => .type n
  | .own c => .ref (C.ca c)
structure InsT (K : PySem.W.Frag) (A : Addr) : Prop where
  cl : Cls K A
  ha : PySem.W.findIn K (.ref A) "__class__" = some (some (.builtin "object.__class__"))
  hn : PySem.W.specialIn K (.builtin "object.__class__") "__get__" = some (some (.builtin "getset_descriptor.__get__"))
  htk : PySem.W.takesIn K (.builtin "object.__class__") = some true
  hm : PySem.W.mroIn K A (.type "object") = some true
theorem tyD_x {Z : Addr → Prop} {p : Pt} {d : D} {v : V} {t : TyD} (S : SR (wd X.K C) Z p) (r : RepP (wd X.K C) Z p d v) (h : tyD p.st.hp d = some t) (ho : ∀ c, t = .own c → InsT X.K (C.ca c)) : TyX X.K p.H v (tyVal C t) := by
  have ins : ∀ (a dx : Addr) (c : Nat) (fs : List (Str × V)), t = .own c → p.H a = some (.ins (C.ca c) dx fs) → TyX X.K p.H (.ref a) (tyVal C t) := fun a dx c fs e h1 => by
    subst e
    have i := ho c rfl
    exact .base (.ins h1 i.cl i.ha i.hn i.htk i.hm)
  cases d with
  | non => cases r; cases h; exact .base .non
  | bl b => cases r; cases h; exact .base (.bl b)
  | int i => cases r; cases h; exact .base (.int i)
  | str x => cases r; cases h; exact .base (.str x)
  | tup xs =>
    cases h
    cases r with
    | tup h1 a1 =>
      rcases h1 with ⟨o, h1, _⟩ | ⟨o, its, n, h1, h2, _⟩
      · exact .fTuple h1
      · exact .kTuple h1 h2.2
  | lst xs =>
    cases h
    cases r with
    | lst h1 a1 =>
      rcases h1 with h1 | ⟨o, its, n, h1, h2, _⟩
      · rcases h1.1 with z | ⟨o, z⟩
        · exact .base (.lst z)
        · exact .base (.frz z)
      · exact .kList h1 h2
  | dk ks ds => cases h
  | dt ks ds => cases h
  | ins c ds =>
    cases h
    cases r with
    | ins h1 hn a1 => exact ins _ _ c _ rfl h1
  | ref n =>
    simp only [tyD] at h
    cases e : p.st.hp[n]? with
    | none => rw [e] at h; cases h
    | some c =>
      rw [e] at h
      obtain ⟨a, h1, h2, _⟩ := S.cell n c e
      cases r with
      | ref hr =>
        rw [hr] at h1
        cases h1
        cases c with
        | lst _ => cases h; obtain ⟨vs, z, _⟩ := h2; exact .base (.lst z)
        | dk _ _ => cases h; obtain ⟨vs, z, _⟩ := h2; exact .base (.dK z)
        | dt _ _ => cases h; obtain ⟨vs, z, _⟩ := h2; exact .base (.dT z)
        | ins c _ => cases h; obtain ⟨dx, vs, z, _⟩ := h2; exact ins _ dx c _ rfl z
def isM (g : TyD → Option Bool) (f : DM D) : DM D := bnd f fun d s => match (tyD s.hp d).bind g with
  | some b => .ok (.bl b) s
  | none => .stuck
/-- what isinstance tells of a type -/
structure IsF (X : Cx) (C : CT) (u : Value) (g : TyD → Option Bool) : Prop where
  kit : ∀ t b, g t = some b → PySem.W.kitOne X.K (tyVal C t) u = some b
  own : ∀ c b, g (.own c) = some b → InsT X.K (C.ca c)
theorem de_isi {u : Value} {c : V} {g : TyD → Option Bool} {e cls : Expr} {p pos : Pos} {f : DM D} (F : IsF X C u g) (hv : ClsV c u) (hc : PE X cls (tC c)) (hg : Gl X "isinstance") (hm : X.mg "isinstance" = none) (he : DE X C W e f)
    (h1 : starEach [e, cls] X.env = (false, eval e X.env) :: starEach [cls] X.env := by rfl) (h2 : starEach [cls] X.env = (false, eval cls X.env) :: starEach [] X.env := by rfl) (hpl : (backTo pos (starEach [cls] X.env)).any (·.1) = false := by rfl) :
    DE X C W (.Call (.Name "isinstance" p) [e, cls] [] pos) (isM g f) := by
  refine ⟨peImp (pe_callB call_isi hg hm boot_isinstance (pa_cons he.pe (pa_cons hc pa_nil h2) h1) (by decide) (by decide) h1 hpl) fun σ H Q h => ?_⟩
  obtain ⟨Z, p, rfl, rfl, S, h⟩ := h
  refine ⟨Z, p, rfl, rfl, S, (Fin.bnd h).mono fun x H1 ⟨q1, d1, e1, e2, S1, l1, r1, h1⟩ => ?_⟩
  cases ht : tyD q1.st.hp d1 with
  | none => rw [ht] at h1; exact h1.elim
  | some t =>
    rw [ht] at h1
    simp only [Option.bind] at h1
    cases hb : g t with
    | none => rw [hb] at h1; exact h1.elim
    | some b =>
      rw [hb] at h1
      subst e2
      exact ⟨x, c, _, u, b, rfl, hv, tyD_x S1 r1 ht (fun c e => F.own c b (e ▸ hb)), F.kit t b hb, Fin.ok h1 S1 (.bl b)⟩
end
def tyNames : List String := ["NoneType", "bool", "int", "str", "tuple", "list", "dict"]
def isT (a T : String) : Bool := a == T || (a == "bool" && T == "int")
theorem kit_names : (tyNames.all fun a => ["bool", "int", "str", "tuple", "list", "dict"].all fun T => kitB a T == some (isT a T)) = true := by decide +kernel
def isB (T : String) (own : Nat → Option Bool) : TyD → Option Bool
  | .b n => if tyNames.contains n = true then some (isT n T) else none
  | .own c => own c
theorem isf_b {X : Cx} {C : CT} {T : String} {own : Nat → Option Bool} (hT : ["bool", "int", "str", "tuple", "list", "dict"].contains T = true) (ho : ∀ c b, own c = some b → InsT X.K (C.ca c) ∧ PySem.W.kitOne X.K (.ref (C.ca c)) (.type T) = some b) : IsF X C (.type T) (isB T own) := by
  refine ⟨fun t b h => ?_, fun c b h => (ho c b h).1⟩
  cases t with
  | b n =>
    simp only [isB] at h
    split at h
    · rename_i hn
      cases h
      have k := List.all_eq_true.mp (List.all_eq_true.mp kit_names n (by simpa using hn)) T (by simpa using hT)
      exact kit_ty (beq_iff_eq.mp k)
    · cases h
  | own c => exact (ho c b h).2
def isO (own : Nat → Option Bool) : TyD → Option Bool
  | .b n => if tyNames.contains n = true then some false else none
  | .own c => own c
theorem isf_o {X : Cx} {C : CT} {A : Addr} {own : Nat → Option Bool} (hn : (tyNames.all fun n => PySem.W.kitOne X.K (.type n) (.ref A) == some false) = true) (ho : ∀ c b, own c = some b → InsT X.K (C.ca c) ∧ PySem.W.kitOne X.K (.ref (C.ca c)) (.ref A) = some b) : IsF X C (.ref A) (isO own) := by
  refine ⟨fun t b h => ?_, fun c b h => (ho c b h).1⟩
  cases t with
  | b n =>
    simp only [isO] at h
    split at h
    · rename_i hc
      cases h
      exact beq_iff_eq.mp (List.all_eq_true.mp hn n (by simpa using hc))
    · cases h
  | own c => exact (ho c b h).2
end DP
set_option Elab.async false
set_option linter.all false
set_option maxRecDepth 100000
set_option maxHeartbeats 4000000
/-! DP14: sorted texts and ints, list(text), dict(pairs). -/
namespace DP
open PySem PySem.Spec PyProof.Rows L2

/-! ### sorted -/
theorem ltCps_lt : ∀ (xs ys : List Nat), ltCps xs ys = decide (xs < ys)
  | [], [] => by simp [ltCps]
  | [], b :: ys => by simp [ltCps]
  | a :: xs, [] => by simp [ltCps]
  | a :: xs, b :: ys => by
    simp only [ltCps, ltCps_lt xs ys, List.cons_lt_cons_iff]
    by_cases h1 : a < b <;> by_cases h2 : a = b <;> simp [h1, h2]
theorem leStr_iff (x y : Str) : leStr x y = true ↔ x.cps.toList ≤ y.cps.toList := by
  unfold leStr
  simp only [Bool.not_eq_true', decide_eq_false_iff_not]
  exact Iff.rfl
theorem leStr_anti {x y : Str} (h1 : leStr x y = true) (h2 : leStr y x = true) : x = y := by
  rw [leStr_iff] at h1 h2
  have e := List.le_antisymm h1 h2
  cases x with
  | mk a => cases y with
    | mk b =>
      have : a = b := Array.toList_inj.mp e
      rw [this]
theorem leStr_trans {x y z : Str} (h1 : leStr x y = true) (h2 : leStr y z = true) : leStr x z = true := by
  rw [leStr_iff] at *
  exact List.le_trans h1 h2
theorem leStr_total (x y : Str) : leStr x y = true ∨ leStr y x = true := by
  rw [leStr_iff, leStr_iff]
  exact List.le_total _ _
theorem rising_pair : ∀ {p : Str} {ys : List Str}, risingS p ys = true → (p :: ys).Pairwise (fun a b => leStr a b = true)
  | p, [], _ => List.pairwise_singleton _ _
  | p, y :: ys, h => by
    simp only [risingS, Bool.and_eq_true] at h
    have ih := rising_pair h.2
    have h1 : leStr p y = true := by
      unfold leStr
      rw [← ltCps_lt]
      exact h.1
    refine List.pairwise_cons.mpr ⟨fun b hb => ?_, ih⟩
    rcases List.mem_cons.mp hb with rfl | hb
    · exact h1
    · exact leStr_trans h1 ((List.pairwise_cons.mp ih).1 b hb)
theorem sortedS_pair : ∀ {ys : List Str}, sortedS ys = true → ys.Pairwise (fun a b => leStr a b = true)
  | [], _ => .nil
  | y :: ys, h => rising_pair h
theorem ins_perm (x : Str) : ∀ ys : List Str, (insStr x ys).Perm (x :: ys)
  | [] => .refl _
  | y :: ys => by
    unfold insStr
    split
    · exact .refl _
    · exact (List.Perm.cons y (ins_perm x ys)).trans (.swap x y ys)
theorem sort_perm : ∀ xs : List Str, (sortStr xs).Perm xs
  | [] => .refl _
  | x :: xs => (ins_perm x _).trans (List.Perm.cons x (sort_perm xs))
theorem ins_pair {x : Str} : ∀ {ys : List Str}, ys.Pairwise (fun a b => leStr a b = true) → (insStr x ys).Pairwise (fun a b => leStr a b = true)
  | [], _ => List.pairwise_singleton _ _
  | y :: ys, h => by
    unfold insStr
    split
    · rename_i hl
      refine List.pairwise_cons.mpr ⟨fun b hb => ?_, h⟩
      rcases List.mem_cons.mp hb with rfl | hb
      · exact hl
      · exact leStr_trans hl ((List.pairwise_cons.mp h).1 b hb)
    · rename_i hl
      have hyx : leStr y x = true := (leStr_total x y).resolve_left hl
      refine List.pairwise_cons.mpr ⟨fun b hb => ?_, ins_pair (List.pairwise_cons.mp h).2⟩
      rcases List.mem_cons.mp ((ins_perm x ys).subset hb) with rfl | hb
      · exact hyx
      · exact (List.pairwise_cons.mp h).1 b hb
theorem sort_pair : ∀ xs : List Str, (sortStr xs).Pairwise (fun a b => leStr a b = true)
  | [] => .nil
  | x :: xs => ins_pair (sort_pair xs)
theorem sort_is {xs ys : List Str} (hp : ys.Perm xs) (hs : sortedS ys = true) : ys = sortStr xs :=
  List.Perm.eq_of_pairwise (le := fun a b => leStr a b = true) (fun a b _ _ h1 h2 => leStr_anti h1 h2) (sortedS_pair hs) (sort_pair xs) (hp.trans (sort_perm xs).symm)
def insInt (x : Int) : List Int → List Int
  | [] => [x]
  | y :: ys => if x ≤ y then x :: y :: ys else y :: insInt x ys
def sortInt : List Int → List Int
  | [] => []
  | x :: xs => insInt x (sortInt xs)
theorem insI_perm (x : Int) : ∀ ys : List Int, (insInt x ys).Perm (x :: ys)
  | [] => .refl _
  | y :: ys => by
    unfold insInt
    split
    · exact .refl _
    · exact (List.Perm.cons y (insI_perm x ys)).trans (.swap x y ys)
theorem sortI_perm : ∀ xs : List Int, (sortInt xs).Perm xs
  | [] => .refl _
  | x :: xs => (insI_perm x _).trans (List.Perm.cons x (sortI_perm xs))
theorem insI_pair {x : Int} : ∀ {ys : List Int}, ys.Pairwise (· ≤ ·) → (insInt x ys).Pairwise (· ≤ ·)
  | [], _ => List.pairwise_singleton _ _
  | y :: ys, h => by
    unfold insInt
    split
    · rename_i hl
      refine List.pairwise_cons.mpr ⟨fun b hb => ?_, h⟩
      rcases List.mem_cons.mp hb with rfl | hb
      · exact hl
      · exact Int.le_trans hl ((List.pairwise_cons.mp h).1 b hb)
    · rename_i hl
      refine List.pairwise_cons.mpr ⟨fun b hb => ?_, insI_pair (List.pairwise_cons.mp h).2⟩
      rcases List.mem_cons.mp ((insI_perm x ys).subset hb) with rfl | hb
      · omega
      · exact (List.pairwise_cons.mp h).1 b hb
theorem sortI_pair : ∀ xs : List Int, (sortInt xs).Pairwise (· ≤ ·)
  | [] => .nil
  | x :: xs => insI_pair (sortI_pair xs)
theorem sortI_is {xs ys : List Int} (hp : ys.Perm xs) (hs : ys.Pairwise (· ≤ ·)) : ys = sortInt xs :=
  List.Perm.eq_of_pairwise (le := (· ≤ ·)) (fun a b _ _ h1 h2 => Int.le_antisymm h1 h2) hs (sortI_pair xs) (hp.trans (sortI_perm xs).symm)
def sortedN : List D → Option D
  | [.lst xs] => if xs.length < 64 then (match strsOf xs with
    | some ys => some (.lst ((sortStr ys).map .str))
    | none => (intsOf xs).map fun is => .lst ((sortInt is).map .int)) else none
  | _ => none
section
variable {X : Cx} {C : CT} {W : WX}
theorem c_sorted : CallD X C (.builtin "sorted") sortedN := by
  refine CallR.imp (CallR.or (cr_sortedS (X := X)) (cr_sorted (X := X))) fun vs H Q ⟨Z, p, ds, f, e1, S, r, hg, q⟩ => ?_
  subst e1
  unfold sortedN at hg
  split at hg
  · rename_i xs
    obtain ⟨v, rfl, r1⟩ := repL_one r
    split at hg
    · rename_i h64
      cases r1 with
      | lst h1 a1 =>
        split at hg
        · rename_i ys e
          cases hg
          have h2 := h1.sq
          rw [strs_rep a1 e] at h2
          have hl : ys.length < 64 := by
            have z1 := RepL.length a1
            have z2 := congrArg List.length (strs_rep a1 e)
            rw [List.length_map] at z2
            omega
          refine .inl ⟨_, ys, rfl, h2, hl, fun zs a hp hs na => q _ _ (same_upd na) ?_⟩
          rw [sort_is hp hs]
          exact repLst S na rep_strs
        · rename_i e
          cases e2 : intsOf xs with
          | none => rw [e2] at hg; cases hg
          | some is =>
            rw [e2] at hg
            cases hg
            have h2 := h1.sq
            rw [ints_rep a1 e2] at h2
            have hl : is.length < 64 := by
              have z1 := RepL.length a1
              have z2 := congrArg List.length (ints_rep a1 e2)
              rw [List.length_map] at z2
              omega
            refine .inr ⟨_, is, rfl, h2, hl, fun zs a hp hs na => q _ _ (same_upd na) ?_⟩
            rw [sortI_is hp hs]
            exact repLst S na rep_ints
    · cases hg
  · cases hg

/-! ### list(text), list of a tuple, a list -/
theorem call_listS (hc : X.calm = true) : CallR X (.type "list") (fun vs H Q => ∃ x : Str, vs = [.str x] ∧ x.length ≤ sizeLine ∧ ∀ p, H p = none → Q (.ref p) (upd H p (.lst (x.cps.toList.map fun c => V.str ⟨#[c]⟩)))) := by
  intro pins s σ H vs us Q I r h
  obtain ⟨x, rfl, hz, q⟩ := h
  obtain ⟨u, rfl, t, rfl⟩ := vals1 r
  refine call_list_str (I.ok.hd hc) x t (fun h' tk acc c' hk hS hacc => ?_) hz
  have hv : Vals (x.cps.toList.map fun c => V.str ⟨#[c]⟩) acc.toList := by
    have key : ∀ (cs : List Nat) (us : List Value), us.length = cs.length → (∀ (j : Nat) (v : Value), us[j]? = some v → ∃ (c : Nat) (u : Tok), cs[j]? = some c ∧ v = Value.str ⟨#[c]⟩ u) → Vals (cs.map fun c => V.str ⟨#[c]⟩) us := by
      intro cs
      induction cs with
      | nil => intro us hl _; cases us with
        | nil => exact .nil
        | cons _ _ => cases hl
      | cons c cs ih =>
        intro us hl hv
        cases us with
        | nil => cases hl
        | cons u us =>
          obtain ⟨c', u', e1, e2⟩ := hv 0 u rfl
          cases e1
          exact .cons ⟨u', e2⟩ (ih us (by simpa using hl) fun j v e => by simpa using hv (j + 1) v (by simpa using e))
    refine key _ _ (by rw [Array.length_toList, Array.length_toList]; exact hacc.1) fun j v e => ?_
    obtain ⟨c, u, h1, h2⟩ := hacc.2 j v (by rw [← Array.getElem?_toList]; exact e)
    exact ⟨c, u, by rw [Array.getElem?_toList]; exact h1, h2⟩
  exact ⟨.ref s.heap.objs.size, _, I.laid (t' := tk) hk (Nat.le_refl _) (show ObjOk X.prog X.w _ h' _ (.lst _) from ⟨by rw [List.length_map, Array.length_toList]; exact hz, acc.toList, c', hv, by simpa using hS⟩), rfl, q _ (I.hok.fresh (Nat.le_refl _))⟩
def listD : List D → Option Cell
  | [.lst xs] => some (.lst xs)
  | [.tup xs] => some (.lst xs)
  | [.str z] => if z.length ≤ sizeLine then some (.lst (z.cps.toList.map fun c => .str ⟨#[c]⟩)) else none
  | _ => none
theorem c_listD (hc : X.calm = true) : CallC X C (.type "list") listD := by
  refine CallR.imp (CallR.or (c_list (C := C)) (call_listS hc)) fun vs H Q ⟨Z, p, ds, f, e1, S, r, hg, q⟩ => ?_
  subst e1
  unfold listD at hg
  split at hg
  · cases hg; exact .inl ⟨Z, p, _, _, rfl, S, r, rfl, q⟩
  · cases hg; exact .inl ⟨Z, p, _, _, rfl, S, r, rfl, q⟩
  · rename_i z
    split at hg
    · rename_i hz
      cases hg
      obtain ⟨v, rfl, r1⟩ := repL_one r
      cases r1
      exact .inr ⟨z, rfl, hz, fun a na => q a _ na ⟨_, rfl, rep_signs _⟩⟩
    · cases hg
  · cases hg

end
/-! ### dict of pairs -/
theorem plain_at {X : Cx} {pins : List (Addr × Obj)} {σ : L2.St} {H : Hp} {s : Shared} {a : Addr} {xs : List V} (I : L2.Inv X pins σ H s) (h : TupP X.K H a xs) : ∃ (o : Obj) (its : List Value) (n : Nat), s.heap.get? a = some o ∧ Plain o ∧ o.data = .seq its.toArray n ∧ Vals xs its ∧ xs.length ≤ sizeLine := by
  rcases h with ⟨o, e, po⟩ | ⟨o, its, n, hk, po, hd, hz, r⟩
  · obtain ⟨h1, z, its, r, o2, h2, _, n, h3⟩ := I.hok a _ e
    rw [h1] at h2
    cases h2
    exact ⟨o, its, n, h1, po, h3, r, z⟩
  · refine ⟨o, its.toList, n, I.kIn a o hk, po, by simpa using hd, r, ?_⟩
    have e := r.length
    simp only [Array.length_toList] at e
    omega
theorem pairs_two {X : Cx} {pins : List (Addr × Obj)} {σ : L2.St} {H : Hp} {s : Shared} (I : L2.Inv X pins σ H s) : ∀ {ps : List Addr} {kvs : List (Key × V)}, Paired (fun p kv => SqT X.K H p [kV kv.1, kv.2]) ps kvs →
    ∃ (prs : List (Key × Value)) (ws : List (Value × Value)), KV kvs prs ∧ prs.length = ps.length ∧ ws.length = ps.length ∧ (∀ (j : Nat) (k v : Value), ws[j]? = some (k, v) → ∃ (b : Addr) (kk : Key), ps[j]? = some b ∧ IsTup s.heap b #[k, v] ∧ prs[j]? = some (kk, v) ∧ keyIs kk k = true)
  | _, _, .nil => ⟨[], [], .nil, rfl, rfl, fun j k v e => by simp at e⟩
  | _, _, .cons (a := p) (b := kv) h t => by
    obtain ⟨prs, ws, r, h1, h2, hp⟩ := pairs_two I t
    obtain ⟨its, rv, ht, _⟩ := I.tuple h
    obtain ⟨u, y, rfl, ru, ry⟩ := vals2 rv
    refine ⟨(kv.1, y) :: prs, (u, y) :: ws, .cons ⟨rfl, ry⟩ r, by simp [h1], by simp [h2], fun j k v e => ?_⟩
    cases j with
    | zero =>
      simp only [List.getElem?_cons_zero, Option.some.injEq, Prod.mk.injEq] at e
      obtain ⟨e1, e2⟩ := e
      subst e1 e2
      exact ⟨p, kv.1, rfl, ht, rfl, kV_is (P := X.prog) (w := X.w) ru⟩
    | succ j => simpa using hp j k v (by simpa using e)
theorem call_dictT {X : Cx} (hcalm : X.calm = true) : CallR X (.type "dict") (fun xs H Q => ∃ (a : Addr) (ps : List Addr) (kvs : List (Key × V)), xs = [.ref a] ∧ TupP X.K H a (ps.map V.ref) ∧ Paired (fun p kv => SqT X.K H p [kV kv.1, kv.2]) ps kvs ∧
    ∀ p, H p = none → Q (.ref p) (upd H p (.dK (mergeK [] kvs)))) := by
  intro pins s σ H xs us Q I r h
  obtain ⟨a, ps, kvs, rfl, hq, hp, q⟩ := h
  obtain ⟨u, rfl, ru⟩ := vals1 r
  cases ru
  obtain ⟨o, its, n, ho, po, hd, rv, hz⟩ := plain_at I hq
  have ei := refs_at rv
  subst ei
  rw [List.length_map] at hz
  obtain ⟨prs, ws, rel, hl, hlw, hpr⟩ := pairs_two I hp
  have hP : PairsHave (mixKind X.prog X.w) ws.length (PairRel ws) prs := ⟨by rw [hl, hlw], fun i k v e => let ⟨_, kk, _, _, e2, e3⟩ := hpr i k v e; ⟨kk, e2, e3⟩⟩
  refine PySem.call_dict_pairs (PairArg.tuple a (ps.map Value.ref).toArray (fun j => ps.getD j 0) ws) (I.ok.hd hcalm) ⟨⟨o, n, ho, po.2, po.1, hd⟩, by simp [hlw], fun j k v e => ?_⟩ hP (by rw [hlw]; exact hz) fun h' tk hd' k => ?_
  · obtain ⟨b, kk, e1, e2, _⟩ := hpr j k v e
    have eb : ps.getD j 0 = b := by rw [List.getD_eq_getElem?_getD, e1]; rfl
    show _ = some (Value.ref (ps.getD j 0)) ∧ PairAt s.heap (ps.getD j 0) k v
    rw [eb]
    exact ⟨by simp [e1], .inl e2⟩
  · have hm : (s.heap.objs.size == sysModules) = false := beq_eq_false_iff_ne.mpr (Nat.ne_of_gt I.big)
    have hlen : (mergeK [] kvs).length ≤ sizeLine := by
      refine Nat.le_trans (length_mergeK kvs []) ?_
      rw [List.length_nil, Nat.zero_add, rel.length, hl]
      exact hz
    exact ⟨.ref s.heap.objs.size, _, I.laid (t' := tk) (fun b o e => k b o (List.not_mem_nil) e) (Nat.le_refl _) (show ObjOk X.prog X.w _ _ _ (.dK (mergeK [] kvs)) from ⟨hlen, hm, merged [] prs, KV.merge rel .nil, hd'⟩), rfl, q _ (I.hok.fresh (Nat.le_refl _))⟩
/-- the pairs of a dict: keys, values -/
def pairsOf : List D → Option (List (Key × D))
  | [] => some []
  | .tup [k, v] :: ds => (k.key).bind fun kk => (pairsOf ds).map fun r => (kk, v) :: r
  | _ => none
def mergeD : Cell → List (Key × D) → Cell
  | c, [] => c
  | .dk ks vs, (k, d) :: r => mergeD (putKD ks vs k d) r
  | c, _ => c
def dictN : List D → Option Cell
  | [.lst xs] => (pairsOf xs).map (mergeD (.dk [] []))
  | [.tup xs] => (pairsOf xs).map (mergeD (.dk [] []))
  | _ => none
section
variable {X : Cx} {C : CT} {W : WX}
theorem pairs_rep {Z : Addr → Prop} {p : Pt} : ∀ {ds : List D} {vs : List V} {kds : List (Key × D)}, RepLP (wd X.K C) Z p ds vs → pairsOf ds = some kds → ∃ (ps : List Addr) (kvs : List (Key × V)), vs = ps.map V.ref ∧ Paired (fun q kv => SqT X.K p.H q [kV kv.1, kv.2]) ps kvs ∧ Paired (fun (kd : Key × D) (kv : Key × V) => kd.1 = kv.1 ∧ RepP (wd X.K C) Z p kd.2 kv.2) kds kvs
  | [], _, _, r, h => by cases r; cases h; exact ⟨[], [], rfl, .nil, .nil⟩
  | d :: ds, _, kds, r, h => by
    cases r with
    | cons r1 r2 =>
      unfold pairsOf at h
      split at h
      · rename_i e; exact nomatch e
      · rename_i k v ds' e
        cases e
        cases hk : k.key with
        | none => rw [hk] at h; cases h
        | some kk =>
          rw [hk] at h
          cases hp : pairsOf ds with
          | none => simp [hp] at h
          | some rr =>
            simp [hp] at h
            subst h
            obtain ⟨ps, kvs, e1, e2, e3⟩ := pairs_rep r2 hp
            cases r1 with
            | tup h1 a1 =>
              obtain ⟨u, w, rfl, ru, rw'⟩ := repL_two a1
              subst e1
              rw [key_rep ru hk] at h1
              exact ⟨_ :: ps, (kk, w) :: kvs, rfl, .cons h1.sq e2, .cons ⟨rfl, rw'⟩ e3⟩
      · cases h
theorem merge_rep {Z : Addr → Prop} {p : Pt} : ∀ {kds : List (Key × D)} {kvs : List (Key × V)} {ks : List Key} {ds : List D} {vs : List V}, Paired (fun (kd : Key × D) (kv : Key × V) => kd.1 = kv.1 ∧ RepP (wd X.K C) Z p kd.2 kv.2) kds kvs → ks.length = vs.length → RepLP (wd X.K C) Z p ds vs →
    CellO (wd X.K C) Z p (.dK (mergeK (ks.zip vs) kvs)) (mergeD (.dk ks ds) kds)
  | _, _, ks, ds, vs, .nil, hz, r => ⟨vs, rfl, hz, r⟩
  | _, _, ks, ds, vs, .cons (a := kd) (b := kv) h t, hz, r => by
    obtain ⟨k, d⟩ := kd
    obtain ⟨k', v⟩ := kv
    obtain ⟨rfl, rd⟩ := h
    have hp := put_rep (k := k) hz r rd
    show CellO (wd X.K C) Z p (.dK (mergeK (putK (ks.zip vs) k v) _)) (mergeD (putKD ks ds k d) _)
    revert hp
    unfold putKD
    split
    · rintro ⟨ws, e, e2, r2⟩
      injection e with e
      rw [e]
      exact merge_rep t e2 r2
    · rintro ⟨ws, e, e2, r2⟩
      injection e with e
      rw [e]
      exact merge_rep t e2 r2
theorem c_dict (hc : X.calm = true) : CallC X C (.type "dict") dictN := by
  refine CallR.imp (CallR.or (call_dictP hc) (call_dictT hc)) fun vs H Q ⟨Z, p, ds, f, e1, S, r, hg, q⟩ => ?_
  subst e1
  unfold dictN at hg
  split at hg
  · rename_i xs
    cases hp : pairsOf xs with
    | none => rw [hp] at hg; cases hg
    | some kds =>
      rw [hp] at hg
      cases hg
      obtain ⟨v, rfl, r1⟩ := repL_one r
      cases r1 with
      | lst h1 a1 =>
        obtain ⟨ps, kvs, rfl, e2, e3⟩ := pairs_rep a1 hp
        exact .inl ⟨_, ps, kvs, rfl, h1.sq, e2, fun a na => q a _ na (merge_rep e3 rfl .nil)⟩
  · rename_i xs
    cases hp : pairsOf xs with
    | none => rw [hp] at hg; cases hg
    | some kds =>
      rw [hp] at hg
      cases hg
      obtain ⟨v, rfl, r1⟩ := repL_one r
      cases r1 with
      | tup h1 a1 =>
        obtain ⟨ps, kvs, rfl, e2, e3⟩ := pairs_rep a1 hp
        exact .inr ⟨_, ps, kvs, rfl, h1, e2, fun a na => q a _ na (merge_rep e3 rfl .nil)⟩
  · cases hg
end
end DP
set_option Elab.async false
set_option linter.all false
set_option maxRecDepth 100000
set_option maxHeartbeats 4000000
/-! DP15: own classes: fields, methods, properties, static methods, making. -/
namespace DP
open PySem PySem.Spec PyProof.Rows L2

theorem lookup_zip {f : Str} : ∀ {ks : List Str} {vs : List V} {j : Nat}, ks[j]? = some f → f ∉ ks.take j → (ks.zip vs).lookup f = vs[j]?
  | [], _, _, h, _ => by simp at h
  | k :: ks, [], j, _, _ => by simp
  | k :: ks, v :: vs, 0, h, _ => by
    have e : k = f := by simpa using h
    subst e
    simp [List.lookup]
  | k :: ks, v :: vs, j + 1, h, hn => by
    rw [List.take_succ_cons, List.mem_cons, not_or] at hn
    have hne : (f == k) = false := beq_eq_false_iff_ne.mpr hn.1
    simp only [List.zip_cons_cons, List.lookup, hne, List.getElem?_cons_succ]
    exact lookup_zip (by simpa using h) hn.2
theorem lookup_zip_none {f : Str} : ∀ {ks : List Str} {vs : List V}, f ∉ ks → (ks.zip vs).lookup f = none
  | [], _, _ => rfl
  | k :: ks, [], _ => by simp
  | k :: ks, v :: vs, h => by
    rw [List.mem_cons, not_or] at h
    have hne : (f == k) = false := beq_eq_false_iff_ne.mpr h.1
    simp only [List.zip_cons_cons, List.lookup, hne]
    exact lookup_zip_none h.2
/-- a field is set: one that is there, or the next one -/
def setFld {α : Type} (j : Nat) (y : α) (vs : List α) : Option (List α) := if j < vs.length then some (vs.set j y) else if j = vs.length then some (vs ++ [y]) else none
theorem putF_zip {f : Str} {y : V} : ∀ {ks : List Str} {vs ws : List V} {j : Nat}, ks[j]? = some f → f ∉ ks.take j → setFld j y vs = some ws → putF f y (ks.zip vs) = ks.zip ws
  | [], _, _, _, h, _, _ => by simp at h
  | k :: ks, [], ws, 0, h, _, e => by
    have ek : k = f := by simpa using h
    subst ek
    simp [setFld] at e
    subst e
    simp [putF]
  | k :: ks, [], ws, j + 1, h, _, e => by simp [setFld] at e
  | k :: ks, v :: vs, ws, 0, h, _, e => by
    have ek : k = f := by simpa using h
    subst ek
    simp [setFld] at e
    subst e
    simp [putF]
  | k :: ks, v :: vs, ws, j + 1, h, hn, e => by
    rw [List.take_succ_cons, List.mem_cons, not_or] at hn
    have hne : ¬ k = f := fun z => hn.1 z.symm
    have ih := @putF_zip f y ks vs
    simp only [List.zip_cons_cons, putF, if_neg hne]
    unfold setFld at e
    split at e
    · rename_i hl
      cases e
      rw [ih (ws := vs.set j y) (by simpa using h) hn.2 (by unfold setFld; rw [if_pos (by simpa using hl)])]
      simp
    · split at e
      · rename_i h1 h2
        cases e
        have h2' : j = vs.length := by simpa using h2
        rw [ih (ws := vs ++ [y]) (by simpa using h) hn.2 (by unfold setFld; rw [if_neg (by omega), if_pos h2'])]
        simp
      · cases e
theorem setFld_rep {G : Wd} {rho : List Addr} {L : Addr → Prop} {H : Hp} {ds es : List D} {vs : List V} {d : D} {v : V} {j : Nat} (r : RepL G rho L H ds vs) (rd : Rep G rho L H d v) (h : setFld j d ds = some es) : ∃ ws, setFld j v vs = some ws ∧ RepL G rho L H es ws := by
  have hl := RepL.length r
  unfold setFld at h ⊢
  rw [← hl]
  split at h
  · rename_i h1
    cases h
    rw [if_pos h1]
    exact ⟨_, rfl, r.set j rd⟩
  · split at h
    · rename_i h1 h2
      cases h
      rw [if_neg h1, if_pos h2]
      exact ⟨_, rfl, r.snoc rd⟩
    · cases h

/-- the class c has the field f at place j -/
structure FldOf (X : Cx) (C : CT) (f : Str) (c j : Nat) : Prop where
  cl : Cls X.K (C.ca c)
  no : NoAttr X.K (C.ca c) f
  at_ : (C.cf c)[j]? = some f
  fst : f ∉ (C.cf c).take j
  few : (C.cf c).length < 1000
/-- a property of a class: what its getter does -/
structure PropD (X : Cx) (C : CT) (f : Str) (c : Nat) (m : DF) : Prop where
  cl : Cls X.K (C.ca c)
  ex : ∃ (p g : Addr) (k : Nat) (fd : FuncData) (ps : List Str), PropOf X.K (C.ca c) f p g ∧ FnG X.prog X.w X.K X.mg X.base C k g fd ps m ∧ Room (k + 1) X.A ∧ Binds X.K fd ps [] ∧ ps.length = 1
inductive Acc where
  | fld (j : Nat) | prop (m : DF)
def AccOk (X : Cx) (C : CT) (f : Str) (c : Nat) : Acc → Prop
  | .fld j => FldOf X C f c j
  | .prop m => PropD X C f c m
/-- an instance: a cell of the heap, or data -/
def insAt (hp : List Cell) : D → Option (Nat × List D)
  | .ref n => (match hp[n]? with
    | some (.ins c ds) => some (c, ds)
    | _ => none)
  | .ins c ds => some (c, ds)
  | _ => none
theorem ins_at {G : Wd} {Z : Addr → Prop} {p : Pt} {d : D} {v : V} {c : Nat} {ds : List D} (S : SR G Z p) (r : RepP G Z p d v) (h : insAt p.st.hp d = some (c, ds)) : ∃ a dx vs, v = .ref a ∧ p.H a = some (.ins (G.ca c) dx ((G.cf c).zip vs)) ∧ RepLP G Z p ds vs := by
  cases d with
  | ref n =>
    simp only [insAt] at h
    cases hn : p.st.hp[n]? with
    | none => rw [hn] at h; cases h
    | some cell =>
      rw [hn] at h
      cases cell with
      | ins c' ds' =>
        cases h
        obtain ⟨a, ea, ca, _⟩ := S.cell n _ hn
        cases r with
        | ref hr =>
          rw [hr] at ea
          cases ea
          obtain ⟨dx, vs, ei, rv⟩ := ca
          exact ⟨_, dx, vs, rfl, ei, rv⟩
      | _ => cases h
  | ins c' ds' =>
    cases h
    cases r with
    | ins h1 hn a1 => exact ⟨_, _, _, rfl, h1, a1⟩
  | _ => cases h
def getA (acc : Nat → Option Acc) (fo : DM D) : DM D := bnd fo fun x s => match insAt s.hp x with
  | some (c, ds) => (match acc c with
    | some (.fld j) => (match ds[j]? with
      | some d => .ok d s
      | none => .stuck)
    | some (.prop m) => (match m [x] s.hp with
      | .ok d hp => .ok d ⟨s.sl, hp⟩
      | _ => .stuck)
    | none => .stuck)
  | none => .stuck
section
variable {X : Cx} {C : CT} {W : WX}
theorem prop_go {pins : List (Addr × Obj)} {σ : L2.St} {H : Hp} {s : Shared} {Q : VK} {b : Bool} {p : Pt} {Z : Addr → Prop} {f : Str} {c : Nat} {x : D} {m : DF} {a dx : Addr} {fs : List (Str × V)} {d : D} {hp : List Cell} (P : PropD X C f c m) (hg : X.A.guards = some []) (I : L2.Inv X pins σ H s) (e1 : p.sg = σ) (e2 : p.H = H) (S : SR (wd X.K C) Z p)
    (r : RepP (wd X.K C) Z p x (.ref a)) (ea : p.H a = some (.ins (C.ca c) dx fs)) (hm : m [x] p.st.hp = .ok d hp)
    (h : ∀ (rho : List Addr) (H : Hp) (v : V), SR (wd X.K C) Z ⟨rho, ⟨p.st.sl, hp⟩, p.sg, H⟩ → Le p ⟨rho, ⟨p.st.sl, hp⟩, p.sg, H⟩ → RepP (wd X.K C) Z ⟨rho, ⟨p.st.sl, hp⟩, p.sg, H⟩ d v → Q v H) :
    wpAny (model X.prog X.w) X.A (getAttr (.ref a) f b) (EP X pins σ Q) X.xe s := by
  subst e1 e2
  obtain ⟨pa, g, k, fd, ps, hp2, F, hr, hb, hps⟩ := P.ex
  obtain ⟨mA, O, _, _, _, _⟩ := ins_get I.hok ea
  obtain ⟨od, J, _⟩ := O.look
  obtain ⟨rest, hrec⟩ := hp2.rec_
  have I1 := I.tok (s.toks + 1)
  have hc : (PySem.W.clsIn X.K (C.ca c)).isSome = true := by
    obtain ⟨cd, hc, _⟩ := PySem.W.any_some P.cl.hd
    rw [hc]
    rfl
  refine PySem.W.get_bind I.kIn J (PySem.W.plainGet_of (P.cl.get f)).1 (PySem.W.findObj_data hc hp2.at_ hp2.get hp2.tak) (PySem.W.plainGet_of (P.cl.get f)).2 (wpAny_call (PySem.W.prop_get (s := { s with toks := s.toks + 1 }) I.kIn hrec ?_))
  have hb1 := hb _ [.ref a] I1.kIn (by simpa using hps.symm)
  rw [List.append_nil] at hb1
  refine codeAny_mono (F.run X.A.in1 X.stack { s with toks := s.toks + 1 } p.H ⟨[.ref a], []⟩ [.ref a] [.ref a] Q (fun _ _ _ => False) hr.in1 hg I1.env0.in1 hb1 (.cons rfl .nil) (by rw [hps]; rfl) ⟨Zin Z p, p.rho, p.st.hp, [x], S.in, RepLP.in (.cons r .nil), ?_⟩) fun r s' hq => ?_
  · rw [hm]
    intro rho H v S' l rv
    obtain ⟨S2, l2, r2⟩ := S.out S' l
    exact h rho H v S2 l2 (r2 d v rv)
  · cases r with
    | error er =>
      have hw := XE.of_call (W := fun _ _ _ _ => False) I1 (fun _ _ _ h => h) hq
      obtain ⟨_, _, _, _, _, _, _, _, _, _, _, _, _, _, _, _, z⟩ := hw
      exact z.elim
    | ok fl =>
      cases fl with
      | ret u =>
        obtain ⟨v, H', I3, rv, q3⟩ := I1.after hq
        show wpAny _ _ (handedOut u) _ _ _
        rw [PySem.W.handedOut_of (handed_of rv)]
        exact wpAny_pure ⟨v, H', I3, rv, q3⟩
      | next => exact False.elim hq
      | brk => exact False.elim hq
      | cont => exact False.elim hq

theorem de_attr {e : Expr} {f : Str} {pos : Pos} {acc : Nat → Option Acc} {fo : DM D} (ha : DE X C W e fo) (hacc : ∀ c a, acc c = some a → AccOk X C f c a) (hgd : X.A.guards = some [])
    (hab : attributeBase e f X.env (eval e X.env) = eval e X.env := by rfl) : DE X C W (.Attribute e f pos) (getA acc fo) := by
  refine ⟨⟨fun pins s σ H Q I h => ?_⟩⟩
  obtain ⟨Z, p, rfl, rfl, S, h⟩ := h
  refine attr_of hab (thn (ha.pe.run pins s _ _ _ I ⟨Z, p, rfl, rfl, S, Fin.bnd h⟩) fun u s1 ⟨x, H1, I1, rx, q1, d1, e1, e2, S1, l1, r1, h1⟩ => ?_)
  subst e2
  cases hi : insAt q1.st.hp d1 with
  | none => rw [hi] at h1; exact h1.elim
  | some cd =>
    obtain ⟨c, ds⟩ := cd
    rw [hi] at h1
    obtain ⟨a, dx, vs, rfl, ei, rv⟩ := ins_at S1 r1 hi
    obtain rfl : u = Value.ref a := rx
    dsimp only at h1
    cases hc : acc c with
    | none => rw [hc] at h1; exact h1.elim
    | some ac =>
      rw [hc] at h1
      have ok := hacc c ac hc
      cases ac with
      | fld j =>
        dsimp only at h1
        cases hd : ds[j]? with
        | none => rw [hd] at h1; exact h1.elim
        | some d =>
          rw [hd] at h1
          have ok : FldOf X C f c j := ok
          obtain ⟨v, hv, rd⟩ := RepL.get' rv hd
          exact getattr_ok I1 ei ok.cl ok.no ((lookup_zip ok.at_ ok.fst).trans hv) fun u' s2 I2 ru => ⟨v, q1.H, I2, ru, Fin.ok h1 S1 rd⟩
      | prop m =>
        dsimp only at h1
        cases hm : m [d1] q1.st.hp with
        | ok d hp =>
          rw [hm] at h1
          exact prop_go ok hgd I1 e1 rfl S1 r1 ei hm fun rho H v S2 l2 rv2 => h1 rho H v S2 l2 rv2
        | err x hp => rw [hm] at h1; exact h1.elim
        | stuck => rw [hm] at h1; exact h1.elim
/-- o.f = e -/
def fldS (c j : Nat) (fo fv : DM D) : DS := bndS fv fun d => bndS fo fun x s => match x with
  | .ref n => (match s.hp[n]? with
    | some (.ins c' ds) => if c' = c then (match setFld j d ds with
      | some es => .nx ⟨s.sl, s.hp.set n (.ins c es)⟩
      | none => .stuck) else .stuck
    | _ => .stuck)
  | _ => .stuck
theorem st_fld {o value : Expr} {f : Str} {pos pos' : Pos} {c j : Nat} {fo fv : DM D} (ok : FldOf X C f c j) (ho : DE X C W o fo) (hv : DE X C W value fv) (hs : swapsWith value (some (.Attribute o f pos')) pos.line X.env = pure false := by rfl) : ST X C W (.Assign [.Attribute o f pos'] value pos) (fldS c j fo fv) := by
  refine ⟨psImp (ps_fld ho.pe hv.pe hs) fun D σ H ⟨Z, p, e1, e2, S, h⟩ => ?_⟩
  subst e1 e2
  refine ⟨Z, p, rfl, rfl, S, (FinS.bnd h).mono fun y H1 ⟨q1, d, e1, e2, S1, l1, r1, h1⟩ => ?_⟩
  refine ⟨Z, q1, e1, e2, S1, (FinS.bnd h1).mono fun x H2 ⟨q2, xd, e3, e4, S2, l2, r2, h2⟩ => ?_⟩
  subst e4
  cases xd with
  | ref n =>
    dsimp only at h2
    cases hn : q2.st.hp[n]? with
    | none => rw [hn] at h2; exact h2.elim
    | some cell =>
      rw [hn] at h2
      cases cell with
      | ins c' ds =>
        dsimp only at h2
        by_cases hc : c' = c
        · subst hc
          rw [if_pos rfl] at h2
          obtain ⟨a, ea, ca, _⟩ := S2.cell n _ hn
          cases r2 with
          | ref hr =>
            rw [hr] at ea
            cases ea
            obtain ⟨dx, vs, ei, rv⟩ := ca
            cases hf : setFld j d ds with
            | none => rw [hf] at h2; exact h2.elim
            | some es =>
              rw [hf] at h2
              obtain ⟨ws, hw, rw'⟩ := setFld_rep rv (l2.rep r1) hf
              have hlen : ((C.cf c').zip vs).length < 1000 := by
                have := ok.few
                simp only [List.length_zip]
                omega
              refine ⟨a, C.ca c', dx, _, rfl, ei, ok.cl, ok.no, hlen, ?_⟩
              rw [putF_zip ok.at_ ok.fst hw]
              obtain ⟨S3, l3⟩ := S2.writeCell (o := .ins (C.ca c') dx ((C.cf c').zip ws)) (c' := .ins c' es) hr ⟨dx, ws, rfl, rw'⟩
              have e5 : q2.sg = p.sg := e3.trans e1
              rw [← e5]
              exact h2 _ _ _ S3 l3
        · rw [if_neg hc] at h2; exact h2.elim
      | _ => exact h2.elim
  | _ => exact h2.elim
/-! ### methods -/
structure MethC (X : Cx) (C : CT) (m : Str) (c n : Nat) (mf : DF) : Prop where
  cl : Cls X.K (C.ca c)
  no : m ∉ C.cf c
  ex : ∃ (k : Nat) (g : Addr) (fd : FuncData) (ps : List Str), Meth X.K (C.ca c) m g ∧ FnG X.prog X.w X.K X.mg X.base C k g fd ps mf ∧ Room k X.A ∧ Binds X.K fd ps [] ∧ ps.length = n + 1
def objM (c : Nat) (m : DF) (fo : DM D) (fs : DM (List D)) : DM D := bnd fo fun x s => match insAt s.hp x with
  | some (c', _) => if c' = c then callM m (bnd fs fun ds => ret (x :: ds)) s else .stuck
  | none => .stuck
theorem meth_at {Q : VK} {c : Nat} {mf : DF} {fo : DM D} {fs : DM (List D)} {d1 : D} {q1 : Pt} {Z : Addr → Prop} {x : V} (r1 : RepP (wd X.K C) Z q1 d1 x) (S1 : SR (wd X.K C) Z q1)
    (h1 : Fin (wd X.K C) Z W (relD (wd X.K C) Z) q1 ((fun (x : D) (s : DSt) => match insAt s.hp x with
      | some (c', _) => if c' = c then callM mf (bnd fs fun ds => ret (x :: ds)) s else .stuck
      | none => .stuck) d1 q1.st) Q) : ∃ a dx vs, x = .ref a ∧ q1.H a = some (.ins (C.ca c) dx ((C.cf c).zip vs)) ∧ Fin (wd X.K C) Z W (relD (wd X.K C) Z) q1 (callM mf (bnd fs fun ds => ret (d1 :: ds)) q1.st) Q := by
  dsimp only at h1
  cases hi : insAt q1.st.hp d1 with
  | none => rw [hi] at h1; exact h1.elim
  | some cd =>
    obtain ⟨c', ds⟩ := cd
    rw [hi] at h1
    dsimp only at h1
    obtain ⟨a, dx, vs, rfl, ei, rv⟩ := ins_at S1 r1 hi
    by_cases hc : c' = c
    · subst hc
      rw [if_pos rfl] at h1
      exact ⟨a, dx, vs, rfl, ei, h1⟩
    · rw [if_neg hc] at h1; exact h1.elim
theorem callM_split {G : Wd} {Z : Addr → Prop} {q : Pt} {mf : DF} {d1 : D} {fs : DM (List D)} {Q : VK} {a : Addr} (hr : RepP G Z q d1 (.ref a)) (h : Fin G Z W (relD G Z) q (callM mf (bnd fs fun ds => ret (d1 :: ds)) q.st) Q) :
    Fin G Z W (relL G Z) q (fs q.st) fun vs H => ∃ q2 ds, q2.sg = q.sg ∧ q2.H = H ∧ SR G Z q2 ∧ RepLP G Z q2 (d1 :: ds) (.ref a :: vs) ∧ Fin G Z W (relD G Z) q2 (match mf (d1 :: ds) q2.st.hp with
      | .ok d hp => R.ok d ⟨q2.st.sl, hp⟩
      | .err x hp => .err x ⟨q2.st.sl, hp⟩
      | .stuck => .stuck) Q := by
  unfold callM bnd ret at h
  cases e : fs q.st with
  | ok ds st =>
    rw [e] at h
    intro rho H vs S l r
    exact ⟨⟨rho, st, q.sg, H⟩, ds, rfl, rfl, S, .cons (l.rep hr) r, Fin.later h l rfl⟩
  | err x st => rw [e] at h; exact h
  | stuck => rw [e] at h; exact h
theorem de_objm {o e : Expr} {es : List Expr} {m : Str} {c n : Nat} {mf : DF} {pos apos : Pos} {fo : DM D} {fs : DM (List D)} {pl : Sem Bool} (M : MethC X C m c n mf) (tk : Takes X W) (hgd : X.A.guards = some []) (ho : DE X C W o fo) (ha : DA X C W (e :: es) fs) (hn : (e :: es).length = n) (hlen : ∀ s ds s', fs s = .ok ds s' → ds.length = n)
    (hst : starEach (e :: es) X.env = (false, eval e X.env) :: starEach es X.env := by rfl) (hpl : (backTo pos (starEach es X.env)).any (·.1) = false := by rfl)
    (ht : eval (.Call (.Attribute o m apos) (e :: es) [] pos) X.env = (do
      let ov ← eval o X.env
      standAt apos.atName
      let (f, first) ← holding [ov] (getMethod ov m pl)
      callWith pos f first (backTo pos (starEach (e :: es) X.env)) (backToKw pos (keywordEach [] X.env))) := by rfl) :
    DE X C W (.Call (.Attribute o m apos) (e :: es) [] pos) (objM c mf fo fs) := by
  obtain ⟨k, g, fd, ps, hm, F, hr, hb, hps⟩ := M.ex
  refine ⟨⟨fun pins s σ H Q I h => ?_⟩⟩
  obtain ⟨Z, p, rfl, rfl, S, h⟩ := h
  refine PySem.W.methodCall_KW (pl := pl) (thn (ho.pe.run pins s _ _ _ I ⟨Z, p, rfl, rfl, S, Fin.bnd h⟩) fun u s1 ⟨x, H1, I1, rx, q1, d1, e1, e2, S1, l1, r1, h1⟩ => ?_) ht
  subst e2
  obtain ⟨a, dx, vs0, rfl, ei, h2⟩ := meth_at (fo := fo) (fs := fs) r1 S1 h1
  obtain rfl : u = Value.ref a := rx
  refine getmeth_ok I1 ei M.cl hm (lookup_zip_none M.no) ?_
  have h3 := callM_split r1 h2
  refine PySem.W.callWith_K (first := [.ref a]) (h₀ := X.base) I.ok.mod.kin hm.kp (thn (ha.pa.run pos pins s1 _ _ (fun vs H2 => vs.length = n ∧ ∃ q2 ds, q2.sg = q1.sg ∧ q2.H = H2 ∧ SR (wd X.K C) Z q2 ∧ RepLP (wd X.K C) Z q2 (d1 :: ds) (.ref a :: vs) ∧ Fin (wd X.K C) Z W (relD (wd X.K C) Z) q2 (match mf (d1 :: ds) q2.st.hp with
      | .ok d hp => R.ok d ⟨q2.st.sl, hp⟩
      | .err x hp => .err x ⟨q2.st.sl, hp⟩
      | .stuck => .stuck) Q) I1 ⟨Z, q1, e1, rfl, S1, ?_⟩) fun us s2 ⟨vs, H2, I2, r, hl, q2, ds, e3, e4, S2, rd, h4⟩ => ⟨I2.kIn, ?_⟩) hst hpl
  · cases ef : fs q1.st with
    | ok ds st =>
      rw [ef] at h3
      intro rho H1 vs S3 l3 r3
      refine ⟨?_, h3 rho H1 vs S3 l3 r3⟩
      rw [← RepL.length r3, hlen _ _ _ ef]
    | err x st => rw [ef] at h3; exact h3
    | stuck => rw [ef] at h3; exact h3
  · have hus : (Value.ref a :: us ++ ([] : List Value)).length = ps.length := by
      have := r.length
      simp only [List.append_nil, List.length_cons]
      omega
    have hb1 := hb s2 (.ref a :: us) I2.kIn hus
    rw [List.append_nil] at hb1
    exact run_fnC (us := .ref a :: us) (vs := .ref a :: vs) F hr hgd tk hb1 (by simp only [List.length_cons]; omega) I2 (.cons rfl r) (e3.trans e1) e4 S2 rd h4
theorem de_objm0 {o : Expr} {m : Str} {c : Nat} {mf : DF} {pos apos : Pos} {fo : DM D} {pl : Sem Bool} (M : MethC X C m c 0 mf) (tk : Takes X W) (hgd : X.A.guards = some []) (ho : DE X C W o fo)
    (ht : eval (.Call (.Attribute o m apos) [] [] pos) X.env = (do
      let ov ← eval o X.env
      standAt apos.atName
      let (f, first) ← holding [ov] (getMethod ov m pl)
      callWith pos f first (backTo pos (starEach [] X.env)) (backToKw pos (keywordEach [] X.env))) := by rfl) :
    DE X C W (.Call (.Attribute o m apos) [] [] pos) (objM c mf fo nilM) := by
  obtain ⟨k, g, fd, ps, hm, F, hr, hb, hps⟩ := M.ex
  refine ⟨⟨fun pins s σ H Q I h => ?_⟩⟩
  obtain ⟨Z, p, rfl, rfl, S, h⟩ := h
  refine PySem.W.methodCall_KW (pl := pl) (thn (ho.pe.run pins s _ _ _ I ⟨Z, p, rfl, rfl, S, Fin.bnd h⟩) fun u s1 ⟨x, H1, I1, rx, q1, d1, e1, e2, S1, l1, r1, h1⟩ => ?_) ht
  subst e2
  obtain ⟨a, dx, vs0, rfl, ei, h2⟩ := meth_at (fo := fo) (fs := nilM) r1 S1 h1
  obtain rfl : u = Value.ref a := rx
  refine getmeth_ok I1 ei M.cl hm (lookup_zip_none M.no) ?_
  have hb1 := hb s1 [.ref a] I1.kIn (by simpa using hps.symm)
  rw [List.append_nil] at hb1
  refine PySem.W.callWith_K0 (first := [.ref a]) I1.kIn hm.kp (run_fnC (us := [.ref a]) (vs := [.ref a]) (ds := [d1]) F hr hgd tk hb1 (by rw [hps]; rfl) I1 (.cons rfl .nil) e1 rfl S1 (.cons r1 .nil) ?_)
  exact h2
end
end DP
set_option Elab.async false
set_option linter.all false
set_option maxRecDepth 100000
set_option maxHeartbeats 4000000
/-! DP16: static methods by the class's name, making, f-strings. -/
namespace DP
open PySem PySem.Spec PyProof.Rows L2 ClX

structure StatC (X : Cx) (C : CT) (cn m : Str) (n : Nat) (mf : DF) : Prop where
  ex : ∃ (Ad p g : Addr) (mc : Value) (rest : List Value) (k : Nat) (fd : FuncData) (ps : List Str), X.mg cn = some (.ref Ad) ∧ CRead X.K Ad mc ∧ PySem.W.findCls X.K (.ref Ad) mc m = some (.get (.builtin "staticmethod.__get__") (.ref p) .none (.ref Ad)) ∧
    PySem.W.recIn X.K p "staticmethod" = some (.ref g :: rest) ∧ PySem.W.keepIn X.K (.ref g) = true ∧ FnG X.prog X.w X.K X.mg X.base C k g fd ps mf ∧ Room k X.A ∧ Binds X.K fd ps [] ∧ ps.length = n
section
variable {X : Cx} {C : CT} {W : WX}
theorem de_stat {cn m : Str} {n : Nat} {mf : DF} {e : Expr} {es : List Expr} {p0 pos apos : Pos} {fs : DM (List D)} {pl : Sem Bool} (M : StatC X C cn m n mf) (tk : Takes X W) (hgd : X.A.guards = some []) (hg : Gl X cn) (ha : DA X C W (e :: es) fs) (hn : (e :: es).length = n) (hlen : ∀ s ds s', fs s = .ok ds s' → ds.length = n)
    (hdb : (cn == ("__debug__" : Str)) = false := by decide)
    (hst : starEach (e :: es) X.env = (false, eval e X.env) :: starEach es X.env := by rfl) (hpl : (backTo pos (starEach es X.env)).any (·.1) = false := by rfl)
    (ht : eval (.Call (.Attribute (.Name cn p0) m apos) (e :: es) [] pos) X.env = (do
      let ov ← eval (.Name cn p0) X.env
      standAt apos.atName
      let (f, first) ← holding [ov] (getMethod ov m pl)
      callWith pos f first (backTo pos (starEach (e :: es) X.env)) (backToKw pos (keywordEach [] X.env))) := by rfl) :
    DE X C W (.Call (.Attribute (.Name cn p0) m apos) (e :: es) [] pos) (callM mf fs) := by
  obtain ⟨Ad, p, g, mc, rest, k, fd, ps, hm, rd, hat, hrec, hkp, F, hr, hb, hps⟩ := M.ex
  refine ⟨⟨fun pins s σ H Q I h => ?_⟩⟩
  obtain ⟨Z, q, rfl, rfl, S, h⟩ := h
  refine PySem.W.methodCall_KW (pl := pl) (ld_glob I hg hm ?_ hdb) ht
  refine PySem.W.method_cls I.kIn rd.ga (PySem.W.cls_bind I.kIn rd.rd hat (wpAny_call (PySem.W.sm_get (s := { s with toks := s.toks + 1 }) I.kIn hrec (PySem.W.handed_on (handed_of (v := V.ref g) rfl) ?_))))
  have I0 := I.tok (s.toks + 1)
  refine PySem.W.callWith_K (first := []) (h₀ := X.base) I0.ok.mod.kin hkp (thn (ha.pa.run pos pins { s with toks := s.toks + 1 } _ _ (fun vs H1 => vs.length = ps.length ∧ ∃ q1 ds, q1.sg = q.sg ∧ q1.H = H1 ∧ SR (wd X.K C) Z q1 ∧ RepLP (wd X.K C) Z q1 ds vs ∧ Fin (wd X.K C) Z W (relD (wd X.K C) Z) q1 (match mf ds q1.st.hp with
      | .ok d hp => R.ok d ⟨q1.st.sl, hp⟩
      | .err x hp => .err x ⟨q1.st.sl, hp⟩
      | .stuck => .stuck) Q) I0 ⟨Z, q, rfl, rfl, S, ?_⟩) fun us s1 ⟨vs, H1, I1, r, hl, q1, ds, e1, e2, S1, rdd, h1⟩ => ⟨I1.kIn, ?_⟩) hst hpl
  · unfold callM bnd at h
    cases ef : fs q.st with
    | ok ds st =>
      rw [ef] at h
      intro rho H1 vs S1 l1 r1
      refine ⟨?_, ⟨rho, st, q.sg, H1⟩, ds, rfl, rfl, S1, r1, Fin.later h l1 rfl⟩
      rw [← RepL.length r1, hlen _ _ _ ef, hps]
    | err x st => rw [ef] at h; exact h
    | stuck => rw [ef] at h; exact h
  · have hus : (us ++ ([] : List Value)).length = ps.length := by rw [List.append_nil, ← r.length]; exact hl
    have hb1 := hb s1 us I1.kIn hus
    rw [List.append_nil] at hb1
    exact run_fnC F hr hgd tk hb1 hl I1 r e1 e2 S1 rdd h1

/-! ### making an instance -/
structure MakeC (X : Cx) (C : CT) (cn : Str) (c n : Nat) (mf : DF) : Prop where
  ex : ∃ (f : Addr) (k : Nat) (fd : FuncData) (ps : List Str), X.mg cn = some (.ref (C.ca c)) ∧ Mk X.K (C.ca c) f ∧ FnG X.prog X.w X.K X.mg X.base C k f fd ps mf ∧ Room (k + 1) X.A ∧ Binds X.K fd ps [] ∧ ps.length = n + 1
/-- __init__ at a new cell -/
def makeF (c : Nat) (m : DF) : DF := fun ds hp => match m (.ref hp.length :: ds) (hp ++ [.ins c []]) with
  | .ok .non hp' => .ok (.ref hp.length) hp'
  | .err x hp' => .err x hp'
  | _ => .stuck
theorem SR.newIns {G : Wd} {Z : Addr → Prop} {p : Pt} (S : SR G Z p) {x dx : Addr} {c : Nat} (nx : p.H x = none) (nd : p.H dx = none) (ne : dx ≠ x) :
    SR G Z ⟨p.rho ++ [x], ⟨p.st.sl, p.st.hp ++ [.ins c []]⟩, p.sg, upd (upd p.H dx (.own x)) x (.ins (G.ca c) dx [])⟩ ∧ Le p ⟨p.rho ++ [x], ⟨p.st.sl, p.st.hp ++ [.ins c []]⟩, p.sg, upd (upd p.H dx (.own x)) x (.ins (G.ca c) dx [])⟩ := by
  obtain ⟨S1, l1⟩ := S.ext (same_upd (o := .own x) nd)
  have nx' : upd p.H dx (.own x) x = none := (upd_ne (Ne.symm ne)).trans nx
  obtain ⟨S2, l2⟩ := S1.newCell (o := .ins (G.ca c) dx []) (c := .ins c []) nx' ⟨dx, [], by simp, .nil⟩
  exact ⟨S2, l1.trans l2⟩
theorem de_make {cn : Str} {c n : Nat} {mf : DF} {p0 pos : Pos} {e : Expr} {es : List Expr} {f : DM (List D)} (M : MakeC X C cn c n mf) (tk : Takes X W) (hgd : X.A.guards = some []) (hg : Gl X cn) (ha : DA X C W (e :: es) f) (hn : (e :: es).length = n) (hlen : ∀ s ds s', f s = .ok ds s' → ds.length = n)
    (hdb : (cn == ("__debug__" : Str)) = false := by decide) (he : starEach (e :: es) X.env = (false, eval e X.env) :: starEach es X.env := by rfl) (hpl : (backTo pos (starEach es X.env)).any (·.1) = false := by rfl) : DE X C W (.Call (.Name cn p0) (e :: es) [] pos) (callM (makeF c mf) f) := by
  obtain ⟨fa, k, fd, ps, hm, MK, F, hr, hb, hps⟩ := M.ex
  refine ⟨⟨fun pins s σ H Q I h => ?_⟩⟩
  obtain ⟨Z, q, rfl, rfl, S, h⟩ := h
  refine wpAny_Call_Name_kw (ld_glob I hg hm ?_ hdb)
  refine PySem.W.callWith_K (h₀ := X.base) I.ok.mod.kin MK.kp (thn (ha.pa.run pos pins s _ _ (fun vs H1 => vs.length = n ∧ ∃ q1 ds, q1.sg = q.sg ∧ q1.H = H1 ∧ SR (wd X.K C) Z q1 ∧ RepLP (wd X.K C) Z q1 ds vs ∧ Fin (wd X.K C) Z W (relD (wd X.K C) Z) q1 (match makeF c mf ds q1.st.hp with
      | .ok d hp => R.ok d ⟨q1.st.sl, hp⟩
      | .err x hp => .err x ⟨q1.st.sl, hp⟩
      | .stuck => .stuck) Q) I ⟨Z, q, rfl, rfl, S, ?_⟩) fun us s1 ⟨vs, H1, I1, r, hl, q1, ds, e1, e2, S1, rdd, h1⟩ => ⟨I1.kIn, ?_⟩) he hpl
  · unfold callM bnd at h
    cases ef : f q.st with
    | ok ds st =>
      rw [ef] at h
      intro rho H1 vs S1 l1 r1
      refine ⟨?_, ⟨rho, st, q.sg, H1⟩, ds, rfl, rfl, S1, r1, Fin.later h l1 rfl⟩
      rw [← RepL.length r1, hlen _ _ _ ef]
    | err x st => rw [ef] at h; exact h
    | stuck => rw [ef] at h; exact h
  · subst e2
    have I2 := Inv.made (C := C.ca c) I1
    have nx : q1.H (s1.heap.objs.size + 1) = none := I1.hok.fresh (Nat.le_succ _)
    have nd : q1.H s1.heap.objs.size = none := I1.hok.fresh (Nat.le_refl _)
    have nne : s1.heap.objs.size ≠ s1.heap.objs.size + 1 := Nat.ne_of_lt (Nat.lt_succ_self _)
    obtain ⟨S2, l2⟩ := S1.newIns (c := c) nx nd nne
    have hus : (Value.ref (s1.heap.objs.size + 1) :: us ++ ([] : List Value)).length = ps.length := by
      have := r.length
      simp only [List.append_nil, List.length_cons]
      omega
    have hb1 := hb _ (.ref (s1.heap.objs.size + 1) :: us) I2.kIn hus
    rw [List.append_nil] at hb1
    have hrho : (q1.rho ++ [s1.heap.objs.size + 1])[q1.st.hp.length]? = some (s1.heap.objs.size + 1) := by
      rw [← S1.hlen, List.getElem?_append_right (Nat.le_refl _)]
      simp
    refine wpAny_call (make_map (f := fa) I1.kIn MK.makes MK.init (beq_iff_eq.mp MK.fn) (codeAny_mono (F.run _ X.stack _ _ ⟨Value.ref (s1.heap.objs.size + 1) :: us, []⟩ (Value.ref (s1.heap.objs.size + 1) :: us) (.ref (s1.heap.objs.size + 1) :: vs) (fun v H2 => v = .non ∧ Q (.ref (s1.heap.objs.size + 1)) H2) (fun cls d H' => W cls d q1.sg H') (hr.make (C.ca c) us []) hgd
      (I2.env0.make (C.ca c) us []) hb1 (.cons rfl r) (by simp only [List.length_cons]; omega) ⟨Zin Z ⟨q1.rho ++ [s1.heap.objs.size + 1], ⟨q1.st.sl, q1.st.hp ++ [.ins c []]⟩, q1.sg, _⟩, q1.rho ++ [s1.heap.objs.size + 1], q1.st.hp ++ [.ins c []], .ref q1.st.hp.length :: ds, S2.in, RepLP.in (.cons (.ref hrho) (l2.repL rdd)), ?_⟩) fun r s' hq' => ?_))
    · unfold makeF at h1
      cases em : mf (.ref q1.st.hp.length :: ds) (q1.st.hp ++ [.ins c []]) with
      | ok d hp =>
        rw [em] at h1
        cases d with
        | non =>
          intro rho H v S' l rv
          obtain ⟨S3, l3, r3⟩ := S2.out S' l
          have r4 := r3 _ v rv
          cases r4
          refine ⟨rfl, h1 rho H _ S3 (l2.trans l3) (.ref ?_)⟩
          exact l3.rho _ _ hrho
        | _ => exact h1.elim
      | err x hp =>
        rw [em] at h1
        intro rho H cls d S' l xr
        obtain ⟨S3, l3, r3⟩ := S2.out S' l
        refine h1 rho H cls d S3 (l2.trans l3) ⟨xr.1, ?_⟩
        have x2 := xr.2
        cases q : x.arg with
        | none => rw [q] at x2; exact x2
        | some g =>
          rw [q] at x2
          obtain ⟨dd, v, y1, y2, y3, y4⟩ := x2
          refine ⟨dd, v, y1, y2, fun z => y3 ?_, r3 g v y4⟩
          rcases z with (z | z) | z
          · exact .inl (.inl z)
          · exact .inr (.inr z)
          · exact .inr (.inl z)
      | stuck => rw [em] at h1; exact h1.elim
    · rw [e1] at hq'
      cases r with
      | error er => exact tk er s' (XE.of_call I2 (fun _ _ _ h => h) hq')
      | ok fl =>
        cases fl with
        | ret u =>
          obtain ⟨v, H', I3, rv, ev, q3⟩ := I2.after hq'
          subst ev
          exact ⟨rv, ⟨V.ref (s1.heap.objs.size + 1), H', I3, rfl, q3⟩⟩
        | next => exact False.elim hq'
        | brk => exact False.elim hq'
        | cont => exact False.elim hq'

/-! ### instances that stay as they were made: data -/
mutual
def D.noRef : D → Bool
  | .non => true
  | .bl _ => true
  | .int _ => true
  | .str _ => true
  | .tup xs => noRefL xs
  | .lst xs => noRefL xs
  | .dk _ vs => noRefL vs
  | .dt _ vs => noRefL vs
  | .ins _ vs => noRefL vs
  | .ref _ => false
def noRefL : List D → Bool
  | [] => true
  | x :: xs => x.noRef && noRefL xs
end
/-- what carries data without references over -/
structure CarN (L : Addr → Prop) (H : Hp) (L' : Addr → Prop) (H' : Hp) : Prop where
  rd : ∀ (a : Addr) (o : HO), ¬ L a → Rd H a o → Rd H' a o
  ins : ∀ (a C dx : Addr) (fs : List (Str × V)), ¬ L a → H a = some (.ins C dx fs) → H' a = some (.ins C dx fs)
  dead : ∀ (a : Addr), ¬ L a → H a ≠ none → ¬ L' a
  tup : ∀ (a : Addr) (vs : List V), TupH H a vs → TupH H' a vs
section
variable {G : Wd} {rho rho' : List Addr} {L L' : Addr → Prop} {H H' : Hp}
mutual
theorem Rep.carN (c : CarN L H L' H') : ∀ {d : D} {v : V}, d.noRef = true → Rep G rho L H d v → Rep G rho' L' H' d v
  | .non, _, _, h => by cases h; exact .non
  | .bl b, _, _, h => by cases h; exact .bl b
  | .int i, _, _, h => by cases h; exact .int i
  | .str x, _, _, h => by cases h; exact .str x
  | .tup ds, _, hn, h => by
    cases h with
    | tup ht ha =>
      refine .tup ?_ (RepL.carN c hn ha)
      rcases ht with ht | ht
      · exact .inl (c.tup _ _ ht)
      · exact .inr ht
  | .lst ds, _, hn, h => by
    cases h with
    | lst hl ha =>
      refine .lst ?_ (RepL.carN c hn ha)
      rcases hl with ⟨hl, hn⟩ | hl
      · exact .inl ⟨c.rd _ _ hn hl, c.dead _ hn (rdsome hl)⟩
      · exact .inr hl
  | .dk ks ds, _, hn, h => by
    cases h with
    | dk hl hm hz ha => exact .dk (c.rd _ _ hm hl) (c.dead _ hm (rdsome hl)) hz (RepL.carN c hn ha)
  | .dt ks ds, _, hn, h => by
    cases h with
    | dt hl hm hz ha => exact .dt (c.rd _ _ hm hl) (c.dead _ hm (rdsome hl)) hz (RepL.carN c hn ha)
  | .ins k ds, _, hn, h => by
    cases h with
    | ins hl hm ha => exact .ins (c.ins _ _ _ _ hm hl) (c.dead _ hm (by rw [hl]; exact fun z => by cases z)) (RepL.carN c hn ha)
  | .ref n, _, hn, h => by cases hn
theorem RepL.carN (c : CarN L H L' H') : ∀ {ds : List D} {vs : List V}, noRefL ds = true → RepL G rho L H ds vs → RepL G rho' L' H' ds vs
  | [], _, _, h => by cases h; exact .nil
  | d :: ds, _, hn, h => by
    cases h with
    | cons h1 h2 =>
      have hn' : d.noRef = true ∧ noRefL ds = true := by simpa [noRefL] using hn
      exact .cons (Rep.carN c hn'.1 h1) (RepL.carN c hn'.2 h2)
end
end
theorem carN_same {L L' : Addr → Prop} {H : Hp} (h : ∀ a, ¬ L a → ¬ L' a) : CarN L H L' H := ⟨fun _ _ _ h => h, fun _ _ _ _ _ h => h, fun a n _ => h a n, fun _ _ h => h⟩
/-- __init__ alone with the new instance -/
def makeZ (c : Nat) (m : DF) : DF := fun ds hp => if noRefL ds = true then (match m (.ref 0 :: ds) [.ins c []] with
  | .ok .non (.ins c' vs :: _) => if c' = c then (if noRefL vs = true then .ok (.ins c vs) hp else .stuck) else .stuck
  | .err x _ => (match x.arg with
    | none => .err x hp
    | some g => if g.noRef = true then .err x hp else .stuck)
  | _ => .stuck) else .stuck
theorem de_makeZ {cn : Str} {c n : Nat} {mf : DF} {p0 pos : Pos} {e : Expr} {es : List Expr} {f : DM (List D)} (M : MakeC X C cn c n mf) (tk : Takes X W) (hgd : X.A.guards = some []) (hg : Gl X cn) (ha : DA X C W (e :: es) f) (hn : (e :: es).length = n) (hlen : ∀ s ds s', f s = .ok ds s' → ds.length = n)
    (hdb : (cn == ("__debug__" : Str)) = false := by decide) (he : starEach (e :: es) X.env = (false, eval e X.env) :: starEach es X.env := by rfl) (hpl : (backTo pos (starEach es X.env)).any (·.1) = false := by rfl) : DE X C W (.Call (.Name cn p0) (e :: es) [] pos) (callM (makeZ c mf) f) := by
  obtain ⟨fa, k, fd, ps, hm, MK, F, hr, hb, hps⟩ := M.ex
  refine ⟨⟨fun pins s σ H Q I h => ?_⟩⟩
  obtain ⟨Z, q, rfl, rfl, S, h⟩ := h
  refine wpAny_Call_Name_kw (ld_glob I hg hm ?_ hdb)
  refine PySem.W.callWith_K (h₀ := X.base) I.ok.mod.kin MK.kp (thn (ha.pa.run pos pins s _ _ (fun vs H1 => vs.length = n ∧ ∃ q1 ds, q1.sg = q.sg ∧ q1.H = H1 ∧ SR (wd X.K C) Z q1 ∧ RepLP (wd X.K C) Z q1 ds vs ∧ Fin (wd X.K C) Z W (relD (wd X.K C) Z) q1 (match makeZ c mf ds q1.st.hp with
      | .ok d hp => R.ok d ⟨q1.st.sl, hp⟩
      | .err x hp => .err x ⟨q1.st.sl, hp⟩
      | .stuck => .stuck) Q) I ⟨Z, q, rfl, rfl, S, ?_⟩) fun us s1 ⟨vs, H1, I1, r, hl, q1, ds, e1, e2, S1, rdd, h1⟩ => ⟨I1.kIn, ?_⟩) he hpl
  · unfold callM bnd at h
    cases ef : f q.st with
    | ok ds st =>
      rw [ef] at h
      intro rho H1 vs S1 l1 r1
      refine ⟨?_, ⟨rho, st, q.sg, H1⟩, ds, rfl, rfl, S1, r1, Fin.later h l1 rfl⟩
      rw [← RepL.length r1, hlen _ _ _ ef]
    | err x st => rw [ef] at h; exact h
    | stuck => rw [ef] at h; exact h
  · subst e2
    have I2 := Inv.made (C := C.ca c) I1
    have nx : q1.H (s1.heap.objs.size + 1) = none := I1.hok.fresh (Nat.le_succ _)
    have nd : q1.H s1.heap.objs.size = none := I1.hok.fresh (Nat.le_refl _)
    have nne : s1.heap.objs.size ≠ s1.heap.objs.size + 1 := Nat.ne_of_lt (Nat.lt_succ_self _)
    revert nx nd nne I2
    generalize hx : s1.heap.objs.size + 1 = x
    generalize hd : s1.heap.objs.size = dx
    intro I2 nx nd nne
    unfold makeZ at h1
    by_cases hnr : noRefL ds = true
    · rw [if_pos hnr] at h1
      have sm1 : Same q1.H (upd q1.H dx (.own x)) := same_upd nd
      have nx' : upd q1.H dx (.own x) x = none := (upd_ne (Ne.symm nne)).trans nx
      have sm2 : Same q1.H (upd (upd q1.H dx (.own x)) x (.ins (C.ca c) dx [])) := fun a o e => same_upd nx' a o (sm1 a o e)
      have hz : ∀ a, q1.L Z a → upd (upd q1.H dx (.own x)) x (.ins (C.ca c) dx []) a ≠ none := fun a z => upd_has (upd_has (S1.hasL z))
      have S0 : SR (wd X.K C) (fun a => q1.L Z a) ⟨[x], ⟨[], [.ins c []]⟩, [], upd (upd q1.H dx (.own x)) x (.ins (C.ca c) dx [])⟩ := by
        refine ⟨rfl, rfl, fun i d h => by simp at h, fun i c h => by simp at h, fun n c' h => ?_, by simp, fun i j c c' a h => by simp at h, hz⟩
        cases n with
        | zero =>
          cases h
          exact ⟨x, rfl, ⟨dx, [], by rw [List.zip_nil_right]; exact upd_same, .nil⟩, fun z => S1.hasL z nx⟩
        | succ n => simp at h
      have M0 : ∀ a, Pt.M ⟨[x], ⟨[], [.ins c []]⟩, [], upd (upd q1.H dx (.own x)) x (.ins (C.ca c) dx [])⟩ a → a = x := fun a z => by
        rcases z with z | ⟨i, c', z, _⟩
        · simpa using z
        · simp at z
      have R0 : RepL (wd X.K C) [x] (Pt.L (fun a => q1.L Z a) ⟨[x], ⟨[], [.ins c []]⟩, [], upd (upd q1.H dx (.own x)) x (.ins (C.ca c) dx [])⟩) (upd (upd q1.H dx (.own x)) x (.ins (C.ca c) dx [])) ds vs := by
        refine RepL.carN ⟨fun a o n r => ?_, fun a A' dx' fs n e => sm2 _ _ e, fun a n hh z => ?_, fun a vs ⟨o, e, hp⟩ => ⟨o, sm2 _ _ e, hp⟩⟩ hnr rdd
        · rcases r with r | ⟨u, r⟩
          · exact .inl (sm2 _ _ r)
          · exact .inr ⟨u, sm2 _ _ r⟩
        · rcases z with z | z
          · exact hh (M0 a z ▸ nx)
          · exact n z
      have hus : (Value.ref x :: us ++ ([] : List Value)).length = ps.length := by
        have := r.length
        simp only [List.append_nil, List.length_cons]
        omega
      have hb1 := hb _ (.ref x :: us) I2.kIn hus
      rw [List.append_nil] at hb1
      have back : ∀ rho H3 hp3, SR (wd X.K C) (fun a => q1.L Z a) ⟨rho, ⟨[], hp3⟩, [], H3⟩ → Le ⟨[x], ⟨[], [.ins c []]⟩, [], upd (upd q1.H dx (.own x)) x (.ins (C.ca c) dx [])⟩ ⟨rho, ⟨[], hp3⟩, [], H3⟩ → Same q1.H H3 := fun rho H3 hp3 S3 l3 a o e => by
        refine (l3.keep a o (sm2 a o e) fun z => ?_).1
        rw [M0 a z, nx] at e
        cases e
      subst hx hd
      refine wpAny_call (make_map (f := fa) I1.kIn MK.makes MK.init (beq_iff_eq.mp MK.fn) (codeAny_mono (F.run _ X.stack _ _ ⟨Value.ref (s1.heap.objs.size + 1) :: us, []⟩ (Value.ref (s1.heap.objs.size + 1) :: us) (.ref (s1.heap.objs.size + 1) :: vs) (fun v H2 => v = .non ∧ Q (.ref (s1.heap.objs.size + 1)) H2) (fun cls d H' => W cls d q1.sg H') (hr.make (C.ca c) us []) hgd
        (I2.env0.make (C.ca c) us []) hb1 (.cons rfl r) (by simp only [List.length_cons]; omega) ⟨fun a => q1.L Z a, [s1.heap.objs.size + 1], [.ins c []], .ref 0 :: ds, S0, .cons (.ref rfl) R0, ?_⟩) fun r s' hq' => ?_))
      · cases em : mf (.ref 0 :: ds) [.ins c []] with
        | ok d hp =>
          rw [em] at h1
          cases d with
          | non =>
            cases hp with
            | nil => exact h1.elim
            | cons c0 rest =>
              cases c0 with
              | ins c' es =>
                dsimp only at h1
                by_cases hc : c' = c
                · subst hc
                  rw [if_pos rfl] at h1
                  by_cases hne : noRefL es = true
                  · rw [if_pos hne] at h1
                    intro rho H3 v S3 l3 rv
                    cases rv
                    refine ⟨rfl, ?_⟩
                    have sm := back rho H3 _ S3 l3
                    obtain ⟨a, ea, ⟨dx', ws, e3, r3⟩, hz3⟩ := S3.cell 0 _ rfl
                    have ex : rho[0]? = some (s1.heap.objs.size + 1) := l3.rho 0 _ rfl
                    rw [ex] at ea
                    cases ea
                    have rr : Rep (wd X.K C) q1.rho (Pt.L Z { q1 with H := H3 }) H3 (.ins c' es) (.ref (s1.heap.objs.size + 1)) := by
                      refine .ins e3 (fun z => ?_) (RepL.carN (carN_same fun a n z => n (.inr z)) hne r3)
                      exact S1.hasL z nx
                    exact Fin.more h1 S1 sm rr
                  · rw [if_neg hne] at h1; exact h1.elim
                · rw [if_neg hc] at h1; exact h1.elim
              | _ => exact h1.elim
          | _ => exact h1.elim
        | err x hp =>
          rw [em] at h1
          intro rho H3 cls d S3 l3 xr
          have sm := back rho H3 _ S3 l3
          obtain ⟨S4, l4⟩ := S1.ext sm
          dsimp only at h1
          cases ex : x.arg with
          | none =>
            rw [ex] at h1
            have x2 := xr.2
            rw [ex] at x2
            exact h1 _ H3 cls d S4 l4 ⟨xr.1, by rw [ex]; exact x2⟩
          | some g =>
            rw [ex] at h1
            dsimp only at h1
            by_cases hng : g.noRef = true
            · rw [if_pos hng] at h1
              have x2 := xr.2
              rw [ex] at x2
              obtain ⟨dd, v, y1, y2, y3, y4⟩ := x2
              exact h1 _ H3 cls d S4 l4 ⟨xr.1, by rw [ex]; exact ⟨dd, v, y1, y2, fun z => y3 (.inr z), Rep.carN (carN_same fun a n z => n (.inr z)) hng y4⟩⟩
            · rw [if_neg hng] at h1; exact h1.elim
        | stuck => rw [em] at h1; exact h1.elim
      · rw [e1] at hq'
        cases r with
        | error er => exact tk er s' (XE.of_call I2 (fun _ _ _ h => h) hq')
        | ok fl =>
          cases fl with
          | ret u =>
            obtain ⟨v, H', I3, rv, ev, q3⟩ := I2.after hq'
            subst ev
            exact ⟨rv, ⟨V.ref (s1.heap.objs.size + 1), H', I3, rfl, q3⟩⟩
          | next => exact False.elim hq'
          | brk => exact False.elim hq'
          | cont => exact False.elim hq'
    · rw [if_neg hnr] at h1
      exact h1.elim
/-! ### f-strings -/
/-- {x}, as a text -/
def fmtD : D → Option Str
  | .str y => if y.length ≤ sizeLine then some y else none
  | .int i => if i.natAbs.log2 < 1920 then some (toString i : String) else none
  | _ => none
def fmtM (f : DM D) : DM D := bnd f fun d => lift ((fmtD d).map .str)
theorem de_fmt {e : Expr} {pos : Pos} {f : DM D} (he : DE X C W e f) : DE X C W (.FormattedValue e (-1) none pos) (fmtM f) := by
  refine ⟨peImp (pe_fmt he.pe) fun σ H Q h => ?_⟩
  obtain ⟨Z, p, rfl, rfl, S, h⟩ := h
  refine ⟨Z, p, rfl, rfl, S, (Fin.bnd h).mono fun x H1 ⟨q1, d1, e1, e2, S1, l1, r1, h1⟩ => ?_⟩
  subst e2
  unfold lift at h1
  cases d1 with
  | str y =>
    cases r1
    simp only [fmtD] at h1
    by_cases hz : y.length ≤ sizeLine
    · rw [if_pos hz] at h1
      exact .inl ⟨y, rfl, hz, Fin.ok h1 S1 (.str _)⟩
    · rw [if_neg hz] at h1
      exact h1.elim
  | int i =>
    cases r1
    simp only [fmtD] at h1
    by_cases hz : i.natAbs.log2 < 1920
    · rw [if_pos hz] at h1
      exact .inr ⟨i, rfl, hz, Fin.ok h1 S1 (.str _)⟩
    · rw [if_neg hz] at h1
      exact h1.elim
  | _ => exact h1.elim
/-- the parts -/
inductive DJ (X : Cx) (C : CT) (W : WX) : List Expr → List (DM D) → Prop where
  | nil : DJ X C W [] []
  | cons {e : Expr} {f : DM D} {es : List Expr} {fs : List (DM D)} (h : DE X C W e f) (r : DJ X C W es fs) : DJ X C W (e :: es) (f :: fs)
theorem DJ.pj {es : List Expr} {fs : List (DM D)} (h : DJ X C W es fs) : PJ X es (fs.map (tD (wd X.K C) W)) := by
  induction h with
  | nil => exact .nil
  | cons h r ih => exact .cons h.pe ih
def joinM : List (DM D) → Str → DM D
  | [], acc => ret (.str acc)
  | f :: fs, acc => bnd f fun d => match d with
    | .str y => if (acc ++ y).length ≤ sizeLine then joinM fs (acc ++ y) else fun _ => .stuck
    | _ => fun _ => .stuck
theorem join_go {Q : VK} : ∀ (fs : List (DM D)) (acc : Str) (σ : L2.St) (H : Hp), tD (wd X.K C) W (joinM fs acc) σ H Q → tJs (fs.map (tD (wd X.K C) W)) acc σ H fun out H1 => Q (.str out) H1
  | [], acc, σ, H, ⟨Z, p, e1, e2, S, h⟩ => by
    subst e1 e2
    exact Fin.ok h S (.str _)
  | f :: fs, acc, σ, H, ⟨Z, p, e1, e2, S, h⟩ => by
    subst e1 e2
    refine ⟨Z, p, rfl, rfl, S, (Fin.bnd h).mono fun x H1 ⟨q1, d1, e1, e2, S1, l1, r1, h1⟩ => ?_⟩
    subst e2
    cases d1 with
    | str y =>
      cases r1
      dsimp only at h1
      by_cases hz : (acc ++ y).length ≤ sizeLine
      · rw [if_pos hz] at h1
        exact ⟨y, rfl, hz, join_go fs (acc ++ y) _ _ ⟨Z, q1, e1, rfl, S1, h1⟩⟩
      · rw [if_neg hz] at h1
        exact h1.elim
    | _ => exact h1.elim
theorem de_joined {v1 v2 : Expr} {rest : List Expr} {fs : List (DM D)} {pos : Pos} (h : DJ X C W (v1 :: v2 :: rest) fs) : DE X C W (.JoinedStr (v1 :: v2 :: rest) pos) (joinM fs Str.empty) :=
  ⟨peImp (pe_joined h.pj) fun σ H Q h => join_go fs Str.empty σ H h⟩
theorem de_joined1 {e : Expr} {pos : Pos} {f : DM D} (h : DE X C W e f) : DE X C W (.JoinedStr [e] pos) f := ⟨pe_joined1 h.pe⟩
/-- what is never reached -/
theorem st_never {st : Stmt} : ST X C W st (fun _ => .stuck) := ⟨psImp ps_never fun D σ H ⟨Z, p, e1, e2, S, h⟩ => h.elim⟩
end
end DP
set_option Elab.async false
set_option linter.all false
set_option maxRecDepth 100000
set_option maxHeartbeats 4000000
/-! DP17: minus, the module's constants, defs as callees. -/
namespace DP
open PySem PySem.Spec PyProof.Rows L2 He

section
variable {X : Cx} {C : CT} {W : WX}
def negD : D → Option D
  | .int i => some (.int (-i))
  | _ => none
def unM (g : D → Option D) (f : DM D) : DM D := bnd f fun d => lift (g d)
theorem de_neg {a : Expr} {pos : Pos} {f : DM D} (ha : DE X C W a f) : DE X C W (.UnaryOp .USub a pos) (unM negD f) := by
  refine ⟨peImp (pe_un un_neg ha.pe) fun σ H Q h => ?_⟩
  obtain ⟨Z, p, rfl, rfl, S, h⟩ := h
  refine ⟨Z, p, rfl, rfl, S, (Fin.bnd h).mono fun x H1 ⟨q1, d1, e1, e2, S1, l1, r1, h1⟩ => ?_⟩
  subst e2
  unfold lift at h1
  cases d1 with
  | int i =>
    cases r1
    exact ⟨i, rfl, Fin.ok h1 S1 (.int _)⟩
  | _ => exact h1.elim
/-! ### constants of the module -/
structure GInt (X : Cx) (x : Str) (i : Int) : Prop where
  ex : ∃ t, X.mg x = some (.int i t)
structure GStr (X : Cx) (x z : Str) : Prop where
  ex : ∃ t, X.mg x = some (.str z t)
def tupB1 (K : PySem.W.Frag) (x : Str) (vs : List V) : Bool := match K.lookup (ga K x) with
  | some ⟨.type c, none, .seq its n, sl⟩ => decide (c = "tuple") && (decide (its.size ≤ sizeLine) && relAll vs its.toList)
  | _ => false
structure GTup (X : Cx) (x : Str) (is : List Int) : Prop where
  at_ : X.mg x = some (.ref (ga X.K x))
  ok : tupB1 X.K x (is.map V.int) = true
theorem tupB1_ok {K : PySem.W.Frag} {x : Str} {vs : List V} (h : tupB1 K x vs = true) (H : Hp) : TupP K H (ga K x) vs := by
  unfold tupB1 at h
  cases e : K.lookup (ga K x) with
  | none => rw [e] at h; cases h
  | some o =>
    rw [e] at h
    obtain ⟨c, dd, dt, sl⟩ := o
    cases c with
    | type c =>
      cases dd with
      | none =>
        cases dt with
        | seq its n =>
          simp only [Bool.and_eq_true, decide_eq_true_eq] at h
          obtain ⟨rfl, h2, h3⟩ := h
          exact .inr ⟨_, its, n, e, ⟨rfl, rfl⟩, rfl, h2, relAll_ok h3⟩
        | _ => cases h
      | some _ => cases h
    | _ => cases h
theorem de_gint {x : Str} {i : Int} {pos : Pos} (g : GInt X x i) (hg : Gl X x) (hd : (x == ("__debug__" : Str)) = false := by decide) : DE X C W (.Name x pos) (ret (.int i)) := by
  obtain ⟨t, e⟩ := g.ex
  exact de_const (pe_glob (v := .int i) hg e ⟨t, rfl⟩ hd) fun _ _ _ => .int i
theorem de_gstr {x z : Str} {pos : Pos} (g : GStr X x z) (hg : Gl X x) (hd : (x == ("__debug__" : Str)) = false := by decide) : DE X C W (.Name x pos) (ret (.str z)) := by
  obtain ⟨t, e⟩ := g.ex
  exact de_const (pe_glob (v := .str z) hg e ⟨t, rfl⟩ hd) fun _ _ _ => .str z
theorem de_gtup {x : Str} {is : List Int} {pos : Pos} (g : GTup X x is) (hg : Gl X x) (hd : (x == ("__debug__" : Str)) = false := by decide) : DE X C W (.Name x pos) (ret (.tup (is.map .int))) :=
  de_const (pe_glob (v := .ref (ga X.K x)) hg g.at_ rfl hd) fun _ _ H => .tup (tupB1_ok g.ok H) rep_ints
/-! ### targets: the own-slot dict and list -/
end
/-! ### a def, as a callee -/
structure DefOk (P : Program) (w : World) (K : PySem.W.Frag) (mg : Str → Option Value) (base : Heap) (C : CT) (f : Addr) (k n : Nat) (m : DF) : Prop where
  ex : ∃ (fd : FuncData) (ps : List Str), FnG P w K mg base C k f fd ps m ∧ Binds K fd ps [] ∧ ps.length = n
  kp : PySem.W.keepIn K (.ref f) = true
section
variable {X : Cx} {C : CT} {W : WX}
theorem DefOk.fnx {x : Str} {k n : Nat} {m : DF} {f : Addr} (d : DefOk X.prog X.w X.K X.mg X.base C f k n m) (hr : Room k X.A) (hm : X.mg x = some (.ref f)) : Fnx X C x n m := by
  obtain ⟨fd, ps, F, b, l⟩ := d.ex
  exact ⟨k, f, fd, ps, F, hr, hm, d.kp, b, l⟩
theorem DefOk.meth {x : Str} {c k n : Nat} {m : DF} {f : Addr} (d : DefOk X.prog X.w X.K X.mg X.base C f k (n + 1) m) (hr : Room k X.A) (cl : Cls X.K (C.ca c)) (no : x ∉ C.cf c) (hm : Meth X.K (C.ca c) x f) : MethC X C x c n m := by
  obtain ⟨fd, ps, F, b, l⟩ := d.ex
  exact ⟨cl, no, k, f, fd, ps, hm, F, hr, b, l⟩
theorem DefOk.prop {x : Str} {c k : Nat} {m : DF} {f p : Addr} (d : DefOk X.prog X.w X.K X.mg X.base C f k 1 m) (hr : Room (k + 1) X.A) (cl : Cls X.K (C.ca c)) (hp : PropOf X.K (C.ca c) x p f) : PropD X C x c m := by
  obtain ⟨fd, ps, F, b, l⟩ := d.ex
  exact ⟨cl, p, f, k, fd, ps, hp, F, hr, b, l⟩
theorem DefOk.make {x : Str} {c k n : Nat} {m : DF} {f : Addr} (d : DefOk X.prog X.w X.K X.mg X.base C f k (n + 1) m) (hr : Room (k + 1) X.A) (hm : X.mg x = some (.ref (C.ca c))) (mk : Mk X.K (C.ca c) f) : MakeC X C x c n m := by
  obtain ⟨fd, ps, F, b, l⟩ := d.ex
  exact ⟨f, k, fd, ps, hm, mk, F, hr, b, l⟩
theorem DefOk.stat {cn x : Str} {k n : Nat} {m : DF} {Ad p g : Addr} {mc : Value} {rest : List Value} (d : DefOk X.prog X.w X.K X.mg X.base C g k n m) (hr : Room k X.A) (hm : X.mg cn = some (.ref Ad)) (rd : ClX.CRead X.K Ad mc) (hf : PySem.W.findCls X.K (.ref Ad) mc x = some (.get (.builtin "staticmethod.__get__") (.ref p) .none (.ref Ad)))
    (hrec : PySem.W.recIn X.K p "staticmethod" = some (.ref g :: rest)) : StatC X C cn x n m := by
  obtain ⟨fd, ps, F, b, l⟩ := d.ex
  exact ⟨Ad, p, g, mc, rest, k, fd, ps, hm, rd, hf, hrec, d.kp, F, hr, b, l⟩
end
/-- the promise itself, at the head's function object -/
theorem fg_ofF {P : Program} {w : World} {K : PySem.W.Frag} {mg : Str → Option Value} {base : Heap} {C : CT} {k : Nat} {x qual : Str} {params : Arguments} {body : List Stmt} {scope : Scope} {f : Addr} {fd : FuncData} {N ps : List Str} {b : DS} (F : FunD K x qual params body scope [] [] f fd) (S : FnScope N ps scope)
    (hbody : ∀ (cdv : Value) (A : Around) (outer : List Env) (s : Shared) (H : Hp) (E : XK), Room k (A.deeper (envOfC qual scope s.heap.objs.size f cdv)) → A.guards = some [] →
      STs (cxD P w K mg base N qual scope f cdv A outer s H E) C (wE E) body b) : FnG P w K mg base C (k + 1) f fd ps (defF N.length b) := by
  have kp := F.kp
  obtain ⟨oc, od, dV, kV, doc, pm, an, cdv, ct, osl, rfl, lk, hcd, hD, hK⟩ := F.ex
  let st : Stmt := .FunctionDef x params body [] none [] scope none x ⟨0, 0, 0, 0⟩
  rcases hD with ⟨_, rfl⟩ | ⟨e, _⟩
  · exact fn_ofD (x := x) (qual := qual) (st := st) (fd := PySem.W.fnOf x qual params body scope .none kV doc pm an cdv ct) ⟨⟨oc, od, kV, doc, pm, an, cdv, ct, osl, rfl, lk, hcd⟩, kp⟩ S hbody
  · exact absurd rfl e
/-- THE RULE for a def, by the head's facts -/
theorem fn_ofF {P : Program} {w : World} {K : PySem.W.Frag} {mg : Str → Option Value} {base : Heap} {C : CT} {k : Nat} {x qual : Str} {params : Arguments} {body : List Stmt} {scope : Scope} {f : Addr} {fd : FuncData} {N ps : List Str} {b : DS} (F : FunD K x qual params body scope [] [] f fd) (S : FnScope N ps scope)
    (hbind : ∀ (kV doc pm : Value) (an : Option Addr) (cdv ct : Value) (us : List Value), us.length = ps.length → bindArgs (PySem.W.fnOf x qual params body scope .none kV doc pm an cdv ct) ⟨us, []⟩ = pure (ps.zip us))
    (hbody : ∀ (cdv : Value) (A : Around) (outer : List Env) (s : Shared) (H : Hp) (E : XK), Room k (A.deeper (envOfC qual scope s.heap.objs.size f cdv)) → A.guards = some [] →
      STs (cxD P w K mg base N qual scope f cdv A outer s H E) C (wE E) body b) : DefOk P w K mg base C f (k + 1) ps.length (defF N.length b) := by
  have hb := F.bindsN hbind
  have kp := F.kp
  obtain ⟨oc, od, dV, kV, doc, pm, an, cdv, ct, osl, rfl, lk, hcd, hD, hK⟩ := F.ex
  let st : Stmt := .FunctionDef x params body [] none [] scope none x ⟨0, 0, 0, 0⟩
  rcases hD with ⟨_, rfl⟩ | ⟨e, _⟩
  · exact ⟨⟨_, ps, fn_ofD (x := x) (qual := qual) (st := st) (fd := PySem.W.fnOf x qual params body scope .none kV doc pm an cdv ct) ⟨⟨oc, od, kV, doc, pm, an, cdv, ct, osl, rfl, lk, hcd⟩, kp⟩ S hbody, hb, rfl⟩, kp⟩
  · exact absurd rfl e
end DP
set_option Elab.async false
set_option linter.all false
set_option maxRecDepth 100000
set_option maxHeartbeats 4000000
/-! DP18: what the head tells: facts as Bools, defs at any address. -/
namespace DP
open PySem PySem.Spec PyProof.Rows L2 He

def obsP (ex : PySem.W.Frag → List Bool) (fn : List He5.DefA) (K : PySem.W.Frag) : He.AlD := ((ex K).all id && fn.all fun d => d.ok K, fn.map fun d => He5.fnA K (d.at_ K))
def valP (fn : List He5.DefA) : He.AlD := (true, fn.map He5.DefA.val)
def SaysP (ex : PySem.W.Frag → List Bool) (fn : List He5.DefA) (K : PySem.W.Frag) : Prop := obsP ex fn K = valP fn
def obsPG (n : Nat) (ex : PySem.W.Frag → List Bool) (fn : List He5.DefA) (g : Addr → Option Obj) : He.AlD := obsP ex fn (frG g (He5.asA g n))
def hookP (n : Nat) (ex : PySem.W.Frag → List Bool) (fn : List He5.DefA) : PySem.W.Hook where
  α := He.AlD
  obs := fun s => obsPG n ex fn s.heap.get?
  val := fun _ => valP fn
  says := fun _ h => ∃ K : PySem.W.Frag, K.In h ∧ SaysP ex fn K
  of := fun _ _ e => ⟨_, frG_in, e⟩
  keeps := fun _ _ _ ⟨K, hK, c⟩ k => ⟨K, PySem.W.Frag.In.keeps hK k, c⟩
theorem obsPG_eq {n : Nat} {ex : PySem.W.Frag → List Bool} {fn : List He5.DefA} {g : Addr → Option Obj} {s : Shared} (h : ∀ a, g a = s.heap.get? a) : obsPG n ex fn g = (hookP n ex fn).obs s := by
  have e : g = s.heap.get? := funext h
  rw [e] <;> rfl
section
variable {ex : PySem.W.Frag → List Bool} {fn : List He5.DefA} {K : PySem.W.Frag}
theorem SaysP.fact (c : SaysP ex fn K) (i : Nat) {b : Bool} (h : (ex K)[i]? = some b := by rfl) : b = true := by
  have c1 := (ba (show ((ex K).all id && fn.all fun d => d.ok K) = true from congrArg (fun z : He.AlD => z.1) c)).1
  exact List.all_eq_true.mp c1 b (List.mem_of_getElem? h)
theorem SaysP.def_ (c : SaysP ex fn K) (i : Nat) {d : He5.DefA} (h : fn[i]? = some d := by rfl) : ∃ fd, FunD K d.name d.qual d.params d.body d.scope (d.dvs K) (d.kws K) (d.at_ K) fd := by
  have c2 := (ba (show ((ex K).all id && fn.all fun d => d.ok K) = true from congrArg (fun z : He.AlD => z.1) c)).2
  have e : fn.map (fun d => He5.fnA K (d.at_ K)) = fn.map He5.DefA.val := congrArg (fun z : He.AlD => z.2) c
  have e2 : (fn.map fun d => He5.fnA K (d.at_ K))[i]? = (fn.map He5.DefA.val)[i]? := by rw [e]
  rw [List.getElem?_map, List.getElem?_map, h] at e2
  exact He5.DefA.funD (Option.some.inj e2) (List.all_eq_true.mp c2 d (List.mem_of_getElem? h))
end
section
variable {K : PySem.W.Frag}
/-! ### the facts as Bools -/
def propB (K : PySem.W.Frag) (C : Addr) (f : Str) : Bool := eqO (PySem.W.findIn K (.ref C) f) (some (some (.ref (ma K C f)))) && (eqO (PySem.W.specialIn K (.ref (ma K C f)) "__get__") (some (some (.builtin "property.__get__"))) && (decide (PySem.W.takesIn K (.ref (ma K C f)) = some true) &&
  (match PySem.W.recIn K (ma K C f) "property" with
    | some (.ref _ :: _) => true
    | _ => false)))
theorem propB_ok {C : Addr} {f : Str} (h : propB K C f = true) : PropOf K C f (ma K C f) (He5.wf K C "property" f) := by
  obtain ⟨h1, h⟩ := ba h
  obtain ⟨h2, h⟩ := ba h
  obtain ⟨h3, h4⟩ := ba h
  refine ⟨eqO_ok h1, eqO_ok h2, of_decide_eq_true h3, ?_⟩
  unfold He5.wf
  split at h4
  · rename_i f' r e
    exact ⟨r, by rw [e]⟩
  · cases h4
def readB (K : PySem.W.Frag) (C : Addr) : Bool := PySem.W.readsIn K C (.type "type") && eqO (PySem.W.specialIn K (.ref C) "__getattribute__") (some (some (.builtin "type.__getattribute__")))
theorem readB_ok {C : Addr} (h : readB K C = true) : ClX.CRead K C (.type "type") := ⟨(ba h).1, eqO_ok (ba h).2⟩
def insB (K : PySem.W.Frag) (x : Str) : Bool := (Fa.cls x).ok K && (eqO (PySem.W.findIn K (.ref (ga K x)) "__class__") (some (some (.builtin "object.__class__"))) && (eqO (PySem.W.specialIn K (.builtin "object.__class__") "__get__") (some (some (.builtin "getset_descriptor.__get__"))) &&
  (decide (PySem.W.takesIn K (.builtin "object.__class__") = some true) && decide (PySem.W.mroIn K (ga K x) (.type "object") = some true))))
theorem insB_ok {x : Str} (h : insB K x = true) : InsT K (ga K x) := by
  obtain ⟨h1, h⟩ := ba h
  obtain ⟨h2, h⟩ := ba h
  obtain ⟨h3, h⟩ := ba h
  obtain ⟨h4, h5⟩ := ba h
  exact ⟨cls_ok h1, eqO_ok h2, eqO_ok h3, of_decide_eq_true h4, of_decide_eq_true h5⟩
def kitN (K : PySem.W.Frag) (x : Str) : Bool := tyNames.all fun n => PySem.W.kitOne K (.type n) (.ref (ga K x)) == some false
def kitR (K : PySem.W.Frag) (x : Str) (u : Value) (b : Bool) : Bool := decide (PySem.W.kitOne K (.ref (ga K x)) u = some b)
end
end DP
set_option Elab.async false
set_option linter.all false
set_option maxRecDepth 100000
set_option maxHeartbeats 4000000
/-! DP19: short words for the printed terms. -/
namespace DP
open PySem PySem.Spec PyProof.Rows L2 He

def LenOk (f : DM (List D)) (n : Nat) : Prop := ∀ s ds s', f s = .ok ds s' → ds.length = n
theorem len0 : LenOk nilM 0 := fun s ds s' h => by cases h; rfl
theorem len1 {f : DM D} {g : DM (List D)} {n : Nat} (h : LenOk g n) : LenOk (consM f g) (n + 1) := fun s ds s' e => by
  unfold consM bnd at e
  cases e1 : f s with
  | ok a s1 =>
    rw [e1] at e
    dsimp only at e
    cases e2 : g s1 with
    | ok b s2 =>
      rw [e2] at e
      cases e
      simp [h _ _ _ e2]
    | err x s2 => rw [e2] at e; cases e
    | stuck => rw [e2] at e; cases e
  | err x s1 => rw [e1] at e; cases e
  | stuck => rw [e1] at e; cases e
theorem takesN {X : Cx} : Takes X (fun _ _ _ _ => False) := fun u s' ⟨_, _, _, _, _, _, _, _, _, _, _, _, _, _, _, _, w⟩ => w.elim
theorem u66 {k : Nat} {A : Around} (r : Room k A) : A.units + 66 < cLine := by have := r.un; omega
theorem u64 {k : Nat} {A : Around} (r : Room k A) : A.units + 64 < cLine := by have := r.un; omega
theorem u1 {k : Nat} {A : Around} (r : Room k A) : A.units + 1 < cLine := by have := r.un; omega
def fldC (ns : List Str) (f : Str) (j : Nat) : Bool := decide (ns[j]? = some f) && (decide (f ∉ ns.take j) && decide (ns.length < 1000))
theorem fldOf {X : Cx} {C : CT} {f : Str} {c j : Nat} {ns : List Str} (e : C.cf c = ns) (cl : Cls X.K (C.ca c)) (no : NoAttr X.K (C.ca c) f) (h : fldC ns f j = true) : FldOf X C f c j := by
  obtain ⟨h1, h⟩ := ba h
  obtain ⟨h2, h3⟩ := ba h
  subst e
  exact ⟨cl, no, of_decide_eq_true h1, of_decide_eq_true h2, of_decide_eq_true h3⟩
theorem notIn {C : CT} {f : Str} {c : Nat} {ns : List Str} (e : C.cf c = ns) (h : decide (f ∉ ns) = true) : f ∉ C.cf c := by
  subst e
  exact of_decide_eq_true h
def acc1 (c0 : Nat) (a0 : Acc) : Nat → Option Acc := fun c => if c = c0 then some a0 else none
theorem acc_one {X : Cx} {C : CT} {f : Str} {c0 : Nat} {a0 : Acc} (h : AccOk X C f c0 a0) : ∀ c a, acc1 c0 a0 c = some a → AccOk X C f c a := fun c a e => by
  unfold acc1 at e
  split at e
  · rename_i hc
    cases e
    rw [hc]
    exact h
  · cases e
def own1 (c0 : Nat) (b : Bool) : Nat → Option Bool := fun c => if c = c0 then some b else none
theorem own_one {X : Cx} {C : CT} {x : Str} {u : Value} {c0 : Nat} {b0 : Bool} (hc : C.ca c0 = ga X.K x) (hi : insB X.K x = true) (hk : kitR X.K x u b0 = true) : ∀ c b, own1 c0 b0 c = some b → InsT X.K (C.ca c) ∧ PySem.W.kitOne X.K (.ref (C.ca c)) u = some b := fun c b e => by
  unfold own1 at e
  split at e
  · rename_i h
    cases e
    rw [h, hc]
    exact ⟨insB_ok hi, of_decide_eq_true hk⟩
  · cases e
theorem own_no {X : Cx} {C : CT} {u : Value} : ∀ c b, (fun _ : Nat => (none : Option Bool)) c = some b → InsT X.K (C.ca c) ∧ PySem.W.kitOne X.K (.ref (C.ca c)) u = some b := fun _ _ e => nomatch e
section
variable {X : Cx} {C : CT} {W : WX}
theorem dt_chain {op op' : CmpOp} {a b c : Expr} {pos : Pos} {g g' : D → D → Option D} {fa fb fc : DM D} (ho : OpD X C (compareOp op) g) (ho' : OpD X C (compareOp op') g') (ha : DE X C W a fa) (hb : DE X C W b fb) (hc : DE X C W c fc)
    (hm : lastMarks [op, op'] [b, c] = false := by rfl) : DT X C W (.Compare a [op, op'] [b, c] pos) (tst (chain g g' fa fb fc)) := by
  refine ⟨ptImp (pt_chain ho ho' ha.pe hb.pe hc.pe hm) fun σ H Q h => ?_⟩
  have h' := tB_of h
  obtain ⟨Z, p, e1, e2, S, h'⟩ := h'
  exact tChain_of ⟨Z, p, e1, e2, S, h'.mono fun b H ⟨c, e, q⟩ => ⟨c, e, q⟩⟩
theorem st_par2 {i j : Nat} {x y : Str} {a b : Expr} {f : DM (List D)} {px py pt pos : Pos} {kt k2 pt2} (hc : X.calm = true) (hN : X.N.Nodup) (hi : X.N[i]? = some x) (hj : X.N[j]? = some y) (hij : i ≠ j)
    (hx : X.env.scope.names.lookup x = some .local) (hy : X.env.scope.names.lookup y = some .local) (ha : DA X C W [a, b] f)
    (hw : swappedStores [.Tuple [.Name x px, .Name y py] kt pt] (.Tuple [a, b] k2 pt2) X.env = pure (some [x, y]))
    (hs : swapsWithSole [.Tuple [.Name x px, .Name y py] kt pt] (.Tuple [a, b] k2 pt2) pos.line X.env = pure false := by rfl) :
    ST X C W (.Assign [.Tuple [.Name x px, .Name y py] kt pt] (.Tuple [a, b] k2 pt2) pos) (parS i j f) := st_par (ta := tNil) (ps_par hc hN hi hj hij hx hy ha.pa hw hs)
/-- f() -/
theorem de_call0 {x : Str} {p pos : Pos} {m : DF} (F : Fnx X C x 0 m) (tk : Takes X W) (hgd : X.A.guards = some []) (hg : Gl X x) (hdb : (x == ("__debug__" : Str)) = false := by decide) : DE X C W (.Call (.Name x p) [] [] pos) (callM m nilM) := by
  obtain ⟨k, a, fd, ps, F, hr, hm, hk, hb, hps⟩ := F.ex
  refine ⟨⟨fun pins s σ H Q I h => ?_⟩⟩
  obtain ⟨Z, q, rfl, rfl, S, h⟩ := h
  refine wpAny_Call_Name_kw (ld_glob I hg hm ?_ hdb)
  have hb1 := hb s [] I.kIn (by simpa using hps.symm)
  rw [List.append_nil] at hb1
  exact PySem.W.callWith_K0 I.kIn hk (run_fnC (us := []) (vs := []) (ds := []) F hr hgd tk hb1 (by rw [hps]; rfl) I .nil rfl rfl S .nil h)
end
end DP
set_option Elab.async false
set_option linter.all false
set_option maxRecDepth 100000
set_option maxHeartbeats 4000000
/-! DP20: the end: the law's call at the heap behind the top. -/
namespace DP
open PySem PySem.Spec PyProof.Rows L2 He

/-- the start: the script alone -/
theorem start0 {G : Wd} {H : Hp} : SR G (fun _ => False) ⟨[], ⟨[], []⟩, [], H⟩ :=
  ⟨rfl, rfl, fun i d h => by simp at h, fun i c h => by simp at h, fun n c h => by simp at h, List.nodup_nil, fun i j c c' a h => by simp at h, fun a h => h.elim⟩
theorem script_rep {G : Wd} {H : Hp} {a : Addr} {ns : List Int} (h : SqL G.K H a (ns.map V.int)) : RepLP G (fun _ => False) ⟨[], ⟨[], []⟩, [], H⟩ [.lst (ns.map D.int)] [.ref a] := by
  refine .cons (.lst ?_ rep_ints) .nil
  rcases h with h | h
  · refine .inl ⟨h, ?_⟩
    rintro ((z | ⟨i, c, z, _⟩) | z)
    · exact absurd z List.not_mem_nil
    · simp at z
    · exact z
  · exact .inr h
theorem law_callG {P : Program} {w : World} {K : PySem.W.Frag} {mg mb : Str → Option Value} {C : CT} {k : Nat} {fa a : Addr} {fd : FuncData} {x : Str} {m : DF} {s₁ : Shared} {vs : List Value} {ns : List Int}
    (KX : K.In s₁.heap) (hns : s₁.heap.Ns mainGlobals mg) (hb : s₁.heap.Ns builtinsNs mb) (hbb : ∀ x : Str, x ≠ "__name__" → mb x = bootBuiltins x) (hlim : s₁.heap.NoLimit) (hg : s₁.gens = #[])
    (ha : s₁.heap.get? a = some { cls := .type "list", data := .seq vs.toArray }) (hi : IntsAre vs ns) (hl : ns.length ≤ sizeLine) (hr : Room k callerA)
    (F : ∀ base : Heap, K.In base → base.Ns mainGlobals mg → FnG P w K mg base C k fa fd [x] m) (hbind : ∀ (s : Shared) (u : Value), BindsTo s fd ⟨[u], []⟩ [(x, u)]) (hm : ∃ hp, m [.lst (ns.map D.int)] [] = .ok (.bl true) hp) :
    codeAny (model P w) callerA (.call (.ref fa) ⟨[.ref a], []⟩) (fun r s' => r = .ok (.ret (.bool true)) ∧ OldK s₁.heap s'.heap ∧ s'.os = s₁.os ∧ AllBare s'.gens) s₁ := by
  have rv := vals_ints hi
  have lenV := hi.length
  have core : ∀ H : Hp, Only H → SqL K H a (ns.map V.int) → HOk P w H s₁.heap → (∀ b, H b ≠ none → b = a) → (H a ≠ none → K.lookup a = none) →
      codeAny (model P w) callerA (.call (.ref fa) ⟨[.ref a], []⟩) (fun r s' => r = .ok (.ret (.bool true)) ∧ OldK s₁.heap s'.heap ∧ s'.os = s₁.os ∧ AllBare s'.gens) s₁ := by
    intro H hO hS hok hA hK
    have one : ∀ {b : Addr} {u : HO}, H b = some u → b = a := fun {b u} q => hA b (by rw [q]; simp)
    have base_of : ∀ {b : Addr} {o : Obj}, s₁.heap.get? b = some o → H b = none → (hidT s₁.heap H).get? b = some o := fun e n => hidT_get e n
    have noA : ∀ {b : Addr} {o : Obj} {es : Array DictEntry} {ep : Nat}, s₁.heap.get? b = some o → o.data = .dict es ep → H b = none := fun {b o es ep} e d => by
      cases q : H b with
      | none => rfl
      | some u =>
        obtain rfl := one q
        rw [ha] at e; cases e
        exact nomatch (show Data.seq vs.toArray _ = Data.dict es ep from d)
    have nsK : ∀ {b : Addr} {m : Str → Option Value}, s₁.heap.Ns b m → (hidT s₁.heap H).Ns b m := fun {b m} ⟨o, es, ep, e, d, r⟩ => ⟨o, es, ep, base_of e (noA e d), d, r⟩
    have hKb : K.In (hidT s₁.heap H) := fun b o e => base_of (KX b o e) (by
      cases q : H b with
      | none => rfl
      | some u =>
        obtain rfl := one q
        rw [hK (by rw [q]; simp)] at e; cases e)
    have hM : Mod K mg (hidT s₁.heap H) := ⟨hKb, nsK hns, ⟨mb, nsK hb, hbb⟩, let ⟨mc, h1, h2⟩ := hlim; ⟨mc, nsK h1, h2⟩⟩
    have e0 : Env0 P w K mg (hidT s₁.heap H) callerA [] s₁ H := ⟨rfl, hM, fun b o e => of_hidT e, Nat.le_of_eq (hidT_size _ _), trivial, fun b hb => absurd (show b ∈ ([] : List Addr) from hb) (by simp), hok, .of_eq hg⟩
    obtain ⟨hp, hm⟩ := hm
    refine codeAny_mono ((F _ hKb (nsK hns)).run callerA [] s₁ H ⟨[.ref a], []⟩ [.ref a] [.ref a] (fun v _ => v = .bl true) (fun _ _ _ => False) hr rfl e0 (hbind s₁ (.ref a)) (.cons rfl .nil) rfl ⟨fun _ => False, [], [], [.lst (ns.map D.int)], start0, script_rep hS, ?_⟩) fun r s' h => ?_
    · rw [hm]
      intro rho H v _ _ r
      cases r
      rfl
    · cases r with
      | error e =>
        obtain ⟨_, _, _, _, _, _, _, _, _, _, _, _, hE⟩ := h
        exact hE.elim
      | ok fl =>
        cases fl with
        | next => exact False.elim h
        | brk => exact False.elim h
        | cont => exact False.elim h
        | ret u =>
          obtain ⟨v, H', os, bare, un, hok', r', q⟩ := h
          have q' : v = .bl true := q
          subst q'
          obtain rfl : u = Value.bool true := r'
          refine ⟨rfl, OldK.of_keep fun b o e => ?_, os, bare⟩
          cases q : H b with
          | none => exact un.keep b o e q (by intro z; exact absurd (show b ∈ ([] : List Addr) from z) (by simp)) (by simp)
          | some u =>
            rcases hO b with z | ⟨ob, xs, z⟩
            · rw [q] at z; cases z
            · obtain ⟨e1, _⟩ := hok b _ z
              obtain ⟨e2, _⟩ := hok' b _ (un.frzs b ob _ z)
              rw [e] at e1; cases e1
              exact e2
  cases hk : K.lookup a with
  | some o =>
    have e := KX a o hk
    rw [ha] at e
    cases e
    refine core (fun _ => none) (fun _ => .inl rfl) (.inr ⟨_, vs.toArray, _, hk, rfl, rfl, rfl, by rw [List.size_toArray, lenV]; exact hl, by simpa using rv⟩) (fun b u z => nomatch (show (none : Option HO) = some u from z)) (fun b z => absurd rfl z) fun z => absurd rfl z
  | none =>
    refine core (fun b => if b = a then some (.frz { cls := .type "list", data := .seq vs.toArray } (.lst (ns.map V.int))) else none) (fun b => ?_) (.inl (.inr ⟨{ cls := .type "list", data := .seq vs.toArray }, if_pos rfl⟩)) (fun b u z => ?_) (fun b z => ?_) fun _ => hk
    · by_cases hb : b = a
      · exact .inr ⟨_, _, if_pos hb⟩
      · exact .inl (if_neg hb)
    · by_cases hb : b = a
      · have z' := (if_pos hb).symm.trans z
        cases z'
        subst hb
        exact ⟨ha, by rw [List.length_map]; exact hl, vs, _, rv, ha⟩
      · exact nomatch (if_neg hb).symm.trans z
    · by_cases hb : b = a
      · exact hb
      · exact absurd (if_neg hb) z
theorem bits_le {z : Int} {B : Nat} (h : Builtin.Int.intBits z ≤ B) : z.natAbs.log2 ≤ B := by
  unfold Builtin.Int.intBits at h
  by_cases h0 : z = 0
  · subst h0; simp
  · rw [if_neg (by simpa using h0)] at h
    omega
/-- a law's walk from its def's promise on data -/
theorem walk_ofG {l : PySem.W.OpenLaw} {n k : Nat} {q : Program} {loose : List Str} {XP : (Str → Option Value) → Heap → Prop} {YP : World → Heap → Prop} {d : DefRec} {x : Str} {m : DF}
    (hn : l.most = some n) (hn2 : n ≤ sizeLine) (hdf : d.params.defaults = []) (hr : Room k callerA) (hm : ∀ ns : List Int, ns.length ≤ n → (∀ z ∈ ns, z.natAbs.log2 ≤ 1048576) → ∃ hp, m [.lst (ns.map D.int)] [] = .ok (.bl true) hp)
    (F : ∀ (w : World) (mg : Str → Option Value) (fa : Addr) (h : Heap), YP w h → h.Ns mainGlobals mg → mg d.name = some (.ref fa) →
      ∃ (K : PySem.W.Frag) (C : CT) (fd : FuncData), K.In h ∧ (∀ (s : Shared) (u : Value), BindsTo s fd ⟨[u], []⟩ [(x, u)]) ∧ ∀ base : Heap, K.In base → base.Ns mainGlobals mg → FnG l.prog w K mg base C k fa fd [x] m) :
    PySem.W.WalkO q loose XP YP l.row.toRowW d [] (fun f vs => PySem.call f vs) := by
  refine Att.attach_callB hn hdf fun w s₀ s₁ mg mb fa o pm cd doc a vs ns G Y ho hd hcd hmg hobj hints hlen hbits hg => ?_
  obtain ⟨K, C, fd, KX, hb, hF⟩ := F w mg fa _ Y G.T.g hmg
  exact law_callG KX G.T.g G.T.b G.T.builtins G.T.nolimit hg hobj hints (Nat.le_trans hlen hn2) hr hF hb (hm ns hlen fun z hz => bits_le (hbits z hz))
end DP
set_option Elab.async false
set_option linter.all false
set_option maxRecDepth 100000
set_option maxHeartbeats 4000000
namespace LK
open PySem PySem.Spec PyProof.Rows L2 He DP
def N_is_between : List Str := ["value", "least", "most"]
def b_is_between : DS := seqS (ifS (orT (notT (tst (isM (isB "int" (fun _ => none)) (varM 0)))) (tst (isM (isB "bool" (fun _ => none)) (varM 0)))) (retS (ret (.bl false))) (nxS)) (retS (andV (orV (bin isNoneD (varM 1) (ret .non)) (bin geD (varM 0) (varM 1))) (orV (bin isNoneD (varM 2) (ret .non)) (bin leD (varM 0) (varM 2)))))
def m_is_between : DF := defF N_is_between.length b_is_between
def N_common : List Str := ["first", "last"]
def b_common : DS := seqS (setS 0 (appM absN (consM (varM 0) (nilM)))) (seqS (whileL (tst (bin gtD (varM 1) (ret (.int 0)))) (parS 0 1 (consM (varM 1) (consM (bin modI (appM intN (consM (varM 0) (nilM))) (varM 1)) (nilM)))) 1000000000) (retS (varM 0)))
def m_common : DF := defF N_common.length b_common
def N_lowest : List Str := ["top", "bottom", "shared"]
def b_lowest : DS := seqS (setS 2 (callM m_common (consM (varM 0) (consM (varM 1) (nilM))))) (retS (tupM (consM (bin divI (varM 0) (varM 2)) (consM (bin divI (varM 1) (varM 2)) (nilM)))))
def m_lowest : DF := defF N_lowest.length b_lowest
def N_is_fraction : List Str := ["value"]
def b_is_fraction : DS := seqS (ifS (orT (notT (tst (isM (isB "tuple" (fun _ => none)) (varM 0)))) (tst (bin neD (look1M lenD (slM 0)) (ret (.int 2))))) (retS (ret (.bl false))) (nxS)) (seqS (ifS (orT (notT (tst (callM m_is_between (consM (lookM ixD (slM 0) (ret (.int 0))) (consM (ret .non) (consM (ret .non) (nilM))))))) (notT (tst (callM m_is_between (consM (lookM ixD (slM 0) (ret (.int 1))) (consM (ret (.int 1)) (consM (ret .non) (nilM)))))))) (retS (ret (.bl false))) (nxS)) (retS (bin eqD (callM m_common (consM (lookM ixD (slM 0) (ret (.int 0))) (consM (lookM ixD (slM 0) (ret (.int 1))) (nilM)))) (ret (.int 1)))))
def m_is_fraction : DF := defF N_is_fraction.length b_is_fraction
def N_add : List Str := ["one", "other"]
def b_add : DS := retS (callM m_lowest (consM (bin addD (bin mulD (lookM ixD (slM 0) (ret (.int 0))) (lookM ixD (slM 1) (ret (.int 1)))) (bin mulD (lookM ixD (slM 1) (ret (.int 0))) (lookM ixD (slM 0) (ret (.int 1))))) (consM (bin mulD (lookM ixD (slM 0) (ret (.int 1))) (lookM ixD (slM 1) (ret (.int 1)))) (nilM))))
def m_add : DF := defF N_add.length b_add
def N_total : List Str := ["some", "found", "one"]
def b_total : DS := seqS (setS 1 (ret (.tup (([0, 1] : List Int).map .int)))) (seqS (forS (nameG 2) (iterM (varM 0)) (setS 1 (callM m_add (consM (varM 1) (consM (varM 2) (nilM)))))) (retS (varM 1)))
def m_total : DF := defF N_total.length b_total
def N_is_rising : List Str := ["value", "place"]
def b_is_rising : DS := retS (appM allN (consM (frzM (lcC [1] (rangeM (consM (bin subI (look1M lenD (slM 0)) (ret (.int 1))) (nilM))) (nameG 1) (ret true) (bin ltD (lookM ixD (slM 0) (varM 1)) (lookM ixD (slM 0) (bin addD (varM 1) (ret (.int 1))))))) (nilM)))
def m_is_rising : DF := defF N_is_rising.length b_is_rising
def N_are_cases : List Str := ["value", "sign"]
def b_are_cases : DS := seqS (ifS (orT (notT (tst (isM (isB "str" (fun _ => none)) (varM 0)))) (notT (tst (chain leD leD (ret (.int 1)) (look1M lenD (slM 0)) (ret (.int 8)))))) (retS (ret (.bl false))) (nxS)) (retS (andV (appM allN (consM (frzM (lcC [1] (iterM (varM 0)) (nameG 1) (ret true) (lookM2 inD (varM 1) (datM (ret (.str "abcdefghijklmnopqrstuvwxyz")))))) (nilM))) (callM m_is_rising (consM (varM 0) (nilM)))))
def m_are_cases : DF := defF N_are_cases.length b_are_cases
def N_is_lot : List Str := ["value", "cases", "sign"]
def b_is_lot : DS := retS (andV (isM (isB "str" (fun _ => none)) (varM 0)) (andV (appM allN (consM (frzM (lcC [2] (iterM (varM 0)) (nameG 2) (ret true) (lookM2 inD (varM 2) (slM 1)))) (nilM))) (callM m_is_rising (consM (varM 0) (nilM)))))
def m_is_lot : DF := defF N_is_lot.length b_is_lot
def N_is_name : List Str := ["value", "sign"]
def b_is_name : DS := seqS (ifS (orT (notT (tst (isM (isB "str" (fun _ => none)) (varM 0)))) (notT (tst (chain leD leD (ret (.int 1)) (look1M lenD (slM 0)) (ret (.int 8)))))) (retS (ret (.bl false))) (nxS)) (retS (appM allN (consM (frzM (lcC [1] (iterM (varM 0)) (nameG 1) (ret true) (lookM2 inD (varM 1) (datM (ret (.str "abcdefghijklmnopqrstuvwxyz")))))) (nilM))))
def m_is_name : DF := defF N_is_name.length b_is_name
def N_is_told : List Str := ["value", "lot", "number"]
def b_is_told : DS := seqS (ifS (orT (notT (tst (isM (isB "tuple" (fun _ => none)) (varM 0)))) (orT (tst (bin neD (look1M lenD (slM 0)) (look1M lenD (slM 1)))) (notT (tst (appM allN (consM (frzM (lcC [2] (iterM (varM 0)) (nameG 2) (ret true) (callM m_is_fraction (consM (varM 2) (nilM))))) (nilM))))))) (retS (ret (.bl false))) (nxS)) (seqS (ifS (notT (tst (appM allN (consM (frzM (lcC [2] (iterM (varM 0)) (nameG 2) (ret true) (andV (bin gtD (lookM ixD (slM 2) (ret (.int 0))) (ret (.int 0))) (bin leD (lookM ixD (slM 2) (ret (.int 1))) (ret (.int 1000000000)))))) (nilM))))) (retS (ret (.bl false))) (nxS)) (retS (bin eqD (callM m_total (consM (varM 0) (nilM))) (ret (.tup (([1, 1] : List Int).map .int))))))
def m_is_told : DF := defF N_is_told.length b_is_told
def N_is_part : List Str := ["value", "cases"]
def b_is_part : DS := seqS (ifS (orT (notT (tst (isM (isB "tuple" (fun _ => none)) (varM 0)))) (orT (tst (bin neD (look1M lenD (slM 0)) (ret (.int 2)))) (orT (notT (tst (callM m_is_lot (consM (lookM ixD (slM 0) (ret (.int 0))) (consM (varM 1) (nilM)))))) (tst (bin eqD (lookM ixD (slM 0) (ret (.int 0))) (ret (.str ""))))))) (retS (ret (.bl false))) (nxS)) (retS (orV (bin isNoneD (lookM ixD (slM 0) (ret (.int 1))) (ret .non)) (callM m_is_told (consM (lookM ixD (slM 0) (ret (.int 1))) (consM (lookM ixD (slM 0) (ret (.int 0))) (nilM))))))
def m_is_part : DF := defF N_is_part.length b_is_part
def N_is_view : List Str := ["value", "cases", "part", "lots", "lot", "told"]
def b_is_view : DS := seqS (ifS (orT (notT (tst (isM (isB "tuple" (fun _ => none)) (varM 0)))) (notT (tst (appM allN (consM (frzM (lcC [2] (iterM (varM 0)) (nameG 2) (ret true) (callM m_is_part (consM (varM 2) (consM (varM 1) (nilM)))))) (nilM)))))) (retS (ret (.bl false))) (nxS)) (seqS (setS 3 (frzM (lcC [4, 5] (iterM (varM 0)) (tupleG [nameG 4, nameG 5]) (ret true) (varM 4)))) (retS (andV (bin eqD (appM sortedN (consM (frzM (appC listD (consM (methM "str" (actR joinN) (datM (ret (.str ""))) (consM (varM 3) (nilM))) (nilM)))) (nilM))) (frzM (appC listD (consM (varM 1) (nilM))))) (bin eqD (varM 3) (appM sortedN (consM (varM 3) (nilM)))))))
def m_is_view : DF := defF N_is_view.length b_is_view
def N_is_person : List Str := ["value", "cases"]
def b_is_person : DS := retS (andV (isM (isB "tuple" (fun _ => none)) (varM 0)) (andV (bin eqD (look1M lenD (slM 0)) (ret (.int 2))) (andV (callM m_is_name (consM (lookM ixD (slM 0) (ret (.int 0))) (nilM))) (callM m_is_view (consM (lookM ixD (slM 0) (ret (.int 1))) (consM (varM 1) (nilM)))))))
def m_is_person : DF := defF N_is_person.length b_is_person
def N_are_people : List Str := ["value", "cases", "person", "place"]
def b_are_people : DS := seqS (ifS (orT (notT (tst (isM (isB "tuple" (fun _ => none)) (varM 0)))) (notT (tst (chain leD leD (ret (.int 1)) (look1M lenD (slM 0)) (ret (.int 4)))))) (retS (ret (.bl false))) (nxS)) (seqS (ifS (notT (tst (appM allN (consM (frzM (lcC [2] (iterM (varM 0)) (nameG 2) (ret true) (callM m_is_person (consM (varM 2) (consM (varM 1) (nilM)))))) (nilM))))) (retS (ret (.bl false))) (nxS)) (retS (appM allN (consM (frzM (lcC [3] (rangeM (consM (bin subI (look1M lenD (slM 0)) (ret (.int 1))) (nilM))) (nameG 3) (ret true) (bin ltD (lookM ixD (datM (lookM ixD (slM 0) (varM 3))) (ret (.int 0))) (lookM ixD (datM (lookM ixD (slM 0) (bin addD (varM 3) (ret (.int 1))))) (ret (.int 0)))))) (nilM)))))
def m_are_people : DF := defF N_are_people.length b_are_people
def N_text_of : List Str := ["cases", "people", "lines", "name", "view", "lot", "told", "words", "number"]
def b_text_of : DS := seqS (ownS 2 (lstC (consM (joinM [ret (.str "cases "), fmtM (varM 0)] Str.empty) (nilM)))) (seqS (forS (tupleG [nameG 3, nameG 4]) (iterM (varM 1)) (forS (tupleG [nameG 5, nameG 6]) (iterM (varM 4)) (seqS (setS 7 (ifM (tst (bin isNoneD (varM 6) (ret .non))) (lstM (consM (ret (.str "?")) (nilM))) (frzM (lcC [8] (iterM (varM 6)) (nameG 8) (ret true) (joinM [fmtM (lookM ixD (slM 8) (ret (.int 0))), ret (.str "/"), fmtM (lookM ixD (slM 8) (ret (.int 1)))] Str.empty))))) (exprS (methM "list" (actW appendN) (slM 2) (consM (bin addD (joinM [fmtM (varM 3), ret (.str " "), fmtM (varM 5), ret (.str " ")] Str.empty) (methM "str" (actR joinN) (datM (ret (.str " "))) (consM (varM 7) (nilM)))) (nilM))))))) (retS (methM "str" (actR joinN) (datM (ret (.str "\n"))) (consM (varM 2) (nilM)))))
def m_text_of : DF := defF N_text_of.length b_text_of
def N_natural_in : List Str := ["word", "digit"]
def b_natural_in : DS := seqS (ifS (orT (notT (tst (chain leD leD (ret (.int 1)) (look1M lenD (slM 0)) (ret (.int 10))))) (tst (appM anyN (consM (frzM (lcC [1] (iterM (varM 0)) (nameG 1) (ret true) (lookM2 ninD (varM 1) (datM (ret (.str "0123456789")))))) (nilM))))) (retS (ret .non)) (nxS)) (retS (ifM (orT (tst (bin eqD (varM 0) (ret (.str "0")))) (tst (bin neD (lookM ixD (slM 0) (ret (.int 0))) (ret (.str "0"))))) (appM intN (consM (varM 0) (nilM))) (ret .non)))
def m_natural_in : DF := defF N_natural_in.length b_natural_in
def N_fraction_in : List Str := ["word", "parts", "found"]
def b_fraction_in : DS := seqS (setS 1 (methM "str" (actR splitN) (slM 0) (consM (ret (.str "/")) (nilM)))) (seqS (ifS (tst (bin neD (look1M lenD (slM 1)) (ret (.int 2)))) (retS (ret .non)) (nxS)) (seqS (setS 2 (tupM (consM (callM m_natural_in (consM (lookM ixD (slM 1) (ret (.int 0))) (nilM))) (consM (callM m_natural_in (consM (lookM ixD (slM 1) (ret (.int 1))) (nilM))) (nilM))))) (retS (ifM (orT (tst (bin isNoneD (lookM ixD (slM 2) (ret (.int 0))) (ret .non))) (tst (bin isNoneD (lookM ixD (slM 2) (ret (.int 1))) (ret .non)))) (ret .non) (varM 2)))))
def m_fraction_in : DF := defF N_fraction_in.length b_fraction_in
def N_told_in : List Str := ["words", "found", "word"]
def b_told_in : DS := seqS (ifS (tst (bin eqD (varM 0) (lstM (consM (ret (.str "?")) (nilM))))) (retS (tupM (consM (ret (.bl true)) (consM (ret .non) (nilM))))) (nxS)) (seqS (setS 1 (appM tupleN (consM (frzM (lcC [2] (iterM (varM 0)) (nameG 2) (ret true) (callM m_fraction_in (consM (varM 2) (nilM))))) (nilM)))) (retS (tupM (consM (lookM2 ninD (ret .non) (slM 1)) (consM (varM 1) (nilM))))))
def m_told_in : DF := defF N_told_in.length b_told_in
def N_people_in : List Str := ["lines", "found", "line", "words", "is_right", "told"]
def b_people_in : DS := seqS (ownS 1 (lstC (nilM))) (seqS (forS (nameG 2) (iterM (varM 0)) (seqS (setS 3 (methM "str" (actR splitN) (slM 2) (consM (ret (.str " ")) (nilM)))) (seqS (ifS (tst (bin ltD (look1M lenD (slM 3)) (ret (.int 3)))) (retS (ret .non)) (nxS)) (seqS (asgS (tupleG [nameG 4, nameG 5]) (callM m_told_in (consM (sliceM (varM 3) (partM (ret (.int 2))) (noPart)) (nilM)))) (seqS (ifS (notT (tst (varM 4))) (retS (ret .non)) (nxS)) (seqS (ifS (orT (tst (bin eqD (look1M lenD (slM 1)) (ret (.int 0)))) (tst (bin neD (lookM ixD (datM (lookM ixD (slM 1) (unM negD (ret (.int 1))))) (ret (.int 0))) (lookM ixD (slM 3) (ret (.int 0)))))) (exprS (methM "list" (actW appendN) (slM 1) (consM (tupM (consM (lookM ixD (slM 3) (ret (.int 0))) (consM (tupM (nilM)) (nilM)))) (nilM)))) (nxS)) (asgS (ixG (slM 1) (unM negD (ret (.int 1)))) (tupM (consM (lookM ixD (slM 3) (ret (.int 0))) (consM (bin addD (lookM ixD (datM (lookM ixD (slM 1) (unM negD (ret (.int 1))))) (ret (.int 1))) (tupM (consM (tupM (consM (lookM ixD (slM 3) (ret (.int 1))) (consM (varM 5) (nilM)))) (nilM)))) (nilM))))))))))) (retS (appM tupleN (consM (varM 1) (nilM)))))
def m_people_in : DF := defF N_people_in.length b_people_in
def N_room_in : List Str := ["text", "lines", "words", "people"]
def b_room_in : DS := seqS (ifS (notT (tst (isM (isB "str" (fun _ => none)) (varM 0)))) (retS (ret .non)) (nxS)) (seqS (setS 1 (methM "str" (actR splitN) (slM 0) (consM (ret (.str "\n")) (nilM)))) (seqS (setS 2 (methM "str" (actR splitN) (datM (lookM ixD (slM 1) (ret (.int 0)))) (consM (ret (.str " ")) (nilM)))) (seqS (ifS (orT (tst (bin neD (look1M lenD (slM 2)) (ret (.int 2)))) (orT (tst (bin neD (lookM ixD (slM 2) (ret (.int 0))) (ret (.str "cases")))) (notT (tst (callM m_are_cases (consM (lookM ixD (slM 2) (ret (.int 1))) (nilM))))))) (retS (ret .non)) (nxS)) (seqS (setS 3 (callM m_people_in (consM (sliceM (varM 1) (partM (ret (.int 1))) (noPart)) (nilM)))) (retS (ifM (orT (tst (bin isNoneD (varM 3) (ret .non))) (notT (tst (callM m_are_people (consM (varM 3) (consM (lookM ixD (slM 2) (ret (.int 1))) (nilM))))))) (ret .non) (tupM (consM (lookM ixD (slM 2) (ret (.int 1))) (consM (varM 3) (nilM))))))))))
def m_room_in : DF := defF N_room_in.length b_room_in
def N_law_cup : List Str := ["_law_script", "_law_spot", "_law_cell", "_law_one"]
def b_law_cup : DS := seqS (setS 2 (ifM (tst (bin ltD (varM 1) (look1M lenD (slM 0)))) (lookM ixD (slM 0) (varM 1)) (bin addD (bin mulD (ret (.int 5167)) (varM 1)) (ret (.int 90173))))) (seqS (forS (nameG 3) (iterM (ifM (tst (bin geD (varM 1) (look1M lenD (slM 0)))) (sliceM (varM 0) (noPart) (partM (ret (.int 2)))) (lstM (nilM)))) (setS 2 (bin modI (appM intN (consM (bin addD (bin mulD (varM 2) (ret (.int 31))) (varM 3)) (nilM))) (ret (.int 1000000007))))) (retS (newM (lstC (consM (bin modI (appM intN (consM (bin addD (bin addD (bin mulD (varM 2) (ret (.int 4093))) (bin mulD (ret (.int 269)) (varM 1))) (ret (.int 19))) (nilM))) (ret (.int 2147483629))) (consM (ifM (orT (tst (bin ltD (varM 2) (ret (.int 0)))) (tst (bin geD (varM 2) (bin powI (ret (.int 10)) (ret (.int 18)))))) (appM absN (consM (varM 2) (nilM))) (ret (.int 0))) (nilM)))))))
def m_law_cup : DF := defF N_law_cup.length b_law_cup
def N_law_sip : List Str := ["_law_cup_here", "_law_top", "_law_part"]
def b_law_sip : DS := seqS (asgS (ixG (slM 0) (ret (.int 0))) (bin modI (appM intN (consM (bin addD (bin mulD (lookM ixD (slM 0) (ret (.int 0))) (ret (.int 48271))) (ret (.int 13))) (nilM))) (ret (.int 2147483629)))) (seqS (ifS (tst (bin gtD (lookM ixD (slM 0) (ret (.int 1))) (ret (.int 0)))) (seqS (asgS (tupleG [ixG (slM 0) (ret (.int 1)), nameG 2]) (appM divmodN (consM (lookM ixD (slM 0) (ret (.int 1))) (consM (varM 1) (nilM))))) (retS (varM 2))) (nxS)) (retS (bin modI (appM intN (consM (bin divI (lookM ixD (slM 0) (ret (.int 0))) (ret (.int 1019))) (nilM))) (varM 1))))
def m_law_sip : DF := defF N_law_sip.length b_law_sip
def N_law_pick : List Str := ["_law_cup_here", "_law_things"]
def b_law_pick : DS := retS (lookM ixD (slM 1) (callM m_law_sip (consM (varM 0) (consM (look1M lenD (slM 1)) (nilM)))))
def m_law_pick : DF := defF N_law_pick.length b_law_pick
def N_law_low : List Str := ["_law_top", "_law_bottom", "_law_first", "_law_last"]
def b_law_low : DS := seqS (parS 2 3 (consM (appM absN (consM (varM 0) (nilM))) (consM (varM 1) (nilM)))) (seqS (whileL (tst (bin gtD (varM 3) (ret (.int 0)))) (parS 2 3 (consM (varM 3) (consM (bin modI (varM 2) (varM 3)) (nilM)))) 1000000000) (retS (tupM (consM (bin divI (varM 0) (varM 2)) (consM (bin divI (varM 1) (varM 2)) (nilM))))))
def m_law_low : DF := defF N_law_low.length b_law_low
def N_law_telling : List Str := ["_law_weights_here", "_law_lot", "_law_whole", "_law_case"]
def b_law_telling : DS := seqS (setS 2 (appM sumN (consM (frzM (lcC [3] (iterM (varM 1)) (nameG 3) (ret true) (lookM ixD (slM 0) (varM 3)))) (nilM)))) (retS (appM tupleN (consM (frzM (lcC [3] (iterM (varM 1)) (nameG 3) (ret true) (callM m_law_low (consM (lookM ixD (slM 0) (varM 3)) (consM (varM 2) (nilM)))))) (nilM))))
def m_law_telling : DF := defF N_law_telling.length b_law_telling
def N_law_cases : List Str := ["_law_cup_here", "_law_most", "_law_start", "_law_many"]
def b_law_cases : DS := seqS (parS 2 3 (consM (callM m_law_sip (consM (varM 0) (consM (ret (.int 9)) (nilM)))) (consM (bin addD (ret (.int 1)) (callM m_law_sip (consM (varM 0) (consM (varM 1) (nilM))))) (nilM)))) (retS (sliceM (ret (.str "abcdefghijklmnopqrstuvwxyz")) (partM (varM 2)) (partM (bin addD (varM 2) (varM 3)))))
def m_law_cases : DF := defF N_law_cases.length b_law_cases
def N_law_weights : List Str := ["_law_cup_here", "_law_cases_here", "_law_case"]
def b_law_weights : DS := retS (frzM (appC dictN (consM (frzM (lcC [2] (iterM (varM 1)) (nameG 2) (ret true) (tupM (consM (varM 2) (consM (bin addD (ret (.int 1)) (callM m_law_sip (consM (varM 0) (consM (callM m_law_pick (consM (varM 0) (consM (lstM (consM (ret (.int 1)) (consM (ret (.int 3)) (consM (ret (.int 6)) (consM (ret (.int 20)) (nilM)))))) (nilM)))) (nilM))))) (nilM)))))) (nilM))))
def m_law_weights : DF := defF N_law_weights.length b_law_weights
def N_Room_init : List Str := ["self", "cases", "people"]
def b_Room_init : DS := seqS (ifS (notT (tst (callM m_are_cases (consM (varM 1) (nilM))))) (fun _ => .stuck) (nxS)) (seqS (ifS (notT (tst (callM m_are_people (consM (varM 2) (consM (varM 1) (nilM)))))) (fun _ => .stuck) (nxS)) (seqS (fldS 0 0 (varM 0) (varM 1)) (seqS (fldS 0 1 (varM 0) (varM 2)) (seqS (fldS 0 2 (varM 0) (callM m_text_of (consM (varM 1) (consM (varM 2) (nilM))))) (fldS 0 3 (varM 0) (frzM (appC dictN (consM (varM 2) (nilM)))))))))
def m_Room_init : DF := defF N_Room_init.length b_Room_init
def N_Room_read : List Str := ["text", "found"]
def b_Room_read : DS := seqS (setS 1 (callM m_room_in (consM (varM 0) (nilM)))) (seqS (ifS (tst (bin isNoneD (varM 1) (ret .non))) (fun _ => .stuck) (nxS)) (retS (callM (makeZ 0 m_Room_init) (consM (lookM ixD (slM 1) (ret (.int 0))) (consM (lookM ixD (slM 1) (ret (.int 1))) (nilM))))))
def m_Room_read : DF := defF N_Room_read.length b_Room_read
def N_Room_cases : List Str := ["self"]
def b_Room_cases : DS := retS (getA (acc1 0 (.fld 0)) (varM 0))
def m_Room_cases : DF := defF N_Room_cases.length b_Room_cases
def N_Room_people : List Str := ["self"]
def b_Room_people : DS := retS (getA (acc1 0 (.fld 1)) (varM 0))
def m_Room_people : DF := defF N_Room_people.length b_Room_people
def N_Room_text : List Str := ["self"]
def b_Room_text : DS := retS (getA (acc1 0 (.fld 2)) (varM 0))
def m_Room_text : DF := defF N_Room_text.length b_Room_text
def N_Room_names : List Str := ["self", "name", "view"]
def b_Room_names : DS := retS (appM tupleN (consM (frzM (lcC [1, 2] (iterM (getA (acc1 0 (.fld 1)) (varM 0))) (tupleG [nameG 1, nameG 2]) (ret true) (varM 1))) (nilM)))
def m_Room_names : DF := defF N_Room_names.length b_Room_names
def N_Room_check_name : List Str := ["self", "name"]
def b_Room_check_name : DS := ifS (orT (notT (tst (isM (isB "str" (fun _ => none)) (varM 1)))) (tst (lookM2 ninD (varM 1) (datM (getA (acc1 0 (.fld 3)) (varM 0)))))) (fun _ => .stuck) (nxS)
def m_Room_check_name : DF := defF N_Room_check_name.length b_Room_check_name
def N_Room_check_case : List Str := ["self", "case"]
def b_Room_check_case : DS := ifS (orT (notT (tst (isM (isB "str" (fun _ => none)) (varM 1)))) (orT (tst (bin neD (look1M lenD (slM 1)) (ret (.int 1)))) (tst (lookM2 ninD (varM 1) (datM (getA (acc1 0 (.fld 0)) (varM 0))))))) (fun _ => .stuck) (nxS)
def m_Room_check_case : DF := defF N_Room_check_case.length b_Room_check_case
def N_Room_check_part : List Str := ["self", "name", "lot", "part"]
def b_Room_check_part : DS := ifS (orT (notT (tst (isM (isB "str" (fun _ => none)) (varM 2)))) (tst (lookM2 ninD (varM 2) (datM (frzM (lcC [3] (iterM (lookM ixD (datM (getA (acc1 0 (.fld 3)) (varM 0))) (varM 1))) (nameG 3) (ret true) (lookM ixD (slM 3) (ret (.int 0))))))))) (fun _ => .stuck) (nxS)
def m_Room_check_part : DF := defF N_Room_check_part.length b_Room_check_part
def N_Room_part_of : List Str := ["self", "name", "case", "part"]
def b_Room_part_of : DS := retS (lookM ixD (datM (frzM (lcC [3] (iterM (lookM ixD (datM (getA (acc1 0 (.fld 3)) (varM 0))) (varM 1))) (nameG 3) (tst (lookM2 inD (varM 2) (datM (lookM ixD (slM 3) (ret (.int 0)))))) (varM 3)))) (ret (.int 0)))
def m_Room_part_of : DF := defF N_Room_part_of.length b_Room_part_of
def N_Room_part : List Str := ["self", "name", "case"]
def b_Room_part : DS := seqS (exprS (objM 0 m_Room_check_name (varM 0) (consM (varM 1) (nilM)))) (seqS (exprS (objM 0 m_Room_check_case (varM 0) (consM (varM 2) (nilM)))) (retS (lookM ixD (datM (objM 0 m_Room_part_of (varM 0) (consM (varM 1) (consM (varM 2) (nilM))))) (ret (.int 0)))))
def m_Room_part : DF := defF N_Room_part.length b_Room_part
def N_Room_told : List Str := ["self", "name", "lot"]
def b_Room_told : DS := seqS (exprS (objM 0 m_Room_check_name (varM 0) (consM (varM 1) (nilM)))) (seqS (exprS (objM 0 m_Room_check_part (varM 0) (consM (varM 1) (consM (varM 2) (nilM))))) (retS (lookM ixD (datM (frzM (appC dictN (consM (lookM ixD (datM (getA (acc1 0 (.fld 3)) (varM 0))) (varM 1)) (nilM))))) (varM 2))))
def m_Room_told : DF := defF N_Room_told.length b_Room_told
def N_Room_eq : List Str := ["self", "other"]
def b_Room_eq : DS := retS (andV (isM (isO (own1 0 true)) (varM 1)) (bin eqD (getA (acc1 0 (.fld 2)) (varM 0)) (getA (acc1 0 (.fld 2)) (varM 1))))
def m_Room_eq : DF := defF N_Room_eq.length b_Room_eq
def N_Room_str : List Str := ["self"]
def b_Room_str : DS := retS (fmtM (getA (acc1 0 (.fld 2)) (varM 0)))
def m_Room_str : DF := defF N_Room_str.length b_Room_str
def N_law_plus : List Str := ["_law_one", "_law_two"]
def b_law_plus : DS := retS (callM m_law_low (consM (bin addD (bin mulD (lookM ixD (slM 0) (ret (.int 0))) (lookM ixD (slM 1) (ret (.int 1)))) (bin mulD (lookM ixD (slM 1) (ret (.int 0))) (lookM ixD (slM 0) (ret (.int 1))))) (consM (bin mulD (lookM ixD (slM 0) (ret (.int 1))) (lookM ixD (slM 1) (ret (.int 1)))) (nilM))))
def m_law_plus : DF := defF N_law_plus.length b_law_plus
def N_law_total : List Str := ["_law_some", "_law_found", "_law_part"]
def b_law_total : DS := seqS (setS 1 (tupM (consM (ret (.int 0)) (consM (ret (.int 1)) (nilM))))) (seqS (forS (nameG 2) (iterM (varM 0)) (setS 1 (callM m_law_plus (consM (varM 1) (consM (varM 2) (nilM)))))) (retS (varM 1)))
def m_law_total : DF := defF N_law_total.length b_law_total
def N_law_is_telling : List Str := ["_law_told", "_law_lot", "_law_part", "_law_n"]
def b_law_is_telling : DS := seqS (ifS (orT (notT (tst (isM (isB "tuple" (fun _ => none)) (varM 0)))) (tst (bin neD (look1M lenD (slM 0)) (look1M lenD (slM 1))))) (retS (ret (.bl false))) (nxS)) (seqS (forS (nameG 2) (iterM (varM 0)) (seqS (ifS (orT (notT (tst (isM (isB "tuple" (fun _ => none)) (varM 2)))) (orT (tst (bin neD (look1M lenD (slM 2)) (ret (.int 2)))) (tst (bin neD (frzM (lcC [3] (iterM (varM 2)) (nameG 3) (orT (notT (tst (isM (isB "int" (fun _ => none)) (varM 3)))) (tst (isM (isB "bool" (fun _ => none)) (varM 3)))) (varM 3))) (lstM (nilM)))))) (retS (ret (.bl false))) (nxS)) (ifS (orT (tst (bin ltD (lookM ixD (slM 2) (ret (.int 0))) (ret (.int 1)))) (orT (tst (bin ltD (lookM ixD (slM 2) (ret (.int 1))) (ret (.int 1)))) (orT (tst (bin gtD (lookM ixD (slM 2) (ret (.int 1))) (bin powI (ret (.int 10)) (ret (.int 9))))) (tst (bin neD (callM m_law_low (consM (lookM ixD (slM 2) (ret (.int 0))) (consM (lookM ixD (slM 2) (ret (.int 1))) (nilM)))) (varM 2)))))) (retS (ret (.bl false))) (nxS)))) (retS (bin eqD (callM m_law_total (consM (varM 0) (nilM))) (tupM (consM (ret (.int 1)) (consM (ret (.int 1)) (nilM)))))))
def m_law_is_telling : DF := defF N_law_is_telling.length b_law_is_telling
def N_law_with : List Str := ["_law_people_here", "_law_name", "_law_lot", "_law_told", "_law_found", "_law_each", "_law_view", "_law_other", "_law_old"]
def b_law_with : DS := seqS (ownS 4 (lstC (nilM))) (seqS (forS (tupleG [nameG 5, nameG 6]) (iterM (varM 0)) (exprS (methM "list" (actW appendN) (slM 4) (consM (tupM (consM (varM 5) (consM (appM tupleN (consM (frzM (lcC [7, 8] (iterM (varM 6)) (tupleG [nameG 7, nameG 8]) (ret true) (tupM (consM (varM 7) (consM (ifM (andT (tst (bin eqD (varM 5) (varM 1))) (tst (bin eqD (varM 7) (varM 2)))) (varM 3) (varM 8)) (nilM)))))) (nilM))) (nilM)))) (nilM))))) (retS (appM tupleN (consM (varM 4) (nilM)))))
def m_law_with : DF := defF N_law_with.length b_law_with
def N_Room_changed : List Str := ["self", "name", "lot", "told", "view", "other", "old", "people"]
def b_Room_changed : DS := seqS (setS 4 (appM tupleN (consM (frzM (lcC [5, 6] (iterM (lookM ixD (datM (getA (acc1 0 (.fld 3)) (varM 0))) (varM 1))) (tupleG [nameG 5, nameG 6]) (ret true) (tupM (consM (varM 5) (consM (ifM (tst (bin eqD (varM 5) (varM 2))) (varM 3) (varM 6)) (nilM)))))) (nilM)))) (seqS (setS 7 (appM tupleN (consM (frzM (lcC [5, 6] (iterM (getA (acc1 0 (.fld 1)) (varM 0))) (tupleG [nameG 5, nameG 6]) (ret true) (tupM (consM (varM 5) (consM (ifM (tst (bin eqD (varM 5) (varM 1))) (varM 4) (varM 6)) (nilM)))))) (nilM)))) (retS (callM (makeZ 0 m_Room_init) (consM (getA (acc1 0 (.fld 0)) (varM 0)) (consM (varM 7) (nilM))))))
def m_Room_changed : DF := defF N_Room_changed.length b_Room_changed
def N_Room_with_told : List Str := ["self", "name", "lot", "told"]
def b_Room_with_told : DS := seqS (exprS (objM 0 m_Room_check_name (varM 0) (consM (varM 1) (nilM)))) (seqS (exprS (objM 0 m_Room_check_part (varM 0) (consM (varM 1) (consM (varM 2) (nilM))))) (seqS (ifS (notT (tst (callM m_is_told (consM (varM 3) (consM (varM 2) (nilM)))))) (fun _ => .stuck) (nxS)) (retS (objM 0 m_Room_changed (varM 0) (consM (varM 1) (consM (varM 2) (consM (varM 3) (nilM))))))))
def m_Room_with_told : DF := defF N_Room_with_told.length b_Room_with_told
def N_Room_without_told : List Str := ["self", "name", "lot"]
def b_Room_without_told : DS := seqS (ifS (tst (bin isNoneD (objM 0 m_Room_told (varM 0) (consM (varM 1) (consM (varM 2) (nilM)))) (ret .non))) (fun _ => .stuck) (nxS)) (retS (objM 0 m_Room_changed (varM 0) (consM (varM 1) (consM (varM 2) (consM (ret .non) (nilM))))))
def m_Room_without_told : DF := defF N_Room_without_told.length b_Room_without_told
def N_times : List Str := ["one", "other"]
def b_times : DS := retS (callM m_lowest (consM (bin mulD (lookM ixD (slM 0) (ret (.int 0))) (lookM ixD (slM 1) (ret (.int 0)))) (consM (bin mulD (lookM ixD (slM 0) (ret (.int 1))) (lookM ixD (slM 1) (ret (.int 1)))) (nilM))))
def m_times : DF := defF N_times.length b_times
def N_over : List Str := ["one", "other"]
def b_over : DS := retS (callM m_lowest (consM (bin mulD (lookM ixD (slM 0) (ret (.int 0))) (lookM ixD (slM 1) (ret (.int 1)))) (consM (bin mulD (lookM ixD (slM 0) (ret (.int 1))) (lookM ixD (slM 1) (ret (.int 0)))) (nilM))))
def m_over : DF := defF N_over.length b_over
def N_check_room : List Str := ["value"]
def b_check_room : DS := ifS (notT (tst (isM (isO (own1 0 true)) (varM 0)))) (fun _ => .stuck) (nxS)
def m_check_room : DF := defF N_check_room.length b_check_room
def N_links_of : List Str := ["people", "found", "name", "view", "lot", "told", "place", "case", "others", "spot"]
def b_links_of : DS := seqS (setS 1 (lstM (nilM))) (seqS (forS (tupleG [nameG 2, nameG 3]) (iterM (varM 0)) (forS (tupleG [nameG 4, nameG 5]) (iterM (varM 3)) (ifS (tst (bin notNoneD (varM 5) (ret .non))) (forS (tupleG [nameG 6, nameG 7]) (enumM (consM (varM 4) (nilM))) (seqS (setS 8 (frzM (lcC [9] (rangeM (consM (look1M lenD (slM 4)) (nilM))) (nameG 9) (tst (bin neD (varM 9) (varM 6))) (varM 9)))) (setS 1 (bin addD (varM 1) (frzM (lcC [9] (iterM (varM 8)) (nameG 9) (ret true) (tupM (consM (varM 7) (consM (varM 2) (consM (lookM ixD (slM 4) (varM 9)) (consM (callM m_over (consM (lookM ixD (slM 5) (varM 9)) (consM (lookM ixD (slM 5) (varM 6)) (nilM)))) (nilM)))))))))))) (nxS)))) (retS (varM 1)))
def m_links_of : DF := defF N_links_of.length b_links_of
def N_clash_in : List Str := ["walk", "links", "case", "name", "other", "ratio"]
def b_clash_in : DS := seqS (forS (tupleG [nameG 2, nameG 3, nameG 4, nameG 5]) (iterM (varM 1)) (ifS (andT (tst (lookM2 inD (varM 2) (slM 0))) (tst (bin neD (callM m_times (consM (lookM ixD (datM (lookM ixD (slM 0) (varM 2))) (ret (.int 1))) (consM (varM 5) (nilM)))) (lookM ixD (datM (lookM ixD (slM 0) (varM 4))) (ret (.int 1)))))) (retS (tupM (consM (varM 2) (consM (varM 3) (consM (varM 4) (nilM)))))) (nxS))) (retS (ret .non))
def m_clash_in : DF := defF N_clash_in.length b_clash_in
def N_law_by : List Str := ["_law_one", "_law_two"]
def b_law_by : DS := retS (callM m_law_low (consM (bin mulD (lookM ixD (slM 0) (ret (.int 0))) (lookM ixD (slM 1) (ret (.int 0)))) (consM (bin mulD (lookM ixD (slM 0) (ret (.int 1))) (lookM ixD (slM 1) (ret (.int 1)))) (nilM))))
def m_law_by : DF := defF N_law_by.length b_law_by
def N_law_over : List Str := ["_law_a", "_law_b"]
def b_law_over : DS := retS (callM m_law_low (consM (bin mulD (lookM ixD (slM 0) (ret (.int 0))) (lookM ixD (slM 1) (ret (.int 1)))) (consM (bin mulD (lookM ixD (slM 0) (ret (.int 1))) (lookM ixD (slM 1) (ret (.int 0)))) (nilM))))
def m_law_over : DF := defF N_law_over.length b_law_over
def N_are_pairs : List Str := ["value", "pair", "part"]
def b_are_pairs : DS := seqS (ifS (orT (notT (tst (isM (isB "tuple" (fun _ => none)) (varM 0)))) (notT (tst (chain leD leD (ret (.int 2)) (look1M lenD (slM 0)) (ret (.int 8)))))) (retS (ret (.bl false))) (nxS)) (seqS (forS (nameG 1) (iterM (varM 0)) (ifS (orT (notT (tst (isM (isB "tuple" (fun _ => none)) (varM 1)))) (orT (tst (bin neD (look1M lenD (slM 1)) (ret (.int 2)))) (notT (tst (appM allN (consM (frzM (lcC [2] (iterM (varM 1)) (nameG 2) (ret true) (isM (isB "str" (fun _ => none)) (varM 2)))) (nilM))))))) (retS (ret (.bl false))) (nxS))) (retS (bin eqD (look1M lenD (datM (frzM (appC dictN (consM (varM 0) (nilM)))))) (look1M lenD (slM 0)))))
def m_are_pairs : DF := defF N_are_pairs.length b_are_pairs
def N_quotients_in : List Str := ["people", "value", "ratios", "case", "name", "other", "ratio", "keys", "place", "key"]
def b_quotients_in : DS := seqS (ifS (notT (tst (callM m_are_pairs (consM (varM 1) (nilM))))) (retS (ret .non)) (nxS)) (seqS (setS 2 (frzM (appC dictN (consM (frzM (lcC [3, 4, 5, 6] (iterM (callM m_links_of (consM (varM 0) (nilM)))) (tupleG [nameG 3, nameG 4, nameG 5, nameG 6]) (ret true) (tupM (consM (tupM (consM (varM 3) (consM (varM 4) (consM (varM 5) (nilM))))) (consM (varM 6) (nilM)))))) (nilM))))) (seqS (setS 7 (frzM (lcC [8] (rangeM (consM (look1M lenD (slM 1)) (nilM))) (nameG 8) (ret true) (bin addD (lookM ixD (slM 1) (varM 8)) (tupM (consM (lookM ixD (datM (lookM ixD (slM 1) (bin modI (bin addD (varM 8) (ret (.int 1))) (look1M lenD (slM 1))))) (ret (.int 0))) (nilM))))))) (seqS (ifS (tst (appM anyN (consM (frzM (lcC [9] (iterM (varM 7)) (nameG 9) (ret true) (lookM2 ninD (varM 9) (slM 2)))) (nilM)))) (retS (ret .non)) (nxS)) (retS (frzM (lcC [9] (iterM (varM 7)) (nameG 9) (ret true) (lookM ixD (slM 2) (varM 9))))))))
def m_quotients_in : DF := defF N_quotients_in.length b_quotients_in
def N_twist_of : List Str := ["people", "value", "some", "found", "ratio"]
def b_twist_of : DS := seqS (setS 2 (callM m_quotients_in (consM (varM 0) (consM (varM 1) (nilM))))) (seqS (ifS (tst (bin isNoneD (varM 2) (ret .non))) (retS (ret .non)) (nxS)) (seqS (setS 3 (ret (.tup (([1, 1] : List Int).map .int)))) (seqS (forS (nameG 4) (iterM (varM 2)) (setS 3 (callM m_times (consM (varM 3) (consM (varM 4) (nilM)))))) (retS (varM 3)))))
def m_twist_of : DF := defF N_twist_of.length b_twist_of
def N_twist : List Str := ["room", "steps", "found"]
def b_twist : DS := seqS (exprS (callM m_check_room (consM (varM 0) (nilM)))) (seqS (setS 2 (callM m_twist_of (consM (getA (acc1 0 (.prop m_Room_people)) (varM 0)) (consM (varM 1) (nilM))))) (seqS (ifS (tst (bin isNoneD (varM 2) (ret .non))) (fun _ => .stuck) (nxS)) (retS (varM 2))))
def m_twist : DF := defF N_twist.length b_twist
def N_law_low_v2 : List Str := ["_law_top", "_law_bottom", "_law_first", "_law_last", "_law_turn"]
def b_law_low_v2 : DS := seqS (parS 2 3 (consM (appM absN (consM (varM 0) (nilM))) (consM (varM 1) (nilM)))) (seqS (forS (nameG 4) (rangeM (consM (ret (.int 900)) (nilM))) (seqS (ifS (tst (bin eqD (varM 3) (ret (.int 0)))) (retS (tupM (consM (bin divI (varM 0) (varM 2)) (consM (bin divI (varM 1) (varM 2)) (nilM))))) (nxS)) (parS 2 3 (consM (varM 3) (consM (bin modI (varM 2) (varM 3)) (nilM)))))) (retS (tupM (consM (varM 0) (consM (varM 1) (nilM))))))
def m_law_low_v2 : DF := defF N_law_low_v2.length b_law_low_v2
def N_law_by_v2 : List Str := ["_law_one", "_law_two"]
def b_law_by_v2 : DS := retS (callM m_law_low_v2 (consM (bin mulD (lookM ixD (slM 0) (ret (.int 0))) (lookM ixD (slM 1) (ret (.int 0)))) (consM (bin mulD (lookM ixD (slM 0) (ret (.int 1))) (lookM ixD (slM 1) (ret (.int 1)))) (nilM))))
def m_law_by_v2 : DF := defF N_law_by_v2.length b_law_by_v2
def N_law_over_v2 : List Str := ["_law_a", "_law_b"]
def b_law_over_v2 : DS := retS (callM m_law_low_v2 (consM (bin mulD (lookM ixD (slM 0) (ret (.int 0))) (lookM ixD (slM 1) (ret (.int 1)))) (consM (bin mulD (lookM ixD (slM 0) (ret (.int 1))) (lookM ixD (slM 1) (ret (.int 0)))) (nilM))))
def m_law_over_v2 : DF := defF N_law_over_v2.length b_law_over_v2
def N_law_telling_v2 : List Str := ["_law_weights_here", "_law_lot", "_law_whole", "_law_case"]
def b_law_telling_v2 : DS := seqS (setS 2 (appM sumN (consM (frzM (lcC [3] (iterM (varM 1)) (nameG 3) (ret true) (lookM ixD (slM 0) (varM 3)))) (nilM)))) (retS (appM tupleN (consM (frzM (lcC [3] (iterM (varM 1)) (nameG 3) (ret true) (callM m_law_low_v2 (consM (lookM ixD (slM 0) (varM 3)) (consM (varM 2) (nilM)))))) (nilM))))
def m_law_telling_v2 : DF := defF N_law_telling_v2.length b_law_telling_v2
def N_law_plus_v2 : List Str := ["_law_one", "_law_two"]
def b_law_plus_v2 : DS := retS (callM m_law_low_v2 (consM (bin addD (bin mulD (lookM ixD (slM 0) (ret (.int 0))) (lookM ixD (slM 1) (ret (.int 1)))) (bin mulD (lookM ixD (slM 1) (ret (.int 0))) (lookM ixD (slM 0) (ret (.int 1))))) (consM (bin mulD (lookM ixD (slM 0) (ret (.int 1))) (lookM ixD (slM 1) (ret (.int 1)))) (nilM))))
def m_law_plus_v2 : DF := defF N_law_plus_v2.length b_law_plus_v2
def N_law_total_v2 : List Str := ["_law_some", "_law_found", "_law_part"]
def b_law_total_v2 : DS := seqS (setS 1 (tupM (consM (ret (.int 0)) (consM (ret (.int 1)) (nilM))))) (seqS (forS (nameG 2) (iterM (varM 0)) (setS 1 (callM m_law_plus_v2 (consM (varM 1) (consM (varM 2) (nilM)))))) (retS (varM 1)))
def m_law_total_v2 : DF := defF N_law_total_v2.length b_law_total_v2
def N_law_bare : List Str := ["_law_people_here", "_law_name", "_law_view", "_law_lot", "_law_told"]
def b_law_bare : DS := retS (appM tupleN (consM (frzM (lcC [1, 2] (iterM (varM 0)) (tupleG [nameG 1, nameG 2]) (ret true) (tupM (consM (varM 1) (consM (appM tupleN (consM (frzM (lcC [3, 4] (iterM (varM 2)) (tupleG [nameG 3, nameG 4]) (ret true) (tupM (consM (varM 3) (consM (ret .non) (nilM)))))) (nilM))) (nilM)))))) (nilM)))
def m_law_bare : DF := defF N_law_bare.length b_law_bare
def N_law_renamed : List Str := ["_law_letters", "_law_names_here", "_law_people_here", "_law_found", "_law_name", "_law_view", "_law_fresh", "_law_lot", "_law_told", "_law_both", "_law_k", "_law_some", "_law_sign", "_law_part"]
def b_law_renamed : DS := seqS (ownS 3 (lstC (nilM))) (seqS (forS (tupleG [nameG 4, nameG 5]) (iterM (varM 2)) (seqS (ownS 6 (lstC (nilM))) (seqS (forS (tupleG [nameG 7, nameG 8]) (iterM (varM 5)) (seqS (setS 9 (frzM (lcC [10] (rangeM (consM (look1M lenD (slM 7)) (nilM))) (nameG 10) (ret true) (tupM (consM (lookM ixD (slM 0) (lookM ixD (slM 7) (varM 10))) (consM (ifM (tst (bin isNoneD (varM 8) (ret .non))) (ret .non) (lookM ixD (slM 8) (varM 10))) (nilM))))))) (seqS (setS 11 (ifM (tst (bin isNoneD (varM 8) (ret .non))) (ret .non) (appM tupleN (consM (frzM (lcC [12, 13] (iterM (appM sortedN (consM (varM 9) (nilM)))) (tupleG [nameG 12, nameG 13]) (ret true) (varM 13))) (nilM))))) (exprS (methM "list" (actW appendN) (slM 6) (consM (tupM (consM (methM "str" (actR joinN) (datM (ret (.str ""))) (consM (appM sortedN (consM (frzM (lcC [12, 13] (iterM (varM 9)) (tupleG [nameG 12, nameG 13]) (ret true) (varM 12))) (nilM))) (nilM))) (consM (varM 11) (nilM)))) (nilM))))))) (exprS (methM "list" (actW appendN) (slM 3) (consM (tupM (consM (lookM ixD (slM 1) (varM 4)) (consM (appM tupleN (consM (appM sortedN (consM (varM 6) (nilM))) (nilM))) (nilM)))) (nilM))))))) (retS (appM tupleN (consM (appM sortedN (consM (varM 3) (nilM))) (nilM)))))
def m_law_renamed : DF := defF N_law_renamed.length b_law_renamed
def N_law_mixed : List Str := ["_law_cup_here", "_law_things", "_law_left", "_law_found", "_law_turn"]
def b_law_mixed : DS := seqS (parS 2 3 (consM (frzM (appC listD (consM (varM 1) (nilM)))) (consM (lstM (nilM)) (nilM)))) (seqS (forS (nameG 4) (rangeM (consM (look1M lenD (slM 2)) (nilM))) (exprS (methM "list" (actW appendN) (slM 3) (consM (methM "list" (actW popN) (slM 2) (consM (callM m_law_sip (consM (varM 0) (consM (look1M lenD (slM 2)) (nilM)))) (nilM))) (nilM))))) (retS (varM 3)))
def m_law_mixed : DF := defF N_law_mixed.length b_law_mixed
def N_law_again : List Str := ["_law_cases_here", "_law_people_here", "_law_weights_here_here", "_law_found", "_law_name", "_law_view", "_law_rows", "_law_lot", "_law_told"]
def b_law_again : DS := seqS (ownS 3 (lstC (nilM))) (seqS (forS (tupleG [nameG 4, nameG 5]) (iterM (varM 1)) (seqS (setS 6 (frzM (lcC [7, 8] (iterM (varM 5)) (tupleG [nameG 7, nameG 8]) (ret true) (tupM (consM (varM 7) (consM (ifM (tst (bin isNoneD (varM 8) (ret .non))) (ret .non) (callM m_law_telling_v2 (consM (varM 2) (consM (varM 7) (nilM))))) (nilM))))))) (exprS (methM "list" (actW appendN) (slM 3) (consM (tupM (consM (varM 4) (consM (appM tupleN (consM (varM 6) (nilM))) (nilM)))) (nilM)))))) (retS (callM (makeZ 0 m_Room_init) (consM (varM 0) (consM (appM tupleN (consM (varM 3) (nilM))) (nilM))))))
def m_law_again : DF := defF N_law_again.length b_law_again
def N_is_integer : List Str := ["value"]
def b_is_integer : DS := retS (andV (isM (isB "int" (fun _ => none)) (varM 0)) (notV (isM (isB "bool" (fun _ => none)) (varM 0))))
def m_is_integer : DF := defF N_is_integer.length b_is_integer
def N_are_bets : List Str := ["value", "cases", "people", "row", "number"]
def b_are_bets : DS := seqS (ifS (orT (notT (tst (isM (isB "tuple" (fun _ => none)) (varM 0)))) (tst (bin neD (look1M lenD (slM 0)) (look1M lenD (slM 2))))) (retS (ret (.bl false))) (nxS)) (seqS (forS (nameG 3) (iterM (varM 0)) (ifS (orT (notT (tst (isM (isB "tuple" (fun _ => none)) (varM 3)))) (orT (tst (bin neD (look1M lenD (slM 3)) (look1M lenD (slM 1)))) (notT (tst (appM allN (consM (frzM (lcC [4] (iterM (varM 3)) (nameG 4) (ret true) (callM m_is_integer (consM (varM 4) (nilM))))) (nilM))))))) (retS (ret (.bl false))) (nxS))) (retS (ret (.bl true))))
def m_are_bets : DF := defF N_are_bets.length b_are_bets
def N_is_row_fair : List Str := ["row", "cases", "view", "by_case", "place", "case", "lot", "told", "found"]
def b_is_row_fair : DS := seqS (setS 3 (frzM (appC dictN (consM (frzM (lcC [4, 5] (enumM (consM (varM 1) (nilM))) (tupleG [nameG 4, nameG 5]) (ret true) (tupM (consM (varM 5) (consM (lookM ixD (slM 0) (varM 4)) (nilM)))))) (nilM))))) (seqS (forS (tupleG [nameG 6, nameG 7]) (iterM (varM 2)) (ifS (tst (bin isNoneD (varM 7) (ret .non))) (ifS (tst (appM anyN (consM (frzM (lcC [5] (iterM (varM 6)) (nameG 5) (ret true) (bin neD (lookM ixD (slM 3) (varM 5)) (ret (.int 0))))) (nilM)))) (retS (ret (.bl false))) (nxS)) (seqS (setS 8 (ret (.tup (([0, 1] : List Int).map .int)))) (seqS (forS (tupleG [nameG 4, nameG 5]) (enumM (consM (varM 6) (nilM))) (setS 8 (callM m_add (consM (varM 8) (consM (callM m_times (consM (lookM ixD (slM 7) (varM 4)) (consM (tupM (consM (lookM ixD (slM 3) (varM 5)) (consM (ret (.int 1)) (nilM)))) (nilM)))) (nilM)))))) (ifS (tst (bin neD (varM 8) (ret (.tup (([0, 1] : List Int).map .int))))) (retS (ret (.bl false))) (nxS)))))) (retS (ret (.bl true))))
def m_is_row_fair : DF := defF N_is_row_fair.length b_is_row_fair
def N_are_fair : List Str := ["value", "cases", "people", "place", "name", "view"]
def b_are_fair : DS := seqS (ifS (notT (tst (callM m_are_bets (consM (varM 0) (consM (varM 1) (consM (varM 2) (nilM))))))) (retS (ret (.bl false))) (nxS)) (retS (appM allN (consM (frzM (lcC [3, 4, 5] (enumM (consM (varM 2) (nilM))) (tupleG [nameG 3, tupleG [nameG 4, nameG 5]]) (ret true) (callM m_is_row_fair (consM (lookM ixD (slM 0) (varM 3)) (consM (varM 1) (consM (varM 5) (nilM))))))) (nilM))))
def m_are_fair : DF := defF N_are_fair.length b_are_fair
def N_sums_of : List Str := ["value", "place", "row"]
def b_sums_of : DS := retS (frzM (lcC [1] (rangeM (consM (look1M lenD (datM (lookM ixD (slM 0) (ret (.int 0))))) (nilM))) (nameG 1) (ret true) (appM sumN (consM (frzM (lcC [2] (iterM (varM 0)) (nameG 2) (ret true) (lookM ixD (slM 2) (varM 1)))) (nilM)))))
def m_sums_of : DF := defF N_sums_of.length b_sums_of
def N_is_purse_of : List Str := ["value", "cases", "people", "found"]
def b_is_purse_of : DS := seqS (ifS (notT (tst (callM m_are_fair (consM (varM 0) (consM (varM 1) (consM (varM 2) (nilM))))))) (retS (ret (.bl false))) (nxS)) (seqS (setS 3 (callM m_sums_of (consM (varM 0) (nilM)))) (retS (andV (bin leD (appM maxN (consM (varM 3) (nilM))) (ret (.int 0))) (bin ltD (appM minN (consM (varM 3) (nilM))) (ret (.int 0))))))
def m_is_purse_of : DF := defF N_is_purse_of.length b_is_purse_of
def N_is_fair : List Str := ["room", "bets"]
def b_is_fair : DS := seqS (exprS (callM m_check_room (consM (varM 0) (nilM)))) (retS (callM m_are_fair (consM (varM 1) (consM (getA (acc1 0 (.prop m_Room_cases)) (varM 0)) (consM (getA (acc1 0 (.prop m_Room_people)) (varM 0)) (nilM))))))
def m_is_fair : DF := defF N_is_fair.length b_is_fair
def N_is_purse : List Str := ["room", "bets"]
def b_is_purse : DS := seqS (exprS (callM m_check_room (consM (varM 0) (nilM)))) (retS (callM m_is_purse_of (consM (varM 1) (consM (getA (acc1 0 (.prop m_Room_cases)) (varM 0)) (consM (getA (acc1 0 (.prop m_Room_people)) (varM 0)) (nilM))))))
def m_is_purse : DF := defF N_is_purse.length b_is_purse
def N_wins : List Str := ["room", "bets"]
def b_wins : DS := seqS (exprS (callM m_check_room (consM (varM 0) (nilM)))) (seqS (ifS (notT (tst (callM m_are_bets (consM (varM 1) (consM (getA (acc1 0 (.prop m_Room_cases)) (varM 0)) (consM (getA (acc1 0 (.prop m_Room_people)) (varM 0)) (nilM))))))) (fun _ => .stuck) (nxS)) (retS (appM tupleN (consM (callM m_sums_of (consM (varM 1) (nilM))) (nilM)))))
def m_wins : DF := defF N_wins.length b_wins
def N_law_are_bets : List Str := ["_law_cases_here", "_law_people_here", "_law_bets_here", "_law_row", "_law_n"]
def b_law_are_bets : DS := seqS (ifS (orT (notT (tst (isM (isB "tuple" (fun _ => none)) (varM 2)))) (tst (bin neD (look1M lenD (slM 2)) (look1M lenD (slM 1))))) (retS (ret (.bl false))) (nxS)) (seqS (forS (nameG 3) (iterM (varM 2)) (seqS (ifS (orT (notT (tst (isM (isB "tuple" (fun _ => none)) (varM 3)))) (tst (bin neD (look1M lenD (slM 3)) (look1M lenD (slM 0))))) (retS (ret (.bl false))) (nxS)) (ifS (tst (bin neD (frzM (lcC [4] (iterM (varM 3)) (nameG 4) (orT (notT (tst (isM (isB "int" (fun _ => none)) (varM 4)))) (tst (isM (isB "bool" (fun _ => none)) (varM 4)))) (varM 4))) (lstM (nilM)))) (retS (ret (.bl false))) (nxS)))) (retS (ret (.bl true))))
def m_law_are_bets : DF := defF N_law_are_bets.length b_law_are_bets
def N_law_sums : List Str := ["_law_bets_here", "_law_k", "_law_row"]
def b_law_sums : DS := retS (frzM (lcC [1] (rangeM (consM (look1M lenD (datM (lookM ixD (slM 0) (ret (.int 0))))) (nilM))) (nameG 1) (ret true) (appM sumN (consM (frzM (lcC [2] (iterM (varM 0)) (nameG 2) (ret true) (lookM ixD (slM 2) (varM 1)))) (nilM)))))
def m_law_sums : DF := defF N_law_sums.length b_law_sums
def N_amounts_along : List Str := ["ratios", "found", "ratio"]
def b_amounts_along : DS := seqS (ownS 1 (lstC (consM (ret (.tup (([1, 1] : List Int).map .int))) (nilM)))) (seqS (forS (nameG 2) (iterM (varM 0)) (exprS (methM "list" (actW appendN) (slM 1) (consM (callM m_over (consM (lookM ixD (slM 1) (unM negD (ret (.int 1)))) (consM (varM 2) (nilM)))) (nilM))))) (retS (varM 1)))
def m_amounts_along : DF := defF N_amounts_along.length b_amounts_along
def N_least_multiple : List Str := ["some", "found", "number"]
def b_least_multiple : DS := seqS (setS 1 (ret (.int 1))) (seqS (forS (nameG 2) (iterM (varM 0)) (setS 1 (bin divI (bin mulD (varM 1) (lookM ixD (slM 2) (ret (.int 1)))) (callM m_common (consM (varM 1) (consM (lookM ixD (slM 2) (ret (.int 1))) (nilM))))))) (retS (varM 1)))
def m_least_multiple : DF := defF N_least_multiple.length b_least_multiple
def N_telling_by : List Str := ["numbers", "lot", "whole", "case"]
def b_telling_by : DS := seqS (setS 2 (callM m_total (consM (frzM (lcC [3] (iterM (varM 1)) (nameG 3) (ret true) (lookM ixD (slM 0) (varM 3)))) (nilM)))) (retS (appM tupleN (consM (frzM (lcC [3] (iterM (varM 1)) (nameG 3) (ret true) (callM m_over (consM (lookM ixD (slM 0) (varM 3)) (consM (varM 2) (nilM)))))) (nilM))))
def m_telling_by : DF := defF N_telling_by.length b_telling_by
def N_law_open_parts : List Str := ["_law_people_here", "_law_found", "_law_name", "_law_view", "_law_lot", "_law_told"]
def b_law_open_parts : DS := seqS (setS 1 (lstM (nilM))) (seqS (forS (tupleG [nameG 2, nameG 3]) (iterM (varM 0)) (setS 1 (bin addD (varM 1) (frzM (lcC [4, 5] (iterM (varM 3)) (tupleG [nameG 4, nameG 5]) (tst (bin isNoneD (varM 5) (ret .non))) (tupM (consM (varM 2) (consM (varM 4) (nilM))))))))) (retS (varM 1)))
def m_law_open_parts : DF := defF N_law_open_parts.length b_law_open_parts
def N_are_weights : List Str := ["value", "many", "part"]
def b_are_weights : DS := seqS (ifS (orT (notT (tst (isM (isB "tuple" (fun _ => none)) (varM 0)))) (tst (bin neD (look1M lenD (slM 0)) (varM 1)))) (retS (ret (.bl false))) (nxS)) (seqS (ifS (notT (tst (appM allN (consM (frzM (lcC [2] (iterM (varM 0)) (nameG 2) (ret true) (andV (isM (isB "int" (fun _ => none)) (varM 2)) (andV (notV (isM (isB "bool" (fun _ => none)) (varM 2))) (bin geD (varM 2) (ret (.int 0))))))) (nilM))))) (retS (ret (.bl false))) (nxS)) (retS (bin gtD (appM sumN (consM (varM 0) (nilM))) (ret (.int 0)))))
def m_are_weights : DF := defF N_are_weights.length b_are_weights
def N_Room_check_lot : List Str := ["self", "lot"]
def b_Room_check_lot : DS := ifS (notT (tst (callM m_is_lot (consM (varM 1) (consM (getA (acc1 0 (.fld 0)) (varM 0)) (nilM)))))) (fun _ => .stuck) (nxS)
def m_Room_check_lot : DF := defF N_Room_check_lot.length b_Room_check_lot
def N_saying_of : List Str := ["room", "name", "case", "event", "heard", "lot", "told", "some", "place", "other", "inside", "number"]
def b_saying_of : DS := seqS (asgS (tupleG [nameG 5, nameG 6]) (objM 0 m_Room_part_of (varM 0) (consM (varM 1) (consM (varM 2) (nilM))))) (seqS (ifS (tst (bin isNoneD (varM 6) (ret .non))) (retS (ret .non)) (nxS)) (seqS (setS 7 (frzM (lcC [8, 9] (enumM (consM (varM 5) (nilM))) (tupleG [nameG 8, nameG 9]) (tst (lookM2 inD (varM 9) (slM 4))) (tupM (consM (varM 9) (consM (lookM ixD (slM 6) (varM 8)) (nilM))))))) (seqS (setS 10 (callM m_total (consM (frzM (lcC [9, 11] (iterM (varM 7)) (tupleG [nameG 9, nameG 11]) (tst (lookM2 inD (varM 9) (slM 3))) (varM 11))) (nilM)))) (retS (callM m_over (consM (varM 10) (consM (callM m_total (consM (frzM (lcC [9, 11] (iterM (varM 7)) (tupleG [nameG 9, nameG 11]) (ret true) (varM 11))) (nilM))) (nilM))))))))
def m_saying_of : DF := defF N_saying_of.length b_saying_of
def N_saying : List Str := ["room", "name", "case", "event", "heard"]
def b_saying : DS := seqS (exprS (callM m_check_room (consM (varM 0) (nilM)))) (seqS (exprS (objM 0 m_Room_check_name (varM 0) (consM (varM 1) (nilM)))) (seqS (exprS (objM 0 m_Room_check_case (varM 0) (consM (varM 2) (nilM)))) (seqS (exprS (objM 0 m_Room_check_lot (varM 0) (consM (varM 3) (nilM)))) (seqS (exprS (objM 0 m_Room_check_lot (varM 0) (consM (varM 4) (nilM)))) (seqS (ifS (tst (lookM2 ninD (varM 2) (slM 4))) (fun _ => .stuck) (nxS)) (retS (callM m_saying_of (consM (varM 0) (consM (varM 1) (consM (varM 2) (consM (varM 3) (consM (varM 4) (nilM)))))))))))))
def m_saying : DF := defF N_saying.length b_saying
def N_law_said : List Str := ["_law_people_here", "_law_name", "_law_case", "_law_event_here", "_law_lot_here", "_law_view", "_law_lot", "_law_told", "_law_part", "_law_inside", "_law_k"]
def b_law_said : DS := seqS (setS 5 (lookM ixD (datM (frzM (appC dictN (consM (varM 0) (nilM))))) (varM 1))) (seqS (asgS (tupleG [nameG 6, nameG 7]) (lookM ixD (datM (frzM (lcC [8] (iterM (varM 5)) (nameG 8) (tst (lookM2 inD (varM 2) (datM (lookM ixD (slM 8) (ret (.int 0)))))) (varM 8)))) (ret (.int 0)))) (seqS (ifS (tst (bin isNoneD (varM 7) (ret .non))) (retS (ret .non)) (nxS)) (seqS (setS 9 (callM m_law_total_v2 (consM (frzM (lcC [10] (rangeM (consM (look1M lenD (slM 6)) (nilM))) (nameG 10) (andT (tst (lookM2 inD (lookM ixD (slM 6) (varM 10)) (slM 4))) (tst (lookM2 inD (lookM ixD (slM 6) (varM 10)) (slM 3)))) (lookM ixD (slM 7) (varM 10)))) (nilM)))) (retS (callM m_law_over_v2 (consM (varM 9) (consM (callM m_law_total_v2 (consM (frzM (lcC [10] (rangeM (consM (look1M lenD (slM 6)) (nilM))) (nameG 10) (tst (lookM2 inD (lookM ixD (slM 6) (varM 10)) (slM 4))) (lookM ixD (slM 7) (varM 10)))) (nilM))) (nilM))))))))
def m_law_said : DF := defF N_law_said.length b_law_said
def N_law_event : List Str := ["_law_cup_here", "_law_cases_here", "_law_case"]
def b_law_event : DS := retS (methM "str" (actR joinN) (datM (ret (.str ""))) (consM (frzM (lcC [2] (iterM (varM 1)) (nameG 2) (tst (bin eqD (callM m_law_sip (consM (varM 0) (consM (ret (.int 2)) (nilM)))) (ret (.int 0)))) (varM 2))) (nilM)))
def m_law_event : DF := defF N_law_event.length b_law_event
def N_heard_behind : List Str := ["room", "name", "case", "event", "heard", "said", "other"]
def b_heard_behind : DS := seqS (setS 5 (callM m_saying_of (consM (varM 0) (consM (varM 1) (consM (varM 2) (consM (varM 3) (consM (varM 4) (nilM)))))))) (retS (methM "str" (actR joinN) (datM (ret (.str ""))) (consM (frzM (lcC [6] (iterM (varM 4)) (nameG 6) (tst (bin eqD (callM m_saying_of (consM (varM 0) (consM (varM 1) (consM (varM 6) (consM (varM 3) (consM (varM 4) (nilM))))))) (varM 5))) (varM 6))) (nilM))))
def m_heard_behind : DF := defF N_heard_behind.length b_heard_behind
def N_walk_through : List Str := ["room", "case", "event", "heard", "said", "last", "silent", "names", "name", "later"]
def b_walk_through : DS := seqS (setS 3 (getA (acc1 0 (.prop m_Room_cases)) (varM 0))) (seqS (ownS 4 (lstC (nilM))) (seqS (setS 5 (ret (.int 0))) (seqS (setS 6 (ret (.int 0))) (seqS (setS 7 (getA (acc1 0 (.prop m_Room_names)) (varM 0))) (seqS (whileL (tst (bin ltD (varM 6) (look1M lenD (slM 7)))) (seqS (setS 8 (lookM ixD (slM 7) (bin modI (look1M lenD (slM 4)) (look1M lenD (slM 7))))) (seqS (exprS (methM "list" (actW appendN) (slM 4) (consM (tupM (consM (varM 8) (consM (callM m_saying_of (consM (varM 0) (consM (varM 8) (consM (varM 1) (consM (varM 2) (consM (varM 3) (nilM))))))) (nilM)))) (nilM)))) (seqS (setS 9 (callM m_heard_behind (consM (varM 0) (consM (varM 8) (consM (varM 1) (consM (varM 2) (consM (varM 3) (nilM)))))))) (seqS (setS 6 (ifM (tst (bin eqD (varM 9) (varM 3))) (bin addD (varM 6) (ret (.int 1))) (ret (.int 0)))) (seqS (setS 5 (ifM (tst (bin eqD (varM 9) (varM 3))) (varM 5) (look1M lenD (slM 4)))) (setS 3 (varM 9))))))) 1000000000) (retS (tupM (consM (appM tupleN (consM (sliceM (varM 4) (noPart) (partM (varM 5))) (nilM))) (consM (varM 3) (nilM))))))))))
def m_walk_through : DF := defF N_walk_through.length b_walk_through
def N_last_of : List Str := ["room", "case", "event", "heard", "name"]
def b_last_of : DS := seqS (setS 3 (lookM ixD (datM (callM m_walk_through (consM (varM 0) (consM (varM 1) (consM (varM 2) (nilM)))))) (ret (.int 1)))) (retS (appM tupleN (consM (frzM (lcC [4] (iterM (getA (acc1 0 (.prop m_Room_names)) (varM 0))) (nameG 4) (ret true) (callM m_saying_of (consM (varM 0) (consM (varM 4) (consM (varM 1) (consM (varM 2) (consM (varM 3) (nilM))))))))) (nilM))))
def m_last_of : DF := defF N_last_of.length b_last_of
def N_check_asked : List Str := ["room", "case", "event"]
def b_check_asked : DS := seqS (exprS (callM m_check_room (consM (varM 0) (nilM)))) (seqS (exprS (objM 0 m_Room_check_case (varM 0) (consM (varM 1) (nilM)))) (exprS (objM 0 m_Room_check_lot (varM 0) (consM (varM 2) (nilM)))))
def m_check_asked : DF := defF N_check_asked.length b_check_asked
def N_sayings : List Str := ["room", "case", "event"]
def b_sayings : DS := seqS (exprS (callM m_check_asked (consM (varM 0) (consM (varM 1) (consM (varM 2) (nilM)))))) (retS (lookM ixD (datM (callM m_walk_through (consM (varM 0) (consM (varM 1) (consM (varM 2) (nilM)))))) (ret (.int 0))))
def m_sayings : DF := defF N_sayings.length b_sayings
def N_heard_at_last : List Str := ["room", "case", "event"]
def b_heard_at_last : DS := seqS (exprS (callM m_check_asked (consM (varM 0) (consM (varM 1) (consM (varM 2) (nilM)))))) (retS (lookM ixD (datM (callM m_walk_through (consM (varM 0) (consM (varM 1) (consM (varM 2) (nilM)))))) (ret (.int 1))))
def m_heard_at_last : DF := defF N_heard_at_last.length b_heard_at_last
def N_last_sayings : List Str := ["room", "case", "event"]
def b_last_sayings : DS := seqS (exprS (callM m_check_asked (consM (varM 0) (consM (varM 1) (consM (varM 2) (nilM)))))) (retS (callM m_last_of (consM (varM 0) (consM (varM 1) (consM (varM 2) (nilM))))))
def m_last_sayings : DF := defF N_last_sayings.length b_last_sayings
def N_most_sayings : List Str := ["room", "event", "case"]
def b_most_sayings : DS := seqS (exprS (callM m_check_room (consM (varM 0) (nilM)))) (seqS (exprS (objM 0 m_Room_check_lot (varM 0) (consM (varM 1) (nilM)))) (retS (appM maxN (consM (frzM (lcC [2] (iterM (getA (acc1 0 (.prop m_Room_cases)) (varM 0))) (nameG 2) (ret true) (look1M lenD (datM (lookM ixD (datM (callM m_walk_through (consM (varM 0) (consM (varM 2) (consM (varM 1) (nilM)))))) (ret (.int 0))))))) (nilM)))))
def m_most_sayings : DF := defF N_most_sayings.length b_most_sayings
def N_law_walk : List Str := ["_law_cases_here", "_law_people_here", "_law_case", "_law_event_here", "_law_lot_here", "_law_found", "_law_still", "_law_turn", "_law_name", "_law_said_here", "_law_later", "_law_each"]
def b_law_walk : DS := seqS (asgS (tupleG [nameG 4, nameG 5, nameG 6]) (tupM (consM (varM 0) (consM (lstM (nilM)) (consM (ret (.int 0)) (nilM)))))) (seqS (forS (nameG 7) (rangeM (consM (ret (.int 60)) (nilM))) (ifS (tst (bin ltD (varM 6) (look1M lenD (slM 1)))) (seqS (setS 8 (lookM ixD (datM (lookM ixD (slM 1) (bin modI (varM 7) (look1M lenD (slM 1))))) (ret (.int 0)))) (seqS (setS 9 (callM m_law_said (consM (varM 1) (consM (varM 8) (consM (varM 2) (consM (varM 3) (consM (varM 4) (nilM)))))))) (seqS (ownS 10 (lstC (nilM))) (seqS (forS (nameG 11) (iterM (varM 4)) (ifS (tst (bin eqD (callM m_law_said (consM (varM 1) (consM (varM 8) (consM (varM 11) (consM (varM 3) (consM (varM 4) (nilM))))))) (varM 9))) (exprS (methM "list" (actW appendN) (slM 10) (consM (varM 11) (nilM)))) (nxS))) (seqS (setS 6 (ifM (tst (bin eqD (look1M lenD (slM 10)) (look1M lenD (slM 4)))) (bin addD (varM 6) (ret (.int 1))) (ret (.int 0)))) (seqS (setS 4 (methM "str" (actR joinN) (datM (ret (.str ""))) (consM (varM 10) (nilM)))) (exprS (methM "list" (actW appendN) (slM 5) (consM (tupM (consM (varM 8) (consM (varM 9) (consM (varM 4) (nilM))))) (nilM)))))))))) (nxS))) (retS (varM 5)))
def m_law_walk : DF := defF N_law_walk.length b_law_walk
def N_are_alike : List Str := ["said", "some", "number"]
def b_are_alike : DS := seqS (setS 1 (frzM (lcC [2] (iterM (varM 0)) (nameG 2) (tst (bin notNoneD (varM 2) (ret .non))) (varM 2)))) (retS (appM allN (consM (frzM (lcC [2] (iterM (varM 1)) (nameG 2) (ret true) (bin eqD (varM 2) (lookM ixD (slM 1) (ret (.int 0)))))) (nilM))))
def m_are_alike : DF := defF N_are_alike.length b_are_alike
def N_agree : List Str := ["room", "event", "case"]
def b_agree : DS := seqS (exprS (callM m_check_room (consM (varM 0) (nilM)))) (seqS (exprS (objM 0 m_Room_check_lot (varM 0) (consM (varM 1) (nilM)))) (retS (appM allN (consM (frzM (lcC [2] (iterM (getA (acc1 0 (.prop m_Room_cases)) (varM 0))) (nameG 2) (ret true) (callM m_are_alike (consM (callM m_last_of (consM (varM 0) (consM (varM 2) (consM (varM 1) (nilM))))) (nilM))))) (nilM)))))
def m_agree : DF := defF N_agree.length b_agree
def N_law_pair_right : List Str := ["_law_cup_here", "_law_tops", "_law_k", "_law_told", "_law_top", "_law_room", "_law_case", "_law_at", "_law_due", "_law_part", "_law_each", "_law_lone"]
def b_law_pair_right : DS := seqS (ownS 1 (lcC [2] (rangeM (consM (bin addD (ret (.int 2)) (callM m_law_sip (consM (varM 0) (consM (ret (.int 3)) (nilM))))) (nilM))) (nameG 2) (ret true) (bin addD (ret (.int 1)) (callM m_law_sip (consM (varM 0) (consM (ret (.int 9)) (nilM))))))) (seqS (asgS (ixG (slM 1) (ret (.int 1))) (bin addD (lookM ixD (slM 1) (ret (.int 0))) (ret (.int 1)))) (seqS (setS 3 (frzM (lcC [4] (iterM (varM 1)) (nameG 4) (ret true) (tupM (consM (callM m_law_low_v2 (consM (varM 4) (consM (ret (.int 12)) (nilM)))) (consM (callM m_law_low_v2 (consM (bin subI (ret (.int 12)) (varM 4)) (consM (ret (.int 12)) (nilM)))) (nilM))))))) (seqS (setS 5 (callM (makeZ 0 m_Room_init) (consM (ret (.str "gk")) (consM (appM tupleN (consM (frzM (lcC [2] (rangeM (consM (look1M lenD (slM 1)) (nilM))) (nameG 2) (ret true) (tupM (consM (bin addD (ret (.str "p")) (lookM ixD (datM (ret (.str "abcd"))) (varM 2))) (consM (tupM (consM (tupM (consM (ret (.str "gk")) (consM (lookM ixD (slM 3) (varM 2)) (nilM)))) (nilM))) (nilM)))))) (nilM))) (nilM))))) (seqS (forS (tupleG [nameG 6, nameG 7]) (iterM (lstM (consM (tupM (consM (ret (.str "g")) (consM (ret (.int 0)) (nilM)))) (consM (tupM (consM (ret (.str "k")) (consM (ret (.int 1)) (nilM)))) (nilM))))) (seqS (setS 8 (appM tupleN (consM (frzM (lcC [9] (iterM (varM 3)) (nameG 9) (ret true) (lookM ixD (slM 9) (varM 7)))) (nilM)))) (seqS (forS (nameG 10) (iterM (ret (.str "gk"))) (seqS (ifS (orT (tst (bin neD (callM m_sayings (consM (varM 5) (consM (varM 10) (consM (varM 6) (nilM))))) (tupM (nilM)))) (tst (bin neD (callM m_heard_at_last (consM (varM 5) (consM (varM 10) (consM (varM 6) (nilM))))) (ret (.str "gk"))))) (retS (ret (.bl false))) (nxS)) (ifS (tst (bin neD (callM m_last_sayings (consM (varM 5) (consM (varM 10) (consM (varM 6) (nilM))))) (varM 8))) (retS (ret (.bl false))) (nxS)))) (ifS (orT (tst (callM m_agree (consM (varM 5) (consM (varM 6) (nilM))))) (tst (bin neD (callM m_most_sayings (consM (varM 5) (consM (varM 6) (nilM)))) (ret (.int 0))))) (retS (ret (.bl false))) (nxS))))) (seqS (ifS (orT (notT (tst (callM m_agree (consM (varM 5) (consM (ret (.str "")) (nilM)))))) (notT (tst (callM m_agree (consM (varM 5) (consM (ret (.str "gk")) (nilM))))))) (retS (ret (.bl false))) (nxS)) (seqS (setS 11 (varM 5)) (seqS (forS (nameG 2) (rangeM (consM (ret (.int 1)) (consM (look1M lenD (slM 1)) (nilM)))) (setS 11 (objM 0 m_Room_without_told (varM 11) (consM (bin addD (ret (.str "p")) (lookM ixD (datM (ret (.str "abcd"))) (varM 2))) (consM (ret (.str "gk")) (nilM)))))) (retS (andV (callM m_agree (consM (varM 11) (consM (ret (.str "g")) (nilM)))) (bin eqD (callM m_last_sayings (consM (varM 11) (consM (ret (.str "g")) (consM (ret (.str "k")) (nilM))))) (bin addD (tupM (consM (lookM ixD (datM (lookM ixD (slM 3) (ret (.int 0)))) (ret (.int 1))) (nilM))) (bin mulD (tupM (consM (ret .non) (nilM))) (bin subI (look1M lenD (slM 1)) (ret (.int 1)))))))))))))))
def m_law_pair_right : DF := defF N_law_pair_right.length b_law_pair_right
def N_law_right_v21 : List Str := ["_law_cup_here", "_law_line", "_law_room", "_law_seen"]
def b_law_right_v21 : DS := seqS (ifS (notT (tst (callM m_law_pair_right (consM (varM 0) (nilM))))) (retS (ret (.bl false))) (nxS)) (seqS (setS 1 (ret (.str "cases abcd\nann ab 1/3 2/3\nann cd 1/2 1/2\nbob ab 1/2 1/2\nbob cd 3/4 1/4"))) (seqS (setS 2 (callM m_Room_read (consM (varM 1) (nilM)))) (seqS (setS 3 (lstM (consM (callM m_last_sayings (consM (varM 2) (consM (ret (.str "a")) (consM (ret (.str "ac")) (nilM))))) (consM (callM m_last_sayings (consM (varM 2) (consM (ret (.str "c")) (consM (ret (.str "ac")) (nilM))))) (consM (callM m_heard_at_last (consM (varM 2) (consM (ret (.str "a")) (consM (ret (.str "ac")) (nilM))))) (nilM)))))) (seqS (ifS (orT (tst (bin neD (varM 3) (lstM (consM (tupM (consM (tupM (consM (ret (.int 1)) (consM (ret (.int 3)) (nilM)))) (consM (tupM (consM (ret (.int 1)) (consM (ret (.int 2)) (nilM)))) (nilM)))) (consM (tupM (consM (tupM (consM (ret (.int 1)) (consM (ret (.int 2)) (nilM)))) (consM (tupM (consM (ret (.int 3)) (consM (ret (.int 4)) (nilM)))) (nilM)))) (consM (ret (.str "ab")) (nilM))))))) (tst (bin neD (callM m_sayings (consM (varM 2) (consM (ret (.str "d")) (consM (ret (.str "ac")) (nilM))))) (tupM (consM (tupM (consM (ret (.str "ann")) (consM (tupM (consM (ret (.int 1)) (consM (ret (.int 2)) (nilM)))) (nilM)))) (nilM)))))) (retS (ret (.bl false))) (nxS)) (seqS (ifS (orT (tst (callM m_agree (consM (varM 2) (consM (ret (.str "ac")) (nilM))))) (orT (notT (tst (callM m_agree (consM (varM 2) (consM (ret (.str "ab")) (nilM)))))) (notT (tst (callM m_agree (consM (objM 0 m_Room_without_told (varM 2) (consM (ret (.str "bob")) (consM (ret (.str "ab")) (nilM)))) (consM (ret (.str "b")) (nilM)))))))) (retS (ret (.bl false))) (nxS)) (seqS (setS 1 (ret (.str "cases abc\nann ab 1/2 1/2\nann c 1/1\nbob a 1/1\nbob bc 1/2 1/2\ncid ac 1/3 2/3\ncid b 1/1"))) (seqS (setS 2 (callM m_Room_read (consM (varM 1) (nilM)))) (seqS (setS 3 (lstM (consM (callM m_sayings (consM (varM 2) (consM (ret (.str "a")) (consM (ret (.str "a")) (nilM))))) (consM (callM m_last_sayings (consM (varM 2) (consM (ret (.str "b")) (consM (ret (.str "a")) (nilM))))) (consM (callM m_heard_at_last (consM (varM 2) (consM (ret (.str "c")) (consM (ret (.str "a")) (nilM))))) (nilM)))))) (retS (andV (bin eqD (varM 3) (lstM (consM (tupM (consM (tupM (consM (ret (.str "ann")) (consM (tupM (consM (ret (.int 1)) (consM (ret (.int 2)) (nilM)))) (nilM)))) (consM (tupM (consM (ret (.str "bob")) (consM (tupM (consM (ret (.int 1)) (consM (ret (.int 1)) (nilM)))) (nilM)))) (nilM)))) (consM (tupM (consM (tupM (consM (ret (.int 0)) (consM (ret (.int 1)) (nilM)))) (consM (tupM (consM (ret (.int 0)) (consM (ret (.int 1)) (nilM)))) (consM (tupM (consM (ret (.int 0)) (consM (ret (.int 1)) (nilM)))) (nilM))))) (consM (ret (.str "c")) (nilM)))))) (callM m_agree (consM (varM 2) (consM (ret (.str "a")) (nilM))))))))))))))
def m_law_right_v21 : DF := defF N_law_right_v21.length b_law_right_v21
def N_same_to_all : List Str := ["room", "case", "lots", "name", "other", "lot"]
def b_same_to_all : DS := seqS (setS 2 (frzM (lcC [3] (iterM (getA (acc1 0 (.prop m_Room_names)) (varM 0))) (nameG 3) (ret true) (lookM ixD (datM (objM 0 m_Room_part_of (varM 0) (consM (varM 3) (consM (varM 1) (nilM))))) (ret (.int 0)))))) (retS (methM "str" (actR joinN) (datM (ret (.str ""))) (consM (frzM (lcC [4] (iterM (getA (acc1 0 (.prop m_Room_cases)) (varM 0))) (nameG 4) (tst (appM allN (consM (frzM (lcC [5] (iterM (varM 2)) (nameG 5) (ret true) (lookM2 inD (varM 4) (slM 5)))) (nilM)))) (varM 4))) (nilM))))
def m_same_to_all : DF := defF N_same_to_all.length b_same_to_all
def N_law_same : List Str := ["_law_cases_here", "_law_people_here", "_law_case", "_law_left", "_law_name", "_law_view", "_law_lot", "_law_part", "_law_each"]
def b_law_same : DS := seqS (setS 3 (frzM (appC listD (consM (varM 0) (nilM))))) (seqS (forS (tupleG [nameG 4, nameG 5]) (iterM (varM 1)) (seqS (setS 6 (lookM ixD (datM (frzM (lcC [7] (iterM (varM 5)) (nameG 7) (tst (lookM2 inD (varM 2) (datM (lookM ixD (slM 7) (ret (.int 0)))))) (lookM ixD (slM 7) (ret (.int 0)))))) (ret (.int 0)))) (setS 3 (frzM (lcC [8] (iterM (varM 3)) (nameG 8) (tst (lookM2 inD (varM 8) (slM 6))) (varM 8)))))) (retS (methM "str" (actR joinN) (datM (ret (.str ""))) (consM (varM 3) (nilM)))))
def m_law_same : DF := defF N_law_same.length b_law_same
def N_law_heard : List Str := ["_law_room", "_law_case", "_law_some"]
def b_law_heard : DS := retS (lstM (consM (callM m_sayings (consM (varM 0) (consM (varM 1) (consM (varM 2) (nilM))))) (consM (callM m_heard_at_last (consM (varM 0) (consM (varM 1) (consM (varM 2) (nilM))))) (consM (callM m_last_sayings (consM (varM 0) (consM (varM 1) (consM (varM 2) (nilM))))) (nilM)))))
def m_law_heard : DF := defF N_law_heard.length b_law_heard
def N_law_telling_v3 : List Str := ["_law_weights_here", "_law_lot_here", "_law_whole", "_law_case"]
def b_law_telling_v3 : DS := seqS (setS 2 (appM sumN (consM (frzM (lcC [3] (iterM (varM 1)) (nameG 3) (ret true) (lookM ixD (slM 0) (varM 3)))) (nilM)))) (retS (appM tupleN (consM (frzM (lcC [3] (iterM (varM 1)) (nameG 3) (ret true) (callM m_law_low_v2 (consM (lookM ixD (slM 0) (varM 3)) (consM (varM 2) (nilM)))))) (nilM))))
def m_law_telling_v3 : DF := defF N_law_telling_v3.length b_law_telling_v3
def N_law_renamed_v2 : List Str := ["_law_letters", "_law_names_here", "_law_people_here", "_law_found", "_law_name", "_law_view", "_law_fresh", "_law_lot_here", "_law_told", "_law_both", "_law_k", "_law_some", "_law_sign", "_law_part"]
def b_law_renamed_v2 : DS := seqS (ownS 3 (lstC (nilM))) (seqS (forS (tupleG [nameG 4, nameG 5]) (iterM (varM 2)) (seqS (ownS 6 (lstC (nilM))) (seqS (forS (tupleG [nameG 7, nameG 8]) (iterM (varM 5)) (seqS (setS 9 (frzM (lcC [10] (rangeM (consM (look1M lenD (slM 7)) (nilM))) (nameG 10) (ret true) (tupM (consM (lookM ixD (slM 0) (lookM ixD (slM 7) (varM 10))) (consM (ifM (tst (bin isNoneD (varM 8) (ret .non))) (ret .non) (lookM ixD (slM 8) (varM 10))) (nilM))))))) (seqS (setS 11 (ifM (tst (bin isNoneD (varM 8) (ret .non))) (ret .non) (appM tupleN (consM (frzM (lcC [12, 13] (iterM (appM sortedN (consM (varM 9) (nilM)))) (tupleG [nameG 12, nameG 13]) (ret true) (varM 13))) (nilM))))) (exprS (methM "list" (actW appendN) (slM 6) (consM (tupM (consM (methM "str" (actR joinN) (datM (ret (.str ""))) (consM (appM sortedN (consM (frzM (lcC [12, 13] (iterM (varM 9)) (tupleG [nameG 12, nameG 13]) (ret true) (varM 12))) (nilM))) (nilM))) (consM (varM 11) (nilM)))) (nilM))))))) (exprS (methM "list" (actW appendN) (slM 3) (consM (tupM (consM (lookM ixD (slM 1) (varM 4)) (consM (appM tupleN (consM (appM sortedN (consM (varM 6) (nilM))) (nilM))) (nilM)))) (nilM))))))) (retS (appM tupleN (consM (appM sortedN (consM (varM 3) (nilM))) (nilM)))))
def m_law_renamed_v2 : DF := defF N_law_renamed_v2.length b_law_renamed_v2
def N_law_open_parts_v2 : List Str := ["_law_people_here", "_law_found", "_law_name", "_law_view", "_law_lot_here", "_law_told"]
def b_law_open_parts_v2 : DS := seqS (setS 1 (lstM (nilM))) (seqS (forS (tupleG [nameG 2, nameG 3]) (iterM (varM 0)) (setS 1 (bin addD (varM 1) (frzM (lcC [4, 5] (iterM (varM 3)) (tupleG [nameG 4, nameG 5]) (tst (bin isNoneD (varM 5) (ret .non))) (tupM (consM (varM 2) (consM (varM 4) (nilM))))))))) (retS (varM 1)))
def m_law_open_parts_v2 : DF := defF N_law_open_parts_v2.length b_law_open_parts_v2
def N_law_lot : List Str := ["_law_letters", "_law_lot_here", "_law_case"]
def b_law_lot : DS := retS (methM "str" (actR joinN) (datM (ret (.str ""))) (consM (appM sortedN (consM (frzM (lcC [2] (iterM (varM 1)) (nameG 2) (ret true) (lookM ixD (slM 0) (varM 2)))) (nilM))) (nilM)))
def m_law_lot : DF := defF N_law_lot.length b_law_lot
def N_law_same_talks : List Str := ["_law_room", "_law_mate", "_law_letters", "_law_some", "_law_event_here", "_law_case"]
def b_law_same_talks : DS := seqS (setS 4 (callM m_law_lot (consM (varM 2) (consM (varM 3) (nilM))))) (seqS (forS (nameG 5) (iterM (getA (acc1 0 (.prop m_Room_cases)) (varM 0))) (seqS (ifS (tst (bin neD (callM m_law_lot (consM (varM 2) (consM (callM m_heard_at_last (consM (varM 0) (consM (varM 5) (consM (varM 3) (nilM))))) (nilM)))) (callM m_heard_at_last (consM (varM 1) (consM (lookM ixD (slM 2) (varM 5)) (consM (varM 4) (nilM))))))) (retS (ret (.bl false))) (nxS)) (ifS (tst (bin neD (callM m_last_sayings (consM (varM 0) (consM (varM 5) (consM (varM 3) (nilM))))) (callM m_last_sayings (consM (varM 1) (consM (lookM ixD (slM 2) (varM 5)) (consM (varM 4) (nilM))))))) (retS (ret (.bl false))) (nxS)))) (retS (bin eqD (callM m_agree (consM (varM 0) (consM (varM 3) (nilM)))) (callM m_agree (consM (varM 1) (consM (varM 4) (nilM)))))))
def m_law_same_talks : DF := defF N_law_same_talks.length b_law_same_talks
def N_law_talks_right : List Str := ["_law_whole", "_law_part", "_law_some", "_law_case", "_law_inside", "_law_each", "_law_lot_here"]
def b_law_talks_right : DS := seqS (forS (nameG 3) (iterM (getA (acc1 0 (.prop m_Room_cases)) (varM 1))) (seqS (setS 4 (methM "str" (actR joinN) (datM (ret (.str ""))) (consM (frzM (lcC [5] (iterM (varM 2)) (nameG 5) (tst (lookM2 inD (varM 5) (datM (getA (acc1 0 (.prop m_Room_cases)) (varM 1))))) (varM 5))) (nilM)))) (seqS (ifS (tst (bin neD (callM m_last_sayings (consM (varM 0) (consM (varM 3) (consM (varM 2) (nilM))))) (callM m_last_sayings (consM (varM 1) (consM (varM 3) (consM (varM 4) (nilM))))))) (retS (ret (.bl false))) (nxS)) (seqS (setS 6 (methM "str" (actR joinN) (datM (ret (.str ""))) (consM (frzM (lcC [5] (iterM (callM m_heard_at_last (consM (varM 0) (consM (varM 3) (consM (varM 2) (nilM)))))) (nameG 5) (tst (lookM2 inD (varM 5) (datM (getA (acc1 0 (.prop m_Room_cases)) (varM 1))))) (varM 5))) (nilM)))) (ifS (tst (bin neD (varM 6) (callM m_heard_at_last (consM (varM 1) (consM (varM 3) (consM (varM 4) (nilM))))))) (retS (ret (.bl false))) (nxS)))))) (retS (ret (.bl true)))
def m_law_talks_right : DF := defF N_law_talks_right.length b_law_talks_right
def N_law_told_parts : List Str := ["_law_people_here", "_law_found", "_law_name", "_law_view", "_law_lot", "_law_told"]
def b_law_told_parts : DS := seqS (setS 1 (lstM (nilM))) (seqS (forS (tupleG [nameG 2, nameG 3]) (iterM (varM 0)) (setS 1 (bin addD (varM 1) (frzM (lcC [4, 5] (iterM (varM 3)) (tupleG [nameG 4, nameG 5]) (tst (bin notNoneD (varM 5) (ret .non))) (tupM (consM (varM 2) (consM (varM 4) (nilM))))))))) (retS (varM 1)))
def m_law_told_parts : DF := defF N_law_told_parts.length b_law_told_parts
def N_law_views : List Str := ["_law_one", "_law_half", "_law_some", "_law_told", "_law_first", "_law_last"]
def b_law_views : DS := seqS (asgS (tupleG [nameG 0, nameG 1, nameG 2]) (tupM (consM (tupM (consM (tupM (consM (ret (.int 1)) (consM (ret (.int 1)) (nilM)))) (nilM))) (consM (tupM (consM (tupM (consM (ret (.int 1)) (consM (ret (.int 2)) (nilM)))) (consM (tupM (consM (ret (.int 1)) (consM (ret (.int 2)) (nilM)))) (nilM)))) (consM (lstM (nilM)) (nilM)))))) (seqS (forS (nameG 3) (iterM (lstM (consM (ret .non) (consM (varM 1) (consM (tupM (consM (tupM (consM (ret (.int 1)) (consM (ret (.int 3)) (nilM)))) (consM (tupM (consM (ret (.int 2)) (consM (ret (.int 3)) (nilM)))) (nilM)))) (consM (tupM (consM (tupM (consM (ret (.int 2)) (consM (ret (.int 3)) (nilM)))) (consM (tupM (consM (ret (.int 1)) (consM (ret (.int 3)) (nilM)))) (nilM)))) (consM (tupM (consM (tupM (consM (ret (.int 1)) (consM (ret (.int 4)) (nilM)))) (consM (tupM (consM (ret (.int 3)) (consM (ret (.int 4)) (nilM)))) (nilM)))) (nilM)))))))) (exprS (methM "list" (actW appendN) (slM 2) (consM (tupM (consM (tupM (consM (ret (.str "ab")) (consM (varM 3) (nilM)))) (nilM))) (nilM))))) (seqS (forS (tupleG [nameG 4, nameG 5]) (iterM (lstM (consM (tupM (consM (ret .non) (consM (ret .non) (nilM)))) (consM (tupM (consM (varM 0) (consM (ret .non) (nilM)))) (consM (tupM (consM (ret .non) (consM (varM 0) (nilM)))) (consM (tupM (consM (varM 0) (consM (varM 0) (nilM)))) (nilM))))))) (exprS (methM "list" (actW appendN) (slM 2) (consM (tupM (consM (tupM (consM (ret (.str "a")) (consM (varM 4) (nilM)))) (consM (tupM (consM (ret (.str "b")) (consM (varM 5) (nilM)))) (nilM)))) (nilM))))) (retS (varM 2))))
def m_law_views : DF := defF N_law_views.length b_law_views
def N_law_plain : List Str := ["_law_top", "_law_bottom", "_law_by"]
def b_law_plain : DS := seqS (forS (nameG 2) (iterM (lstM (consM (ret (.int 12)) (consM (ret (.int 9)) (consM (ret (.int 6)) (consM (ret (.int 4)) (consM (ret (.int 3)) (consM (ret (.int 2)) (nilM))))))))) (ifS (andT (tst (bin eqD (bin modI (varM 0) (varM 2)) (ret (.int 0)))) (tst (bin eqD (bin modI (varM 1) (varM 2)) (ret (.int 0))))) (retS (tupM (consM (bin divI (varM 0) (varM 2)) (consM (bin divI (varM 1) (varM 2)) (nilM))))) (nxS))) (retS (tupM (consM (varM 0) (consM (varM 1) (nilM)))))
def m_law_plain : DF := defF N_law_plain.length b_law_plain
def N_law_room : List Str := ["_law_bottom", "_law_last", "_law_far", "_law_half_here", "_law_steps_here", "_law_even", "_law_whole", "_law_alone", "_law_case"]
def b_law_room : DS := seqS (parS 2 3 (consM (tupM (consM (tupM (consM (ret (.int 1)) (consM (varM 0) (nilM)))) (consM (tupM (consM (bin subI (varM 0) (ret (.int 1))) (consM (varM 0) (nilM)))) (nilM)))) (consM (tupM (consM (tupM (consM (ret (.int 1)) (consM (ret (.int 2)) (nilM)))) (consM (tupM (consM (ret (.int 1)) (consM (ret (.int 2)) (nilM)))) (nilM)))) (nilM)))) (seqS (setS 4 (tupM (consM (tupM (consM (ret (.str "ab")) (consM (varM 2) (nilM)))) (consM (tupM (consM (ret (.str "cd")) (consM (varM 2) (nilM)))) (consM (tupM (consM (ret (.str "ef")) (consM (varM 2) (nilM)))) (consM (tupM (consM (ret (.str "gh")) (consM (varM 2) (nilM)))) (nilM))))))) (seqS (setS 5 (tupM (consM (tupM (consM (ret (.str "ah")) (consM (varM 1) (nilM)))) (consM (tupM (consM (ret (.str "bc")) (consM (varM 3) (nilM)))) (consM (tupM (consM (ret (.str "de")) (consM (varM 3) (nilM)))) (consM (tupM (consM (ret (.str "fg")) (consM (varM 3) (nilM)))) (nilM))))))) (seqS (parS 6 7 (consM (tupM (consM (tupM (consM (ret (.str "abcdefgh")) (consM (ret .non) (nilM)))) (nilM))) (consM (appM tupleN (consM (frzM (lcC [8] (iterM (ret (.str "abcdefgh"))) (nameG 8) (ret true) (tupM (consM (varM 8) (consM (tupM (consM (tupM (consM (ret (.int 1)) (consM (ret (.int 1)) (nilM)))) (nilM))) (nilM)))))) (nilM))) (nilM)))) (retS (callM (makeZ 0 m_Room_init) (consM (ret (.str "abcdefgh")) (consM (tupM (consM (tupM (consM (ret (.str "aaaaaaaa")) (consM (varM 4) (nilM)))) (consM (tupM (consM (ret (.str "b")) (consM (varM 5) (nilM)))) (consM (tupM (consM (ret (.str "c")) (consM (varM 6) (nilM)))) (consM (tupM (consM (ret (.str "zzzzzzzz")) (consM (varM 7) (nilM)))) (nilM)))))) (nilM))))))))
def m_law_room : DF := defF N_law_room.length b_law_room
def N_law_half : List Str := ["_law_top", "_law_bottom", "_law_first", "_law_last", "_law_turn"]
def b_law_half : DS := seqS (parS 2 3 (consM (varM 0) (consM (varM 1) (nilM)))) (seqS (forS (nameG 4) (rangeM (consM (ret (.int 900)) (nilM))) (seqS (ifS (tst (bin eqD (varM 3) (ret (.int 0)))) (retS (tupM (consM (bin divI (varM 0) (varM 2)) (consM (bin divI (varM 1) (varM 2)) (nilM))))) (nxS)) (parS 2 3 (consM (varM 3) (consM (bin modI (varM 2) (varM 3)) (nilM)))))) (retS (tupM (consM (varM 0) (consM (varM 1) (nilM))))))
def m_law_half : DF := defF N_law_half.length b_law_half
def N_law_even : List Str := ["_law_lot"]
def b_law_even : DS := retS (bin mulD (tupM (consM (tupM (consM (ret (.int 1)) (consM (look1M lenD (slM 0)) (nilM)))) (nilM))) (look1M lenD (slM 0)))
def m_law_even : DF := defF N_law_even.length b_law_even
def N_check_order : List Str := ["room", "value", "name"]
def b_check_order : DS := seqS (ifS (orT (notT (tst (isM (isB "tuple" (fun _ => none)) (varM 1)))) (tst (bin neD (look1M lenD (slM 1)) (look1M lenD (datM (getA (acc1 0 (.prop m_Room_names)) (varM 0))))))) (fun _ => .stuck) (nxS)) (ifS (orT (notT (tst (appM allN (consM (frzM (lcC [2] (iterM (varM 1)) (nameG 2) (ret true) (isM (isB "str" (fun _ => none)) (varM 2)))) (nilM))))) (tst (bin neD (appM sortedN (consM (frzM (appC listD (consM (varM 1) (nilM)))) (nilM))) (frzM (appC listD (consM (getA (acc1 0 (.prop m_Room_names)) (varM 0)) (nilM))))))) (fun _ => .stuck) (nxS))
def m_check_order : DF := defF N_check_order.length b_check_order
def N_drawn : List Str := ["room", "name", "numbers", "found", "case", "lot", "told", "place", "other"]
def b_drawn : DS := seqS (ownS 3 (appC dictN (consM (frzM (lcC [4] (iterM (getA (acc1 0 (.prop m_Room_cases)) (varM 0))) (nameG 4) (ret true) (tupM (consM (varM 4) (consM (ret (.tup (([0, 1] : List Int).map .int))) (nilM)))))) (nilM)))) (seqS (forS (nameG 4) (iterM (getA (acc1 0 (.prop m_Room_cases)) (varM 0))) (seqS (asgS (tupleG [nameG 5, nameG 6]) (objM 0 m_Room_part_of (varM 0) (consM (varM 1) (consM (varM 4) (nilM))))) (forS (tupleG [nameG 7, nameG 8]) (enumM (consM (varM 5) (nilM))) (asgS (ixG (slM 3) (varM 8)) (callM m_add (consM (lookM ixD (slM 3) (varM 8)) (consM (callM m_times (consM (lookM ixD (slM 2) (varM 4)) (consM (lookM ixD (slM 6) (varM 7)) (nilM)))) (nilM)))))))) (retS (varM 3)))
def m_drawn : DF := defF N_drawn.length b_drawn
def N_at_case : List Str := ["room", "case", "other"]
def b_at_case : DS := retS (frzM (appC dictN (consM (frzM (lcC [2] (iterM (getA (acc1 0 (.prop m_Room_cases)) (varM 0))) (nameG 2) (ret true) (tupM (consM (varM 2) (consM (ifM (tst (bin eqD (varM 2) (varM 1))) (ret (.tup (([1, 1] : List Int).map .int))) (ret (.tup (([0, 1] : List Int).map .int)))) (nilM)))))) (nilM))))
def m_at_case : DF := defF N_at_case.length b_at_case
def N_behind : List Str := ["room", "order", "case", "numbers", "name"]
def b_behind : DS := seqS (setS 3 (callM m_at_case (consM (varM 0) (consM (varM 2) (nilM))))) (seqS (forS (nameG 4) (iterM (varM 1)) (setS 3 (callM m_drawn (consM (varM 0) (consM (varM 4) (consM (varM 3) (nilM))))))) (retS (varM 3)))
def m_behind : DF := defF N_behind.length b_behind
def N_in_order : List Str := ["room", "numbers", "case"]
def b_in_order : DS := retS (appM tupleN (consM (frzM (lcC [2] (iterM (getA (acc1 0 (.prop m_Room_cases)) (varM 0))) (nameG 2) (ret true) (lookM ixD (slM 1) (varM 2)))) (nilM)))
def m_in_order : DF := defF N_in_order.length b_in_order
def N_law_urn : List Str := ["_law_cells", "_law_at", "_law_own", "_law_stirred", "_law_each", "_law_great"]
def b_law_urn : DS := seqS (setS 2 (ifM (tst (bin ltD (varM 1) (look1M lenD (slM 0)))) (appM intN (consM (lookM ixD (slM 0) (varM 1)) (nilM))) (bin addD (bin mulD (ret (.int 37)) (varM 1)) (ret (.int 11))))) (seqS (setS 3 (bin addD (ret (.int 130363)) (bin mulD (ret (.int 6007)) (varM 1)))) (seqS (forS (nameG 4) (iterM (sliceM (varM 0) (noPart) (partM (ret (.int 7))))) (setS 3 (bin modI (appM intN (consM (bin addD (bin addD (bin mulD (varM 3) (ret (.int 25013))) (bin mulD (appM intN (consM (varM 4) (nilM))) (ret (.int 17)))) (ret (.int 3))) (nilM))) (ret (.int 2147483563))))) (seqS (setS 5 (ifM (orT (tst (bin ltD (varM 2) (ret (.int 0)))) (tst (bin geD (varM 2) (bin powI (ret (.int 10)) (ret (.int 16)))))) (appM absN (consM (varM 2) (nilM))) (ret (.int 0)))) (retS (newM (lstC (consM (varM 5) (consM (bin modI (appM intN (consM (bin addD (varM 3) (bin mulD (varM 2) (ret (.int 5003)))) (nilM))) (ret (.int 2147483563))) (consM (ret (.int 4)) (nilM))))))))))
def m_law_urn : DF := defF N_law_urn.length b_law_urn
def N_law_dip : List Str := ["_law_urn_here", "_law_top", "_law_figure", "_law_held"]
def b_law_dip : DS := seqS (ifS (tst (bin gtD (lookM ixD (slM 0) (ret (.int 0))) (ret (.int 0)))) (seqS (asgS (tupleG [ixG (slM 0) (ret (.int 0)), nameG 2]) (appM divmodN (consM (lookM ixD (slM 0) (ret (.int 0))) (consM (varM 1) (nilM))))) (retS (varM 2))) (nxS)) (seqS (asgS (ixG (slM 0) (ret (.int 2))) (bin addD (lookM ixD (slM 0) (ret (.int 2))) (ret (.int 1)))) (seqS (setS 3 (appM intN (consM (bin mulD (lookM ixD (slM 0) (ret (.int 1))) (bin addD (ret (.int 39373)) (bin modI (appM intN (consM (lookM ixD (slM 0) (ret (.int 1))) (nilM))) (ret (.int 5003))))) (nilM)))) (seqS (asgS (ixG (slM 0) (ret (.int 1))) (bin modI (appM intN (consM (bin addD (bin addD (varM 3) (bin mulD (ret (.int 17011)) (lookM ixD (slM 0) (ret (.int 2))))) (ret (.int 13))) (nilM))) (ret (.int 2147483563)))) (retS (bin modI (appM intN (consM (bin divI (lookM ixD (slM 0) (ret (.int 1))) (ret (.int 512))) (nilM))) (varM 1))))))
def m_law_dip : DF := defF N_law_dip.length b_law_dip
def N_law_from : List Str := ["_law_urn_here", "_law_some"]
def b_law_from : DS := retS (lookM ixD (slM 1) (callM m_law_dip (consM (varM 0) (consM (look1M lenD (slM 1)) (nilM)))))
def m_law_from : DF := defF N_law_from.length b_law_from
def N_law_shared : List Str := ["_law_some", "_law_found", "_law_each", "_law_first", "_law_second"]
def b_law_shared : DS := seqS (setS 1 (ret (.int 0))) (seqS (forS (nameG 2) (iterM (varM 0)) (seqS (parS 3 4 (consM (appM absN (consM (varM 2) (nilM))) (consM (varM 1) (nilM)))) (seqS (whileL (tst (bin gtD (varM 4) (ret (.int 0)))) (parS 3 4 (consM (varM 4) (consM (bin modI (appM intN (consM (varM 3) (nilM))) (varM 4)) (nilM)))) 1000000000) (setS 1 (varM 3))))) (retS (varM 1)))
def m_law_shared : DF := defF N_law_shared.length b_law_shared
def N_law_low_v3 : List Str := ["_law_top", "_law_bottom", "_law_by_here"]
def b_law_low_v3 : DS := seqS (setS 2 (bin mulD (callM m_law_shared (consM (lstM (consM (varM 0) (consM (varM 1) (nilM)))) (nilM))) (ifM (tst (bin gtD (varM 1) (ret (.int 0)))) (ret (.int 1)) (unM negD (ret (.int 1)))))) (retS (tupM (consM (bin divI (varM 0) (varM 2)) (consM (bin divI (varM 1) (varM 2)) (nilM)))))
def m_law_low_v3 : DF := defF N_law_low_v3.length b_law_low_v3
def N_law_drawn_cases : List Str := ["_law_urn_here", "_law_most", "_law_left", "_law_found", "_law_k"]
def b_law_drawn_cases : DS := seqS (parS 2 3 (consM (frzM (appC listD (consM (ret (.str "abdegkmpqxyz")) (nilM)))) (consM (lstM (nilM)) (nilM)))) (seqS (forS (nameG 4) (rangeM (consM (bin addD (ret (.int 1)) (callM m_law_dip (consM (varM 0) (consM (varM 1) (nilM))))) (nilM))) (exprS (methM "list" (actW appendN) (slM 3) (consM (methM "list" (actW popN) (slM 2) (consM (callM m_law_dip (consM (varM 0) (consM (look1M lenD (slM 2)) (nilM)))) (nilM))) (nilM))))) (retS (methM "str" (actR joinN) (datM (ret (.str ""))) (consM (appM sortedN (consM (varM 3) (nilM))) (nilM)))))
def m_law_drawn_cases : DF := defF N_law_drawn_cases.length b_law_drawn_cases
def N_law_drawn_names : List Str := ["_law_urn_here", "_law_many", "_law_left", "_law_found", "_law_k"]
def b_law_drawn_names : DS := seqS (parS 2 3 (consM (lstM (consM (ret (.str "al")) (consM (ret (.str "bob")) (consM (ret (.str "cy")) (consM (ret (.str "dee")) (consM (ret (.str "sound")) (consM (ret (.str "undo")) (consM (ret (.str "zz")) (consM (ret (.str "eightish")) (nilM)))))))))) (consM (lstM (nilM)) (nilM)))) (seqS (forS (nameG 4) (rangeM (consM (varM 1) (nilM))) (exprS (methM "list" (actW appendN) (slM 3) (consM (methM "list" (actW popN) (slM 2) (consM (callM m_law_dip (consM (varM 0) (consM (look1M lenD (slM 2)) (nilM)))) (nilM))) (nilM))))) (retS (appM sortedN (consM (varM 3) (nilM)))))
def m_law_drawn_names : DF := defF N_law_drawn_names.length b_law_drawn_names
def N_law_weighed : List Str := ["_law_urn_here", "_law_signs", "_law_sign"]
def b_law_weighed : DS := retS (frzM (appC dictN (consM (frzM (lcC [2] (iterM (varM 1)) (nameG 2) (ret true) (tupM (consM (varM 2) (consM (bin addD (ret (.int 1)) (callM m_law_dip (consM (varM 0) (consM (callM m_law_from (consM (varM 0) (consM (lstM (consM (ret (.int 1)) (consM (ret (.int 2)) (consM (ret (.int 4)) (consM (ret (.int 9)) (nilM)))))) (nilM)))) (nilM))))) (nilM)))))) (nilM))))
def m_law_weighed : DF := defF N_law_weighed.length b_law_weighed
def N_law_numbers_told : List Str := ["_law_heft", "_law_some", "_law_whole_here", "_law_sign"]
def b_law_numbers_told : DS := seqS (setS 2 (appM sumN (consM (frzM (lcC [3] (iterM (varM 1)) (nameG 3) (ret true) (lookM ixD (slM 0) (varM 3)))) (nilM)))) (retS (appM tupleN (consM (frzM (lcC [3] (iterM (varM 1)) (nameG 3) (ret true) (callM m_law_low_v3 (consM (lookM ixD (slM 0) (varM 3)) (consM (varM 2) (nilM)))))) (nilM))))
def m_law_numbers_told : DF := defF N_law_numbers_told.length b_law_numbers_told
def N_law_times : List Str := ["_law_first", "_law_second"]
def b_law_times : DS := retS (callM m_law_low_v3 (consM (bin mulD (lookM ixD (slM 0) (ret (.int 0))) (lookM ixD (slM 1) (ret (.int 0)))) (consM (bin mulD (lookM ixD (slM 0) (ret (.int 1))) (lookM ixD (slM 1) (ret (.int 1)))) (nilM))))
def m_law_times : DF := defF N_law_times.length b_law_times
def N_law_plus_v3 : List Str := ["_law_first", "_law_second"]
def b_law_plus_v3 : DS := retS (callM m_law_low_v3 (consM (bin addD (bin mulD (lookM ixD (slM 0) (ret (.int 0))) (lookM ixD (slM 1) (ret (.int 1)))) (bin mulD (lookM ixD (slM 1) (ret (.int 0))) (lookM ixD (slM 0) (ret (.int 1))))) (consM (bin mulD (lookM ixD (slM 0) (ret (.int 1))) (lookM ixD (slM 1) (ret (.int 1)))) (nilM))))
def m_law_plus_v3 : DF := defF N_law_plus_v3.length b_law_plus_v3
def N_law_whole : List Str := ["_law_some", "_law_found", "_law_each"]
def b_law_whole : DS := seqS (setS 1 (tupM (consM (ret (.int 0)) (consM (ret (.int 1)) (nilM))))) (seqS (forS (nameG 2) (iterM (varM 0)) (setS 1 (callM m_law_plus_v3 (consM (varM 1) (consM (varM 2) (nilM)))))) (retS (varM 1)))
def m_law_whole : DF := defF N_law_whole.length b_law_whole
def N_law_bent_form : List Str := ["_law_urn_here", "_law_form_here", "_law_times_here", "_law_signs", "_law_folk", "_law_turn", "_law_who", "_law_view", "_law_spot", "_law_heft", "_law_bent_part", "_law_fresh", "_law_each", "_law_seen"]
def b_law_bent_form : DS := seqS (asgS (tupleG [nameG 3, nameG 4]) (varM 1)) (seqS (forS (nameG 5) (rangeM (consM (varM 2) (nilM))) (seqS (asgS (tupleG [nameG 6, nameG 7]) (callM m_law_from (consM (varM 0) (consM (varM 4) (nilM))))) (seqS (parS 8 9 (consM (callM m_law_dip (consM (varM 0) (consM (look1M lenD (slM 7)) (nilM)))) (consM (callM m_law_weighed (consM (varM 0) (consM (varM 3) (nilM)))) (nilM)))) (seqS (setS 10 (tupM (consM (lookM ixD (datM (lookM ixD (slM 7) (varM 8))) (ret (.int 0))) (consM (callM m_law_numbers_told (consM (varM 9) (consM (lookM ixD (datM (lookM ixD (slM 7) (varM 8))) (ret (.int 0))) (nilM)))) (nilM))))) (seqS (setS 11 (bin addD (bin addD (sliceM (varM 7) (noPart) (partM (varM 8))) (tupM (consM (varM 10) (nilM)))) (sliceM (varM 7) (partM (bin addD (varM 8) (ret (.int 1)))) (noPart)))) (setS 4 (appM tupleN (consM (frzM (lcC [12, 13] (iterM (varM 4)) (tupleG [nameG 12, nameG 13]) (ret true) (tupM (consM (varM 12) (consM (ifM (tst (bin eqD (varM 12) (varM 6))) (varM 11) (varM 13)) (nilM)))))) (nilM))))))))) (retS (tupM (consM (varM 3) (consM (varM 4) (nilM))))))
def m_law_bent_form : DF := defF N_law_bent_form.length b_law_bent_form
def N_law_part_of : List Str := ["_law_form_here", "_law_who", "_law_sign", "_law_part"]
def b_law_part_of : DS := retS (lookM ixD (datM (frzM (lcC [3] (iterM (lookM ixD (datM (frzM (appC dictN (consM (lookM ixD (slM 0) (ret (.int 1))) (nilM))))) (varM 1))) (nameG 3) (tst (lookM2 inD (varM 2) (datM (lookM ixD (slM 3) (ret (.int 0)))))) (varM 3)))) (ret (.int 0)))
def m_law_part_of : DF := defF N_law_part_of.length b_law_part_of
def N_law_turned_v2 : List Str := ["_law_urn_here", "_law_things", "_law_left", "_law_found", "_law_k"]
def b_law_turned_v2 : DS := seqS (parS 2 3 (consM (frzM (appC listD (consM (varM 1) (nilM)))) (consM (lstM (nilM)) (nilM)))) (seqS (forS (nameG 4) (rangeM (consM (look1M lenD (slM 2)) (nilM))) (exprS (methM "list" (actW appendN) (slM 3) (consM (methM "list" (actW popN) (slM 2) (consM (callM m_law_dip (consM (varM 0) (consM (look1M lenD (slM 2)) (nilM)))) (nilM))) (nilM))))) (retS (varM 3)))
def m_law_turned_v2 : DF := defF N_law_turned_v2.length b_law_turned_v2
def N_law_by_hand : List Str := []
def b_law_by_hand : DS := retS (lstM (consM (tupM (consM (tupM (consM (ret (.int 1)) (consM (ret (.int 3)) (nilM)))) (consM (tupM (consM (ret (.int 2)) (consM (ret (.int 3)) (nilM)))) (consM (tupM (consM (ret (.int 0)) (consM (ret (.int 1)) (nilM)))) (nilM))))) (consM (tupM (consM (tupM (consM (ret (.int 1)) (consM (ret (.int 6)) (nilM)))) (consM (tupM (consM (ret (.int 1)) (consM (ret (.int 3)) (nilM)))) (consM (tupM (consM (ret (.int 1)) (consM (ret (.int 2)) (nilM)))) (nilM))))) (nilM))))
def m_law_by_hand : DF := defF N_law_by_hand.length b_law_by_hand
def N_less : List Str := ["one", "other"]
def b_less : DS := retS (callM m_lowest (consM (bin subI (bin mulD (lookM ixD (slM 0) (ret (.int 0))) (lookM ixD (slM 1) (ret (.int 1)))) (bin mulD (lookM ixD (slM 1) (ret (.int 0))) (lookM ixD (slM 0) (ret (.int 1))))) (consM (bin mulD (lookM ixD (slM 0) (ret (.int 1))) (lookM ixD (slM 1) (ret (.int 1)))) (nilM))))
def m_less : DF := defF N_less.length b_less
def N_reduced : List Str := ["row", "pivot", "place", "factor", "spot", "number"]
def b_reduced : DS := seqS (setS 3 (lookM ixD (slM 0) (varM 2))) (retS (frzM (lcC [4, 5] (enumM (consM (varM 0) (nilM))) (tupleG [nameG 4, nameG 5]) (ret true) (callM m_less (consM (varM 5) (consM (callM m_times (consM (varM 3) (consM (lookM ixD (slM 1) (varM 4)) (nilM)))) (nilM)))))))
def m_reduced : DF := defF N_reduced.length b_reduced
def N_pivot_at : List Str := ["rows", "place", "index"]
def b_pivot_at : DS := seqS (forS (nameG 2) (rangeM (consM (varM 1) (consM (look1M lenD (slM 0)) (nilM)))) (ifS (tst (bin neD (lookM ixD (datM (lookM ixD (slM 0) (varM 2))) (varM 1)) (ret (.tup (([0, 1] : List Int).map .int))))) (retS (varM 2)) (nxS))) (retS (varM 1))
def m_pivot_at : DF := defF N_pivot_at.length b_pivot_at
def N_over_row : List Str := ["row", "number", "part", "turned"]
def b_over_row : DS := seqS (ifS (tst (bin gtD (lookM ixD (slM 1) (ret (.int 0))) (ret (.int 0)))) (retS (frzM (lcC [2] (iterM (varM 0)) (nameG 2) (ret true) (callM m_over (consM (varM 2) (consM (varM 1) (nilM))))))) (nxS)) (seqS (setS 3 (tupM (consM (unM negD (lookM ixD (slM 1) (ret (.int 0)))) (consM (lookM ixD (slM 1) (ret (.int 1))) (nilM))))) (retS (frzM (lcC [2] (iterM (varM 0)) (nameG 2) (ret true) (callM m_less (consM (ret (.tup (([0, 1] : List Int).map .int))) (consM (callM m_over (consM (varM 2) (consM (varM 3) (nilM)))) (nilM))))))))
def m_over_row : DF := defF N_over_row.length b_over_row
def N_solved : List Str := ["rows", "place", "index", "row", "rest", "top", "spot", "other"]
def b_solved : DS := seqS (setS 0 (frzM (appC listD (consM (varM 0) (nilM))))) (seqS (forS (nameG 1) (rangeM (consM (look1M lenD (slM 0)) (nilM))) (seqS (setS 2 (callM m_pivot_at (consM (varM 0) (consM (varM 1) (nilM))))) (seqS (setS 3 (lookM ixD (slM 0) (varM 2))) (seqS (setS 4 (bin addD (sliceM (varM 0) (noPart) (partM (varM 2))) (sliceM (varM 0) (partM (bin addD (varM 2) (ret (.int 1)))) (noPart)))) (seqS (setS 5 (callM m_over_row (consM (varM 3) (consM (lookM ixD (slM 3) (varM 1)) (nilM))))) (seqS (setS 0 (bin addD (bin addD (sliceM (varM 4) (noPart) (partM (varM 1))) (lstM (consM (varM 5) (nilM)))) (sliceM (varM 4) (partM (varM 1)) (noPart)))) (setS 0 (frzM (lcC [6, 7] (enumM (consM (varM 0) (nilM))) (tupleG [nameG 6, nameG 7]) (ret true) (ifM (tst (bin neD (varM 6) (varM 1))) (callM m_reduced (consM (varM 7) (consM (varM 5) (consM (varM 1) (nilM))))) (varM 5))))))))))) (retS (frzM (lcC [3] (iterM (varM 0)) (nameG 3) (ret true) (lookM ixD (slM 3) (unM negD (ret (.int 1))))))))
def m_solved : DF := defF N_solved.length b_solved
def N_law_by_v3 : List Str := ["_law_first", "_law_second"]
def b_law_by_v3 : DS := retS (callM m_law_low_v3 (consM (bin mulD (lookM ixD (slM 0) (ret (.int 0))) (lookM ixD (slM 1) (ret (.int 1)))) (consM (bin mulD (lookM ixD (slM 0) (ret (.int 1))) (lookM ixD (slM 1) (ret (.int 0)))) (nilM))))
def m_law_by_v3 : DF := defF N_law_by_v3.length b_law_by_v3
def N_law_links_v2 : List Str := ["_law_form_here", "_law_found", "_law_who", "_law_view", "_law_some", "_law_numbers_here", "_law_k"]
def b_law_links_v2 : DS := seqS (ownS 1 (lstC (nilM))) (seqS (forS (tupleG [nameG 2, nameG 3]) (iterM (lookM ixD (slM 0) (ret (.int 1)))) (forS (tupleG [nameG 4, nameG 5]) (iterM (varM 3)) (ifS (tst (bin notNoneD (varM 5) (ret .non))) (forS (nameG 6) (rangeM (consM (ret (.int 1)) (consM (look1M lenD (slM 4)) (nilM)))) (exprS (methM "list" (actW appendN) (slM 1) (consM (tupM (consM (lookM ixD (slM 4) (ret (.int 0))) (consM (lookM ixD (slM 4) (varM 6)) (consM (callM m_law_by_v3 (consM (lookM ixD (slM 5) (varM 6)) (consM (lookM ixD (slM 5) (ret (.int 0))) (nilM)))) (nilM))))) (nilM))))) (nxS)))) (retS (varM 1)))
def m_law_links_v2 : DF := defF N_law_links_v2.length b_law_links_v2
def N_law_shared_v2 : List Str := ["_law_some", "_law_found", "_law_each", "_law_first_here", "_law_second"]
def b_law_shared_v2 : DS := seqS (setS 1 (ret (.int 0))) (seqS (forS (nameG 2) (iterM (varM 0)) (seqS (parS 3 4 (consM (appM absN (consM (varM 2) (nilM))) (consM (varM 1) (nilM)))) (seqS (whileL (tst (bin gtD (varM 4) (ret (.int 0)))) (parS 3 4 (consM (varM 4) (consM (bin modI (appM intN (consM (varM 3) (nilM))) (varM 4)) (nilM)))) 1000000000) (setS 1 (varM 3))))) (retS (varM 1)))
def m_law_shared_v2 : DF := defF N_law_shared_v2.length b_law_shared_v2
def N_law_low_v4 : List Str := ["_law_top", "_law_bottom", "_law_by_here"]
def b_law_low_v4 : DS := seqS (setS 2 (bin mulD (callM m_law_shared_v2 (consM (lstM (consM (varM 0) (consM (varM 1) (nilM)))) (nilM))) (ifM (tst (bin gtD (varM 1) (ret (.int 0)))) (ret (.int 1)) (unM negD (ret (.int 1)))))) (retS (tupM (consM (bin divI (varM 0) (varM 2)) (consM (bin divI (varM 1) (varM 2)) (nilM)))))
def m_law_low_v4 : DF := defF N_law_low_v4.length b_law_low_v4
def N_law_numbers_told_v2 : List Str := ["_law_heft", "_law_some", "_law_whole", "_law_sign"]
def b_law_numbers_told_v2 : DS := seqS (setS 2 (appM sumN (consM (frzM (lcC [3] (iterM (varM 1)) (nameG 3) (ret true) (lookM ixD (slM 0) (varM 3)))) (nilM)))) (retS (appM tupleN (consM (frzM (lcC [3] (iterM (varM 1)) (nameG 3) (ret true) (callM m_law_low_v4 (consM (lookM ixD (slM 0) (varM 3)) (consM (varM 2) (nilM)))))) (nilM))))
def m_law_numbers_told_v2 : DF := defF N_law_numbers_told_v2.length b_law_numbers_told_v2
def N_law_first : List Str := ["_law_some", "_law_found", "_law_each"]
def b_law_first : DS := seqS (setS 1 (frzM (lcC [2] (iterM (varM 0)) (nameG 2) (tst (bin neD (varM 2) (lstM (nilM)))) (varM 2)))) (retS (ifM (tst (bin neD (varM 1) (lstM (nilM)))) (lookM ixD (slM 1) (ret (.int 0))) (lstM (nilM))))
def m_law_first : DF := defF N_law_first.length b_law_first
def N_knows_in : List Str := ["room", "name", "case", "event", "other"]
def b_knows_in : DS := retS (appM allN (consM (frzM (lcC [4] (iterM (lookM ixD (datM (objM 0 m_Room_part_of (varM 0) (consM (varM 1) (consM (varM 2) (nilM))))) (ret (.int 0)))) (nameG 4) (ret true) (lookM2 inD (varM 4) (slM 3)))) (nilM)))
def m_knows_in : DF := defF N_knows_in.length b_knows_in
def N_knows : List Str := ["room", "name", "case", "event"]
def b_knows : DS := seqS (exprS (callM m_check_room (consM (varM 0) (nilM)))) (seqS (exprS (objM 0 m_Room_check_name (varM 0) (consM (varM 1) (nilM)))) (seqS (exprS (objM 0 m_Room_check_case (varM 0) (consM (varM 2) (nilM)))) (seqS (exprS (objM 0 m_Room_check_lot (varM 0) (consM (varM 3) (nilM)))) (retS (callM m_knows_in (consM (varM 0) (consM (varM 1) (consM (varM 2) (consM (varM 3) (nilM))))))))))
def m_knows : DF := defF N_knows.length b_knows
def N_known_to : List Str := ["room", "name", "event", "case"]
def b_known_to : DS := seqS (exprS (callM m_check_room (consM (varM 0) (nilM)))) (seqS (exprS (objM 0 m_Room_check_name (varM 0) (consM (varM 1) (nilM)))) (seqS (exprS (objM 0 m_Room_check_lot (varM 0) (consM (varM 2) (nilM)))) (retS (methM "str" (actR joinN) (datM (ret (.str ""))) (consM (frzM (lcC [3] (iterM (getA (acc1 0 (.prop m_Room_cases)) (varM 0))) (nameG 3) (tst (callM m_knows_in (consM (varM 0) (consM (varM 1) (consM (varM 3) (consM (varM 2) (nilM))))))) (varM 3))) (nilM))))))
def m_known_to : DF := defF N_known_to.length b_known_to
def N_law_numbers_told_v3 : List Str := ["_law_heft", "_law_some", "_law_whole", "_law_sign"]
def b_law_numbers_told_v3 : DS := seqS (setS 2 (appM sumN (consM (frzM (lcC [3] (iterM (varM 1)) (nameG 3) (ret true) (lookM ixD (slM 0) (varM 3)))) (nilM)))) (retS (appM tupleN (consM (frzM (lcC [3] (iterM (varM 1)) (nameG 3) (ret true) (callM m_law_low_v3 (consM (lookM ixD (slM 0) (varM 3)) (consM (varM 2) (nilM)))))) (nilM))))
def m_law_numbers_told_v3 : DF := defF N_law_numbers_told_v3.length b_law_numbers_told_v3
def N_all_in : List Str := ["room", "event", "case", "name"]
def b_all_in : DS := retS (methM "str" (actR joinN) (datM (ret (.str ""))) (consM (frzM (lcC [2] (iterM (getA (acc1 0 (.prop m_Room_cases)) (varM 0))) (nameG 2) (tst (appM allN (consM (frzM (lcC [3] (iterM (getA (acc1 0 (.prop m_Room_names)) (varM 0))) (nameG 3) (ret true) (callM m_knows_in (consM (varM 0) (consM (varM 3) (consM (varM 2) (consM (varM 1) (nilM)))))))) (nilM)))) (varM 2))) (nilM)))
def m_all_in : DF := defF N_all_in.length b_all_in
def N_shared_in : List Str := ["room", "event", "later"]
def b_shared_in : DS := seqS (setS 2 (callM m_all_in (consM (varM 0) (consM (varM 1) (nilM))))) (seqS (whileL (tst (bin neD (varM 2) (varM 1))) (seqS (setS 1 (varM 2)) (setS 2 (callM m_all_in (consM (varM 0) (consM (varM 1) (nilM)))))) 1000000000) (retS (varM 1)))
def m_shared_in : DF := defF N_shared_in.length b_shared_in
def N_all_know : List Str := ["room", "event", "depth", "step"]
def b_all_know : DS := seqS (exprS (callM m_check_room (consM (varM 0) (nilM)))) (seqS (exprS (objM 0 m_Room_check_lot (varM 0) (consM (varM 1) (nilM)))) (seqS (ifS (notT (tst (callM m_is_between (consM (varM 2) (consM (ret (.int 1)) (consM (ret (.int 8)) (nilM))))))) (fun _ => .stuck) (nxS)) (seqS (forS (nameG 3) (rangeM (consM (varM 2) (nilM))) (setS 1 (callM m_all_in (consM (varM 0) (consM (varM 1) (nilM)))))) (retS (varM 1)))))
def m_all_know : DF := defF N_all_know.length b_all_know
def N_shared : List Str := ["room", "event"]
def b_shared : DS := seqS (exprS (callM m_check_room (consM (varM 0) (nilM)))) (seqS (exprS (objM 0 m_Room_check_lot (varM 0) (consM (varM 1) (nilM)))) (retS (callM m_shared_in (consM (varM 0) (consM (varM 1) (nilM))))))
def m_shared : DF := defF N_shared.length b_shared
def N_law_all_in : List Str := ["_law_form_here", "_law_inner", "_law_found", "_law_sign", "_law_parts_here", "_law_who", "_law_view", "_law_some", "_law_each"]
def b_law_all_in : DS := seqS (setS 2 (ret (.str ""))) (seqS (forS (nameG 3) (iterM (lookM ixD (slM 0) (ret (.int 0)))) (seqS (setS 4 (frzM (lcC [5, 6] (iterM (lookM ixD (slM 0) (ret (.int 1)))) (tupleG [nameG 5, nameG 6]) (ret true) (lookM ixD (datM (callM m_law_part_of (consM (varM 0) (consM (varM 5) (consM (varM 3) (nilM)))))) (ret (.int 0)))))) (ifS (tst (bin eqD (frzM (lcC [7] (iterM (varM 4)) (nameG 7) (tst (bin neD (frzM (lcC [8] (iterM (varM 7)) (nameG 8) (tst (lookM2 ninD (varM 8) (slM 1))) (varM 8))) (lstM (nilM)))) (varM 7))) (lstM (nilM)))) (setS 2 (bin addD (varM 2) (varM 3))) (nxS)))) (retS (varM 2)))
def m_law_all_in : DF := defF N_law_all_in.length b_law_all_in
def N_law_reach : List Str := ["_law_form_here", "_law_sign", "_law_found", "_law_turn", "_law_later", "_law_each", "_law_lots_here", "_law_who", "_law_view", "_law_sign_here"]
def b_law_reach : DS := seqS (setS 2 (varM 1)) (seqS (forS (nameG 3) (rangeM (consM (look1M lenD (datM (lookM ixD (slM 0) (ret (.int 0))))) (nilM))) (seqS (setS 4 (ret (.str ""))) (seqS (forS (nameG 5) (iterM (lookM ixD (slM 0) (ret (.int 0)))) (seqS (setS 6 (frzM (lcC [7, 8] (iterM (lookM ixD (slM 0) (ret (.int 1)))) (tupleG [nameG 7, nameG 8]) (ret true) (lookM ixD (datM (callM m_law_part_of (consM (varM 0) (consM (varM 7) (consM (varM 5) (nilM)))))) (ret (.int 0)))))) (ifS (tst (bin neD (frzM (lcC [9] (iterM (methM "str" (actR joinN) (datM (ret (.str ""))) (consM (varM 6) (nilM)))) (nameG 9) (tst (lookM2 inD (varM 9) (slM 2))) (varM 9))) (lstM (nilM)))) (setS 4 (bin addD (varM 4) (varM 5))) (nxS)))) (setS 2 (varM 4))))) (retS (varM 2)))
def m_law_reach : DF := defF N_law_reach.length b_law_reach
def N_struck : List Str := ["room", "some", "name", "lot"]
def b_struck : DS := seqS (forS (tupleG [nameG 2, nameG 3]) (iterM (varM 1)) (setS 0 (objM 0 m_Room_changed (varM 0) (consM (varM 2) (consM (varM 3) (consM (ret .non) (nilM))))))) (retS (varM 0))
def m_struck : DF := defF N_struck.length b_struck
def N_lots_of : List Str := ["things", "many", "found", "step", "later", "lot", "place", "spot"]
def b_lots_of : DS := seqS (setS 2 (lstM (consM (tupM (consM (tupM (nilM)) (consM (ret (.int 0)) (nilM)))) (nilM)))) (seqS (forS (nameG 3) (rangeM (consM (varM 1) (nilM))) (seqS (setS 4 (lstM (nilM))) (seqS (forS (tupleG [nameG 5, nameG 6]) (iterM (varM 2)) (setS 4 (bin addD (varM 4) (frzM (lcC [7] (rangeM (consM (varM 6) (consM (look1M lenD (slM 0)) (nilM)))) (nameG 7) (ret true) (tupM (consM (bin addD (varM 5) (tupM (consM (lookM ixD (slM 0) (varM 7)) (nilM)))) (consM (bin addD (varM 7) (ret (.int 1))) (nilM))))))))) (setS 2 (varM 4))))) (retS (frzM (lcC [5, 6] (iterM (varM 2)) (tupleG [nameG 5, nameG 6]) (ret true) (varM 5)))))
def m_lots_of : DF := defF N_lots_of.length b_lots_of
def N_law_bent_form_v2 : List Str := ["_law_urn_here", "_law_form_here", "_law_times_here", "_law_signs", "_law_folk", "_law_turn", "_law_who", "_law_view", "_law_spot", "_law_heft", "_law_bent_part", "_law_fresh", "_law_each", "_law_seen"]
def b_law_bent_form_v2 : DS := seqS (asgS (tupleG [nameG 3, nameG 4]) (varM 1)) (seqS (forS (nameG 5) (rangeM (consM (varM 2) (nilM))) (seqS (asgS (tupleG [nameG 6, nameG 7]) (callM m_law_from (consM (varM 0) (consM (varM 4) (nilM))))) (seqS (parS 8 9 (consM (callM m_law_dip (consM (varM 0) (consM (look1M lenD (slM 7)) (nilM)))) (consM (callM m_law_weighed (consM (varM 0) (consM (varM 3) (nilM)))) (nilM)))) (seqS (setS 10 (tupM (consM (lookM ixD (datM (lookM ixD (slM 7) (varM 8))) (ret (.int 0))) (consM (callM m_law_numbers_told_v3 (consM (varM 9) (consM (lookM ixD (datM (lookM ixD (slM 7) (varM 8))) (ret (.int 0))) (nilM)))) (nilM))))) (seqS (setS 11 (bin addD (bin addD (sliceM (varM 7) (noPart) (partM (varM 8))) (tupM (consM (varM 10) (nilM)))) (sliceM (varM 7) (partM (bin addD (varM 8) (ret (.int 1)))) (noPart)))) (setS 4 (appM tupleN (consM (frzM (lcC [12, 13] (iterM (varM 4)) (tupleG [nameG 12, nameG 13]) (ret true) (tupM (consM (varM 12) (consM (ifM (tst (bin eqD (varM 12) (varM 6))) (varM 11) (varM 13)) (nilM)))))) (nilM))))))))) (retS (tupM (consM (varM 3) (consM (varM 4) (nilM))))))
def m_law_bent_form_v2 : DF := defF N_law_bent_form_v2.length b_law_bent_form_v2
def N_law_all_told : List Str := ["_law_form_here", "_law_found", "_law_who", "_law_view", "_law_some", "_law_numbers_here"]
def b_law_all_told : DS := seqS (ownS 1 (lstC (nilM))) (seqS (forS (tupleG [nameG 2, nameG 3]) (iterM (lookM ixD (slM 0) (ret (.int 1)))) (forS (tupleG [nameG 4, nameG 5]) (iterM (varM 3)) (ifS (tst (bin notNoneD (varM 5) (ret .non))) (exprS (methM "list" (actW appendN) (slM 1) (consM (tupM (consM (varM 2) (consM (varM 4) (nilM)))) (nilM)))) (nxS)))) (retS (varM 1)))
def m_law_all_told : DF := defF N_law_all_told.length b_law_all_told
def N_law_without : List Str := ["_law_form_here", "_law_gone", "_law_folk", "_law_who", "_law_view", "_law_some", "_law_seen"]
def b_law_without : DS := seqS (ownS 2 (lstC (nilM))) (seqS (forS (tupleG [nameG 3, nameG 4]) (iterM (lookM ixD (slM 0) (ret (.int 1)))) (exprS (methM "list" (actW appendN) (slM 2) (consM (tupM (consM (varM 3) (consM (appM tupleN (consM (frzM (lcC [5, 6] (iterM (varM 4)) (tupleG [nameG 5, nameG 6]) (ret true) (tupM (consM (varM 5) (consM (ifM (tst (lookM2 inD (tupM (consM (varM 3) (consM (varM 5) (nilM)))) (slM 1))) (ret .non) (varM 6)) (nilM)))))) (nilM))) (nilM)))) (nilM))))) (retS (tupM (consM (lookM ixD (slM 0) (ret (.int 0))) (consM (appM tupleN (consM (varM 2) (nilM))) (nilM))))))
def m_law_without : DF := defF N_law_without.length b_law_without
def N_law_folk : List Str := ["_law_urn_here", "_law_many", "_law_folk_here", "_law_left", "_law_who", "_law_view", "_law_sign", "_law_whole"]
def b_law_folk : DS := seqS (parS 2 3 (consM (lstM (nilM)) (consM (varM 1) (nilM)))) (seqS (forS (nameG 4) (iterM (lstM (consM (ret (.str "al")) (consM (ret (.str "bob")) (consM (ret (.str "cy")) (nilM)))))) (seqS (ownS 5 (lstC (nilM))) (seqS (forS (nameG 6) (iterM (ret (.str "abde"))) (seqS (exprS (methM "list" (actW appendN) (slM 5) (consM (tupM (consM (varM 6) (consM (ifM (tst (bin gtD (varM 3) (ret (.int 0)))) (tupM (consM (tupM (consM (ret (.int 1)) (consM (ret (.int 1)) (nilM)))) (nilM))) (ret .non)) (nilM)))) (nilM)))) (setS 3 (bin subI (varM 3) (ret (.int 1)))))) (exprS (methM "list" (actW appendN) (slM 2) (consM (tupM (consM (varM 4) (consM (appM tupleN (consM (varM 5) (nilM))) (nilM)))) (nilM))))))) (seqS (setS 7 (callM m_law_from (consM (varM 0) (consM (lstM (consM (bin mulD (tupM (consM (tupM (consM (ret (.int 1)) (consM (ret (.int 4)) (nilM)))) (nilM))) (ret (.int 4))) (consM (tupM (consM (tupM (consM (ret (.int 1)) (consM (ret (.int 2)) (nilM)))) (consM (tupM (consM (ret (.int 1)) (consM (ret (.int 4)) (nilM)))) (consM (tupM (consM (ret (.int 1)) (consM (ret (.int 8)) (nilM)))) (consM (tupM (consM (ret (.int 1)) (consM (ret (.int 8)) (nilM)))) (nilM)))))) (consM (tupM (consM (tupM (consM (ret (.int 1)) (consM (ret (.int 10)) (nilM)))) (consM (tupM (consM (ret (.int 2)) (consM (ret (.int 5)) (nilM)))) (consM (tupM (consM (ret (.int 3)) (consM (ret (.int 10)) (nilM)))) (consM (tupM (consM (ret (.int 1)) (consM (ret (.int 5)) (nilM)))) (nilM)))))) (nilM))))) (nilM))))) (retS (appM tupleN (consM (bin addD (varM 2) (lstM (consM (tupM (consM (ret (.str "dee")) (consM (tupM (consM (tupM (consM (ret (.str "abde")) (consM (ifM (tst (bin gtD (varM 3) (ret (.int 0)))) (varM 7) (ret .non)) (nilM)))) (nilM))) (nilM)))) (nilM)))) (nilM))))))
def m_law_folk : DF := defF N_law_folk.length b_law_folk
def N_law_drawn_cases_v2 : List Str := ["_law_urn_here", "_law_most", "_law_left_here", "_law_found", "_law_k"]
def b_law_drawn_cases_v2 : DS := seqS (parS 2 3 (consM (frzM (appC listD (consM (ret (.str "abdegkmpqxyz")) (nilM)))) (consM (lstM (nilM)) (nilM)))) (seqS (forS (nameG 4) (rangeM (consM (bin addD (ret (.int 1)) (callM m_law_dip (consM (varM 0) (consM (varM 1) (nilM))))) (nilM))) (exprS (methM "list" (actW appendN) (slM 3) (consM (methM "list" (actW popN) (slM 2) (consM (callM m_law_dip (consM (varM 0) (consM (look1M lenD (slM 2)) (nilM)))) (nilM))) (nilM))))) (retS (methM "str" (actR joinN) (datM (ret (.str ""))) (consM (appM sortedN (consM (varM 3) (nilM))) (nilM)))))
def m_law_drawn_cases_v2 : DF := defF N_law_drawn_cases_v2.length b_law_drawn_cases_v2
def N_law_drawn_names_v2 : List Str := ["_law_urn_here", "_law_many", "_law_left_here", "_law_found", "_law_k"]
def b_law_drawn_names_v2 : DS := seqS (parS 2 3 (consM (lstM (consM (ret (.str "al")) (consM (ret (.str "bob")) (consM (ret (.str "cy")) (consM (ret (.str "dee")) (consM (ret (.str "sound")) (consM (ret (.str "undo")) (consM (ret (.str "zz")) (consM (ret (.str "eightish")) (nilM)))))))))) (consM (lstM (nilM)) (nilM)))) (seqS (forS (nameG 4) (rangeM (consM (varM 1) (nilM))) (exprS (methM "list" (actW appendN) (slM 3) (consM (methM "list" (actW popN) (slM 2) (consM (callM m_law_dip (consM (varM 0) (consM (look1M lenD (slM 2)) (nilM)))) (nilM))) (nilM))))) (retS (appM sortedN (consM (varM 3) (nilM)))))
def m_law_drawn_names_v2 : DF := defF N_law_drawn_names_v2.length b_law_drawn_names_v2
def N_law_saying : List Str := ["_law_form_here", "_law_who", "_law_sign", "_law_inner_here", "_law_left_here", "_law_some", "_law_numbers_here", "_law_pairs", "_law_k", "_law_good", "_law_each", "_law_number"]
def b_law_saying : DS := seqS (asgS (tupleG [nameG 5, nameG 6]) (callM m_law_part_of (consM (varM 0) (consM (varM 1) (consM (varM 2) (nilM)))))) (seqS (ifS (tst (bin isNoneD (varM 6) (ret .non))) (retS (ret .non)) (nxS)) (seqS (setS 7 (frzM (lcC [8] (rangeM (consM (look1M lenD (slM 5)) (nilM))) (nameG 8) (tst (lookM2 inD (lookM ixD (slM 5) (varM 8)) (slM 4))) (tupM (consM (lookM ixD (slM 5) (varM 8)) (consM (lookM ixD (slM 6) (varM 8)) (nilM))))))) (seqS (setS 9 (callM m_law_whole (consM (frzM (lcC [10, 11] (iterM (varM 7)) (tupleG [nameG 10, nameG 11]) (tst (lookM2 inD (varM 10) (slM 3))) (varM 11))) (nilM)))) (retS (callM m_law_by_v3 (consM (varM 9) (consM (callM m_law_whole (consM (frzM (lcC [10, 11] (iterM (varM 7)) (tupleG [nameG 10, nameG 11]) (ret true) (varM 11))) (nilM))) (nilM))))))))
def m_law_saying : DF := defF N_law_saying.length b_law_saying
def N_law_left : List Str := ["_law_form_here", "_law_who", "_law_sign", "_law_inner_here", "_law_left_here", "_law_word_here", "_law_each"]
def b_law_left : DS := seqS (setS 5 (callM m_law_saying (consM (varM 0) (consM (varM 1) (consM (varM 2) (consM (varM 3) (consM (varM 4) (nilM)))))))) (retS (methM "str" (actR joinN) (datM (ret (.str ""))) (consM (frzM (lcC [6] (iterM (varM 4)) (nameG 6) (tst (bin eqD (callM m_law_saying (consM (varM 0) (consM (varM 1) (consM (varM 6) (consM (varM 3) (consM (varM 4) (nilM))))))) (varM 5))) (varM 6))) (nilM))))
def m_law_left : DF := defF N_law_left.length b_law_left
def N_law_next : List Str := ["_law_form_here", "_law_sign", "_law_inner_here", "_law_stage", "_law_pairs", "_law_left_here", "_law_still", "_law_who", "_law_later", "_law_said_here"]
def b_law_next : DS := seqS (asgS (tupleG [nameG 4, nameG 5, nameG 6]) (varM 3)) (seqS (setS 7 (lookM ixD (datM (lookM ixD (datM (lookM ixD (slM 0) (ret (.int 1)))) (bin modI (appM intN (consM (look1M lenD (slM 4)) (nilM))) (look1M lenD (datM (lookM ixD (slM 0) (ret (.int 1)))))))) (ret (.int 0)))) (seqS (setS 8 (callM m_law_left (consM (varM 0) (consM (varM 7) (consM (varM 1) (consM (varM 2) (consM (varM 5) (nilM)))))))) (seqS (setS 9 (bin addD (varM 4) (tupM (consM (tupM (consM (varM 7) (consM (callM m_law_saying (consM (varM 0) (consM (varM 7) (consM (varM 1) (consM (varM 2) (consM (varM 5) (nilM))))))) (nilM)))) (nilM))))) (retS (lstM (consM (varM 9) (consM (varM 8) (consM (ifM (tst (bin eqD (varM 8) (varM 5))) (bin addD (varM 6) (ret (.int 1))) (ret (.int 0))) (nilM)))))))))
def m_law_next : DF := defF N_law_next.length b_law_next
def N_Talk_said : List Str := ["self", "found", "stage"]
def b_Talk_said : DS := seqS (setS 1 (tupM (nilM))) (seqS (setS 2 (getA (acc1 2 (.fld 4)) (varM 0))) (seqS (whileL (tst (bin notNoneD (getA (acc1 1 (.fld 3)) (varM 2)) (ret .non))) (seqS (setS 1 (bin addD (tupM (consM (getA (acc1 1 (.fld 2)) (varM 2)) (nilM))) (varM 1))) (setS 2 (getA (acc1 1 (.fld 3)) (varM 2)))) 1000000000) (retS (varM 1))))
def m_Talk_said : DF := defF N_Talk_said.length b_Talk_said
def N_Talk_heard : List Str := ["self"]
def b_Talk_heard : DS := retS (getA (acc1 1 (.fld 0)) (getA (acc1 2 (.fld 4)) (varM 0)))
def m_Talk_heard : DF := defF N_Talk_heard.length b_Talk_heard
def N_Talk_turn : List Str := ["self"]
def b_Talk_turn : DS := retS (lookM ixD (datM (getA (acc1 2 (.fld 3)) (varM 0))) (bin modI (getA (acc1 1 (.fld 4)) (getA (acc1 2 (.fld 4)) (varM 0))) (look1M lenD (datM (getA (acc1 2 (.fld 3)) (varM 0))))))
def m_Talk_turn : DF := defF N_Talk_turn.length b_Talk_turn
def N_Talk_is_over : List Str := ["self"]
def b_Talk_is_over : DS := retS (bin geD (getA (acc1 1 (.fld 1)) (getA (acc1 2 (.fld 4)) (varM 0))) (look1M lenD (datM (getA (acc1 2 (.fld 3)) (varM 0)))))
def m_Talk_is_over : DF := defF N_Talk_is_over.length b_Talk_is_over
def N_Talk_changes : List Str := ["self"]
def b_Talk_changes : DS := retS (getA (acc1 1 (.fld 4)) (getA (acc1 2 (.fld 4)) (varM 0)))
def m_Talk_changes : DF := defF N_Talk_changes.length b_Talk_changes
def N_law_inner : List Str := ["_law_urn_here", "_law_signs", "_law_some", "_law_sign"]
def b_law_inner : DS := seqS (setS 2 (methM "str" (actR joinN) (datM (ret (.str ""))) (consM (frzM (lcC [3] (iterM (varM 1)) (nameG 3) (tst (bin eqD (callM m_law_dip (consM (varM 0) (consM (ret (.int 2)) (nilM)))) (ret (.int 0)))) (varM 3))) (nilM)))) (retS (callM m_law_from (consM (varM 0) (consM (lstM (consM (varM 2) (consM (varM 2) (consM (varM 2) (consM (varM 2) (consM (varM 1) (consM (ret (.str "")) (consM (sliceM (varM 1) (noPart) (partM (ret (.int 1)))) (nilM))))))))) (nilM)))))
def m_law_inner : DF := defF N_law_inner.length b_law_inner
def N_Stage_init : List Str := ["self", "lot", "silent", "pair", "ahead"]
def b_Stage_init : DS := seqS (fldS 1 0 (varM 0) (varM 1)) (seqS (fldS 1 1 (varM 0) (varM 2)) (seqS (fldS 1 2 (varM 0) (varM 3)) (seqS (fldS 1 3 (varM 0) (varM 4)) (fldS 1 4 (varM 0) (ifM (tst (bin isNoneD (varM 4) (ret .non))) (ret (.int 0)) (bin addD (getA (acc1 1 (.fld 4)) (varM 4)) (ret (.int 1))))))))
def m_Stage_init : DF := defF N_Stage_init.length b_Stage_init
def N_Talk_init : List Str := ["self", "room", "case", "event"]
def b_Talk_init : DS := seqS (exprS (callM m_check_asked (consM (varM 1) (consM (varM 2) (consM (varM 3) (nilM)))))) (seqS (fldS 2 0 (varM 0) (varM 1)) (seqS (fldS 2 1 (varM 0) (varM 2)) (seqS (fldS 2 2 (varM 0) (varM 3)) (seqS (fldS 2 3 (varM 0) (getA (acc1 0 (.prop m_Room_names)) (varM 1))) (fldS 2 4 (varM 0) (callM (makeZ 1 m_Stage_init) (consM (getA (acc1 0 (.prop m_Room_cases)) (varM 1)) (consM (ret (.int 0)) (consM (ret .non) (consM (ret .non) (nilM)))))))))))
def m_Talk_init : DF := defF N_Talk_init.length b_Talk_init
def N_Talk_room : List Str := ["self"]
def b_Talk_room : DS := retS (getA (acc1 2 (.fld 0)) (varM 0))
def m_Talk_room : DF := defF N_Talk_room.length b_Talk_room
def N_Talk_case : List Str := ["self"]
def b_Talk_case : DS := retS (getA (acc1 2 (.fld 1)) (varM 0))
def m_Talk_case : DF := defF N_Talk_case.length b_Talk_case
def N_Talk_event : List Str := ["self"]
def b_Talk_event : DS := retS (getA (acc1 2 (.fld 2)) (varM 0))
def m_Talk_event : DF := defF N_Talk_event.length b_Talk_event
def N_Talk_go : List Str := ["self", "name", "heard", "pair", "later"]
def b_Talk_go : DS := seqS (ifS (tst (getA (acc1 2 (.prop m_Talk_is_over)) (varM 0))) (fun _ => .stuck) (nxS)) (seqS (setS 1 (getA (acc1 2 (.prop m_Talk_turn)) (varM 0))) (seqS (setS 2 (getA (acc1 1 (.fld 0)) (getA (acc1 2 (.fld 4)) (varM 0)))) (seqS (setS 3 (tupM (consM (varM 1) (consM (callM m_saying_of (consM (getA (acc1 2 (.fld 0)) (varM 0)) (consM (varM 1) (consM (getA (acc1 2 (.fld 1)) (varM 0)) (consM (getA (acc1 2 (.fld 2)) (varM 0)) (consM (varM 2) (nilM))))))) (nilM))))) (seqS (setS 4 (callM m_heard_behind (consM (getA (acc1 2 (.fld 0)) (varM 0)) (consM (varM 1) (consM (getA (acc1 2 (.fld 1)) (varM 0)) (consM (getA (acc1 2 (.fld 2)) (varM 0)) (consM (varM 2) (nilM)))))))) (seqS (fldS 2 4 (varM 0) (callM (makeZ 1 m_Stage_init) (consM (varM 4) (consM (ifM (tst (bin eqD (varM 4) (varM 2))) (bin addD (getA (acc1 1 (.fld 1)) (getA (acc1 2 (.fld 4)) (varM 0))) (ret (.int 1))) (ret (.int 0))) (consM (varM 3) (consM (getA (acc1 2 (.fld 4)) (varM 0)) (nilM))))))) (retS (varM 3)))))))
def m_Talk_go : DF := defF N_Talk_go.length b_Talk_go
def N_Talk_undo : List Str := ["self"]
def b_Talk_undo : DS := seqS (ifS (tst (bin isNoneD (getA (acc1 1 (.fld 3)) (getA (acc1 2 (.fld 4)) (varM 0))) (ret .non))) (fun _ => .stuck) (nxS)) (fldS 2 4 (varM 0) (getA (acc1 1 (.fld 3)) (getA (acc1 2 (.fld 4)) (varM 0))))
def m_Talk_undo : DF := defF N_Talk_undo.length b_Talk_undo
def N_TalkTrial_init : List Str := ["self", "talk"]
def b_TalkTrial_init : DS := seqS (fldS 4 0 (varM 0) (varM 1)) (fldS 4 1 (varM 0) (ret .non))
def m_TalkTrial_init : DF := defF N_TalkTrial_init.length b_TalkTrial_init
def N_Talk_trial : List Str := ["self"]
def b_Talk_trial : DS := retS (callM (makeF 4 m_TalkTrial_init) (consM (varM 0) (nilM)))
def m_Talk_trial : DF := defF N_Talk_trial.length b_Talk_trial
def N_is_letter : List Str := ["value"]
def b_is_letter : DS := retS (andV (isM (isB "str" (fun _ => none)) (varM 0)) (andV (bin eqD (look1M lenD (slM 0)) (ret (.int 1))) (lookM2 inD (varM 0) (datM (ret (.str "abcdefghijklmnopqrstuvwxyz"))))))
def m_is_letter : DF := defF N_is_letter.length b_is_letter
def N_law_claim : List Str := ["_law_urn_here", "_law_bank_here", "_law_tag", "_law_form_here", "_law_signs", "_law_names_here", "_law_who", "_law_view", "_law_near", "_law_far", "_law_kind", "_law_some", "_law_sign"]
def b_law_claim : DS := seqS (parS 2 3 (consM (callM m_law_from (consM (varM 0) (consM (lstM (consM (ret (.str "p")) (consM (ret (.str "q")) (consM (ret (.str "who")) (consM (ret (.str "sound")) (nilM)))))) (nilM)))) (consM (callM m_law_from (consM (varM 0) (consM (varM 1) (nilM)))) (nilM)))) (seqS (parS 4 5 (consM (bin addD (lookM ixD (slM 3) (ret (.int 0))) (ret (.str "c"))) (consM (bin addD (frzM (lcC [6, 7] (iterM (lookM ixD (slM 3) (ret (.int 1)))) (tupleG [nameG 6, nameG 7]) (ret true) (varM 6))) (lstM (consM (ret (.str "nosuch")) (nilM)))) (nilM)))) (seqS (parS 8 9 (consM (callM m_law_from (consM (varM 0) (consM (varM 4) (nilM)))) (consM (callM m_law_from (consM (varM 0) (consM (varM 4) (nilM)))) (nilM)))) (seqS (parS 6 10 (consM (callM m_law_from (consM (varM 0) (consM (varM 5) (nilM)))) (consM (callM m_law_dip (consM (varM 0) (consM (ret (.int 7)) (nilM)))) (nilM)))) (seqS (ifS (tst (bin ltD (varM 10) (ret (.int 4)))) (retS (ifM (tst (bin ltD (varM 10) (ret (.int 2)))) (tupM (consM (callM m_law_from (consM (varM 0) (consM (lstM (consM (ret (.str "sound")) (consM (ret (.str "sound")) (consM (ret (.str "unsound")) (nilM))))) (nilM)))) (consM (varM 2) (nilM)))) (tupM (consM (ret (.str "joined")) (consM (varM 2) (consM (varM 8) (consM (varM 9) (nilM)))))))) (nxS)) (seqS (setS 11 (methM "str" (actR joinN) (datM (ret (.str ""))) (consM (frzM (lcC [12] (iterM (lookM ixD (slM 3) (ret (.int 0)))) (nameG 12) (tst (bin gtD (callM m_law_dip (consM (varM 0) (consM (ret (.int 4)) (nilM)))) (ret (.int 0)))) (varM 12))) (nilM)))) (retS (tupM (consM (ret (.str "knows")) (consM (varM 2) (consM (varM 6) (consM (varM 8) (consM (callM m_law_from (consM (varM 0) (consM (lstM (consM (varM 11) (consM (lookM ixD (slM 3) (ret (.int 0))) (consM (methM "str" (actR joinN) (datM (ret (.str ""))) (consM (appM sortedN (consM (bin addD (lookM ixD (slM 3) (ret (.int 0))) (ret (.str "c"))) (nilM))) (nilM))) (consM (ret (.str "")) (nilM)))))) (nilM)))) (nilM)))))))))))))
def m_law_claim : DF := defF N_law_claim.length b_law_claim
def N_law_set : List Str := ["_law_mine", "_law_tag", "_law_thing"]
def b_law_set : DS := seqS (asgS (ixG (slM 0) (varM 1)) (varM 2)) (retS (ret .non))
def m_law_set : DF := defF N_law_set.length b_law_set
def N_law_book_deed : List Str := ["_law_urn_here", "_law_bank_here", "_law_many", "_law_kind", "_law_tag"]
def b_law_book_deed : DS := seqS (setS 3 (callM m_law_dip (consM (varM 0) (consM (ret (.int 12)) (nilM))))) (seqS (setS 4 (callM m_law_from (consM (varM 0) (consM (lstM (consM (ret (.str "p")) (consM (ret (.str "q")) (consM (ret (.str "who")) (consM (ret (.str "sound")) (nilM)))))) (nilM))))) (seqS (ifS (tst (bin ltD (varM 3) (ret (.int 4)))) (retS (tupM (consM (ret (.str "set")) (consM (varM 4) (consM (callM m_law_dip (consM (varM 0) (consM (look1M lenD (slM 1)) (nilM)))) (nilM)))))) (nxS)) (seqS (ifS (tst (bin ltD (varM 3) (ret (.int 9)))) (retS (tupM (consM (ret (.str "claim")) (consM (callM m_law_claim (consM (varM 0) (consM (varM 1) (nilM)))) (nilM))))) (nxS)) (retS (lookM ixD (datM (lstM (consM (tupM (consM (ret (.str "drop")) (consM (varM 4) (nilM)))) (consM (tupM (consM (ret (.str "lift")) (consM (bin subI (callM m_law_dip (consM (varM 0) (consM (bin addD (varM 2) (ret (.int 2))) (nilM)))) (ret (.int 1))) (nilM)))) (consM (tupM (consM (ret (.str "undo")) (nilM))) (nilM)))))) (bin subI (varM 3) (ret (.int 9))))))))
def m_law_book_deed : DF := defF N_law_book_deed.length b_law_book_deed
def N_Book_names : List Str := ["self"]
def b_Book_names : DS := retS (appM tupleN (consM (appM sortedN (consM (frzM (appC listD (consM (getA (acc1 5 (.fld 0)) (varM 0)) (nilM)))) (nilM))) (nilM)))
def m_Book_names : DF := defF N_Book_names.length b_Book_names
def N_Book_claims : List Str := ["self"]
def b_Book_claims : DS := retS (getA (acc1 5 (.fld 1)) (varM 0))
def m_Book_claims : DF := defF N_Book_claims.length b_Book_claims
def N_Book_changes : List Str := ["self"]
def b_Book_changes : DS := retS (look1M lenD (datM (getA (acc1 5 (.fld 2)) (varM 0))))
def m_Book_changes : DF := defF N_Book_changes.length b_Book_changes
def N_Book_become : List Str := ["self", "rooms", "made"]
def b_Book_become : DS := seqS (fldS 5 2 (varM 0) (bin addD (getA (acc1 5 (.fld 2)) (varM 0)) (tupM (consM (tupM (consM (getA (acc1 5 (.fld 0)) (varM 0)) (consM (getA (acc1 5 (.fld 1)) (varM 0)) (nilM)))) (nilM))))) (seqS (fldS 5 0 (varM 0) (varM 1)) (fldS 5 1 (varM 0) (varM 2)))
def m_Book_become : DF := defF N_Book_become.length b_Book_become
def N_Book_check_known : List Str := ["self", "name"]
def b_Book_check_known : DS := ifS (tst (lookM2 ninD (varM 1) (slM 0))) (fun _ => .stuck) (nxS)
def m_Book_check_known : DF := defF N_Book_check_known.length b_Book_check_known
def N_Book_getitem : List Str := ["self", "name"]
def b_Book_getitem : DS := seqS (exprS (objM 5 m_Book_check_known (varM 0) (consM (varM 1) (nilM)))) (retS (lookM ixD (datM (getA (acc1 5 (.fld 0)) (varM 0))) (varM 1)))
def m_Book_getitem : DF := defF N_Book_getitem.length b_Book_getitem
def N_Book_iter : List Str := ["self"]
def b_Book_iter : DS := fun _ => .stuck
def m_Book_iter : DF := defF N_Book_iter.length b_Book_iter
def N_Book_contains : List Str := ["self", "name"]
def b_Book_contains : DS := retS (andV (isM (isB "str" (fun _ => none)) (varM 1)) (lookM2 inD (varM 1) (datM (getA (acc1 5 (.fld 0)) (varM 0)))))
def m_Book_contains : DF := defF N_Book_contains.length b_Book_contains
def N_Book_len : List Str := ["self"]
def b_Book_len : DS := retS (look1M lenD (datM (getA (acc1 5 (.fld 0)) (varM 0))))
def m_Book_len : DF := defF N_Book_len.length b_Book_len
def N_Book_lift : List Str := ["self", "index"]
def b_Book_lift : DS := seqS (ifS (notT (tst (callM m_is_between (consM (varM 1) (consM (ret (.int 0)) (consM (bin subI (look1M lenD (datM (getA (acc1 5 (.fld 1)) (varM 0)))) (ret (.int 1))) (nilM))))))) (fun _ => .stuck) (nxS)) (exprS (objM 5 m_Book_become (varM 0) (consM (getA (acc1 5 (.fld 0)) (varM 0)) (consM (bin addD (sliceM (getA (acc1 5 (.fld 1)) (varM 0)) (noPart) (partM (varM 1))) (sliceM (getA (acc1 5 (.fld 1)) (varM 0)) (partM (bin addD (varM 1) (ret (.int 1)))) (noPart))) (nilM)))))
def m_Book_lift : DF := defF N_Book_lift.length b_Book_lift
def N_law_is_name : List Str := ["_law_thing", "_law_sign"]
def b_law_is_name : DS := seqS (ifS (orT (notT (tst (isM (isB "str" (fun _ => none)) (varM 0)))) (notT (tst (chain leD leD (ret (.int 1)) (look1M lenD (slM 0)) (ret (.int 8)))))) (retS (ret (.bl false))) (nxS)) (retS (bin eqD (frzM (lcC [1] (iterM (varM 0)) (nameG 1) (tst (lookM2 ninD (varM 1) (datM (ret (.str "abcdefghijklmnopqrstuvwxyz"))))) (varM 1))) (lstM (nilM))))
def m_law_is_name : DF := defF N_law_is_name.length b_law_is_name
def N_Trial_init : List Str := ["self", "book"]
def b_Trial_init : DS := seqS (fldS 7 0 (varM 0) (varM 1)) (fldS 7 1 (varM 0) (ret .non))
def m_Trial_init : DF := defF N_Trial_init.length b_Trial_init
def N_Book_trial : List Str := ["self"]
def b_Book_trial : DS := retS (callM (makeF 7 m_Trial_init) (consM (varM 0) (nilM)))
def m_Book_trial : DF := defF N_Book_trial.length b_Book_trial
def N_law_is_word : List Str := ["_law_thing", "_law_least", "_law_most_signs", "_law_sign"]
def b_law_is_word : DS := seqS (ifS (orT (notT (tst (isM (isB "str" (fun _ => none)) (varM 0)))) (notT (tst (chain leD leD (varM 1) (look1M lenD (slM 0)) (varM 2))))) (retS (ret (.bl false))) (nxS)) (retS (bin eqD (frzM (lcC [3] (iterM (varM 0)) (nameG 3) (tst (lookM2 ninD (varM 3) (datM (ret (.str "abcdefghijklmnopqrstuvwxyz"))))) (varM 3))) (lstM (nilM))))
def m_law_is_word : DF := defF N_law_is_word.length b_law_is_word
def N_is_below : List Str := ["one", "other"]
def b_is_below : DS := retS (bin ltD (bin mulD (lookM ixD (slM 0) (ret (.int 0))) (lookM ixD (slM 1) (ret (.int 1)))) (bin mulD (lookM ixD (slM 1) (ret (.int 0))) (lookM ixD (slM 0) (ret (.int 1)))))
def m_is_below : DF := defF N_is_below.length b_is_below
def N_numbers_in : List Str := ["cases", "value", "number", "place", "case"]
def b_numbers_in : DS := seqS (ifS (orT (notT (tst (isM (isB "tuple" (fun _ => none)) (varM 1)))) (orT (tst (bin neD (look1M lenD (slM 1)) (look1M lenD (slM 0)))) (notT (tst (appM allN (consM (frzM (lcC [2] (iterM (varM 1)) (nameG 2) (ret true) (callM m_is_fraction (consM (varM 2) (nilM))))) (nilM))))))) (retS (ret .non)) (nxS)) (seqS (ifS (notT (tst (appM allN (consM (frzM (lcC [2] (iterM (varM 1)) (nameG 2) (ret true) (callM m_is_below (consM (ret (.tup (([0, 1] : List Int).map .int))) (consM (varM 2) (nilM)))))) (nilM))))) (retS (ret .non)) (nxS)) (retS (frzM (appC dictN (consM (frzM (lcC [3, 4] (enumM (consM (varM 0) (nilM))) (tupleG [nameG 3, nameG 4]) (ret true) (tupM (consM (varM 4) (consM (lookM ixD (slM 1) (varM 3)) (nilM)))))) (nilM))))))
def m_numbers_in : DF := defF N_numbers_in.length b_numbers_in
def N_is_telling : List Str := ["value", "lot", "number"]
def b_is_telling : DS := retS (andV (isM (isB "tuple" (fun _ => none)) (varM 0)) (andV (bin eqD (look1M lenD (slM 0)) (look1M lenD (slM 1))) (appM allN (consM (frzM (lcC [2] (iterM (varM 0)) (nameG 2) (ret true) (callM m_is_fraction (consM (varM 2) (nilM))))) (nilM)))))
def m_is_telling : DF := defF N_is_telling.length b_is_telling
def N_law_is_fraction : List Str := ["_law_thing", "_law_each"]
def b_law_is_fraction : DS := seqS (ifS (orT (notT (tst (isM (isB "tuple" (fun _ => none)) (varM 0)))) (orT (tst (bin neD (look1M lenD (slM 0)) (ret (.int 2)))) (tst (bin neD (frzM (lcC [1] (iterM (varM 0)) (nameG 1) (tst (isM (isB "bool" (fun _ => none)) (varM 1))) (varM 1))) (lstM (nilM)))))) (retS (ret (.bl false))) (nxS)) (seqS (ifS (orT (notT (tst (isM (isB "int" (fun _ => none)) (lookM ixD (slM 0) (ret (.int 0)))))) (orT (notT (tst (isM (isB "int" (fun _ => none)) (lookM ixD (slM 0) (ret (.int 1)))))) (tst (bin ltD (lookM ixD (slM 0) (ret (.int 1))) (ret (.int 1)))))) (retS (ret (.bl false))) (nxS)) (retS (bin eqD (callM m_law_shared (consM (lstM (consM (lookM ixD (slM 0) (ret (.int 0))) (consM (lookM ixD (slM 0) (ret (.int 1))) (nilM)))) (nilM))) (ret (.int 1)))))
def m_law_is_fraction : DF := defF N_law_is_fraction.length b_law_is_fraction
def N_law_unlike_pair : List Str := ["_law_urn_here", "_law_signs", "_law_a", "_law_b", "_law_c", "_law_d", "_law_k", "_law_near", "_law_far", "_law_views", "_law_first", "_law_last", "_law_heft", "_law_rest", "_law_sign", "_law_folk", "_law_sign_here", "_law_rows"]
def b_law_unlike_pair : DS := seqS (setS 1 (callM m_law_drawn_cases (consM (varM 0) (consM (ret (.int 4)) (nilM))))) (seqS (setS 1 (ifM (tst (bin gtD (look1M lenD (slM 1)) (ret (.int 1)))) (varM 1) (ret (.str "ab")))) (seqS (asgS (tupleG [nameG 2, nameG 3, nameG 4, nameG 5]) (frzM (lcC [6] (rangeM (consM (ret (.int 4)) (nilM))) (nameG 6) (ret true) (bin addD (ret (.int 1)) (callM m_law_dip (consM (varM 0) (consM (ret (.int 9)) (nilM)))))))) (seqS (setS 4 (ifM (tst (bin neD (bin mulD (varM 2) (varM 5)) (bin mulD (varM 3) (varM 4)))) (varM 4) (bin addD (varM 4) (ret (.int 1))))) (seqS (parS 7 8 (consM (lookM ixD (slM 1) (ret (.int 0))) (consM (lookM ixD (slM 1) (unM negD (ret (.int 1)))) (nilM)))) (seqS (ownS 9 (lstC (nilM))) (seqS (forS (tupleG [nameG 10, nameG 11]) (iterM (lstM (consM (tupM (consM (varM 2) (consM (varM 3) (nilM)))) (consM (tupM (consM (varM 4) (consM (varM 5) (nilM)))) (nilM))))) (seqS (setS 12 (tupM (consM (callM m_law_low_v3 (consM (varM 10) (consM (bin addD (varM 10) (varM 11)) (nilM)))) (consM (callM m_law_low_v3 (consM (varM 11) (consM (bin addD (varM 10) (varM 11)) (nilM)))) (nilM))))) (seqS (setS 13 (frzM (lcC [14] (iterM (sliceM (varM 1) (partM (ret (.int 1))) (partM (unM negD (ret (.int 1)))))) (nameG 14) (ret true) (tupM (consM (varM 14) (consM (tupM (consM (tupM (consM (ret (.int 1)) (consM (ret (.int 1)) (nilM)))) (nilM))) (nilM))))))) (exprS (methM "list" (actW appendN) (slM 9) (consM (appM tupleN (consM (appM sortedN (consM (bin addD (lstM (consM (tupM (consM (bin addD (varM 7) (varM 8)) (consM (varM 12) (nilM)))) (nilM))) (varM 13)) (nilM))) (nilM))) (nilM))))))) (seqS (setS 15 (tupM (consM (tupM (consM (ret (.str "al")) (consM (lookM ixD (slM 9) (ret (.int 0))) (nilM)))) (consM (tupM (consM (ret (.str "bob")) (consM (lookM ixD (slM 9) (ret (.int 1))) (nilM)))) (nilM))))) (seqS (setS 16 (ifM (tst (bin ltD (bin mulD (varM 2) (varM 5)) (bin mulD (varM 3) (varM 4)))) (unM negD (ret (.int 1))) (ret (.int 1)))) (seqS (setS 17 (lstM (consM (bin mulD (lstM (consM (ret (.int 0)) (nilM))) (look1M lenD (slM 1))) (consM (bin mulD (lstM (consM (ret (.int 0)) (nilM))) (look1M lenD (slM 1))) (nilM))))) (seqS (asgS (tupleG [ixG (datM (lookM ixD (slM 17) (ret (.int 0)))) (ret (.int 0)), ixG (datM (lookM ixD (slM 17) (ret (.int 0)))) (unM negD (ret (.int 1)))]) (tupM (consM (bin mulD (bin mulD (varM 16) (varM 3)) (varM 4)) (consM (bin subI (ret (.int 0)) (bin mulD (bin mulD (varM 16) (varM 2)) (varM 4))) (nilM))))) (seqS (asgS (tupleG [ixG (datM (lookM ixD (slM 17) (ret (.int 1)))) (ret (.int 0)), ixG (datM (lookM ixD (slM 17) (ret (.int 1)))) (unM negD (ret (.int 1)))]) (tupM (consM (bin subI (ret (.int 0)) (bin mulD (bin mulD (varM 16) (varM 2)) (varM 5))) (consM (bin mulD (bin mulD (varM 16) (varM 2)) (varM 4)) (nilM))))) (retS (tupM (consM (tupM (consM (varM 1) (consM (varM 15) (nilM)))) (consM (tupM (consM (appM tupleN (consM (lookM ixD (slM 17) (ret (.int 0))) (nilM))) (consM (appM tupleN (consM (lookM ixD (slM 17) (ret (.int 1))) (nilM))) (nilM)))) (nilM))))))))))))))))
def m_law_unlike_pair : DF := defF N_law_unlike_pair.length b_law_unlike_pair
def N_law_open_parts_v3 : List Str := ["_law_form_here", "_law_found", "_law_who", "_law_view", "_law_some", "_law_numbers_here"]
def b_law_open_parts_v3 : DS := seqS (ownS 1 (lstC (nilM))) (seqS (forS (tupleG [nameG 2, nameG 3]) (iterM (lookM ixD (slM 0) (ret (.int 1)))) (forS (tupleG [nameG 4, nameG 5]) (iterM (varM 3)) (ifS (tst (bin isNoneD (varM 5) (ret .non))) (exprS (methM "list" (actW appendN) (slM 1) (consM (tupM (consM (varM 2) (consM (varM 4) (nilM)))) (nilM)))) (nxS)))) (retS (varM 1)))
def m_law_open_parts_v3 : DF := defF N_law_open_parts_v3.length b_law_open_parts_v3
def N_law_hand_bank : List Str := ["_law_first", "_law_pair", "_law_clash", "_law_left", "_law_found"]
def b_law_hand_bank : DS := seqS (setS 0 (tupM (consM (ret (.str "ann")) (consM (tupM (consM (tupM (consM (ret (.str "ab")) (consM (tupM (consM (tupM (consM (ret (.int 1)) (consM (ret (.int 3)) (nilM)))) (consM (tupM (consM (ret (.int 2)) (consM (ret (.int 3)) (nilM)))) (nilM)))) (nilM)))) (consM (tupM (consM (ret (.str "c")) (consM (tupM (consM (tupM (consM (ret (.int 1)) (consM (ret (.int 1)) (nilM)))) (nilM))) (nilM)))) (nilM)))) (nilM))))) (seqS (setS 1 (tupM (consM (varM 0) (consM (tupM (consM (ret (.str "bob")) (consM (tupM (consM (tupM (consM (ret (.str "a")) (consM (tupM (consM (tupM (consM (ret (.int 1)) (consM (ret (.int 1)) (nilM)))) (nilM))) (nilM)))) (consM (tupM (consM (ret (.str "bc")) (consM (tupM (consM (tupM (consM (ret (.int 1)) (consM (ret (.int 2)) (nilM)))) (consM (tupM (consM (ret (.int 1)) (consM (ret (.int 2)) (nilM)))) (nilM)))) (nilM)))) (nilM)))) (nilM)))) (nilM))))) (seqS (setS 2 (tupM (consM (tupM (consM (ret (.str "ann")) (consM (tupM (consM (tupM (consM (ret (.str "ab")) (consM (tupM (consM (tupM (consM (ret (.int 1)) (consM (ret (.int 3)) (nilM)))) (consM (tupM (consM (ret (.int 2)) (consM (ret (.int 3)) (nilM)))) (nilM)))) (nilM)))) (nilM))) (nilM)))) (consM (tupM (consM (ret (.str "bob")) (consM (tupM (consM (tupM (consM (ret (.str "ab")) (consM (tupM (consM (tupM (consM (ret (.int 1)) (consM (ret (.int 2)) (nilM)))) (consM (tupM (consM (ret (.int 1)) (consM (ret (.int 2)) (nilM)))) (nilM)))) (nilM)))) (nilM))) (nilM)))) (nilM))))) (seqS (setS 3 (tupM (consM (tupM (consM (ret (.str "ann")) (consM (tupM (consM (tupM (consM (ret (.str "ab")) (consM (tupM (consM (tupM (consM (ret (.int 1)) (consM (ret (.int 3)) (nilM)))) (consM (tupM (consM (ret (.int 2)) (consM (ret (.int 3)) (nilM)))) (nilM)))) (nilM)))) (nilM))) (nilM)))) (consM (tupM (consM (ret (.str "bob")) (consM (tupM (consM (tupM (consM (ret (.str "ab")) (consM (ret .non) (nilM)))) (nilM))) (nilM)))) (nilM))))) (seqS (ownS 4 (lstC (consM (tupM (consM (tupM (consM (ret (.str "sound")) (consM (ret (.str "abc")) (consM (varM 1) (nilM))))) (consM (tupM (consM (tupM (consM (ret (.int 1)) (consM (ret (.int 5)) (nilM)))) (consM (tupM (consM (ret (.int 2)) (consM (ret (.int 5)) (nilM)))) (consM (tupM (consM (ret (.int 2)) (consM (ret (.int 5)) (nilM)))) (nilM))))) (nilM)))) (consM (tupM (consM (tupM (consM (ret (.str "unsound")) (consM (ret (.str "ab")) (consM (varM 2) (nilM))))) (consM (tupM (consM (tupM (consM (unM negD (ret (.int 2))) (consM (ret (.int 1)) (nilM)))) (consM (tupM (consM (ret (.int 1)) (consM (unM negD (ret (.int 1))) (nilM)))) (nilM)))) (nilM)))) (nilM))))) (seqS (exprS (methM "list" (actW appendN) (slM 4) (consM (tupM (consM (tupM (consM (ret (.str "ring")) (consM (ret (.str "ab")) (consM (varM 2) (nilM))))) (consM (tupM (consM (tupM (consM (ret (.str "a")) (consM (ret (.str "ann")) (nilM)))) (consM (tupM (consM (ret (.str "b")) (consM (ret (.str "bob")) (nilM)))) (nilM)))) (nilM)))) (nilM)))) (retS (bin addD (varM 4) (lstM (consM (tupM (consM (tupM (consM (ret (.str "must")) (consM (ret (.str "ab")) (consM (varM 3) (consM (ret (.str "bob")) (consM (ret (.str "ab")) (consM (tupM (consM (tupM (consM (ret (.int 1)) (consM (ret (.int 3)) (nilM)))) (consM (tupM (consM (ret (.int 2)) (consM (ret (.int 3)) (nilM)))) (nilM)))) (nilM)))))))) (consM (tupM (consM (tupM (consM (ret (.int 1)) (consM (ret (.int 3)) (nilM)))) (consM (tupM (consM (ret (.int 2)) (consM (ret (.int 3)) (nilM)))) (nilM)))) (nilM)))) (nilM))))))))))
def m_law_hand_bank : DF := defF N_law_hand_bank.length b_law_hand_bank
def N_paper_of : List Str := ["room", "numbers", "case"]
def b_paper_of : DS := retS (appM tupleN (consM (frzM (lcC [2] (iterM (getA (acc1 0 (.prop m_Room_cases)) (varM 0))) (nameG 2) (ret true) (lookM ixD (slM 1) (varM 2)))) (nilM)))
def m_paper_of : DF := defF N_paper_of.length b_paper_of
def N_lot_in : List Str := ["word"]
def b_lot_in : DS := seqS (ifS (tst (bin eqD (varM 0) (ret (.str "-")))) (retS (ret (.str ""))) (nxS)) (retS (ifM (andT (tst (bin neD (varM 0) (ret (.str "")))) (tst (callM m_is_lot (consM (varM 0) (consM (ret (.str "abcdefghijklmnopqrstuvwxyz")) (nilM)))))) (varM 0) (ret .non)))
def m_lot_in : DF := defF N_lot_in.length b_lot_in
def N_written : List Str := ["numbers", "number"]
def b_written : DS := retS (methM "str" (actR joinN) (datM (ret (.str " "))) (consM (frzM (lcC [1] (iterM (varM 0)) (nameG 1) (ret true) (ifM (tst (bin isNoneD (varM 1) (ret .non))) (ret (.str "?")) (joinM [fmtM (lookM ixD (slM 1) (ret (.int 0))), ret (.str "/"), fmtM (lookM ixD (slM 1) (ret (.int 1)))] Str.empty)))) (nilM)))
def m_written : DF := defF N_written.length b_written
def N_Console_room_of : List Str := ["self", "name"]
def b_Console_room_of : DS := seqS (ifS (tst (lookM2 ninD (varM 1) (datM (getA (acc1 8 (.fld 0)) (varM 0))))) (fun _ => .stuck) (nxS)) (retS (lookM ixD (datM (getA (acc1 8 (.fld 0)) (varM 0))) (varM 1)))
def m_Console_room_of : DF := defF N_Console_room_of.length b_Console_room_of
def N_law_saying_v2 : List Str := ["_law_form_here", "_law_who", "_law_sign", "_law_inner", "_law_left_here", "_law_some", "_law_numbers_here", "_law_pairs", "_law_k", "_law_good", "_law_each", "_law_number"]
def b_law_saying_v2 : DS := seqS (asgS (tupleG [nameG 5, nameG 6]) (callM m_law_part_of (consM (varM 0) (consM (varM 1) (consM (varM 2) (nilM)))))) (seqS (ifS (tst (bin isNoneD (varM 6) (ret .non))) (retS (ret .non)) (nxS)) (seqS (setS 7 (frzM (lcC [8] (rangeM (consM (look1M lenD (slM 5)) (nilM))) (nameG 8) (tst (lookM2 inD (lookM ixD (slM 5) (varM 8)) (slM 4))) (tupM (consM (lookM ixD (slM 5) (varM 8)) (consM (lookM ixD (slM 6) (varM 8)) (nilM))))))) (seqS (setS 9 (callM m_law_whole (consM (frzM (lcC [10, 11] (iterM (varM 7)) (tupleG [nameG 10, nameG 11]) (tst (lookM2 inD (varM 10) (slM 3))) (varM 11))) (nilM)))) (retS (callM m_law_by_v3 (consM (varM 9) (consM (callM m_law_whole (consM (frzM (lcC [10, 11] (iterM (varM 7)) (tupleG [nameG 10, nameG 11]) (ret true) (varM 11))) (nilM))) (nilM))))))))
def m_law_saying_v2 : DF := defF N_law_saying_v2.length b_law_saying_v2
def N_law_left_v2 : List Str := ["_law_form_here", "_law_who", "_law_sign", "_law_inner", "_law_left_here", "_law_word_here", "_law_each"]
def b_law_left_v2 : DS := seqS (setS 5 (callM m_law_saying_v2 (consM (varM 0) (consM (varM 1) (consM (varM 2) (consM (varM 3) (consM (varM 4) (nilM)))))))) (retS (methM "str" (actR joinN) (datM (ret (.str ""))) (consM (frzM (lcC [6] (iterM (varM 4)) (nameG 6) (tst (bin eqD (callM m_law_saying_v2 (consM (varM 0) (consM (varM 1) (consM (varM 6) (consM (varM 3) (consM (varM 4) (nilM))))))) (varM 5))) (varM 6))) (nilM))))
def m_law_left_v2 : DF := defF N_law_left_v2.length b_law_left_v2
def N_law_talked : List Str := ["_law_form_here", "_law_sign", "_law_inner", "_law_left_here", "_law_still", "_law_many", "_law_turn", "_law_later", "_law_who", "_law_view"]
def b_law_talked : DS := seqS (asgS (tupleG [nameG 3, nameG 4, nameG 5]) (tupM (consM (lookM ixD (slM 0) (ret (.int 0))) (consM (ret (.int 0)) (consM (ret (.int 0)) (nilM)))))) (seqS (forS (nameG 6) (rangeM (consM (ret (.int 60)) (nilM))) (ifS (tst (bin ltD (varM 4) (look1M lenD (datM (lookM ixD (slM 0) (ret (.int 1))))))) (seqS (setS 7 (callM m_law_left_v2 (consM (varM 0) (consM (lookM ixD (datM (lookM ixD (datM (lookM ixD (slM 0) (ret (.int 1)))) (bin modI (appM intN (consM (varM 5) (nilM))) (look1M lenD (datM (lookM ixD (slM 0) (ret (.int 1)))))))) (ret (.int 0))) (consM (varM 1) (consM (varM 2) (consM (varM 3) (nilM)))))))) (seqS (setS 4 (ifM (tst (bin eqD (varM 7) (varM 3))) (bin addD (varM 4) (ret (.int 1))) (ret (.int 0)))) (asgS (tupleG [nameG 3, nameG 5]) (tupM (consM (varM 7) (consM (bin addD (varM 5) (ret (.int 1))) (nilM))))))) (nxS))) (retS (frzM (lcC [8, 9] (iterM (lookM ixD (slM 0) (ret (.int 1)))) (tupleG [nameG 8, nameG 9]) (ret true) (callM m_law_saying_v2 (consM (varM 0) (consM (varM 8) (consM (varM 1) (consM (varM 2) (consM (varM 3) (nilM)))))))))))
def m_law_talked : DF := defF N_law_talked.length b_law_talked
def N_law_question : List Str := ["_law_urn_here", "_law_form_here", "_law_some", "_law_sign", "_law_inner", "_law_who", "_law_view", "_law_lots_here", "_law_part"]
def b_law_question : DS := seqS (setS 2 (methM "str" (actR joinN) (datM (ret (.str ""))) (consM (frzM (lcC [3] (iterM (lookM ixD (slM 1) (ret (.int 0)))) (nameG 3) (tst (bin eqD (callM m_law_dip (consM (varM 0) (consM (ret (.int 2)) (nilM)))) (ret (.int 0)))) (varM 3))) (nilM)))) (seqS (ifS (tst (bin eqD (callM m_law_dip (consM (varM 0) (consM (ret (.int 2)) (nilM)))) (ret (.int 0)))) (seqS (setS 4 (callM m_law_from (consM (varM 0) (consM (lstM (consM (varM 2) (consM (varM 2) (consM (varM 2) (consM (lookM ixD (slM 1) (ret (.int 0))) (consM (ret (.str "f")) (consM (ret (.str "ab")) (nilM)))))))) (nilM))))) (retS (tupM (consM (ret (.str "talk")) (consM (ret (.str "p")) (consM (callM m_law_from (consM (varM 0) (consM (bin addD (bin mulD (lookM ixD (slM 1) (ret (.int 0))) (ret (.int 3))) (ret (.str "c"))) (nilM)))) (consM (varM 4) (nilM)))))))) (nxS)) (seqS (asgS (tupleG [nameG 5, nameG 6]) (callM m_law_from (consM (varM 0) (consM (lookM ixD (slM 1) (ret (.int 1))) (nilM))))) (seqS (setS 7 (bin mulD (frzM (lcC [8] (iterM (varM 6)) (nameG 8) (ret true) (lookM ixD (slM 8) (ret (.int 0))))) (ret (.int 3)))) (retS (tupM (consM (ret (.str "must")) (consM (ret (.str "p")) (consM (callM m_law_from (consM (varM 0) (consM (bin addD (bin mulD (lstM (consM (varM 5) (nilM))) (ret (.int 7))) (lstM (consM (ret (.str "nosuch")) (nilM)))) (nilM)))) (consM (callM m_law_from (consM (varM 0) (consM (bin addD (varM 7) (lstM (consM (varM 2) (consM (ret (.str "c")) (consM (lookM ixD (slM 1) (ret (.int 0))) (nilM)))))) (nilM)))) (nilM))))))))))
def m_law_question : DF := defF N_law_question.length b_law_question
def N_law_bent_form_v3 : List Str := ["_law_urn_here", "_law_form_here", "_law_times_here", "_law_signs", "_law_folk", "_law_turn", "_law_who", "_law_view", "_law_spot", "_law_heft", "_law_bent_part", "_law_fresh", "_law_each", "_law_seen_here"]
def b_law_bent_form_v3 : DS := seqS (asgS (tupleG [nameG 3, nameG 4]) (varM 1)) (seqS (forS (nameG 5) (rangeM (consM (varM 2) (nilM))) (seqS (asgS (tupleG [nameG 6, nameG 7]) (callM m_law_from (consM (varM 0) (consM (varM 4) (nilM))))) (seqS (parS 8 9 (consM (callM m_law_dip (consM (varM 0) (consM (look1M lenD (slM 7)) (nilM)))) (consM (callM m_law_weighed (consM (varM 0) (consM (varM 3) (nilM)))) (nilM)))) (seqS (setS 10 (tupM (consM (lookM ixD (datM (lookM ixD (slM 7) (varM 8))) (ret (.int 0))) (consM (callM m_law_numbers_told (consM (varM 9) (consM (lookM ixD (datM (lookM ixD (slM 7) (varM 8))) (ret (.int 0))) (nilM)))) (nilM))))) (seqS (setS 11 (bin addD (bin addD (sliceM (varM 7) (noPart) (partM (varM 8))) (tupM (consM (varM 10) (nilM)))) (sliceM (varM 7) (partM (bin addD (varM 8) (ret (.int 1)))) (noPart)))) (setS 4 (appM tupleN (consM (frzM (lcC [12, 13] (iterM (varM 4)) (tupleG [nameG 12, nameG 13]) (ret true) (tupM (consM (varM 12) (consM (ifM (tst (bin eqD (varM 12) (varM 6))) (varM 11) (varM 13)) (nilM)))))) (nilM))))))))) (retS (tupM (consM (varM 3) (consM (varM 4) (nilM))))))
def m_law_bent_form_v3 : DF := defF N_law_bent_form_v3.length b_law_bent_form_v3
def N_law_is_word_v2 : List Str := ["_law_thing", "_law_most_signs", "_law_sign"]
def b_law_is_word_v2 : DS := seqS (ifS (notT (tst (chain leD leD (ret (.int 1)) (look1M lenD (slM 0)) (varM 1)))) (retS (ret (.bl false))) (nxS)) (retS (bin eqD (frzM (lcC [2] (iterM (varM 0)) (nameG 2) (tst (lookM2 ninD (varM 2) (datM (ret (.str "abcdefghijklmnopqrstuvwxyz"))))) (varM 2))) (lstM (nilM))))
def m_law_is_word_v2 : DF := defF N_law_is_word_v2.length b_law_is_word_v2
def N_law_number_in : List Str := ["_law_word", "_law_sign"]
def b_law_number_in : DS := seqS (ifS (orT (notT (tst (chain leD leD (ret (.int 1)) (look1M lenD (slM 0)) (ret (.int 12))))) (tst (bin neD (frzM (lcC [1] (iterM (varM 0)) (nameG 1) (tst (lookM2 ninD (varM 1) (datM (ret (.str "0123456789"))))) (varM 1))) (lstM (nilM))))) (retS (unM negD (ret (.int 1)))) (nxS)) (retS (ifM (andT (tst (bin eqD (lookM ixD (slM 0) (ret (.int 0))) (ret (.str "0")))) (tst (bin neD (varM 0) (ret (.str "0"))))) (unM negD (ret (.int 1))) (appM intN (consM (varM 0) (nilM)))))
def m_law_number_in : DF := defF N_law_number_in.length b_law_number_in
def N_law_fraction_in : List Str := ["_law_word", "_law_parts", "_law_top", "_law_low_here"]
def b_law_fraction_in : DS := seqS (setS 1 (methM "str" (actR splitN) (slM 0) (consM (ret (.str "/")) (nilM)))) (seqS (ifS (tst (bin neD (look1M lenD (slM 1)) (ret (.int 2)))) (retS (ret .non)) (nxS)) (seqS (parS 2 3 (consM (callM m_law_number_in (consM (lookM ixD (slM 1) (ret (.int 0))) (nilM))) (consM (callM m_law_number_in (consM (lookM ixD (slM 1) (ret (.int 1))) (nilM))) (nilM)))) (seqS (ifS (orT (tst (bin ltD (varM 2) (ret (.int 1)))) (orT (notT (tst (chain leD leD (ret (.int 1)) (varM 3) (bin powI (ret (.int 10)) (ret (.int 9)))))) (tst (bin neD (callM m_law_shared (consM (lstM (consM (varM 2) (consM (varM 3) (nilM)))) (nilM))) (ret (.int 1)))))) (retS (ret .non)) (nxS)) (retS (tupM (consM (varM 2) (consM (varM 3) (nilM))))))))
def m_law_fraction_in : DF := defF N_law_fraction_in.length b_law_fraction_in
def N_law_bent_line : List Str := ["_law_urn_here", "_law_said", "_law_kind", "_law_at", "_law_sign", "_law_words", "_law_k", "_law_j", "_law_fresh"]
def b_law_bent_line : DS := seqS (parS 2 3 (consM (callM m_law_dip (consM (varM 0) (consM (ret (.int 9)) (nilM)))) (consM (callM m_law_dip (consM (varM 0) (consM (bin addD (look1M lenD (slM 1)) (ret (.int 1))) (nilM)))) (nilM)))) (seqS (setS 4 (callM m_law_from (consM (varM 0) (consM (lstM (consM (ret (.str " ")) (consM (ret (.str "/")) (consM (ret (.str " / ")) (consM (ret (.str "0")) (consM (ret (.str "1")) (consM (ret (.str "a")) (consM (ret (.str "A")) (consM (ret (.str "?")) (consM (ret (.str "-")) (consM (ret (.str "=")) (consM (ret (.str "\n")) (consM (ret (.str "")) (consM (ret (.str "c")) (nilM))))))))))))))) (nilM))))) (seqS (ifS (tst (bin ltD (varM 2) (ret (.int 3)))) (retS (bin addD (bin addD (sliceM (varM 1) (noPart) (partM (varM 3))) (varM 4)) (sliceM (varM 1) (partM (bin addD (varM 3) (appM intN (consM (bin ltD (varM 2) (ret (.int 2))) (nilM))))) (noPart)))) (nxS)) (seqS (setS 5 (methM "str" (actR splitN) (slM 1) (consM (ret (.str " ")) (nilM)))) (seqS (parS 6 7 (consM (callM m_law_dip (consM (varM 0) (consM (look1M lenD (slM 5)) (nilM)))) (consM (callM m_law_dip (consM (varM 0) (consM (look1M lenD (slM 5)) (nilM)))) (nilM)))) (seqS (setS 8 (lstM (consM (ret (.str "?")) (consM (ret (.str "1/1")) (consM (ret (.str "2/4")) (consM (ret (.str "01/2")) (consM (ret (.str "1/2")) (consM (ret (.str "0/1")) (consM (ret (.str "1/0")) (consM (ret (.str "/")) (consM (ret (.str "=")) (consM (ret (.str "cases")) (consM (ret (.str "ba")) (consM (ret (.str "ninesigns")) (consM (ret (.str "talk")) (nilM)))))))))))))))) (seqS (setS 8 (callM m_law_from (consM (varM 0) (consM (bin addD (varM 8) (lstM (consM (ret (.str "must")) (consM (ret (.str "-")) (consM (ret (.str "")) (consM (ret (.str "undo")) (consM (ret (.str "drop")) (consM (ret (.str "knows")) (consM (ret (.str "1/1000000001")) (consM (ret (.str "p")) (nilM))))))))))) (nilM))))) (seqS (ifS (tst (bin eqD (varM 2) (ret (.int 3)))) (retS (methM "str" (actR joinN) (datM (ret (.str " "))) (consM (bin addD (sliceM (varM 5) (noPart) (partM (varM 6))) (sliceM (varM 5) (partM (bin addD (varM 6) (ret (.int 1)))) (noPart))) (nilM)))) (nxS)) (seqS (ifS (tst (bin eqD (varM 2) (ret (.int 4)))) (retS (methM "str" (actR joinN) (datM (ret (.str " "))) (consM (bin addD (bin addD (sliceM (varM 5) (noPart) (partM (varM 6))) (lstM (consM (varM 8) (nilM)))) (sliceM (varM 5) (partM (varM 6)) (noPart))) (nilM)))) (nxS)) (seqS (ifS (tst (bin eqD (varM 2) (ret (.int 5)))) (retS (methM "str" (actR joinN) (datM (ret (.str " "))) (consM (bin addD (bin addD (sliceM (varM 5) (noPart) (partM (varM 6))) (lstM (consM (varM 8) (nilM)))) (sliceM (varM 5) (partM (bin addD (varM 6) (ret (.int 1)))) (noPart))) (nilM)))) (nxS)) (seqS (ifS (tst (bin eqD (varM 2) (ret (.int 6)))) (asgS (tupleG [ixG (slM 5) (varM 6), ixG (slM 5) (varM 7)]) (tupM (consM (lookM ixD (slM 5) (varM 7)) (consM (lookM ixD (slM 5) (varM 6)) (nilM))))) (nxS)) (retS (methM "str" (actR joinN) (datM (ret (.str " "))) (consM (varM 5) (nilM))))))))))))))
def m_law_bent_line : DF := defF N_law_bent_line.length b_law_bent_line
def N_law_bent_form_v4 : List Str := ["_law_urn_here", "_law_form_here", "_law_times_here", "_law_signs", "_law_folk", "_law_turn", "_law_who", "_law_view", "_law_spot", "_law_heft", "_law_bent_part", "_law_fresh", "_law_each", "_law_seen_here"]
def b_law_bent_form_v4 : DS := seqS (asgS (tupleG [nameG 3, nameG 4]) (varM 1)) (seqS (forS (nameG 5) (rangeM (consM (varM 2) (nilM))) (seqS (asgS (tupleG [nameG 6, nameG 7]) (callM m_law_from (consM (varM 0) (consM (varM 4) (nilM))))) (seqS (parS 8 9 (consM (callM m_law_dip (consM (varM 0) (consM (look1M lenD (slM 7)) (nilM)))) (consM (callM m_law_weighed (consM (varM 0) (consM (varM 3) (nilM)))) (nilM)))) (seqS (setS 10 (tupM (consM (lookM ixD (datM (lookM ixD (slM 7) (varM 8))) (ret (.int 0))) (consM (callM m_law_numbers_told_v3 (consM (varM 9) (consM (lookM ixD (datM (lookM ixD (slM 7) (varM 8))) (ret (.int 0))) (nilM)))) (nilM))))) (seqS (setS 11 (bin addD (bin addD (sliceM (varM 7) (noPart) (partM (varM 8))) (tupM (consM (varM 10) (nilM)))) (sliceM (varM 7) (partM (bin addD (varM 8) (ret (.int 1)))) (noPart)))) (setS 4 (appM tupleN (consM (frzM (lcC [12, 13] (iterM (varM 4)) (tupleG [nameG 12, nameG 13]) (ret true) (tupM (consM (varM 12) (consM (ifM (tst (bin eqD (varM 12) (varM 6))) (varM 11) (varM 13)) (nilM)))))) (nilM))))))))) (retS (tupM (consM (varM 3) (consM (varM 4) (nilM))))))
def m_law_bent_form_v4 : DF := defF N_law_bent_form_v4.length b_law_bent_form_v4
def N_law_draw : List Str := ["_law_well_here", "_law_many", "_law_figure"]
def b_law_draw : DS := seqS (asgS (ixG (slM 0) (ret (.int 0))) (bin modI (appM intN (consM (bin addD (bin mulD (ret (.int 40014)) (lookM ixD (slM 0) (ret (.int 0)))) (ret (.int 1))) (nilM))) (ret (.int 2147483563)))) (seqS (asgS (ixG (slM 0) (ret (.int 1))) (bin modI (appM intN (consM (bin addD (bin mulD (ret (.int 40692)) (lookM ixD (slM 0) (ret (.int 1)))) (ret (.int 5))) (nilM))) (ret (.int 2147483399)))) (seqS (ifS (tst (bin gtD (lookM ixD (slM 0) (ret (.int 2))) (ret (.int 0)))) (seqS (asgS (tupleG [ixG (slM 0) (ret (.int 2)), nameG 2]) (appM divmodN (consM (lookM ixD (slM 0) (ret (.int 2))) (consM (varM 1) (nilM))))) (retS (varM 2))) (nxS)) (retS (bin modI (appM intN (consM (bin divI (bin modI (appM intN (consM (bin subI (lookM ixD (slM 0) (ret (.int 0))) (lookM ixD (slM 0) (ret (.int 1)))) (nilM))) (ret (.int 2147483562))) (ret (.int 7))) (nilM))) (varM 1)))))
def m_law_draw : DF := defF N_law_draw.length b_law_draw
def N_law_well : List Str := ["_law_script", "_law_k", "_law_cell", "_law_part", "_law_low_here", "_law_high", "_law_well_here", "_law_turn"]
def b_law_well : DS := seqS (setS 2 (ifM (tst (bin ltD (varM 1) (look1M lenD (slM 0)))) (lookM ixD (slM 0) (varM 1)) (bin addD (bin mulD (ret (.int 1009)) (varM 1)) (ret (.int 77))))) (seqS (ifS (tst (bin geD (varM 1) (look1M lenD (slM 0)))) (forS (nameG 3) (iterM (sliceM (varM 0) (noPart) (partM (ret (.int 3))))) (setS 2 (bin modI (appM intN (consM (bin addD (bin mulD (varM 2) (ret (.int 30011))) (varM 3)) (nilM))) (ret (.int 1000000007))))) (nxS)) (seqS (setS 4 (bin modI (appM intN (consM (bin powI (bin addD (bin addD (bin modI (appM intN (consM (varM 2) (nilM))) (ret (.int 2147483563))) (bin mulD (ret (.int 3)) (varM 1))) (ret (.int 1))) (ret (.int 5))) (nilM))) (ret (.int 2147483563)))) (seqS (setS 5 (bin modI (appM intN (consM (bin powI (bin addD (bin addD (bin modI (appM intN (consM (varM 2) (nilM))) (ret (.int 2147483399))) (bin mulD (ret (.int 7)) (varM 1))) (ret (.int 2))) (ret (.int 5))) (nilM))) (ret (.int 2147483399)))) (seqS (ownS 6 (lstC (consM (varM 4) (consM (varM 5) (consM (ret (.int 0)) (nilM)))))) (seqS (forS (nameG 7) (rangeM (consM (ret (.int 3)) (nilM))) (exprS (callM m_law_draw (consM (varM 6) (consM (ret (.int 2)) (nilM)))))) (seqS (asgS (ixG (slM 6) (ret (.int 2))) (ifM (tst (bin geD (appM absN (consM (varM 2) (nilM))) (bin powI (ret (.int 10)) (ret (.int 18))))) (appM absN (consM (varM 2) (nilM))) (ret (.int 0)))) (retS (varM 6))))))))
def m_law_well : DF := defF N_law_well.length b_law_well
def N_law_titles : List Str := ["_law_well_here", "_law_many", "_law_letters", "_law_found", "_law_k", "_law_word", "_law_turn", "_law_some", "_law_letter"]
def b_law_titles : DS := seqS (asgS (tupleG [nameG 2, nameG 3]) (tupM (consM (ret (.str "abcdefghijklmnopqrstuvwxyz")) (consM (lstM (nilM)) (nilM))))) (seqS (forS (nameG 4) (rangeM (consM (varM 1) (nilM))) (seqS (setS 5 (lookM ixD (slM 2) (callM m_law_draw (consM (varM 0) (consM (ret (.int 26)) (nilM)))))) (seqS (setS 5 (bin addD (varM 5) (methM "str" (actR joinN) (datM (ret (.str ""))) (consM (frzM (lcC [6] (rangeM (consM (callM m_law_draw (consM (varM 0) (consM (ret (.int 8)) (nilM)))) (nilM))) (nameG 6) (ret true) (lookM ixD (slM 2) (callM m_law_draw (consM (varM 0) (consM (ret (.int 26)) (nilM))))))) (nilM))))) (seqS (setS 7 (bin addD (lstM (consM (varM 5) (nilM))) (frzM (lcC [8] (iterM (varM 2)) (nameG 8) (tst (lookM2 ninD (bin addD (varM 8) (ret (.str "zz"))) (slM 3))) (bin addD (varM 8) (ret (.str "zz"))))))) (exprS (methM "list" (actW appendN) (slM 3) (consM (ifM (tst (lookM2 ninD (varM 5) (slM 3))) (lookM ixD (slM 7) (ret (.int 0))) (lookM ixD (slM 7) (ret (.int 1)))) (nilM)))))))) (retS (varM 3)))
def m_law_titles : DF := defF N_law_titles.length b_law_titles
def N_law_low_v5 : List Str := ["_law_top_here", "_law_bottom_here", "_law_a", "_law_b"]
def b_law_low_v5 : DS := seqS (parS 2 3 (consM (varM 0) (consM (varM 1) (nilM)))) (seqS (whileL (tst (bin gtD (varM 3) (ret (.int 0)))) (parS 2 3 (consM (varM 3) (consM (bin modI (appM intN (consM (varM 2) (nilM))) (varM 3)) (nilM)))) 1000000000) (retS (tupM (consM (bin divI (varM 0) (varM 2)) (consM (bin divI (varM 1) (varM 2)) (nilM))))))
def m_law_low_v5 : DF := defF N_law_low_v5.length b_law_low_v5
def N_law_over_v3 : List Str := ["_law_one", "_law_other"]
def b_law_over_v3 : DS := retS (callM m_law_low_v5 (consM (bin mulD (lookM ixD (slM 0) (ret (.int 0))) (lookM ixD (slM 1) (ret (.int 1)))) (consM (bin mulD (lookM ixD (slM 0) (ret (.int 1))) (lookM ixD (slM 1) (ret (.int 0)))) (nilM))))
def m_law_over_v3 : DF := defF N_law_over_v3.length b_law_over_v3
def N_law_sum : List Str := ["_law_some", "_law_found", "_law_each"]
def b_law_sum : DS := seqS (setS 1 (tupM (consM (ret (.int 0)) (consM (ret (.int 1)) (nilM))))) (seqS (forS (nameG 2) (iterM (varM 0)) (setS 1 (callM m_law_low_v5 (consM (bin addD (bin mulD (lookM ixD (slM 1) (ret (.int 0))) (lookM ixD (slM 2) (ret (.int 1)))) (bin mulD (lookM ixD (slM 2) (ret (.int 0))) (lookM ixD (slM 1) (ret (.int 1))))) (consM (bin mulD (lookM ixD (slM 1) (ret (.int 1))) (lookM ixD (slM 2) (ret (.int 1)))) (nilM)))))) (retS (varM 1)))
def m_law_sum : DF := defF N_law_sum.length b_law_sum
def N_law_by_loads : List Str := ["_law_lot", "_law_loads_here", "_law_each", "_law_one"]
def b_law_by_loads : DS := retS (appM tupleN (consM (frzM (lcC [2] (iterM (varM 0)) (nameG 2) (ret true) (callM m_law_low_v5 (consM (lookM ixD (slM 1) (varM 2)) (consM (appM sumN (consM (frzM (lcC [3] (iterM (varM 0)) (nameG 3) (ret true) (lookM ixD (slM 1) (varM 3)))) (nilM))) (nilM)))))) (nilM)))
def m_law_by_loads : DF := defF N_law_by_loads.length b_law_by_loads
def N_law_loads : List Str := ["_law_well_here", "_law_cases_here", "_law_each"]
def b_law_loads : DS := retS (frzM (appC dictN (consM (frzM (lcC [2] (iterM (varM 1)) (nameG 2) (ret true) (tupM (consM (varM 2) (consM (bin addD (ret (.int 1)) (callM m_law_draw (consM (varM 0) (consM (ret (.int 9)) (nilM))))) (nilM)))))) (nilM))))
def m_law_loads : DF := defF N_law_loads.length b_law_loads
def N_law_view : List Str := ["_law_well_here", "_law_cases_here", "_law_loads_here", "_law_gap", "_law_marks", "_law_found", "_law_each", "_law_lots", "_law_mark", "_law_k", "_law_lot_here", "_law_is_open"]
def b_law_view : DS := seqS (asgS (tupleG [nameG 4, nameG 5]) (tupM (consM (frzM (lcC [6] (iterM (varM 1)) (nameG 6) (ret true) (callM m_law_draw (consM (varM 0) (consM (ret (.int 3)) (nilM)))))) (consM (lstM (nilM)) (nilM))))) (seqS (setS 7 (frzM (lcC [8] (rangeM (consM (ret (.int 3)) (nilM))) (nameG 8) (ret true) (methM "str" (actR joinN) (datM (ret (.str ""))) (consM (frzM (lcC [9] (rangeM (consM (look1M lenD (slM 4)) (nilM))) (nameG 9) (tst (bin eqD (lookM ixD (slM 4) (varM 9)) (varM 8))) (lookM ixD (slM 1) (varM 9)))) (nilM)))))) (seqS (forS (nameG 10) (iterM (appM sortedN (consM (frzM (lcC [6] (iterM (varM 7)) (nameG 6) (tst (bin neD (varM 6) (ret (.str "")))) (varM 6))) (nilM)))) (seqS (setS 11 (andV (bin gtD (varM 3) (ret (.int 0))) (bin eqD (callM m_law_draw (consM (varM 0) (consM (varM 3) (nilM)))) (ret (.int 0))))) (exprS (methM "list" (actW appendN) (slM 5) (consM (tupM (consM (varM 10) (consM (ifM (tst (varM 11)) (ret .non) (callM m_law_by_loads (consM (varM 10) (consM (varM 2) (nilM))))) (nilM)))) (nilM)))))) (retS (appM tupleN (consM (varM 5) (nilM))))))
def m_law_view : DF := defF N_law_view.length b_law_view
def N_law_cases_v2 : List Str := ["_law_well_here", "_law_most", "_law_found", "_law_at", "_law_k"]
def b_law_cases_v2 : DS := seqS (parS 2 3 (consM (ret (.str "")) (consM (callM m_law_draw (consM (varM 0) (consM (ret (.int 4)) (nilM)))) (nilM)))) (seqS (forS (nameG 4) (rangeM (consM (bin addD (ret (.int 2)) (callM m_law_draw (consM (varM 0) (consM (bin subI (varM 1) (ret (.int 1))) (nilM))))) (nilM))) (seqS (setS 2 (bin addD (varM 2) (lookM ixD (datM (ret (.str "abcdefghijklmnopqrstuvwxyz"))) (varM 3)))) (setS 3 (bin addD (bin addD (varM 3) (ret (.int 1))) (callM m_law_draw (consM (varM 0) (consM (ret (.int 2)) (nilM)))))))) (retS (varM 2)))
def m_law_cases_v2 : DF := defF N_law_cases_v2.length b_law_cases_v2
def N_law_holds_v2 : List Str := ["_law_things", "_law_claim_here", "_law_cases_here", "_law_people_here", "_law_fine", "_law_pieces_here", "_law_worth", "_law_piece", "_law_views", "_law_each", "_law_own", "_law_part_here"]
def b_law_holds_v2 : DS := seqS (asgS (tupleG [nameG 2, nameG 3, tupleG [nameG 4, nameG 5, nameG 6]]) (lookM ixD (slM 0) (lookM ixD (slM 1) (ret (.int 1))))) (seqS (ifS (tst (lookM2 inD (lookM ixD (slM 1) (ret (.int 0))) (datM (tupM (consM (ret (.str "sound")) (consM (ret (.str "unsound")) (nilM))))))) (retS (bin eqD (varM 4) (bin eqD (lookM ixD (slM 1) (ret (.int 0))) (ret (.str "sound"))))) (nxS)) (seqS (ifS (tst (bin eqD (lookM ixD (slM 1) (ret (.int 0))) (ret (.str "joined")))) (retS (appM anyN (consM (frzM (lcC [7] (iterM (varM 5)) (nameG 7) (ret true) (andV (lookM2 inD (lookM ixD (slM 1) (ret (.int 2))) (slM 7)) (lookM2 inD (lookM ixD (slM 1) (ret (.int 3))) (slM 7))))) (nilM)))) (nxS)) (seqS (setS 8 (frzM (appC dictN (consM (varM 3) (nilM))))) (seqS (ifS (orT (tst (lookM2 ninD (lookM ixD (slM 1) (ret (.int 2))) (slM 8))) (orT (tst (lookM2 ninD (lookM ixD (slM 1) (ret (.int 3))) (slM 2))) (notT (tst (appM allN (consM (frzM (lcC [9] (iterM (lookM ixD (slM 1) (ret (.int 4)))) (nameG 9) (ret true) (lookM2 inD (varM 9) (slM 2)))) (nilM))))))) (retS (ret (.bl false))) (nxS)) (seqS (setS 10 (lookM ixD (datM (frzM (lcC [11] (iterM (lookM ixD (slM 8) (lookM ixD (slM 1) (ret (.int 2))))) (nameG 11) (tst (lookM2 inD (lookM ixD (slM 1) (ret (.int 3))) (datM (lookM ixD (slM 11) (ret (.int 0)))))) (lookM ixD (slM 11) (ret (.int 0)))))) (ret (.int 0)))) (retS (appM allN (consM (frzM (lcC [9] (iterM (varM 10)) (nameG 9) (ret true) (lookM2 inD (varM 9) (datM (lookM ixD (slM 1) (ret (.int 4))))))) (nilM)))))))))
def m_law_holds_v2 : DF := defF N_law_holds_v2.length b_law_holds_v2
def N_law_claim_v2 : List Str := ["_law_well_here", "_law_things", "_law_names", "_law_there", "_law_name", "_law_cases_here", "_law_way", "_law_one", "_law_other", "_law_event_here", "_law_each"]
def b_law_claim_v2 : DS := seqS (setS 3 (frzM (lcC [4] (iterM (varM 2)) (nameG 4) (tst (lookM2 inD (varM 4) (slM 1))) (varM 4)))) (seqS (setS 4 (ifM (andT (tst (bin neD (varM 3) (lstM (nilM)))) (tst (bin gtD (callM m_law_draw (consM (varM 0) (consM (ret (.int 9)) (nilM)))) (ret (.int 0))))) (lookM ixD (slM 3) (callM m_law_draw (consM (varM 0) (consM (look1M lenD (slM 3)) (nilM))))) (lookM ixD (slM 2) (ret (.int 0))))) (seqS (setS 5 (ifM (tst (lookM2 inD (varM 4) (slM 1))) (lookM ixD (datM (lookM ixD (slM 1) (varM 4))) (ret (.int 0))) (ret (.str "ab")))) (seqS (asgS (tupleG [nameG 6, nameG 7, nameG 8]) (tupM (consM (callM m_law_draw (consM (varM 0) (consM (ret (.int 6)) (nilM)))) (consM (callM m_law_draw (consM (varM 0) (consM (look1M lenD (slM 5)) (nilM)))) (consM (callM m_law_draw (consM (varM 0) (consM (bin addD (look1M lenD (slM 5)) (ret (.int 1))) (nilM)))) (nilM)))))) (seqS (ifS (tst (bin ltD (varM 6) (ret (.int 2)))) (retS (tupM (consM (lookM ixD (datM (lstM (consM (ret (.str "sound")) (consM (ret (.str "unsound")) (nilM))))) (varM 6)) (consM (varM 4) (nilM))))) (nxS)) (seqS (ifS (tst (bin ltD (varM 6) (ret (.int 4)))) (retS (tupM (consM (ret (.str "joined")) (consM (varM 4) (consM (lookM ixD (slM 5) (varM 7)) (consM (lookM ixD (datM (bin addD (varM 5) (ret (.str "z")))) (varM 8)) (nilM))))))) (nxS)) (seqS (setS 9 (methM "str" (actR joinN) (datM (ret (.str ""))) (consM (frzM (lcC [10] (iterM (varM 5)) (nameG 10) (tst (bin gtD (callM m_law_draw (consM (varM 0) (consM (ret (.int 4)) (nilM)))) (ret (.int 0)))) (varM 10))) (nilM)))) (retS (tupM (consM (ret (.str "knows")) (consM (varM 4) (consM (lookM ixD (datM (lstM (consM (ret (.str "ann")) (consM (ret (.str "bob")) (consM (ret (.str "cid")) (consM (ret (.str "dan")) (nilM))))))) (callM m_law_draw (consM (varM 0) (consM (ret (.int 4)) (nilM))))) (consM (lookM ixD (slM 5) (varM 7)) (consM (varM 9) (nilM))))))))))))))
def m_law_claim_v2 : DF := defF N_law_claim_v2.length b_law_claim_v2
def N_law_told : List Str := ["_law_deed_here"]
def b_law_told : DS := retS (ifM (tst (bin eqD (lookM ixD (slM 0) (ret (.int 0))) (ret (.str "set")))) (tupM (consM (ret (.str "set")) (consM (lookM ixD (slM 0) (ret (.int 1))) (consM (callM (makeZ 0 m_Room_init) (consM (lookM ixD (datM (lookM ixD (slM 0) (ret (.int 2)))) (ret (.int 0))) (consM (lookM ixD (datM (lookM ixD (slM 0) (ret (.int 2)))) (ret (.int 1))) (nilM)))) (nilM))))) (varM 0))
def m_law_told : DF := defF N_law_told.length b_law_told
def N_law_put : List Str := ["_law_book", "_law_name", "_law_thing_here"]
def b_law_put : DS := seqS (asgS (ixG (slM 0) (varM 1)) (varM 2)) (retS (ret .non))
def m_law_put : DF := defF N_law_put.length b_law_put
def N_law_with_v2 : List Str := ["_law_people_here", "_law_name", "_law_lot_here", "_law_told_here", "_law_found", "_law_other", "_law_view_here", "_law_fresh", "_law_each", "_law_old"]
def b_law_with_v2 : DS := seqS (ownS 4 (lstC (nilM))) (seqS (forS (tupleG [nameG 5, nameG 6]) (iterM (varM 0)) (seqS (setS 7 (frzM (lcC [8, 9] (iterM (varM 6)) (tupleG [nameG 8, nameG 9]) (ret true) (tupM (consM (varM 8) (consM (ifM (andT (tst (bin eqD (varM 5) (varM 1))) (tst (bin eqD (varM 8) (varM 2)))) (varM 3) (varM 9)) (nilM))))))) (exprS (methM "list" (actW appendN) (slM 4) (consM (tupM (consM (varM 5) (consM (appM tupleN (consM (varM 7) (nilM))) (nilM)))) (nilM)))))) (retS (appM tupleN (consM (varM 4) (nilM)))))
def m_law_with_v2 : DF := defF N_law_with_v2.length b_law_with_v2
def N_law_parts : List Str := ["_law_people_here", "_law_found", "_law_name", "_law_view_here", "_law_lot_here", "_law_told_here"]
def b_law_parts : DS := seqS (setS 1 (lstM (nilM))) (seqS (forS (tupleG [nameG 2, nameG 3]) (iterM (varM 0)) (setS 1 (bin addD (varM 1) (frzM (lcC [4, 5] (iterM (varM 3)) (tupleG [nameG 4, nameG 5]) (ret true) (tupM (consM (varM 2) (consM (varM 4) (consM (varM 5) (nilM)))))))))) (retS (varM 1)))
def m_law_parts : DF := defF N_law_parts.length b_law_parts
def N_law_well_v2 : List Str := ["_law_script", "_law_k", "_law_cell", "_law_part_here", "_law_low_here", "_law_high", "_law_well_here", "_law_turn"]
def b_law_well_v2 : DS := seqS (setS 2 (ifM (tst (bin ltD (varM 1) (look1M lenD (slM 0)))) (lookM ixD (slM 0) (varM 1)) (bin addD (bin mulD (ret (.int 1009)) (varM 1)) (ret (.int 77))))) (seqS (ifS (tst (bin geD (varM 1) (look1M lenD (slM 0)))) (forS (nameG 3) (iterM (sliceM (varM 0) (noPart) (partM (ret (.int 3))))) (setS 2 (bin modI (appM intN (consM (bin addD (bin mulD (varM 2) (ret (.int 30011))) (varM 3)) (nilM))) (ret (.int 1000000007))))) (nxS)) (seqS (setS 4 (bin modI (appM intN (consM (bin powI (bin addD (bin addD (bin modI (appM intN (consM (varM 2) (nilM))) (ret (.int 2147483563))) (bin mulD (ret (.int 3)) (varM 1))) (ret (.int 1))) (ret (.int 5))) (nilM))) (ret (.int 2147483563)))) (seqS (setS 5 (bin modI (appM intN (consM (bin powI (bin addD (bin addD (bin modI (appM intN (consM (varM 2) (nilM))) (ret (.int 2147483399))) (bin mulD (ret (.int 7)) (varM 1))) (ret (.int 2))) (ret (.int 5))) (nilM))) (ret (.int 2147483399)))) (seqS (ownS 6 (lstC (consM (varM 4) (consM (varM 5) (consM (ret (.int 0)) (nilM)))))) (seqS (forS (nameG 7) (rangeM (consM (ret (.int 3)) (nilM))) (exprS (callM m_law_draw (consM (varM 6) (consM (ret (.int 2)) (nilM)))))) (seqS (asgS (ixG (slM 6) (ret (.int 2))) (ifM (tst (bin geD (appM absN (consM (varM 2) (nilM))) (bin powI (ret (.int 10)) (ret (.int 18))))) (appM absN (consM (varM 2) (nilM))) (ret (.int 0)))) (retS (varM 6))))))))
def m_law_well_v2 : DF := defF N_law_well_v2.length b_law_well_v2
def N_law_load : List Str := ["_law_loads_here", "_law_some", "_law_each"]
def b_law_load : DS := retS (appM sumN (consM (frzM (lcC [2] (iterM (varM 1)) (nameG 2) (ret true) (lookM ixD (slM 0) (varM 2)))) (nilM)))
def m_law_load : DF := defF N_law_load.length b_law_load
def N_law_part : List Str := ["_law_people_here", "_law_name", "_law_case_here", "_law_part_here_here"]
def b_law_part : DS := retS (lookM ixD (datM (frzM (lcC [3] (iterM (lookM ixD (datM (frzM (appC dictN (consM (varM 0) (nilM))))) (varM 1))) (nameG 3) (tst (lookM2 inD (varM 2) (datM (lookM ixD (slM 3) (ret (.int 0)))))) (varM 3)))) (ret (.int 0)))
def m_law_part : DF := defF N_law_part.length b_law_part
def N_law_saying_v3 : List Str := ["_law_people_here", "_law_loads_here", "_law_name", "_law_case_here", "_law_event_here", "_law_heard_here", "_law_lot_here", "_law_told_here", "_law_some", "_law_each"]
def b_law_saying_v3 : DS := seqS (asgS (tupleG [nameG 6, nameG 7]) (callM m_law_part (consM (varM 0) (consM (varM 2) (consM (varM 3) (nilM)))))) (seqS (ifS (tst (bin isNoneD (varM 7) (ret .non))) (retS (ret .non)) (nxS)) (seqS (setS 8 (frzM (lcC [9] (iterM (varM 6)) (nameG 9) (tst (lookM2 inD (varM 9) (slM 5))) (varM 9)))) (retS (callM m_law_low_v5 (consM (callM m_law_load (consM (varM 1) (consM (frzM (lcC [9] (iterM (varM 8)) (nameG 9) (tst (lookM2 inD (varM 9) (slM 4))) (varM 9))) (nilM)))) (consM (callM m_law_load (consM (varM 1) (consM (varM 8) (nilM)))) (nilM)))))))
def m_law_saying_v3 : DF := defF N_law_saying_v3.length b_law_saying_v3
def N_law_talk : List Str := ["_law_people_here", "_law_cases_here", "_law_loads_here", "_law_case_here", "_law_event_here", "_law_heard_here", "_law_still", "_law_found", "_law_turn", "_law_step_here", "_law_name", "_law_own", "_law_fresh", "_law_each"]
def b_law_talk : DS := seqS (asgS (tupleG [nameG 5, nameG 6, nameG 7, nameG 8]) (tupM (consM (varM 1) (consM (ret (.int 0)) (consM (lstM (nilM)) (consM (ret (.int 0)) (nilM))))))) (seqS (forS (nameG 9) (rangeM (consM (ret (.int 40)) (nilM))) (ifS (tst (bin ltD (varM 6) (look1M lenD (slM 0)))) (seqS (setS 10 (lookM ixD (datM (lookM ixD (slM 0) (varM 8))) (ret (.int 0)))) (seqS (setS 11 (callM m_law_saying_v3 (consM (varM 0) (consM (varM 2) (consM (varM 10) (consM (varM 3) (consM (varM 4) (consM (varM 5) (nilM))))))))) (seqS (setS 12 (ret (.str ""))) (seqS (forS (nameG 13) (iterM (varM 5)) (ifS (tst (bin eqD (callM m_law_saying_v3 (consM (varM 0) (consM (varM 2) (consM (varM 10) (consM (varM 13) (consM (varM 4) (consM (varM 5) (nilM)))))))) (varM 11))) (setS 12 (bin addD (varM 12) (varM 13))) (nxS))) (seqS (setS 6 (ifM (tst (bin eqD (varM 12) (varM 5))) (bin addD (varM 6) (ret (.int 1))) (ret (.int 0)))) (seqS (exprS (methM "list" (actW appendN) (slM 7) (consM (tupM (consM (tupM (consM (varM 10) (consM (varM 11) (nilM)))) (consM (varM 12) (nilM)))) (nilM)))) (parS 5 8 (consM (varM 12) (consM (bin modI (appM intN (consM (bin addD (varM 8) (ret (.int 1))) (nilM))) (look1M lenD (slM 0))) (nilM)))))))))) (nxS))) (retS (varM 7)))
def m_law_talk : DF := defF N_law_talk.length b_law_talk
end LK
set_option Elab.async false
set_option linter.all false
set_option maxRecDepth 100000
set_option maxHeartbeats 4000000
namespace LK
open PySem PySem.Spec PyProof.Rows L2 He DP
def top (i : Nat) : Stmt := PySem.Challenge.pw_oneprior_k22_rooms_that_agree_to_differ.main.body.getD i (.Pass ⟨0, 0, 0, 0⟩)
def sub (i j : Nat) : Stmt := match top i with
  | .ClassDef _ _ _ b _ _ _ _ _ _ _ => b.getD j (.Pass ⟨0, 0, 0, 0⟩)
  | s => s
def fl0 : List Str := ["all_cases", "all_people", "words", "views"]
def ct (K : PySem.W.Frag) : CT := ⟨fun n => match n with
  | 0 => ga K "Room"
  | _ => 0, fun n => match n with
  | 0 => fl0
  | _ => []⟩
structure KF (K : PySem.W.Frag) (mg : Str → Option Value) : Prop where
  g_law : mg "law" = some (.ref (ga K "law"))
  b_len : mg "len" = none
  b_min : mg "min" = none
  b_max : mg "max" = none
  b_range : mg "range" = none
  b_int : mg "int" = none
  b_divmod : mg "divmod" = none
  g_law_sip : mg "_law_sip" = some (.ref (ga K "_law_sip"))
  b_abs : mg "abs" = none
  g_law_low : mg "_law_low" = some (.ref (ga K "_law_low"))
  b_str : mg "str" = none
  b_isinstance : mg "isinstance" = none
  i_MOST_CASES_8 : ∃ t, mg "MOST_CASES" = some (.int 8 t)
  s_LETTERS : ∃ t, mg "LETTERS" = some (.str "abcdefghijklmnopqrstuvwxyz" t)
  b_all : mg "all" = none
  g_is_rising : mg "is_rising" = some (.ref (ga K "is_rising"))
  g_are_cases : mg "are_cases" = some (.ref (ga K "are_cases"))
  b_tuple : mg "tuple" = none
  i_MOST_PEOPLE_4 : ∃ t, mg "MOST_PEOPLE" = some (.int 4 t)
  i_MOST_SIGNS_8 : ∃ t, mg "MOST_SIGNS" = some (.int 8 t)
  g_is_name : mg "is_name" = some (.ref (ga K "is_name"))
  g_is_lot : mg "is_lot" = some (.ref (ga K "is_lot"))
  b_bool : mg "bool" = none
  g_is_between : mg "is_between" = some (.ref (ga K "is_between"))
  g_common : mg "common" = some (.ref (ga K "common"))
  g_is_fraction : mg "is_fraction" = some (.ref (ga K "is_fraction"))
  i_MOST_BOTTOM_1000000000 : ∃ t, mg "MOST_BOTTOM" = some (.int 1000000000 t)
  g_ZERO : mg "ZERO" = some (.ref (ga K "ZERO"))
  t_ZERO : tupB1 K "ZERO" (([0, 1] : List Int).map V.int) = true
  g_lowest : mg "lowest" = some (.ref (ga K "lowest"))
  g_add : mg "add" = some (.ref (ga K "add"))
  g_total : mg "total" = some (.ref (ga K "total"))
  g_ONE : mg "ONE" = some (.ref (ga K "ONE"))
  t_ONE : tupB1 K "ONE" (([1, 1] : List Int).map V.int) = true
  g_is_told : mg "is_told" = some (.ref (ga K "is_told"))
  g_is_part : mg "is_part" = some (.ref (ga K "is_part"))
  b_list : mg "list" = none
  b_sorted : mg "sorted" = none
  g_is_view : mg "is_view" = some (.ref (ga K "is_view"))
  g_is_person : mg "is_person" = some (.ref (ga K "is_person"))
  g_are_people : mg "are_people" = some (.ref (ga K "are_people"))
  c_Room : (Fa.cls "Room").ok K = true
  n_Room_all_cases : (Fa.noat "Room" "all_cases").ok K = true
  n_Room_all_people : (Fa.noat "Room" "all_people").ok K = true
  g_text_of : mg "text_of" = some (.ref (ga K "text_of"))
  n_Room_words : (Fa.noat "Room" "words").ok K = true
  b_dict : mg "dict" = none
  n_Room_views : (Fa.noat "Room" "views").ok K = true
  g_Room : mg "Room" = some (.ref (ga K "Room"))
  mk_Room : (Fa.mkr "Room").ok K = true
  kn_Room : kitN K "Room" = true
  in_Room : insB K "Room" = true
  kr_Room_Room_true : kitR K "Room" (.ref (ga K "Room")) true = true
  g_check_room : mg "check_room" = some (.ref (ga K "check_room"))
  me_Room_check_case : (Fa.meth "Room" "check_case").ok K = true
  me_Room_check_lot : (Fa.meth "Room" "check_lot").ok K = true
  g_check_asked : mg "check_asked" = some (.ref (ga K "check_asked"))
  pr_Room_cases : propB K (ga K "Room") "cases" = true
  pr_Room_names : propB K (ga K "Room") "names" = true
  me_Room_part_of : (Fa.meth "Room" "part_of").ok K = true
  b_enumerate : mg "enumerate" = none
  g_over : mg "over" = some (.ref (ga K "over"))
  g_saying_of : mg "saying_of" = some (.ref (ga K "saying_of"))
  g_heard_behind : mg "heard_behind" = some (.ref (ga K "heard_behind"))
  g_walk_through : mg "walk_through" = some (.ref (ga K "walk_through"))
  g_sayings : mg "sayings" = some (.ref (ga K "sayings"))
  g_heard_at_last : mg "heard_at_last" = some (.ref (ga K "heard_at_last"))
  g_last_of : mg "last_of" = some (.ref (ga K "last_of"))
  g_last_sayings : mg "last_sayings" = some (.ref (ga K "last_sayings"))
  g_are_alike : mg "are_alike" = some (.ref (ga K "are_alike"))
  g_agree : mg "agree" = some (.ref (ga K "agree"))
  g_most_sayings : mg "most_sayings" = some (.ref (ga K "most_sayings"))
  me_Room_check_name : (Fa.meth "Room" "check_name").ok K = true
  me_Room_check_part : (Fa.meth "Room" "check_part").ok K = true
  me_Room_told : (Fa.meth "Room" "told").ok K = true
  me_Room_changed : (Fa.meth "Room" "changed").ok K = true
  me_Room_without_told : (Fa.meth "Room" "without_told").ok K = true
  g_law_pair_right : mg "_law_pair_right" = some (.ref (ga K "_law_pair_right"))
  i_MOST_DIGITS_10 : ∃ t, mg "MOST_DIGITS" = some (.int 10 t)
  s_DIGITS : ∃ t, mg "DIGITS" = some (.str "0123456789" t)
  b_any : mg "any" = none
  g_natural_in : mg "natural_in" = some (.ref (ga K "natural_in"))
  g_fraction_in : mg "fraction_in" = some (.ref (ga K "fraction_in"))
  g_told_in : mg "told_in" = some (.ref (ga K "told_in"))
  g_people_in : mg "people_in" = some (.ref (ga K "people_in"))
  g_room_in : mg "room_in" = some (.ref (ga K "room_in"))
  rd_Room : readB K (ga K "Room") = true
  wr_Room_read : He5.wrapB K (ga K "Room") "staticmethod" "staticmethod.__get__" "read" = true
  g_law_right : mg "_law_right" = some (.ref (ga K "_law_right"))
  g_law_cup : mg "_law_cup" = some (.ref (ga K "_law_cup"))
  d_law_sip : ∃ fd, FunD K "_law_sip" "_law_sip" (defArgs (top 62)) (defBody (top 62)) (defScope (top 62)) [] [] (ga K "_law_sip") fd
  d_law_low_v2 : ∃ fd, FunD K "_law_low" "_law_low" (defArgs (top 63)) (defBody (top 63)) (defScope (top 63)) [] [] (ga K "_law_low") fd
  d_is_rising : ∃ fd, FunD K "is_rising" "is_rising" (defArgs (top 31)) (defBody (top 31)) (defScope (top 31)) [] [] (ga K "is_rising") fd
  d_are_cases : ∃ fd, FunD K "are_cases" "are_cases" (defArgs (top 32)) (defBody (top 32)) (defScope (top 32)) [] [] (ga K "are_cases") fd
  d_is_name : ∃ fd, FunD K "is_name" "is_name" (defArgs (top 34)) (defBody (top 34)) (defScope (top 34)) [] [] (ga K "is_name") fd
  d_is_lot : ∃ fd, FunD K "is_lot" "is_lot" (defArgs (top 33)) (defBody (top 33)) (defScope (top 33)) [] [] (ga K "is_lot") fd
  d_is_between : ∃ fd, FunD K "is_between" "is_between" (defArgs (top 16)) (defBody (top 16)) (defScope (top 16)) [] [] (ga K "is_between") fd
  d_common : ∃ fd, FunD K "common" "common" (defArgs (top 17)) (defBody (top 17)) (defScope (top 17)) [] [] (ga K "common") fd
  d_is_fraction : ∃ fd, FunD K "is_fraction" "is_fraction" (defArgs (top 19)) (defBody (top 19)) (defScope (top 19)) [] [] (ga K "is_fraction") fd
  d_lowest : ∃ fd, FunD K "lowest" "lowest" (defArgs (top 18)) (defBody (top 18)) (defScope (top 18)) [] [] (ga K "lowest") fd
  d_add : ∃ fd, FunD K "add" "add" (defArgs (top 20)) (defBody (top 20)) (defScope (top 20)) [] [] (ga K "add") fd
  d_total : ∃ fd, FunD K "total" "total" (defArgs (top 22)) (defBody (top 22)) (defScope (top 22)) [] [] (ga K "total") fd
  d_is_told : ∃ fd, FunD K "is_told" "is_told" (defArgs (top 35)) (defBody (top 35)) (defScope (top 35)) [] [] (ga K "is_told") fd
  d_is_part : ∃ fd, FunD K "is_part" "is_part" (defArgs (top 36)) (defBody (top 36)) (defScope (top 36)) [] [] (ga K "is_part") fd
  d_is_view : ∃ fd, FunD K "is_view" "is_view" (defArgs (top 37)) (defBody (top 37)) (defScope (top 37)) [] [] (ga K "is_view") fd
  d_is_person : ∃ fd, FunD K "is_person" "is_person" (defArgs (top 38)) (defBody (top 38)) (defScope (top 38)) [] [] (ga K "is_person") fd
  d_are_people : ∃ fd, FunD K "are_people" "are_people" (defArgs (top 39)) (defBody (top 39)) (defScope (top 39)) [] [] (ga K "are_people") fd
  d_text_of : ∃ fd, FunD K "text_of" "text_of" (defArgs (top 40)) (defBody (top 40)) (defScope (top 40)) [] [] (ga K "text_of") fd
  d_Room_init : ∃ fd, FunD K "__init__" "Room.__init__" (defArgs (sub 46 0)) (defBody (sub 46 0)) (defScope (sub 46 0)) [] [] (ma K (ga K "Room") "__init__") fd
  d_check_room : ∃ fd, FunD K "check_room" "check_room" (defArgs (top 47)) (defBody (top 47)) (defScope (top 47)) [] [] (ga K "check_room") fd
  d_Room_check_case : ∃ fd, FunD K "check_case" "Room.check_case" (defArgs (sub 46 8)) (defBody (sub 46 8)) (defScope (sub 46 8)) [] [] (ma K (ga K "Room") "check_case") fd
  d_Room_check_lot : ∃ fd, FunD K "check_lot" "Room.check_lot" (defArgs (sub 46 9)) (defBody (sub 46 9)) (defScope (sub 46 9)) [] [] (ma K (ga K "Room") "check_lot") fd
  d_check_asked : ∃ fd, FunD K "check_asked" "check_asked" (defArgs (top 53)) (defBody (top 53)) (defScope (top 53)) [] [] (ga K "check_asked") fd
  d_Room_cases : ∃ fd, FunD K "cases" "Room.cases" (defArgs (sub 46 2)) (defBody (sub 46 2)) (defScope (sub 46 2)) [] [] (He5.wf K (ga K "Room") "property" "cases") fd
  d_Room_names : ∃ fd, FunD K "names" "Room.names" (defArgs (sub 46 5)) (defBody (sub 46 5)) (defScope (sub 46 5)) [] [] (He5.wf K (ga K "Room") "property" "names") fd
  d_Room_part_of : ∃ fd, FunD K "part_of" "Room.part_of" (defArgs (sub 46 11)) (defBody (sub 46 11)) (defScope (sub 46 11)) [] [] (ma K (ga K "Room") "part_of") fd
  d_over : ∃ fd, FunD K "over" "over" (defArgs (top 21)) (defBody (top 21)) (defScope (top 21)) [] [] (ga K "over") fd
  d_saying_of : ∃ fd, FunD K "saying_of" "saying_of" (defArgs (top 49)) (defBody (top 49)) (defScope (top 49)) [] [] (ga K "saying_of") fd
  d_heard_behind : ∃ fd, FunD K "heard_behind" "heard_behind" (defArgs (top 50)) (defBody (top 50)) (defScope (top 50)) [] [] (ga K "heard_behind") fd
  d_walk_through : ∃ fd, FunD K "walk_through" "walk_through" (defArgs (top 51)) (defBody (top 51)) (defScope (top 51)) [] [] (ga K "walk_through") fd
  d_sayings : ∃ fd, FunD K "sayings" "sayings" (defArgs (top 54)) (defBody (top 54)) (defScope (top 54)) [] [] (ga K "sayings") fd
  d_heard_at_last : ∃ fd, FunD K "heard_at_last" "heard_at_last" (defArgs (top 55)) (defBody (top 55)) (defScope (top 55)) [] [] (ga K "heard_at_last") fd
  d_last_of : ∃ fd, FunD K "last_of" "last_of" (defArgs (top 52)) (defBody (top 52)) (defScope (top 52)) [] [] (ga K "last_of") fd
  d_last_sayings : ∃ fd, FunD K "last_sayings" "last_sayings" (defArgs (top 56)) (defBody (top 56)) (defScope (top 56)) [] [] (ga K "last_sayings") fd
  d_are_alike : ∃ fd, FunD K "are_alike" "are_alike" (defArgs (top 57)) (defBody (top 57)) (defScope (top 57)) [] [] (ga K "are_alike") fd
  d_agree : ∃ fd, FunD K "agree" "agree" (defArgs (top 58)) (defBody (top 58)) (defScope (top 58)) [] [] (ga K "agree") fd
  d_most_sayings : ∃ fd, FunD K "most_sayings" "most_sayings" (defArgs (top 59)) (defBody (top 59)) (defScope (top 59)) [] [] (ga K "most_sayings") fd
  d_Room_check_name : ∃ fd, FunD K "check_name" "Room.check_name" (defArgs (sub 46 7)) (defBody (sub 46 7)) (defScope (sub 46 7)) [] [] (ma K (ga K "Room") "check_name") fd
  d_Room_check_part : ∃ fd, FunD K "check_part" "Room.check_part" (defArgs (sub 46 10)) (defBody (sub 46 10)) (defScope (sub 46 10)) [] [] (ma K (ga K "Room") "check_part") fd
  d_Room_told : ∃ fd, FunD K "told" "Room.told" (defArgs (sub 46 13)) (defBody (sub 46 13)) (defScope (sub 46 13)) [] [] (ma K (ga K "Room") "told") fd
  d_Room_changed : ∃ fd, FunD K "changed" "Room.changed" (defArgs (sub 46 14)) (defBody (sub 46 14)) (defScope (sub 46 14)) [] [] (ma K (ga K "Room") "changed") fd
  d_Room_without_told : ∃ fd, FunD K "without_told" "Room.without_told" (defArgs (sub 46 16)) (defBody (sub 46 16)) (defScope (sub 46 16)) [] [] (ma K (ga K "Room") "without_told") fd
  d_law_pair_right : ∃ fd, FunD K "_law_pair_right" "_law_pair_right" (defArgs (top 64)) (defBody (top 64)) (defScope (top 64)) [] [] (ga K "_law_pair_right") fd
  d_natural_in : ∃ fd, FunD K "natural_in" "natural_in" (defArgs (top 41)) (defBody (top 41)) (defScope (top 41)) [] [] (ga K "natural_in") fd
  d_fraction_in : ∃ fd, FunD K "fraction_in" "fraction_in" (defArgs (top 42)) (defBody (top 42)) (defScope (top 42)) [] [] (ga K "fraction_in") fd
  d_told_in : ∃ fd, FunD K "told_in" "told_in" (defArgs (top 43)) (defBody (top 43)) (defScope (top 43)) [] [] (ga K "told_in") fd
  d_people_in : ∃ fd, FunD K "people_in" "people_in" (defArgs (top 44)) (defBody (top 44)) (defScope (top 44)) [] [] (ga K "people_in") fd
  d_room_in : ∃ fd, FunD K "room_in" "room_in" (defArgs (top 45)) (defBody (top 45)) (defScope (top 45)) [] [] (ga K "room_in") fd
  d_Room_read : ∃ fd, FunD K "read" "Room.read" (defArgs (sub 46 1)) (defBody (sub 46 1)) (defScope (sub 46 1)) [] [] (He5.wf K (ga K "Room") "staticmethod" "read") fd
  d_law_right_v21 : ∃ fd, FunD K "_law_right" "_law_right" (defArgs (top 65)) (defBody (top 65)) (defScope (top 65)) [] [] (ga K "_law_right") fd
  d_law_cup : ∃ fd, FunD K "_law_cup" "_law_cup" (defArgs (top 61)) (defBody (top 61)) (defScope (top 61)) [] [] (ga K "_law_cup") fd
  d_law : ∃ fd, FunD K "law" "law" (defArgs (top 66)) (defBody (top 66)) (defScope (top 66)) [] [] (ga K "law") fd
abbrev s_law_sip : Stmt := top 62
theorem sc_law_sip : FnScope N_law_sip ["_law_cup_here", "_law_top"] (defScope s_law_sip) := ⟨rfl, rfl, rfl, by decide +kernel, rfl, by decide +kernel, by decide +kernel⟩
theorem ok_law_sip {P : Program} {w : World} {K : PySem.W.Frag} {mg : Str → Option Value} {base : Heap} (kf : KF K mg) : DefOk P w K mg base (ct K) (ga K "_law_sip") 1 2 m_law_sip := by
  obtain ⟨fd, F⟩ := kf.d_law_sip
  exact fn_ofF F sc_law_sip (fun _ _ _ _ _ _ us hl => match us, hl with | [_, _], _ => rfl) (fun cdv A outer s H E hr hg => sts_cons (st_asg (de_op o_modI (de_callTy c_int rfl kf.b_int boot_int (da_cons (de_op o_add (de_op o_mul (de_ixL (u1 hr) (dl_var 0 rfl (Or.inl rfl)) (de_int)) (de_int)) (de_int)) (da_nil))) (de_int)) (tg_ix (u1 hr) (dl_var 0 rfl (Or.inl rfl)) (de_int))) (sts_cons (st_if (dt_cmp o_gt (de_ixL (u1 hr) (dl_var 0 rfl (Or.inl rfl)) (de_int)) (de_int) (nomark _)) (sts_cons (st_asg (de_callB c_divmod rfl kf.b_divmod boot_divmod (da_cons (de_ixL (u1 hr) (dl_var 0 rfl (Or.inl rfl)) (de_int)) (da_cons (de_var 1 rfl (Or.inl rfl)) (da_nil)))) (tg_tup K rfl (tgs_cons (tg_ix (u1 hr) (dl_var 0 rfl (Or.inl rfl)) (de_int)) (tgs_cons (tg_name (i := 2) sc_law_sip.nd rfl (Or.inl rfl)) (tgs_nil))))) (sts_one (st_ret (de_var 2 rfl (Or.inl rfl))))) (sts_nil)) (sts_one (st_ret (de_op o_modI (de_callTy c_int rfl kf.b_int boot_int (da_cons (de_op o_divI (de_ixL (u1 hr) (dl_var 0 rfl (Or.inl rfl)) (de_int)) (de_int)) (da_nil))) (de_var 1 rfl (Or.inl rfl)))))))

abbrev s_law_low_v2 : Stmt := top 63
theorem sc_law_low_v2 : FnScope N_law_low_v2 ["_law_top", "_law_bottom"] (defScope s_law_low_v2) := ⟨rfl, rfl, rfl, by decide +kernel, rfl, by decide +kernel, by decide +kernel⟩
theorem ok_law_low_v2 {P : Program} {w : World} {K : PySem.W.Frag} {mg : Str → Option Value} {base : Heap} (kf : KF K mg) : DefOk P w K mg base (ct K) (ga K "_law_low") 1 2 m_law_low_v2 := by
  obtain ⟨fd, F⟩ := kf.d_law_low_v2
  exact fn_ofF F sc_law_low_v2 (fun _ _ _ _ _ _ us hl => match us, hl with | [_, _], _ => rfl) (fun cdv A outer s H E hr hg => sts_cons (st_par2 (i := 2) (j := 3) rfl sc_law_low_v2.nd rfl rfl (by decide) rfl rfl (da_cons (de_callB c_abs rfl kf.b_abs boot_abs (da_cons (de_var 0 rfl (Or.inl rfl)) (da_nil))) (da_cons (de_var 1 rfl (Or.inl rfl)) (da_nil))) rfl) (sts_cons (st_for (passes_of rfl) rfl (di_range1 rfl kf.b_range (da_cons (de_int) (da_nil)) (len1 (len0))) (tg_name (i := 4) sc_law_low_v2.nd rfl (Or.inl rfl)) (sts_cons (st_if (dt_cmp (o_eqD (u64 hr)) (de_var 3 rfl (Or.inl rfl)) (de_int) (nomark _)) (sts_one (st_ret (de_tup (da_cons (de_op o_divI (de_var 0 rfl (Or.inl rfl)) (de_var 2 rfl (Or.inl rfl))) (da_cons (de_op o_divI (de_var 1 rfl (Or.inl rfl)) (de_var 2 rfl (Or.inl rfl))) (da_nil)))))) (sts_nil)) (sts_one (st_par2 (i := 2) (j := 3) rfl sc_law_low_v2.nd rfl rfl (by decide) rfl rfl (da_cons (de_var 3 rfl (Or.inl rfl)) (da_cons (de_op o_modI (de_var 2 rfl (Or.inl rfl)) (de_var 3 rfl (Or.inl rfl))) (da_nil))) rfl)))) (sts_one (st_ret (de_tup (da_cons (de_var 0 rfl (Or.inl rfl)) (da_cons (de_var 1 rfl (Or.inl rfl)) (da_nil))))))))

abbrev s_is_rising : Stmt := top 31
theorem sc_is_rising : FnScope N_is_rising ["value"] (defScope s_is_rising) := ⟨rfl, rfl, rfl, by decide +kernel, rfl, by decide +kernel, by decide +kernel⟩
theorem ok_is_rising {P : Program} {w : World} {K : PySem.W.Frag} {mg : Str → Option Value} {base : Heap} (kf : KF K mg) : DefOk P w K mg base (ct K) (ga K "is_rising") 1 1 m_is_rising := by
  obtain ⟨fd, F⟩ := kf.d_is_rising
  exact fn_ofF F sc_is_rising (fun _ _ _ _ _ _ us hl => match us, hl with | [_], _ => rfl) (fun cdv A outer s H E hr hg => sts_one (st_ret (de_callB (c_all rfl) rfl kf.b_all boot_all (da_cons (FE.de (fe_lc (own := [("place", 1)]) rfl sc_is_rising.nd (di_range1 rfl kf.b_range (da_cons (de_op o_subI (de_look1 c_lenL rfl kf.b_len boot_len (dl_var 0 rfl (Or.inr (Or.inl rfl)))) (de_int)) (da_nil)) (len1 (len0))) (blkOk_by (N := N_is_rising) (sc := defScope s_is_rising) (by decide +kernel)) (fun _ _ _ _ _ => tg_name (i := 1) sc_is_rising.nd rfl (Or.inl rfl)) (fun _ _ _ _ _ => dts_nil) (fun _ _ _ _ _ => de_cmp o_lt (de_ixL (u1 hr) (dl_var 0 rfl (Or.inr (Or.inl rfl))) (de_var 1 rfl (Or.inl rfl))) (de_ixL (u1 hr) (dl_var 0 rfl (Or.inr (Or.inl rfl))) (de_op o_add (de_var 1 rfl (Or.inl rfl)) (de_int))) (nomark _)) (by decide))) (da_nil)))))

abbrev s_are_cases : Stmt := top 32
theorem sc_are_cases : FnScope N_are_cases ["value"] (defScope s_are_cases) := ⟨rfl, rfl, rfl, by decide +kernel, rfl, by decide +kernel, by decide +kernel⟩
theorem ok_are_cases {P : Program} {w : World} {K : PySem.W.Frag} {mg : Str → Option Value} {base : Heap} (kf : KF K mg) : DefOk P w K mg base (ct K) (ga K "are_cases") 2 1 m_are_cases := by
  obtain ⟨fd, F⟩ := kf.d_are_cases
  exact fn_ofF F sc_are_cases (fun _ _ _ _ _ _ us hl => match us, hl with | [_], _ => rfl) (fun cdv A outer s H E hr hg => sts_cons (st_if (DW.t (dw_or (dt_not (dt_val (de_isi (isf_b (T := "str") (by decide) own_no) (.ty "str") (pe_bltn rfl kf.b_str boot_str rfl) rfl kf.b_isinstance (de_var 0 rfl (Or.inl rfl))))) (dw_or1 (dt_not (dt_chain o_le o_le (de_int) (de_look1 c_lenL rfl kf.b_len boot_len (dl_var 0 rfl (Or.inl rfl))) (de_gint (x := "MOST_CASES") (i := 8) ⟨kf.i_MOST_CASES_8⟩ rfl)))))) (sts_one (st_ret (de_bl))) (sts_nil)) (sts_one (st_ret (de_and (de_callB (c_all rfl) rfl kf.b_all boot_all (da_cons (FE.de (fe_lc (own := [("sign", 1)]) rfl sc_are_cases.nd (di_iter (de_var 0 rfl (Or.inl rfl)) pi_str) (blkOk_by (N := N_are_cases) (sc := defScope s_are_cases) (by decide +kernel)) (fun _ _ _ _ _ => tg_name (i := 1) sc_are_cases.nd rfl (Or.inl rfl)) (fun _ _ _ _ _ => dts_nil) (fun _ _ _ _ _ => de_inL (o_inL (u66 hr)) (de_var 1 rfl (Or.inl rfl)) (DE.dl (de_gstr (x := "LETTERS") (z := "abcdefghijklmnopqrstuvwxyz") ⟨kf.s_LETTERS⟩ rfl)) (by rfl)) (by decide))) (da_nil))) (de_one (de_call (DefOk.fnx (ok_is_rising kf) (hr.mono (by decide)) kf.g_is_rising) (takes_of rfl rfl rfl rfl) hg rfl (da_cons (de_var 0 rfl (Or.inl rfl)) (da_nil)) rfl (hlen := (len1 (len0)))))))))

abbrev s_is_name : Stmt := top 34
theorem sc_is_name : FnScope N_is_name ["value"] (defScope s_is_name) := ⟨rfl, rfl, rfl, by decide +kernel, rfl, by decide +kernel, by decide +kernel⟩
theorem ok_is_name {P : Program} {w : World} {K : PySem.W.Frag} {mg : Str → Option Value} {base : Heap} (kf : KF K mg) : DefOk P w K mg base (ct K) (ga K "is_name") 1 1 m_is_name := by
  obtain ⟨fd, F⟩ := kf.d_is_name
  exact fn_ofF F sc_is_name (fun _ _ _ _ _ _ us hl => match us, hl with | [_], _ => rfl) (fun cdv A outer s H E hr hg => sts_cons (st_if (DW.t (dw_or (dt_not (dt_val (de_isi (isf_b (T := "str") (by decide) own_no) (.ty "str") (pe_bltn rfl kf.b_str boot_str rfl) rfl kf.b_isinstance (de_var 0 rfl (Or.inl rfl))))) (dw_or1 (dt_not (dt_chain o_le o_le (de_int) (de_look1 c_lenL rfl kf.b_len boot_len (dl_var 0 rfl (Or.inl rfl))) (de_gint (x := "MOST_SIGNS") (i := 8) ⟨kf.i_MOST_SIGNS_8⟩ rfl)))))) (sts_one (st_ret (de_bl))) (sts_nil)) (sts_one (st_ret (de_callB (c_all rfl) rfl kf.b_all boot_all (da_cons (FE.de (fe_lc (own := [("sign", 1)]) rfl sc_is_name.nd (di_iter (de_var 0 rfl (Or.inl rfl)) pi_str) (blkOk_by (N := N_is_name) (sc := defScope s_is_name) (by decide +kernel)) (fun _ _ _ _ _ => tg_name (i := 1) sc_is_name.nd rfl (Or.inl rfl)) (fun _ _ _ _ _ => dts_nil) (fun _ _ _ _ _ => de_inL (o_inL (u66 hr)) (de_var 1 rfl (Or.inl rfl)) (DE.dl (de_gstr (x := "LETTERS") (z := "abcdefghijklmnopqrstuvwxyz") ⟨kf.s_LETTERS⟩ rfl)) (by rfl)) (by decide))) (da_nil))))))

abbrev s_is_lot : Stmt := top 33
theorem sc_is_lot : FnScope N_is_lot ["value", "cases"] (defScope s_is_lot) := ⟨rfl, rfl, rfl, by decide +kernel, rfl, by decide +kernel, by decide +kernel⟩
theorem ok_is_lot {P : Program} {w : World} {K : PySem.W.Frag} {mg : Str → Option Value} {base : Heap} (kf : KF K mg) : DefOk P w K mg base (ct K) (ga K "is_lot") 2 2 m_is_lot := by
  obtain ⟨fd, F⟩ := kf.d_is_lot
  exact fn_ofF F sc_is_lot (fun _ _ _ _ _ _ us hl => match us, hl with | [_, _], _ => rfl) (fun cdv A outer s H E hr hg => sts_one (st_ret (de_and (de_isi (isf_b (T := "str") (by decide) own_no) (.ty "str") (pe_bltn rfl kf.b_str boot_str rfl) rfl kf.b_isinstance (de_var 0 rfl (Or.inl rfl))) (de_and (de_callB (c_all rfl) rfl kf.b_all boot_all (da_cons (FE.de (fe_lc (own := [("sign", 2)]) rfl sc_is_lot.nd (di_iter (de_var 0 rfl (Or.inl rfl)) pi_str) (blkOk_by (N := N_is_lot) (sc := defScope s_is_lot) (by decide +kernel)) (fun _ _ _ _ _ => tg_name (i := 2) sc_is_lot.nd rfl (Or.inl rfl)) (fun _ _ _ _ _ => dts_nil) (fun _ _ _ _ _ => de_inL (o_inL (u66 hr)) (de_var 2 rfl (Or.inl rfl)) (dl_var 1 rfl (Or.inr (Or.inl rfl))) (by rfl)) (by decide))) (da_nil))) (de_one (de_call (DefOk.fnx (ok_is_rising kf) (hr.mono (by decide)) kf.g_is_rising) (takes_of rfl rfl rfl rfl) hg rfl (da_cons (de_var 0 rfl (Or.inl rfl)) (da_nil)) rfl (hlen := (len1 (len0)))))))))

abbrev s_is_between : Stmt := top 16
theorem sc_is_between : FnScope N_is_between ["value", "least", "most"] (defScope s_is_between) := ⟨rfl, rfl, rfl, by decide +kernel, rfl, by decide +kernel, by decide +kernel⟩
theorem ok_is_between {P : Program} {w : World} {K : PySem.W.Frag} {mg : Str → Option Value} {base : Heap} (kf : KF K mg) : DefOk P w K mg base (ct K) (ga K "is_between") 1 3 m_is_between := by
  obtain ⟨fd, F⟩ := kf.d_is_between
  exact fn_ofF F sc_is_between (fun _ _ _ _ _ _ us hl => match us, hl with | [_, _, _], _ => rfl) (fun cdv A outer s H E hr hg => sts_cons (st_if (DW.t (dw_or (dt_not (dt_val (de_isi (isf_b (T := "int") (by decide) own_no) (.ty "int") (pe_bltn rfl kf.b_int boot_int rfl) rfl kf.b_isinstance (de_var 0 rfl (Or.inl rfl))))) (dw_or1 (dt_val (de_isi (isf_b (T := "bool") (by decide) own_no) (.ty "bool") (pe_bltn rfl kf.b_bool boot_bool rfl) rfl kf.b_isinstance (de_var 0 rfl (Or.inl rfl))))))) (sts_one (st_ret (de_bl))) (sts_nil)) (sts_one (st_ret (de_and (de_or (de_cmp o_isN (de_var 1 rfl (Or.inl rfl)) (de_non) (nomark _)) (de_one (de_cmp o_ge (de_var 0 rfl (Or.inl rfl)) (de_var 1 rfl (Or.inl rfl)) (nomark _)))) (de_one (de_or (de_cmp o_isN (de_var 2 rfl (Or.inl rfl)) (de_non) (nomark _)) (de_one (de_cmp o_le (de_var 0 rfl (Or.inl rfl)) (de_var 2 rfl (Or.inl rfl)) (nomark _)))))))))

abbrev s_common : Stmt := top 17
theorem sc_common : FnScope N_common ["first", "last"] (defScope s_common) := ⟨rfl, rfl, rfl, by decide +kernel, rfl, by decide +kernel, by decide +kernel⟩
theorem ok_common {P : Program} {w : World} {K : PySem.W.Frag} {mg : Str → Option Value} {base : Heap} (kf : KF K mg) : DefOk P w K mg base (ct K) (ga K "common") 1 2 m_common := by
  obtain ⟨fd, F⟩ := kf.d_common
  exact fn_ofF F sc_common (fun _ _ _ _ _ _ us hl => match us, hl with | [_, _], _ => rfl) (fun cdv A outer s H E hr hg => sts_cons (st_set (i := 0) sc_common.nd rfl (Or.inl rfl) (de_callB c_abs rfl kf.b_abs boot_abs (da_cons (de_var 0 rfl (Or.inl rfl)) (da_nil)))) (sts_cons (st_while 1000000000 (passes_of rfl) (dt_cmp o_gt (de_var 1 rfl (Or.inl rfl)) (de_int) (nomark _)) (sts_one (st_par2 (i := 0) (j := 1) rfl sc_common.nd rfl rfl (by decide) rfl rfl (da_cons (de_var 1 rfl (Or.inl rfl)) (da_cons (de_op o_modI (de_callTy c_int rfl kf.b_int boot_int (da_cons (de_var 0 rfl (Or.inl rfl)) (da_nil))) (de_var 1 rfl (Or.inl rfl))) (da_nil))) rfl))) (sts_one (st_ret (de_var 0 rfl (Or.inl rfl))))))

abbrev s_is_fraction : Stmt := top 19
theorem sc_is_fraction : FnScope N_is_fraction ["value"] (defScope s_is_fraction) := ⟨rfl, rfl, rfl, by decide +kernel, rfl, by decide +kernel, by decide +kernel⟩
theorem ok_is_fraction {P : Program} {w : World} {K : PySem.W.Frag} {mg : Str → Option Value} {base : Heap} (kf : KF K mg) : DefOk P w K mg base (ct K) (ga K "is_fraction") 2 1 m_is_fraction := by
  obtain ⟨fd, F⟩ := kf.d_is_fraction
  exact fn_ofF F sc_is_fraction (fun _ _ _ _ _ _ us hl => match us, hl with | [_], _ => rfl) (fun cdv A outer s H E hr hg => sts_cons (st_if (DW.t (dw_or (dt_not (dt_val (de_isi (isf_b (T := "tuple") (by decide) own_no) (.ty "tuple") (pe_bltn rfl kf.b_tuple boot_tuple rfl) rfl kf.b_isinstance (de_var 0 rfl (Or.inl rfl))))) (dw_or1 (dt_cmp (o_neD (u64 hr)) (de_look1 c_lenL rfl kf.b_len boot_len (dl_var 0 rfl (Or.inl rfl))) (de_int) (nomark _))))) (sts_one (st_ret (de_bl))) (sts_nil)) (sts_cons (st_if (DW.t (dw_or (dt_not (dt_val (de_call (DefOk.fnx (ok_is_between kf) (hr.mono (by decide)) kf.g_is_between) (takes_of rfl rfl rfl rfl) hg rfl (da_cons (de_ixL (u1 hr) (dl_var 0 rfl (Or.inl rfl)) (de_int)) (da_cons (de_non) (da_cons (de_non) (da_nil)))) rfl (hlen := (len1 (len1 (len1 (len0)))))))) (dw_or1 (dt_not (dt_val (de_call (DefOk.fnx (ok_is_between kf) (hr.mono (by decide)) kf.g_is_between) (takes_of rfl rfl rfl rfl) hg rfl (da_cons (de_ixL (u1 hr) (dl_var 0 rfl (Or.inl rfl)) (de_int)) (da_cons (de_int) (da_cons (de_non) (da_nil)))) rfl (hlen := (len1 (len1 (len1 (len0))))))))))) (sts_one (st_ret (de_bl))) (sts_nil)) (sts_one (st_ret (de_cmp (o_eqD (u64 hr)) (de_call (DefOk.fnx (ok_common kf) (hr.mono (by decide)) kf.g_common) (takes_of rfl rfl rfl rfl) hg rfl (da_cons (de_ixL (u1 hr) (dl_var 0 rfl (Or.inl rfl)) (de_int)) (da_cons (de_ixL (u1 hr) (dl_var 0 rfl (Or.inl rfl)) (de_int)) (da_nil))) rfl (hlen := (len1 (len1 (len0))))) (de_int) (nomark _))))))

abbrev s_lowest : Stmt := top 18
theorem sc_lowest : FnScope N_lowest ["top", "bottom"] (defScope s_lowest) := ⟨rfl, rfl, rfl, by decide +kernel, rfl, by decide +kernel, by decide +kernel⟩
theorem ok_lowest {P : Program} {w : World} {K : PySem.W.Frag} {mg : Str → Option Value} {base : Heap} (kf : KF K mg) : DefOk P w K mg base (ct K) (ga K "lowest") 2 2 m_lowest := by
  obtain ⟨fd, F⟩ := kf.d_lowest
  exact fn_ofF F sc_lowest (fun _ _ _ _ _ _ us hl => match us, hl with | [_, _], _ => rfl) (fun cdv A outer s H E hr hg => sts_cons (st_set (i := 2) sc_lowest.nd rfl (Or.inl rfl) (de_call (DefOk.fnx (ok_common kf) (hr.mono (by decide)) kf.g_common) (takes_of rfl rfl rfl rfl) hg rfl (da_cons (de_var 0 rfl (Or.inl rfl)) (da_cons (de_var 1 rfl (Or.inl rfl)) (da_nil))) rfl (hlen := (len1 (len1 (len0)))))) (sts_one (st_ret (de_tup (da_cons (de_op o_divI (de_var 0 rfl (Or.inl rfl)) (de_var 2 rfl (Or.inl rfl))) (da_cons (de_op o_divI (de_var 1 rfl (Or.inl rfl)) (de_var 2 rfl (Or.inl rfl))) (da_nil)))))))

abbrev s_add : Stmt := top 20
theorem sc_add : FnScope N_add ["one", "other"] (defScope s_add) := ⟨rfl, rfl, rfl, by decide +kernel, rfl, by decide +kernel, by decide +kernel⟩
theorem ok_add {P : Program} {w : World} {K : PySem.W.Frag} {mg : Str → Option Value} {base : Heap} (kf : KF K mg) : DefOk P w K mg base (ct K) (ga K "add") 3 2 m_add := by
  obtain ⟨fd, F⟩ := kf.d_add
  exact fn_ofF F sc_add (fun _ _ _ _ _ _ us hl => match us, hl with | [_, _], _ => rfl) (fun cdv A outer s H E hr hg => sts_one (st_ret (de_call (DefOk.fnx (ok_lowest kf) (hr.mono (by decide)) kf.g_lowest) (takes_of rfl rfl rfl rfl) hg rfl (da_cons (de_op o_add (de_op o_mul (de_ixL (u1 hr) (dl_var 0 rfl (Or.inl rfl)) (de_int)) (de_ixL (u1 hr) (dl_var 1 rfl (Or.inl rfl)) (de_int))) (de_op o_mul (de_ixL (u1 hr) (dl_var 1 rfl (Or.inl rfl)) (de_int)) (de_ixL (u1 hr) (dl_var 0 rfl (Or.inl rfl)) (de_int)))) (da_cons (de_op o_mul (de_ixL (u1 hr) (dl_var 0 rfl (Or.inl rfl)) (de_int)) (de_ixL (u1 hr) (dl_var 1 rfl (Or.inl rfl)) (de_int))) (da_nil))) rfl (hlen := (len1 (len1 (len0)))))))

abbrev s_total : Stmt := top 22
theorem sc_total : FnScope N_total ["some"] (defScope s_total) := ⟨rfl, rfl, rfl, by decide +kernel, rfl, by decide +kernel, by decide +kernel⟩
theorem ok_total {P : Program} {w : World} {K : PySem.W.Frag} {mg : Str → Option Value} {base : Heap} (kf : KF K mg) : DefOk P w K mg base (ct K) (ga K "total") 4 1 m_total := by
  obtain ⟨fd, F⟩ := kf.d_total
  exact fn_ofF F sc_total (fun _ _ _ _ _ _ us hl => match us, hl with | [_], _ => rfl) (fun cdv A outer s H E hr hg => sts_cons (st_set (i := 1) sc_total.nd rfl (Or.inl rfl) (de_gtup (x := "ZERO") (is := [0, 1]) ⟨kf.g_ZERO, kf.t_ZERO⟩ rfl)) (sts_cons (st_for (passes_of rfl) rfl (di_iter (de_var 0 rfl (Or.inl rfl)) pi_str) (tg_name (i := 2) sc_total.nd rfl (Or.inl rfl)) (sts_one (st_set (i := 1) sc_total.nd rfl (Or.inl rfl) (de_call (DefOk.fnx (ok_add kf) (hr.mono (by decide)) kf.g_add) (takes_of rfl rfl rfl rfl) hg rfl (da_cons (de_var 1 rfl (Or.inl rfl)) (da_cons (de_var 2 rfl (Or.inl rfl)) (da_nil))) rfl (hlen := (len1 (len1 (len0)))))))) (sts_one (st_ret (de_var 1 rfl (Or.inl rfl))))))

abbrev s_is_told : Stmt := top 35
theorem sc_is_told : FnScope N_is_told ["value", "lot"] (defScope s_is_told) := ⟨rfl, rfl, rfl, by decide +kernel, rfl, by decide +kernel, by decide +kernel⟩
theorem ok_is_told {P : Program} {w : World} {K : PySem.W.Frag} {mg : Str → Option Value} {base : Heap} (kf : KF K mg) : DefOk P w K mg base (ct K) (ga K "is_told") 5 2 m_is_told := by
  obtain ⟨fd, F⟩ := kf.d_is_told
  exact fn_ofF F sc_is_told (fun _ _ _ _ _ _ us hl => match us, hl with | [_, _], _ => rfl) (fun cdv A outer s H E hr hg => sts_cons (st_if (DW.t (dw_or (dt_not (dt_val (de_isi (isf_b (T := "tuple") (by decide) own_no) (.ty "tuple") (pe_bltn rfl kf.b_tuple boot_tuple rfl) rfl kf.b_isinstance (de_var 0 rfl (Or.inl rfl))))) (dw_or (dt_cmp (o_neD (u64 hr)) (de_look1 c_lenL rfl kf.b_len boot_len (dl_var 0 rfl (Or.inl rfl))) (de_look1 c_lenL rfl kf.b_len boot_len (dl_var 1 rfl (Or.inl rfl))) (nomark _)) (dw_or1 (dt_not (dt_val (de_callB (c_all rfl) rfl kf.b_all boot_all (da_cons (FE.de (fe_lc (own := [("number", 2)]) rfl sc_is_told.nd (di_iter (de_var 0 rfl (Or.inl rfl)) pi_str) (blkOk_by (N := N_is_told) (sc := defScope s_is_told) (by decide +kernel)) (fun _ _ _ _ _ => tg_name (i := 2) sc_is_told.nd rfl (Or.inl rfl)) (fun _ _ _ _ _ => dts_nil) (fun _ _ _ _ _ => de_call (DefOk.fnx (ok_is_fraction kf) (hr.mono (by decide)) kf.g_is_fraction) takesN hg rfl (da_cons (de_var 2 rfl (Or.inl rfl)) (da_nil)) rfl (hlen := (len1 (len0)))) (by decide))) (da_nil))))))))) (sts_one (st_ret (de_bl))) (sts_nil)) (sts_cons (st_if (dt_not (dt_val (de_callB (c_all rfl) rfl kf.b_all boot_all (da_cons (FE.de (fe_lc (own := [("number", 2)]) rfl sc_is_told.nd (di_iter (de_var 0 rfl (Or.inl rfl)) pi_str) (blkOk_by (N := N_is_told) (sc := defScope s_is_told) (by decide +kernel)) (fun _ _ _ _ _ => tg_name (i := 2) sc_is_told.nd rfl (Or.inl rfl)) (fun _ _ _ _ _ => dts_nil) (fun _ _ _ _ _ => de_and (de_cmp o_gt (de_ixL (u1 hr) (dl_var 2 rfl (Or.inl rfl)) (de_int)) (de_int) (nomark _)) (de_one (de_cmp o_le (de_ixL (u1 hr) (dl_var 2 rfl (Or.inl rfl)) (de_int)) (de_gint (x := "MOST_BOTTOM") (i := 1000000000) ⟨kf.i_MOST_BOTTOM_1000000000⟩ rfl) (nomark _)))) (by decide))) (da_nil))))) (sts_one (st_ret (de_bl))) (sts_nil)) (sts_one (st_ret (de_cmp (o_eqD (u64 hr)) (de_call (DefOk.fnx (ok_total kf) (hr.mono (by decide)) kf.g_total) (takes_of rfl rfl rfl rfl) hg rfl (da_cons (de_var 0 rfl (Or.inl rfl)) (da_nil)) rfl (hlen := (len1 (len0)))) (de_gtup (x := "ONE") (is := [1, 1]) ⟨kf.g_ONE, kf.t_ONE⟩ rfl) (nomark _))))))

abbrev s_is_part : Stmt := top 36
theorem sc_is_part : FnScope N_is_part ["value", "cases"] (defScope s_is_part) := ⟨rfl, rfl, rfl, by decide +kernel, rfl, by decide +kernel, by decide +kernel⟩
theorem ok_is_part {P : Program} {w : World} {K : PySem.W.Frag} {mg : Str → Option Value} {base : Heap} (kf : KF K mg) : DefOk P w K mg base (ct K) (ga K "is_part") 6 2 m_is_part := by
  obtain ⟨fd, F⟩ := kf.d_is_part
  exact fn_ofF F sc_is_part (fun _ _ _ _ _ _ us hl => match us, hl with | [_, _], _ => rfl) (fun cdv A outer s H E hr hg => sts_cons (st_if (DW.t (dw_or (dt_not (dt_val (de_isi (isf_b (T := "tuple") (by decide) own_no) (.ty "tuple") (pe_bltn rfl kf.b_tuple boot_tuple rfl) rfl kf.b_isinstance (de_var 0 rfl (Or.inl rfl))))) (dw_or (dt_cmp (o_neD (u64 hr)) (de_look1 c_lenL rfl kf.b_len boot_len (dl_var 0 rfl (Or.inl rfl))) (de_int) (nomark _)) (dw_or (dt_not (dt_val (de_call (DefOk.fnx (ok_is_lot kf) (hr.mono (by decide)) kf.g_is_lot) (takes_of rfl rfl rfl rfl) hg rfl (da_cons (de_ixL (u1 hr) (dl_var 0 rfl (Or.inl rfl)) (de_int)) (da_cons (de_var 1 rfl (Or.inl rfl)) (da_nil))) rfl (hlen := (len1 (len1 (len0))))))) (dw_or1 (dt_cmp (o_eqD (u64 hr)) (de_ixL (u1 hr) (dl_var 0 rfl (Or.inl rfl)) (de_int)) (de_str) (nomark _))))))) (sts_one (st_ret (de_bl))) (sts_nil)) (sts_one (st_ret (de_or (de_cmp o_isN (de_ixL (u1 hr) (dl_var 0 rfl (Or.inl rfl)) (de_int)) (de_non) (nomark _)) (de_one (de_call (DefOk.fnx (ok_is_told kf) (hr.mono (by decide)) kf.g_is_told) (takes_of rfl rfl rfl rfl) hg rfl (da_cons (de_ixL (u1 hr) (dl_var 0 rfl (Or.inl rfl)) (de_int)) (da_cons (de_ixL (u1 hr) (dl_var 0 rfl (Or.inl rfl)) (de_int)) (da_nil))) rfl (hlen := (len1 (len1 (len0))))))))))

abbrev s_is_view : Stmt := top 37
theorem sc_is_view : FnScope N_is_view ["value", "cases"] (defScope s_is_view) := ⟨rfl, rfl, rfl, by decide +kernel, rfl, by decide +kernel, by decide +kernel⟩
theorem ok_is_view {P : Program} {w : World} {K : PySem.W.Frag} {mg : Str → Option Value} {base : Heap} (kf : KF K mg) : DefOk P w K mg base (ct K) (ga K "is_view") 7 2 m_is_view := by
  obtain ⟨fd, F⟩ := kf.d_is_view
  exact fn_ofF F sc_is_view (fun _ _ _ _ _ _ us hl => match us, hl with | [_, _], _ => rfl) (fun cdv A outer s H E hr hg => sts_cons (st_if (DW.t (dw_or (dt_not (dt_val (de_isi (isf_b (T := "tuple") (by decide) own_no) (.ty "tuple") (pe_bltn rfl kf.b_tuple boot_tuple rfl) rfl kf.b_isinstance (de_var 0 rfl (Or.inl rfl))))) (dw_or1 (dt_not (dt_val (de_callB (c_all rfl) rfl kf.b_all boot_all (da_cons (FE.de (fe_lc (own := [("part", 2)]) rfl sc_is_view.nd (di_iter (de_var 0 rfl (Or.inl rfl)) pi_str) (blkOk_by (N := N_is_view) (sc := defScope s_is_view) (by decide +kernel)) (fun _ _ _ _ _ => tg_name (i := 2) sc_is_view.nd rfl (Or.inl rfl)) (fun _ _ _ _ _ => dts_nil) (fun _ _ _ _ _ => de_call (DefOk.fnx (ok_is_part kf) (hr.mono (by decide)) kf.g_is_part) takesN hg rfl (da_cons (de_var 2 rfl (Or.inl rfl)) (da_cons (de_var 1 rfl (Or.inr (Or.inl rfl))) (da_nil))) rfl (hlen := (len1 (len1 (len0))))) (by decide))) (da_nil)))))))) (sts_one (st_ret (de_bl))) (sts_nil)) (sts_cons (st_setLc (i := 3) (own := [("lot", 4), ("told", 5)]) rfl rfl (sw_true rfl rfl rfl (by first | rfl | decide +kernel)) rfl sc_is_view.nd (di_iter (de_var 0 rfl (Or.inl rfl)) pi_str) (blkOk_by (N := N_is_view) (sc := defScope s_is_view) (by decide +kernel)) (fun _ _ _ _ _ => tg_tup K rfl (tgs_cons (tg_name (i := 4) sc_is_view.nd rfl (Or.inl rfl)) (tgs_cons (tg_name (i := 5) sc_is_view.nd rfl (Or.inl rfl)) (tgs_nil)))) (fun _ _ _ _ _ => dts_nil) (fun _ _ _ _ _ => de_var 4 rfl (Or.inl rfl)) (by decide)) (sts_one (st_ret (de_and (de_cmp (o_eqD (u64 hr)) (de_callB c_sorted rfl kf.b_sorted boot_sorted (da_cons (FE.de (fe_callTy (c_listD rfl) rfl kf.b_list boot_list (da_cons (de_meth PySem.F.plainAttrs_str PySem.F.slot_str_join PySem.F.type_str_join (MtD.x m_join) actR_ne (DE.dl (de_str)) (da_cons (de_var 3 rfl (Or.inl rfl)) (da_nil))) (da_nil)))) (da_nil))) (FE.de (fe_callTy (c_listD rfl) rfl kf.b_list boot_list (da_cons (de_var 1 rfl (Or.inr (Or.inl rfl))) (da_nil)))) (nomark _)) (de_one (de_cmp (o_eqD (u64 hr)) (de_var 3 rfl (Or.inl rfl)) (de_callB c_sorted rfl kf.b_sorted boot_sorted (da_cons (de_var 3 rfl (Or.inl rfl)) (da_nil))) (nomark _))))))))

abbrev s_is_person : Stmt := top 38
theorem sc_is_person : FnScope N_is_person ["value", "cases"] (defScope s_is_person) := ⟨rfl, rfl, rfl, by decide +kernel, rfl, by decide +kernel, by decide +kernel⟩
theorem ok_is_person {P : Program} {w : World} {K : PySem.W.Frag} {mg : Str → Option Value} {base : Heap} (kf : KF K mg) : DefOk P w K mg base (ct K) (ga K "is_person") 8 2 m_is_person := by
  obtain ⟨fd, F⟩ := kf.d_is_person
  exact fn_ofF F sc_is_person (fun _ _ _ _ _ _ us hl => match us, hl with | [_, _], _ => rfl) (fun cdv A outer s H E hr hg => sts_one (st_ret (de_and (de_isi (isf_b (T := "tuple") (by decide) own_no) (.ty "tuple") (pe_bltn rfl kf.b_tuple boot_tuple rfl) rfl kf.b_isinstance (de_var 0 rfl (Or.inl rfl))) (de_and (de_cmp (o_eqD (u64 hr)) (de_look1 c_lenL rfl kf.b_len boot_len (dl_var 0 rfl (Or.inl rfl))) (de_int) (nomark _)) (de_and (de_call (DefOk.fnx (ok_is_name kf) (hr.mono (by decide)) kf.g_is_name) (takes_of rfl rfl rfl rfl) hg rfl (da_cons (de_ixL (u1 hr) (dl_var 0 rfl (Or.inl rfl)) (de_int)) (da_nil)) rfl (hlen := (len1 (len0)))) (de_one (de_call (DefOk.fnx (ok_is_view kf) (hr.mono (by decide)) kf.g_is_view) (takes_of rfl rfl rfl rfl) hg rfl (da_cons (de_ixL (u1 hr) (dl_var 0 rfl (Or.inl rfl)) (de_int)) (da_cons (de_var 1 rfl (Or.inl rfl)) (da_nil))) rfl (hlen := (len1 (len1 (len0)))))))))))

abbrev s_are_people : Stmt := top 39
theorem sc_are_people : FnScope N_are_people ["value", "cases"] (defScope s_are_people) := ⟨rfl, rfl, rfl, by decide +kernel, rfl, by decide +kernel, by decide +kernel⟩
theorem ok_are_people {P : Program} {w : World} {K : PySem.W.Frag} {mg : Str → Option Value} {base : Heap} (kf : KF K mg) : DefOk P w K mg base (ct K) (ga K "are_people") 9 2 m_are_people := by
  obtain ⟨fd, F⟩ := kf.d_are_people
  exact fn_ofF F sc_are_people (fun _ _ _ _ _ _ us hl => match us, hl with | [_, _], _ => rfl) (fun cdv A outer s H E hr hg => sts_cons (st_if (DW.t (dw_or (dt_not (dt_val (de_isi (isf_b (T := "tuple") (by decide) own_no) (.ty "tuple") (pe_bltn rfl kf.b_tuple boot_tuple rfl) rfl kf.b_isinstance (de_var 0 rfl (Or.inr (Or.inl rfl)))))) (dw_or1 (dt_not (dt_chain o_le o_le (de_int) (de_look1 c_lenL rfl kf.b_len boot_len (dl_var 0 rfl (Or.inr (Or.inl rfl)))) (de_gint (x := "MOST_PEOPLE") (i := 4) ⟨kf.i_MOST_PEOPLE_4⟩ rfl)))))) (sts_one (st_ret (de_bl))) (sts_nil)) (sts_cons (st_if (dt_not (dt_val (de_callB (c_all rfl) rfl kf.b_all boot_all (da_cons (FE.de (fe_lc (own := [("person", 2)]) rfl sc_are_people.nd (di_iter (de_var 0 rfl (Or.inr (Or.inl rfl))) pi_str) (blkOk_by (N := N_are_people) (sc := defScope s_are_people) (by decide +kernel)) (fun _ _ _ _ _ => tg_name (i := 2) sc_are_people.nd rfl (Or.inl rfl)) (fun _ _ _ _ _ => dts_nil) (fun _ _ _ _ _ => de_call (DefOk.fnx (ok_is_person kf) (hr.mono (by decide)) kf.g_is_person) takesN hg rfl (da_cons (de_var 2 rfl (Or.inl rfl)) (da_cons (de_var 1 rfl (Or.inr (Or.inl rfl))) (da_nil))) rfl (hlen := (len1 (len1 (len0))))) (by decide))) (da_nil))))) (sts_one (st_ret (de_bl))) (sts_nil)) (sts_one (st_ret (de_callB (c_all rfl) rfl kf.b_all boot_all (da_cons (FE.de (fe_lc (own := [("place", 3)]) rfl sc_are_people.nd (di_range1 rfl kf.b_range (da_cons (de_op o_subI (de_look1 c_lenL rfl kf.b_len boot_len (dl_var 0 rfl (Or.inr (Or.inl rfl)))) (de_int)) (da_nil)) (len1 (len0))) (blkOk_by (N := N_are_people) (sc := defScope s_are_people) (by decide +kernel)) (fun _ _ _ _ _ => tg_name (i := 3) sc_are_people.nd rfl (Or.inl rfl)) (fun _ _ _ _ _ => dts_nil) (fun _ _ _ _ _ => de_cmp o_lt (de_ixL (u1 hr) (DE.dl (de_ixL (u1 hr) (dl_var 0 rfl (Or.inr (Or.inl rfl))) (de_var 3 rfl (Or.inl rfl)))) (de_int)) (de_ixL (u1 hr) (DE.dl (de_ixL (u1 hr) (dl_var 0 rfl (Or.inr (Or.inl rfl))) (de_op o_add (de_var 3 rfl (Or.inl rfl)) (de_int)))) (de_int)) (nomark _)) (by decide))) (da_nil)))))))

abbrev s_text_of : Stmt := top 40
theorem sc_text_of : FnScope N_text_of ["cases", "people"] (defScope s_text_of) := ⟨rfl, rfl, rfl, by decide +kernel, rfl, by decide +kernel, by decide +kernel⟩
theorem ok_text_of {P : Program} {w : World} {K : PySem.W.Frag} {mg : Str → Option Value} {base : Heap} (kf : KF K mg) : DefOk P w K mg base (ct K) (ga K "text_of") 1 2 m_text_of := by
  obtain ⟨fd, F⟩ := kf.d_text_of
  exact fn_ofF F sc_text_of (fun _ _ _ _ _ _ us hl => match us, hl with | [_, _], _ => rfl) (fun cdv A outer s H E hr hg => sts_cons (st_own (i := 2) sc_text_of.nd rfl (Or.inl rfl) (fe_lst (da_cons (de_joined (.cons (de_str) (.cons (de_fmt (de_var 0 rfl (Or.inl rfl))) (.nil)))) (da_nil)))) (sts_cons (st_for (passes_of rfl) rfl (di_iter (de_var 1 rfl (Or.inl rfl)) pi_str) (tg_tup K rfl (tgs_cons (tg_name (i := 3) sc_text_of.nd rfl (Or.inl rfl)) (tgs_cons (tg_name (i := 4) sc_text_of.nd rfl (Or.inl rfl)) (tgs_nil)))) (sts_one (st_for (passes_of rfl) rfl (di_iter (de_var 4 rfl (Or.inl rfl)) pi_str) (tg_tup K rfl (tgs_cons (tg_name (i := 5) sc_text_of.nd rfl (Or.inl rfl)) (tgs_cons (tg_name (i := 6) sc_text_of.nd rfl (Or.inl rfl)) (tgs_nil)))) (sts_cons (st_set (i := 7) sc_text_of.nd rfl (Or.inl rfl) (de_if (dt_cmp o_isN (de_var 6 rfl (Or.inl rfl)) (de_non) (nomark _)) (de_lst (da_cons (de_str) (da_nil))) (FE.de (fe_lc (own := [("number", 8)]) rfl sc_text_of.nd (di_iter (de_var 6 rfl (Or.inl rfl)) pi_str) (blkOk_by (N := N_text_of) (sc := defScope s_text_of) (by decide +kernel)) (fun _ _ _ _ _ => tg_name (i := 8) sc_text_of.nd rfl (Or.inl rfl)) (fun _ _ _ _ _ => dts_nil) (fun _ _ _ _ _ => de_joined (.cons (de_fmt (de_ixL (u1 hr) (dl_var 8 rfl (Or.inl rfl)) (de_int))) (.cons (de_str) (.cons (de_fmt (de_ixL (u1 hr) (dl_var 8 rfl (Or.inl rfl)) (de_int))) (.nil))))) (by decide))))) (sts_one (st_expr (de_meth PySem.F.plainAttrs_list PySem.F.slot_list_append PySem.F.type_list_append (MtW.x m_append) actW_ne (dl_var 2 rfl (Or.inl rfl)) (da_cons (de_op o_add (de_joined (.cons (de_fmt (de_var 3 rfl (Or.inl rfl))) (.cons (de_str) (.cons (de_fmt (de_var 5 rfl (Or.inl rfl))) (.cons (de_str) (.nil)))))) (de_meth PySem.F.plainAttrs_str PySem.F.slot_str_join PySem.F.type_str_join (MtD.x m_join) actR_ne (DE.dl (de_str)) (da_cons (de_var 7 rfl (Or.inl rfl)) (da_nil)))) (da_nil))))))))) (sts_one (st_ret (de_meth PySem.F.plainAttrs_str PySem.F.slot_str_join PySem.F.type_str_join (MtD.x m_join) actR_ne (DE.dl (de_str)) (da_cons (de_var 2 rfl (Or.inl rfl)) (da_nil)))))))

abbrev s_Room_init : Stmt := sub 46 0
theorem sc_Room_init : FnScope N_Room_init ["self", "cases", "people"] (defScope s_Room_init) := ⟨rfl, rfl, rfl, by decide +kernel, rfl, by decide +kernel, by decide +kernel⟩
theorem ok_Room_init {P : Program} {w : World} {K : PySem.W.Frag} {mg : Str → Option Value} {base : Heap} (kf : KF K mg) : DefOk P w K mg base (ct K) (ma K (ga K "Room") "__init__") 10 3 m_Room_init := by
  obtain ⟨fd, F⟩ := kf.d_Room_init
  exact fn_ofF F sc_Room_init (fun _ _ _ _ _ _ us hl => match us, hl with | [_, _, _], _ => rfl) (fun cdv A outer s H E hr hg => sts_cons (st_if (dt_not (dt_val (de_call (DefOk.fnx (ok_are_cases kf) (hr.mono (by decide)) kf.g_are_cases) (takes_of rfl rfl rfl rfl) hg rfl (da_cons (de_var 1 rfl (Or.inl rfl)) (da_nil)) rfl (hlen := (len1 (len0)))))) (sts_one (st_never)) (sts_nil)) (sts_cons (st_if (dt_not (dt_val (de_call (DefOk.fnx (ok_are_people kf) (hr.mono (by decide)) kf.g_are_people) (takes_of rfl rfl rfl rfl) hg rfl (da_cons (de_var 2 rfl (Or.inl rfl)) (da_cons (de_var 1 rfl (Or.inl rfl)) (da_nil))) rfl (hlen := (len1 (len1 (len0))))))) (sts_one (st_never)) (sts_nil)) (sts_cons (st_fld (fldOf (c := 0) (j := 0) (ns := fl0) rfl (cls_ok kf.c_Room) (noat_ok kf.n_Room_all_cases) (by decide)) (de_var 0 rfl (Or.inl rfl)) (de_var 1 rfl (Or.inl rfl))) (sts_cons (st_fld (fldOf (c := 0) (j := 1) (ns := fl0) rfl (cls_ok kf.c_Room) (noat_ok kf.n_Room_all_people) (by decide)) (de_var 0 rfl (Or.inl rfl)) (de_var 2 rfl (Or.inl rfl))) (sts_cons (st_fld (fldOf (c := 0) (j := 2) (ns := fl0) rfl (cls_ok kf.c_Room) (noat_ok kf.n_Room_words) (by decide)) (de_var 0 rfl (Or.inl rfl)) (de_call (DefOk.fnx (ok_text_of kf) (hr.mono (by decide)) kf.g_text_of) (takes_of rfl rfl rfl rfl) hg rfl (da_cons (de_var 1 rfl (Or.inl rfl)) (da_cons (de_var 2 rfl (Or.inl rfl)) (da_nil))) rfl (hlen := (len1 (len1 (len0)))))) (sts_one (st_fld (fldOf (c := 0) (j := 3) (ns := fl0) rfl (cls_ok kf.c_Room) (noat_ok kf.n_Room_views) (by decide)) (de_var 0 rfl (Or.inl rfl)) (FE.de (fe_callTy (c_dict rfl) rfl kf.b_dict boot_dict (da_cons (de_var 2 rfl (Or.inl rfl)) (da_nil)))))))))))

abbrev s_check_room : Stmt := top 47
theorem sc_check_room : FnScope N_check_room ["value"] (defScope s_check_room) := ⟨rfl, rfl, rfl, by decide +kernel, rfl, by decide +kernel, by decide +kernel⟩
theorem ok_check_room {P : Program} {w : World} {K : PySem.W.Frag} {mg : Str → Option Value} {base : Heap} (kf : KF K mg) : DefOk P w K mg base (ct K) (ga K "check_room") 1 1 m_check_room := by
  obtain ⟨fd, F⟩ := kf.d_check_room
  exact fn_ofF F sc_check_room (fun _ _ _ _ _ _ us hl => match us, hl with | [_], _ => rfl) (fun cdv A outer s H E hr hg => sts_one (st_if (dt_not (dt_val (de_isi (isf_o kf.kn_Room (own_one (c0 := 0) (x := "Room") rfl kf.in_Room kf.kr_Room_Room_true)) (.own _) (pe_glob rfl kf.g_Room rfl) rfl kf.b_isinstance (de_var 0 rfl (Or.inl rfl))))) (sts_one (st_never)) (sts_nil)))

abbrev s_Room_check_case : Stmt := sub 46 8
theorem sc_Room_check_case : FnScope N_Room_check_case ["self", "case"] (defScope s_Room_check_case) := ⟨rfl, rfl, rfl, by decide +kernel, rfl, by decide +kernel, by decide +kernel⟩
theorem ok_Room_check_case {P : Program} {w : World} {K : PySem.W.Frag} {mg : Str → Option Value} {base : Heap} (kf : KF K mg) : DefOk P w K mg base (ct K) (ma K (ga K "Room") "check_case") 1 2 m_Room_check_case := by
  obtain ⟨fd, F⟩ := kf.d_Room_check_case
  exact fn_ofF F sc_Room_check_case (fun _ _ _ _ _ _ us hl => match us, hl with | [_, _], _ => rfl) (fun cdv A outer s H E hr hg => sts_one (st_if (DW.t (dw_or (dt_not (dt_val (de_isi (isf_b (T := "str") (by decide) own_no) (.ty "str") (pe_bltn rfl kf.b_str boot_str rfl) rfl kf.b_isinstance (de_var 1 rfl (Or.inl rfl))))) (dw_or (dt_cmp (o_neD (u64 hr)) (de_look1 c_lenL rfl kf.b_len boot_len (dl_var 1 rfl (Or.inl rfl))) (de_int) (nomark _)) (dw_or1 (dt_inL (o_ninL (u66 hr)) (de_var 1 rfl (Or.inl rfl)) (DE.dl (de_attr (de_var 0 rfl (Or.inl rfl)) (acc_one (a0 := .fld 0) (fldOf (c := 0) (j := 0) (ns := fl0) rfl (cls_ok kf.c_Room) (noat_ok kf.n_Room_all_cases) (by decide))) hg)) (by rfl)))))) (sts_one (st_never)) (sts_nil)))

abbrev s_Room_check_lot : Stmt := sub 46 9
theorem sc_Room_check_lot : FnScope N_Room_check_lot ["self", "lot"] (defScope s_Room_check_lot) := ⟨rfl, rfl, rfl, by decide +kernel, rfl, by decide +kernel, by decide +kernel⟩
theorem ok_Room_check_lot {P : Program} {w : World} {K : PySem.W.Frag} {mg : Str → Option Value} {base : Heap} (kf : KF K mg) : DefOk P w K mg base (ct K) (ma K (ga K "Room") "check_lot") 3 2 m_Room_check_lot := by
  obtain ⟨fd, F⟩ := kf.d_Room_check_lot
  exact fn_ofF F sc_Room_check_lot (fun _ _ _ _ _ _ us hl => match us, hl with | [_, _], _ => rfl) (fun cdv A outer s H E hr hg => sts_one (st_if (dt_not (dt_val (de_call (DefOk.fnx (ok_is_lot kf) (hr.mono (by decide)) kf.g_is_lot) (takes_of rfl rfl rfl rfl) hg rfl (da_cons (de_var 1 rfl (Or.inl rfl)) (da_cons (de_attr (de_var 0 rfl (Or.inl rfl)) (acc_one (a0 := .fld 0) (fldOf (c := 0) (j := 0) (ns := fl0) rfl (cls_ok kf.c_Room) (noat_ok kf.n_Room_all_cases) (by decide))) hg) (da_nil))) rfl (hlen := (len1 (len1 (len0))))))) (sts_one (st_never)) (sts_nil)))

abbrev s_check_asked : Stmt := top 53
theorem sc_check_asked : FnScope N_check_asked ["room", "case", "event"] (defScope s_check_asked) := ⟨rfl, rfl, rfl, by decide +kernel, rfl, by decide +kernel, by decide +kernel⟩
theorem ok_check_asked {P : Program} {w : World} {K : PySem.W.Frag} {mg : Str → Option Value} {base : Heap} (kf : KF K mg) : DefOk P w K mg base (ct K) (ga K "check_asked") 4 3 m_check_asked := by
  obtain ⟨fd, F⟩ := kf.d_check_asked
  exact fn_ofF F sc_check_asked (fun _ _ _ _ _ _ us hl => match us, hl with | [_, _, _], _ => rfl) (fun cdv A outer s H E hr hg => sts_cons (st_expr (de_call (DefOk.fnx (ok_check_room kf) (hr.mono (by decide)) kf.g_check_room) (takes_of rfl rfl rfl rfl) hg rfl (da_cons (de_var 0 rfl (Or.inl rfl)) (da_nil)) rfl (hlen := (len1 (len0))))) (sts_cons (st_expr (de_objm (DefOk.meth (c := 0) (ok_Room_check_case kf) (hr.mono (by decide)) (cls_ok kf.c_Room) (notIn (ns := fl0) rfl (by decide)) (meth_ok kf.me_Room_check_case)) (takes_of rfl rfl rfl rfl) hg (de_var 0 rfl (Or.inl rfl)) (da_cons (de_var 1 rfl (Or.inl rfl)) (da_nil)) rfl (len1 (len0)))) (sts_one (st_expr (de_objm (DefOk.meth (c := 0) (ok_Room_check_lot kf) (hr.mono (by decide)) (cls_ok kf.c_Room) (notIn (ns := fl0) rfl (by decide)) (meth_ok kf.me_Room_check_lot)) (takes_of rfl rfl rfl rfl) hg (de_var 0 rfl (Or.inl rfl)) (da_cons (de_var 2 rfl (Or.inl rfl)) (da_nil)) rfl (len1 (len0)))))))

abbrev s_Room_cases : Stmt := sub 46 2
theorem sc_Room_cases : FnScope N_Room_cases ["self"] (defScope s_Room_cases) := ⟨rfl, rfl, rfl, by decide +kernel, rfl, by decide +kernel, by decide +kernel⟩
theorem ok_Room_cases {P : Program} {w : World} {K : PySem.W.Frag} {mg : Str → Option Value} {base : Heap} (kf : KF K mg) : DefOk P w K mg base (ct K) (He5.wf K (ga K "Room") "property" "cases") 1 1 m_Room_cases := by
  obtain ⟨fd, F⟩ := kf.d_Room_cases
  exact fn_ofF F sc_Room_cases (fun _ _ _ _ _ _ us hl => match us, hl with | [_], _ => rfl) (fun cdv A outer s H E hr hg => sts_one (st_ret (de_attr (de_var 0 rfl (Or.inl rfl)) (acc_one (a0 := .fld 0) (fldOf (c := 0) (j := 0) (ns := fl0) rfl (cls_ok kf.c_Room) (noat_ok kf.n_Room_all_cases) (by decide))) hg)))

abbrev s_Room_names : Stmt := sub 46 5
theorem sc_Room_names : FnScope N_Room_names ["self"] (defScope s_Room_names) := ⟨rfl, rfl, rfl, by decide +kernel, rfl, by decide +kernel, by decide +kernel⟩
theorem ok_Room_names {P : Program} {w : World} {K : PySem.W.Frag} {mg : Str → Option Value} {base : Heap} (kf : KF K mg) : DefOk P w K mg base (ct K) (He5.wf K (ga K "Room") "property" "names") 1 1 m_Room_names := by
  obtain ⟨fd, F⟩ := kf.d_Room_names
  exact fn_ofF F sc_Room_names (fun _ _ _ _ _ _ us hl => match us, hl with | [_], _ => rfl) (fun cdv A outer s H E hr hg => sts_one (st_ret (de_callTy c_tuple rfl kf.b_tuple boot_tuple (da_cons (FE.de (fe_lc (own := [("name", 1), ("view", 2)]) rfl sc_Room_names.nd (di_iter (de_attr (de_var 0 rfl (Or.inl rfl)) (acc_one (a0 := .fld 1) (fldOf (c := 0) (j := 1) (ns := fl0) rfl (cls_ok kf.c_Room) (noat_ok kf.n_Room_all_people) (by decide))) hg) pi_str) (blkOk_by (N := N_Room_names) (sc := defScope s_Room_names) (by decide +kernel)) (fun _ _ _ _ _ => tg_tup K rfl (tgs_cons (tg_name (i := 1) sc_Room_names.nd rfl (Or.inl rfl)) (tgs_cons (tg_name (i := 2) sc_Room_names.nd rfl (Or.inl rfl)) (tgs_nil)))) (fun _ _ _ _ _ => dts_nil) (fun _ _ _ _ _ => de_var 1 rfl (Or.inl rfl)) (by decide))) (da_nil)))))

abbrev s_Room_part_of : Stmt := sub 46 11
theorem sc_Room_part_of : FnScope N_Room_part_of ["self", "name", "case"] (defScope s_Room_part_of) := ⟨rfl, rfl, rfl, by decide +kernel, rfl, by decide +kernel, by decide +kernel⟩
theorem ok_Room_part_of {P : Program} {w : World} {K : PySem.W.Frag} {mg : Str → Option Value} {base : Heap} (kf : KF K mg) : DefOk P w K mg base (ct K) (ma K (ga K "Room") "part_of") 1 3 m_Room_part_of := by
  obtain ⟨fd, F⟩ := kf.d_Room_part_of
  exact fn_ofF F sc_Room_part_of (fun _ _ _ _ _ _ us hl => match us, hl with | [_, _, _], _ => rfl) (fun cdv A outer s H E hr hg => sts_one (st_ret (de_ixL (u1 hr) (DE.dl (FE.de (fe_lc (own := [("part", 3)]) rfl sc_Room_part_of.nd (di_iter (de_ixL (u1 hr) (DE.dl (de_attr (de_var 0 rfl (Or.inl rfl)) (acc_one (a0 := .fld 3) (fldOf (c := 0) (j := 3) (ns := fl0) rfl (cls_ok kf.c_Room) (noat_ok kf.n_Room_views) (by decide))) hg)) (de_var 1 rfl (Or.inl rfl))) pi_str) (blkOk_by (N := N_Room_part_of) (sc := defScope s_Room_part_of) (by decide +kernel)) (fun _ _ _ _ _ => tg_name (i := 3) sc_Room_part_of.nd rfl (Or.inl rfl)) (fun _ _ _ _ _ => dts_one (dt_inL (o_inL (u66 hr)) (de_var 2 rfl (Or.inr (Or.inl rfl))) (DE.dl (de_ixL (u1 hr) (dl_var 3 rfl (Or.inl rfl)) (de_int))) (by rfl))) (fun _ _ _ _ _ => de_var 3 rfl (Or.inl rfl)) (by decide)))) (de_int))))

abbrev s_over : Stmt := top 21
theorem sc_over : FnScope N_over ["one", "other"] (defScope s_over) := ⟨rfl, rfl, rfl, by decide +kernel, rfl, by decide +kernel, by decide +kernel⟩
theorem ok_over {P : Program} {w : World} {K : PySem.W.Frag} {mg : Str → Option Value} {base : Heap} (kf : KF K mg) : DefOk P w K mg base (ct K) (ga K "over") 3 2 m_over := by
  obtain ⟨fd, F⟩ := kf.d_over
  exact fn_ofF F sc_over (fun _ _ _ _ _ _ us hl => match us, hl with | [_, _], _ => rfl) (fun cdv A outer s H E hr hg => sts_one (st_ret (de_call (DefOk.fnx (ok_lowest kf) (hr.mono (by decide)) kf.g_lowest) (takes_of rfl rfl rfl rfl) hg rfl (da_cons (de_op o_mul (de_ixL (u1 hr) (dl_var 0 rfl (Or.inl rfl)) (de_int)) (de_ixL (u1 hr) (dl_var 1 rfl (Or.inl rfl)) (de_int))) (da_cons (de_op o_mul (de_ixL (u1 hr) (dl_var 0 rfl (Or.inl rfl)) (de_int)) (de_ixL (u1 hr) (dl_var 1 rfl (Or.inl rfl)) (de_int))) (da_nil))) rfl (hlen := (len1 (len1 (len0)))))))

abbrev s_saying_of : Stmt := top 49
theorem sc_saying_of : FnScope N_saying_of ["room", "name", "case", "event", "heard"] (defScope s_saying_of) := ⟨rfl, rfl, rfl, by decide +kernel, rfl, by decide +kernel, by decide +kernel⟩
theorem ok_saying_of {P : Program} {w : World} {K : PySem.W.Frag} {mg : Str → Option Value} {base : Heap} (kf : KF K mg) : DefOk P w K mg base (ct K) (ga K "saying_of") 5 5 m_saying_of := by
  obtain ⟨fd, F⟩ := kf.d_saying_of
  exact fn_ofF F sc_saying_of (fun _ _ _ _ _ _ us hl => match us, hl with | [_, _, _, _, _], _ => rfl) (fun cdv A outer s H E hr hg => sts_cons (st_asg (de_objm (DefOk.meth (c := 0) (ok_Room_part_of kf) (hr.mono (by decide)) (cls_ok kf.c_Room) (notIn (ns := fl0) rfl (by decide)) (meth_ok kf.me_Room_part_of)) (takes_of rfl rfl rfl rfl) hg (de_var 0 rfl (Or.inl rfl)) (da_cons (de_var 1 rfl (Or.inl rfl)) (da_cons (de_var 2 rfl (Or.inl rfl)) (da_nil))) rfl (len1 (len1 (len0)))) (tg_tup K rfl (tgs_cons (tg_name (i := 5) sc_saying_of.nd rfl (Or.inl rfl)) (tgs_cons (tg_name (i := 6) sc_saying_of.nd rfl (Or.inr rfl)) (tgs_nil))))) (sts_cons (st_if (dt_cmp o_isN (de_var 6 rfl (Or.inr (Or.inl rfl))) (de_non) (nomark _)) (sts_one (st_ret (de_non))) (sts_nil)) (sts_cons (st_setLc (i := 7) (own := [("place", 8), ("other", 9)]) rfl rfl (sw_true rfl rfl rfl (by first | rfl | decide +kernel)) rfl sc_saying_of.nd (di_enum rfl kf.b_enumerate (da_cons (de_var 5 rfl (Or.inl rfl)) (da_nil))) (blkOk_by (N := N_saying_of) (sc := defScope s_saying_of) (by decide +kernel)) (fun _ _ _ _ _ => tg_tup K rfl (tgs_cons (tg_name (i := 8) sc_saying_of.nd rfl (Or.inl rfl)) (tgs_cons (tg_name (i := 9) sc_saying_of.nd rfl (Or.inl rfl)) (tgs_nil)))) (fun _ _ _ _ _ => dts_one (dt_inL (o_inL (u66 hr)) (de_var 9 rfl (Or.inl rfl)) (dl_var 4 rfl (Or.inr (Or.inl rfl))) (by rfl))) (fun _ _ _ _ _ => de_tup (da_cons (de_var 9 rfl (Or.inl rfl)) (da_cons (de_ixL (u1 hr) (dl_var 6 rfl (Or.inr (Or.inl rfl))) (de_var 8 rfl (Or.inl rfl))) (da_nil)))) (by decide)) (sts_cons (st_set (i := 10) sc_saying_of.nd rfl (Or.inl rfl) (de_call (DefOk.fnx (ok_total kf) (hr.mono (by decide)) kf.g_total) (takes_of rfl rfl rfl rfl) hg rfl (da_cons (FE.de (fe_lc (own := [("other", 9), ("number", 11)]) rfl sc_saying_of.nd (di_iter (de_var 7 rfl (Or.inl rfl)) pi_str) (blkOk_by (N := N_saying_of) (sc := defScope s_saying_of) (by decide +kernel)) (fun _ _ _ _ _ => tg_tup K rfl (tgs_cons (tg_name (i := 9) sc_saying_of.nd rfl (Or.inl rfl)) (tgs_cons (tg_name (i := 11) sc_saying_of.nd rfl (Or.inl rfl)) (tgs_nil)))) (fun _ _ _ _ _ => dts_one (dt_inL (o_inL (u66 hr)) (de_var 9 rfl (Or.inl rfl)) (dl_var 3 rfl (Or.inr (Or.inl rfl))) (by rfl))) (fun _ _ _ _ _ => de_var 11 rfl (Or.inl rfl)) (by decide))) (da_nil)) rfl (hlen := (len1 (len0))))) (sts_one (st_ret (de_call (DefOk.fnx (ok_over kf) (hr.mono (by decide)) kf.g_over) (takes_of rfl rfl rfl rfl) hg rfl (da_cons (de_var 10 rfl (Or.inl rfl)) (da_cons (de_call (DefOk.fnx (ok_total kf) (hr.mono (by decide)) kf.g_total) (takes_of rfl rfl rfl rfl) hg rfl (da_cons (FE.de (fe_lc (own := [("other", 9), ("number", 11)]) rfl sc_saying_of.nd (di_iter (de_var 7 rfl (Or.inl rfl)) pi_str) (blkOk_by (N := N_saying_of) (sc := defScope s_saying_of) (by decide +kernel)) (fun _ _ _ _ _ => tg_tup K rfl (tgs_cons (tg_name (i := 9) sc_saying_of.nd rfl (Or.inl rfl)) (tgs_cons (tg_name (i := 11) sc_saying_of.nd rfl (Or.inl rfl)) (tgs_nil)))) (fun _ _ _ _ _ => dts_nil) (fun _ _ _ _ _ => de_var 11 rfl (Or.inl rfl)) (by decide))) (da_nil)) rfl (hlen := (len1 (len0)))) (da_nil))) rfl (hlen := (len1 (len1 (len0)))))))))))

abbrev s_heard_behind : Stmt := top 50
theorem sc_heard_behind : FnScope N_heard_behind ["room", "name", "case", "event", "heard"] (defScope s_heard_behind) := ⟨rfl, rfl, rfl, by decide +kernel, rfl, by decide +kernel, by decide +kernel⟩
theorem ok_heard_behind {P : Program} {w : World} {K : PySem.W.Frag} {mg : Str → Option Value} {base : Heap} (kf : KF K mg) : DefOk P w K mg base (ct K) (ga K "heard_behind") 6 5 m_heard_behind := by
  obtain ⟨fd, F⟩ := kf.d_heard_behind
  exact fn_ofF F sc_heard_behind (fun _ _ _ _ _ _ us hl => match us, hl with | [_, _, _, _, _], _ => rfl) (fun cdv A outer s H E hr hg => sts_cons (st_set (i := 5) sc_heard_behind.nd rfl (Or.inr rfl) (de_call (DefOk.fnx (ok_saying_of kf) (hr.mono (by decide)) kf.g_saying_of) (takes_of rfl rfl rfl rfl) hg rfl (da_cons (de_var 0 rfl (Or.inr (Or.inl rfl))) (da_cons (de_var 1 rfl (Or.inr (Or.inl rfl))) (da_cons (de_var 2 rfl (Or.inl rfl)) (da_cons (de_var 3 rfl (Or.inr (Or.inl rfl))) (da_cons (de_var 4 rfl (Or.inr (Or.inl rfl))) (da_nil)))))) rfl (hlen := (len1 (len1 (len1 (len1 (len1 (len0))))))))) (sts_one (st_ret (de_meth PySem.F.plainAttrs_str PySem.F.slot_str_join PySem.F.type_str_join (MtD.x m_join) actR_ne (DE.dl (de_str)) (da_cons (FE.de (fe_lc (own := [("other", 6)]) rfl sc_heard_behind.nd (di_iter (de_var 4 rfl (Or.inr (Or.inl rfl))) pi_str) (blkOk_by (N := N_heard_behind) (sc := defScope s_heard_behind) (by decide +kernel)) (fun _ _ _ _ _ => tg_name (i := 6) sc_heard_behind.nd rfl (Or.inl rfl)) (fun _ _ _ _ _ => dts_one (dt_cmp (o_eqD (u64 hr)) (de_call (DefOk.fnx (ok_saying_of kf) (hr.mono (by decide)) kf.g_saying_of) takesN hg rfl (da_cons (de_var 0 rfl (Or.inr (Or.inl rfl))) (da_cons (de_var 1 rfl (Or.inr (Or.inl rfl))) (da_cons (de_var 6 rfl (Or.inl rfl)) (da_cons (de_var 3 rfl (Or.inr (Or.inl rfl))) (da_cons (de_var 4 rfl (Or.inr (Or.inl rfl))) (da_nil)))))) rfl (hlen := (len1 (len1 (len1 (len1 (len1 (len0)))))))) (de_var 5 rfl (Or.inr (Or.inl rfl))) (nomark _))) (fun _ _ _ _ _ => de_var 6 rfl (Or.inl rfl)) (by decide))) (da_nil))))))

abbrev s_walk_through : Stmt := top 51
theorem sc_walk_through : FnScope N_walk_through ["room", "case", "event"] (defScope s_walk_through) := ⟨rfl, rfl, rfl, by decide +kernel, rfl, by decide +kernel, by decide +kernel⟩
theorem ok_walk_through {P : Program} {w : World} {K : PySem.W.Frag} {mg : Str → Option Value} {base : Heap} (kf : KF K mg) : DefOk P w K mg base (ct K) (ga K "walk_through") 7 3 m_walk_through := by
  obtain ⟨fd, F⟩ := kf.d_walk_through
  exact fn_ofF F sc_walk_through (fun _ _ _ _ _ _ us hl => match us, hl with | [_, _, _], _ => rfl) (fun cdv A outer s H E hr hg => sts_cons (st_set (i := 3) sc_walk_through.nd rfl (Or.inl rfl) (de_attr (de_var 0 rfl (Or.inl rfl)) (acc_one (a0 := .prop m_Room_cases) (DefOk.prop (X := cxD _ _ _ _ _ _ _ _ _ _ _ _ _ _ _) (ok_Room_cases kf) (hr.mono (by decide)) (cls_ok kf.c_Room) (propB_ok kf.pr_Room_cases))) hg)) (sts_cons (st_own (i := 4) sc_walk_through.nd rfl (Or.inl rfl) (fe_lst (da_nil))) (sts_cons (st_set (i := 5) sc_walk_through.nd rfl (Or.inl rfl) (de_int)) (sts_cons (st_set (i := 6) sc_walk_through.nd rfl (Or.inl rfl) (de_int)) (sts_cons (st_set (i := 7) sc_walk_through.nd rfl (Or.inl rfl) (de_attr (de_var 0 rfl (Or.inl rfl)) (acc_one (a0 := .prop m_Room_names) (DefOk.prop (X := cxD _ _ _ _ _ _ _ _ _ _ _ _ _ _ _) (ok_Room_names kf) (hr.mono (by decide)) (cls_ok kf.c_Room) (propB_ok kf.pr_Room_names))) hg)) (sts_cons (st_while 1000000000 (passes_of rfl) (dt_cmp o_lt (de_var 6 rfl (Or.inl rfl)) (de_look1 c_lenL rfl kf.b_len boot_len (dl_var 7 rfl (Or.inl rfl))) (nomark _)) (sts_cons (st_set (i := 8) sc_walk_through.nd rfl (Or.inl rfl) (de_ixL (u1 hr) (dl_var 7 rfl (Or.inl rfl)) (de_op o_modI (de_look1 c_lenL rfl kf.b_len boot_len (dl_var 4 rfl (Or.inl rfl))) (de_look1 c_lenL rfl kf.b_len boot_len (dl_var 7 rfl (Or.inl rfl)))))) (sts_cons (st_expr (de_meth PySem.F.plainAttrs_list PySem.F.slot_list_append PySem.F.type_list_append (MtW.x m_append) actW_ne (dl_var 4 rfl (Or.inl rfl)) (da_cons (de_tup (da_cons (de_var 8 rfl (Or.inl rfl)) (da_cons (de_call (DefOk.fnx (ok_saying_of kf) (hr.mono (by decide)) kf.g_saying_of) (takes_of rfl rfl rfl rfl) hg rfl (da_cons (de_var 0 rfl (Or.inl rfl)) (da_cons (de_var 8 rfl (Or.inl rfl)) (da_cons (de_var 1 rfl (Or.inl rfl)) (da_cons (de_var 2 rfl (Or.inl rfl)) (da_cons (de_var 3 rfl (Or.inl rfl)) (da_nil)))))) rfl (hlen := (len1 (len1 (len1 (len1 (len1 (len0)))))))) (da_nil)))) (da_nil)))) (sts_cons (st_set (i := 9) sc_walk_through.nd rfl (Or.inl rfl) (de_call (DefOk.fnx (ok_heard_behind kf) (hr.mono (by decide)) kf.g_heard_behind) (takes_of rfl rfl rfl rfl) hg rfl (da_cons (de_var 0 rfl (Or.inl rfl)) (da_cons (de_var 8 rfl (Or.inl rfl)) (da_cons (de_var 1 rfl (Or.inl rfl)) (da_cons (de_var 2 rfl (Or.inl rfl)) (da_cons (de_var 3 rfl (Or.inl rfl)) (da_nil)))))) rfl (hlen := (len1 (len1 (len1 (len1 (len1 (len0))))))))) (sts_cons (st_set (i := 6) sc_walk_through.nd rfl (Or.inl rfl) (de_if (dt_cmp (o_eqD (u64 hr)) (de_var 9 rfl (Or.inl rfl)) (de_var 3 rfl (Or.inl rfl)) (nomark _)) (de_op o_add (de_var 6 rfl (Or.inl rfl)) (de_int)) (de_int))) (sts_cons (st_set (i := 5) sc_walk_through.nd rfl (Or.inl rfl) (de_if (dt_cmp (o_eqD (u64 hr)) (de_var 9 rfl (Or.inl rfl)) (de_var 3 rfl (Or.inl rfl)) (nomark _)) (de_var 5 rfl (Or.inl rfl)) (de_look1 c_lenL rfl kf.b_len boot_len (dl_var 4 rfl (Or.inl rfl))))) (sts_one (st_set (i := 3) sc_walk_through.nd rfl (Or.inl rfl) (de_var 9 rfl (Or.inl rfl)))))))))) (sts_one (st_ret (de_tup (da_cons (de_callTy c_tuple rfl kf.b_tuple boot_tuple (da_cons (de_slice (de_var 4 rfl (Or.inl rfl)) (do_none) (do_some (de_var 5 rfl (Or.inl rfl)))) (da_nil))) (da_cons (de_var 3 rfl (Or.inl rfl)) (da_nil))))))))))))

abbrev s_sayings : Stmt := top 54
theorem sc_sayings : FnScope N_sayings ["room", "case", "event"] (defScope s_sayings) := ⟨rfl, rfl, rfl, by decide +kernel, rfl, by decide +kernel, by decide +kernel⟩
theorem ok_sayings {P : Program} {w : World} {K : PySem.W.Frag} {mg : Str → Option Value} {base : Heap} (kf : KF K mg) : DefOk P w K mg base (ct K) (ga K "sayings") 8 3 m_sayings := by
  obtain ⟨fd, F⟩ := kf.d_sayings
  exact fn_ofF F sc_sayings (fun _ _ _ _ _ _ us hl => match us, hl with | [_, _, _], _ => rfl) (fun cdv A outer s H E hr hg => sts_cons (st_expr (de_call (DefOk.fnx (ok_check_asked kf) (hr.mono (by decide)) kf.g_check_asked) (takes_of rfl rfl rfl rfl) hg rfl (da_cons (de_var 0 rfl (Or.inl rfl)) (da_cons (de_var 1 rfl (Or.inl rfl)) (da_cons (de_var 2 rfl (Or.inl rfl)) (da_nil)))) rfl (hlen := (len1 (len1 (len1 (len0))))))) (sts_one (st_ret (de_ixL (u1 hr) (DE.dl (de_call (DefOk.fnx (ok_walk_through kf) (hr.mono (by decide)) kf.g_walk_through) (takes_of rfl rfl rfl rfl) hg rfl (da_cons (de_var 0 rfl (Or.inl rfl)) (da_cons (de_var 1 rfl (Or.inl rfl)) (da_cons (de_var 2 rfl (Or.inl rfl)) (da_nil)))) rfl (hlen := (len1 (len1 (len1 (len0))))))) (de_int)))))

abbrev s_heard_at_last : Stmt := top 55
theorem sc_heard_at_last : FnScope N_heard_at_last ["room", "case", "event"] (defScope s_heard_at_last) := ⟨rfl, rfl, rfl, by decide +kernel, rfl, by decide +kernel, by decide +kernel⟩
theorem ok_heard_at_last {P : Program} {w : World} {K : PySem.W.Frag} {mg : Str → Option Value} {base : Heap} (kf : KF K mg) : DefOk P w K mg base (ct K) (ga K "heard_at_last") 8 3 m_heard_at_last := by
  obtain ⟨fd, F⟩ := kf.d_heard_at_last
  exact fn_ofF F sc_heard_at_last (fun _ _ _ _ _ _ us hl => match us, hl with | [_, _, _], _ => rfl) (fun cdv A outer s H E hr hg => sts_cons (st_expr (de_call (DefOk.fnx (ok_check_asked kf) (hr.mono (by decide)) kf.g_check_asked) (takes_of rfl rfl rfl rfl) hg rfl (da_cons (de_var 0 rfl (Or.inl rfl)) (da_cons (de_var 1 rfl (Or.inl rfl)) (da_cons (de_var 2 rfl (Or.inl rfl)) (da_nil)))) rfl (hlen := (len1 (len1 (len1 (len0))))))) (sts_one (st_ret (de_ixL (u1 hr) (DE.dl (de_call (DefOk.fnx (ok_walk_through kf) (hr.mono (by decide)) kf.g_walk_through) (takes_of rfl rfl rfl rfl) hg rfl (da_cons (de_var 0 rfl (Or.inl rfl)) (da_cons (de_var 1 rfl (Or.inl rfl)) (da_cons (de_var 2 rfl (Or.inl rfl)) (da_nil)))) rfl (hlen := (len1 (len1 (len1 (len0))))))) (de_int)))))

abbrev s_last_of : Stmt := top 52
theorem sc_last_of : FnScope N_last_of ["room", "case", "event"] (defScope s_last_of) := ⟨rfl, rfl, rfl, by decide +kernel, rfl, by decide +kernel, by decide +kernel⟩
theorem ok_last_of {P : Program} {w : World} {K : PySem.W.Frag} {mg : Str → Option Value} {base : Heap} (kf : KF K mg) : DefOk P w K mg base (ct K) (ga K "last_of") 8 3 m_last_of := by
  obtain ⟨fd, F⟩ := kf.d_last_of
  exact fn_ofF F sc_last_of (fun _ _ _ _ _ _ us hl => match us, hl with | [_, _, _], _ => rfl) (fun cdv A outer s H E hr hg => sts_cons (st_set (i := 3) sc_last_of.nd rfl (Or.inr rfl) (de_ixL (u1 hr) (DE.dl (de_call (DefOk.fnx (ok_walk_through kf) (hr.mono (by decide)) kf.g_walk_through) (takes_of rfl rfl rfl rfl) hg rfl (da_cons (de_var 0 rfl (Or.inr (Or.inl rfl))) (da_cons (de_var 1 rfl (Or.inr (Or.inl rfl))) (da_cons (de_var 2 rfl (Or.inr (Or.inl rfl))) (da_nil)))) rfl (hlen := (len1 (len1 (len1 (len0))))))) (de_int))) (sts_one (st_ret (de_callTy c_tuple rfl kf.b_tuple boot_tuple (da_cons (FE.de (fe_lc (own := [("name", 4)]) rfl sc_last_of.nd (di_iter (de_attr (de_var 0 rfl (Or.inr (Or.inl rfl))) (acc_one (a0 := .prop m_Room_names) (DefOk.prop (X := cxD _ _ _ _ _ _ _ _ _ _ _ _ _ _ _) (ok_Room_names kf) (hr.mono (by decide)) (cls_ok kf.c_Room) (propB_ok kf.pr_Room_names))) hg) pi_str) (blkOk_by (N := N_last_of) (sc := defScope s_last_of) (by decide +kernel)) (fun _ _ _ _ _ => tg_name (i := 4) sc_last_of.nd rfl (Or.inl rfl)) (fun _ _ _ _ _ => dts_nil) (fun _ _ _ _ _ => de_call (DefOk.fnx (ok_saying_of kf) (hr.mono (by decide)) kf.g_saying_of) takesN hg rfl (da_cons (de_var 0 rfl (Or.inr (Or.inl rfl))) (da_cons (de_var 4 rfl (Or.inl rfl)) (da_cons (de_var 1 rfl (Or.inr (Or.inl rfl))) (da_cons (de_var 2 rfl (Or.inr (Or.inl rfl))) (da_cons (de_var 3 rfl (Or.inr (Or.inl rfl))) (da_nil)))))) rfl (hlen := (len1 (len1 (len1 (len1 (len1 (len0)))))))) (by decide))) (da_nil))))))

abbrev s_last_sayings : Stmt := top 56
theorem sc_last_sayings : FnScope N_last_sayings ["room", "case", "event"] (defScope s_last_sayings) := ⟨rfl, rfl, rfl, by decide +kernel, rfl, by decide +kernel, by decide +kernel⟩
theorem ok_last_sayings {P : Program} {w : World} {K : PySem.W.Frag} {mg : Str → Option Value} {base : Heap} (kf : KF K mg) : DefOk P w K mg base (ct K) (ga K "last_sayings") 9 3 m_last_sayings := by
  obtain ⟨fd, F⟩ := kf.d_last_sayings
  exact fn_ofF F sc_last_sayings (fun _ _ _ _ _ _ us hl => match us, hl with | [_, _, _], _ => rfl) (fun cdv A outer s H E hr hg => sts_cons (st_expr (de_call (DefOk.fnx (ok_check_asked kf) (hr.mono (by decide)) kf.g_check_asked) (takes_of rfl rfl rfl rfl) hg rfl (da_cons (de_var 0 rfl (Or.inl rfl)) (da_cons (de_var 1 rfl (Or.inl rfl)) (da_cons (de_var 2 rfl (Or.inl rfl)) (da_nil)))) rfl (hlen := (len1 (len1 (len1 (len0))))))) (sts_one (st_ret (de_call (DefOk.fnx (ok_last_of kf) (hr.mono (by decide)) kf.g_last_of) (takes_of rfl rfl rfl rfl) hg rfl (da_cons (de_var 0 rfl (Or.inl rfl)) (da_cons (de_var 1 rfl (Or.inl rfl)) (da_cons (de_var 2 rfl (Or.inl rfl)) (da_nil)))) rfl (hlen := (len1 (len1 (len1 (len0)))))))))

abbrev s_are_alike : Stmt := top 57
theorem sc_are_alike : FnScope N_are_alike ["said"] (defScope s_are_alike) := ⟨rfl, rfl, rfl, by decide +kernel, rfl, by decide +kernel, by decide +kernel⟩
theorem ok_are_alike {P : Program} {w : World} {K : PySem.W.Frag} {mg : Str → Option Value} {base : Heap} (kf : KF K mg) : DefOk P w K mg base (ct K) (ga K "are_alike") 1 1 m_are_alike := by
  obtain ⟨fd, F⟩ := kf.d_are_alike
  exact fn_ofF F sc_are_alike (fun _ _ _ _ _ _ us hl => match us, hl with | [_], _ => rfl) (fun cdv A outer s H E hr hg => sts_cons (st_set (i := 1) sc_are_alike.nd rfl (Or.inr rfl) (FE.de (fe_lc (own := [("number", 2)]) rfl sc_are_alike.nd (di_iter (de_var 0 rfl (Or.inl rfl)) pi_str) (blkOk_by (N := N_are_alike) (sc := defScope s_are_alike) (by decide +kernel)) (fun _ _ _ _ _ => tg_name (i := 2) sc_are_alike.nd rfl (Or.inl rfl)) (fun _ _ _ _ _ => dts_one (dt_cmp o_notN (de_var 2 rfl (Or.inl rfl)) (de_non) (nomark _))) (fun _ _ _ _ _ => de_var 2 rfl (Or.inl rfl)) (by decide)))) (sts_one (st_ret (de_callB (c_all rfl) rfl kf.b_all boot_all (da_cons (FE.de (fe_lc (own := [("number", 2)]) rfl sc_are_alike.nd (di_iter (de_var 1 rfl (Or.inr (Or.inl rfl))) pi_str) (blkOk_by (N := N_are_alike) (sc := defScope s_are_alike) (by decide +kernel)) (fun _ _ _ _ _ => tg_name (i := 2) sc_are_alike.nd rfl (Or.inl rfl)) (fun _ _ _ _ _ => dts_nil) (fun _ _ _ _ _ => de_cmp (o_eqD (u64 hr)) (de_var 2 rfl (Or.inl rfl)) (de_ixL (u1 hr) (dl_var 1 rfl (Or.inr (Or.inl rfl))) (de_int)) (nomark _)) (by decide))) (da_nil))))))

abbrev s_agree : Stmt := top 58
theorem sc_agree : FnScope N_agree ["room", "event"] (defScope s_agree) := ⟨rfl, rfl, rfl, by decide +kernel, rfl, by decide +kernel, by decide +kernel⟩
theorem ok_agree {P : Program} {w : World} {K : PySem.W.Frag} {mg : Str → Option Value} {base : Heap} (kf : KF K mg) : DefOk P w K mg base (ct K) (ga K "agree") 9 2 m_agree := by
  obtain ⟨fd, F⟩ := kf.d_agree
  exact fn_ofF F sc_agree (fun _ _ _ _ _ _ us hl => match us, hl with | [_, _], _ => rfl) (fun cdv A outer s H E hr hg => sts_cons (st_expr (de_call (DefOk.fnx (ok_check_room kf) (hr.mono (by decide)) kf.g_check_room) (takes_of rfl rfl rfl rfl) hg rfl (da_cons (de_var 0 rfl (Or.inr (Or.inl rfl))) (da_nil)) rfl (hlen := (len1 (len0))))) (sts_cons (st_expr (de_objm (DefOk.meth (c := 0) (ok_Room_check_lot kf) (hr.mono (by decide)) (cls_ok kf.c_Room) (notIn (ns := fl0) rfl (by decide)) (meth_ok kf.me_Room_check_lot)) (takes_of rfl rfl rfl rfl) hg (de_var 0 rfl (Or.inr (Or.inl rfl))) (da_cons (de_var 1 rfl (Or.inr (Or.inl rfl))) (da_nil)) rfl (len1 (len0)))) (sts_one (st_ret (de_callB (c_all rfl) rfl kf.b_all boot_all (da_cons (FE.de (fe_lc (own := [("case", 2)]) rfl sc_agree.nd (di_iter (de_attr (de_var 0 rfl (Or.inr (Or.inl rfl))) (acc_one (a0 := .prop m_Room_cases) (DefOk.prop (X := cxD _ _ _ _ _ _ _ _ _ _ _ _ _ _ _) (ok_Room_cases kf) (hr.mono (by decide)) (cls_ok kf.c_Room) (propB_ok kf.pr_Room_cases))) hg) pi_str) (blkOk_by (N := N_agree) (sc := defScope s_agree) (by decide +kernel)) (fun _ _ _ _ _ => tg_name (i := 2) sc_agree.nd rfl (Or.inl rfl)) (fun _ _ _ _ _ => dts_nil) (fun _ _ _ _ _ => de_call (DefOk.fnx (ok_are_alike kf) (hr.mono (by decide)) kf.g_are_alike) takesN hg rfl (da_cons (de_call (DefOk.fnx (ok_last_of kf) (hr.mono (by decide)) kf.g_last_of) takesN hg rfl (da_cons (de_var 0 rfl (Or.inr (Or.inl rfl))) (da_cons (de_var 2 rfl (Or.inl rfl)) (da_cons (de_var 1 rfl (Or.inr (Or.inl rfl))) (da_nil)))) rfl (hlen := (len1 (len1 (len1 (len0)))))) (da_nil)) rfl (hlen := (len1 (len0)))) (by decide))) (da_nil)))))))

abbrev s_most_sayings : Stmt := top 59
theorem sc_most_sayings : FnScope N_most_sayings ["room", "event"] (defScope s_most_sayings) := ⟨rfl, rfl, rfl, by decide +kernel, rfl, by decide +kernel, by decide +kernel⟩
theorem ok_most_sayings {P : Program} {w : World} {K : PySem.W.Frag} {mg : Str → Option Value} {base : Heap} (kf : KF K mg) : DefOk P w K mg base (ct K) (ga K "most_sayings") 8 2 m_most_sayings := by
  obtain ⟨fd, F⟩ := kf.d_most_sayings
  exact fn_ofF F sc_most_sayings (fun _ _ _ _ _ _ us hl => match us, hl with | [_, _], _ => rfl) (fun cdv A outer s H E hr hg => sts_cons (st_expr (de_call (DefOk.fnx (ok_check_room kf) (hr.mono (by decide)) kf.g_check_room) (takes_of rfl rfl rfl rfl) hg rfl (da_cons (de_var 0 rfl (Or.inr (Or.inl rfl))) (da_nil)) rfl (hlen := (len1 (len0))))) (sts_cons (st_expr (de_objm (DefOk.meth (c := 0) (ok_Room_check_lot kf) (hr.mono (by decide)) (cls_ok kf.c_Room) (notIn (ns := fl0) rfl (by decide)) (meth_ok kf.me_Room_check_lot)) (takes_of rfl rfl rfl rfl) hg (de_var 0 rfl (Or.inr (Or.inl rfl))) (da_cons (de_var 1 rfl (Or.inr (Or.inl rfl))) (da_nil)) rfl (len1 (len0)))) (sts_one (st_ret (de_callB (c_max rfl) rfl kf.b_max boot_max (da_cons (FE.de (fe_lc (own := [("case", 2)]) rfl sc_most_sayings.nd (di_iter (de_attr (de_var 0 rfl (Or.inr (Or.inl rfl))) (acc_one (a0 := .prop m_Room_cases) (DefOk.prop (X := cxD _ _ _ _ _ _ _ _ _ _ _ _ _ _ _) (ok_Room_cases kf) (hr.mono (by decide)) (cls_ok kf.c_Room) (propB_ok kf.pr_Room_cases))) hg) pi_str) (blkOk_by (N := N_most_sayings) (sc := defScope s_most_sayings) (by decide +kernel)) (fun _ _ _ _ _ => tg_name (i := 2) sc_most_sayings.nd rfl (Or.inl rfl)) (fun _ _ _ _ _ => dts_nil) (fun _ _ _ _ _ => de_look1 c_lenL rfl kf.b_len boot_len (DE.dl (de_ixL (u1 hr) (DE.dl (de_call (DefOk.fnx (ok_walk_through kf) (hr.mono (by decide)) kf.g_walk_through) takesN hg rfl (da_cons (de_var 0 rfl (Or.inr (Or.inl rfl))) (da_cons (de_var 2 rfl (Or.inl rfl)) (da_cons (de_var 1 rfl (Or.inr (Or.inl rfl))) (da_nil)))) rfl (hlen := (len1 (len1 (len1 (len0))))))) (de_int)))) (by decide))) (da_nil)))))))

abbrev s_Room_check_name : Stmt := sub 46 7
theorem sc_Room_check_name : FnScope N_Room_check_name ["self", "name"] (defScope s_Room_check_name) := ⟨rfl, rfl, rfl, by decide +kernel, rfl, by decide +kernel, by decide +kernel⟩
theorem ok_Room_check_name {P : Program} {w : World} {K : PySem.W.Frag} {mg : Str → Option Value} {base : Heap} (kf : KF K mg) : DefOk P w K mg base (ct K) (ma K (ga K "Room") "check_name") 1 2 m_Room_check_name := by
  obtain ⟨fd, F⟩ := kf.d_Room_check_name
  exact fn_ofF F sc_Room_check_name (fun _ _ _ _ _ _ us hl => match us, hl with | [_, _], _ => rfl) (fun cdv A outer s H E hr hg => sts_one (st_if (DW.t (dw_or (dt_not (dt_val (de_isi (isf_b (T := "str") (by decide) own_no) (.ty "str") (pe_bltn rfl kf.b_str boot_str rfl) rfl kf.b_isinstance (de_var 1 rfl (Or.inl rfl))))) (dw_or1 (dt_inL (o_ninL (u66 hr)) (de_var 1 rfl (Or.inl rfl)) (DE.dl (de_attr (de_var 0 rfl (Or.inl rfl)) (acc_one (a0 := .fld 3) (fldOf (c := 0) (j := 3) (ns := fl0) rfl (cls_ok kf.c_Room) (noat_ok kf.n_Room_views) (by decide))) hg)) (by rfl))))) (sts_one (st_never)) (sts_nil)))

abbrev s_Room_check_part : Stmt := sub 46 10
theorem sc_Room_check_part : FnScope N_Room_check_part ["self", "name", "lot"] (defScope s_Room_check_part) := ⟨rfl, rfl, rfl, by decide +kernel, rfl, by decide +kernel, by decide +kernel⟩
theorem ok_Room_check_part {P : Program} {w : World} {K : PySem.W.Frag} {mg : Str → Option Value} {base : Heap} (kf : KF K mg) : DefOk P w K mg base (ct K) (ma K (ga K "Room") "check_part") 1 3 m_Room_check_part := by
  obtain ⟨fd, F⟩ := kf.d_Room_check_part
  exact fn_ofF F sc_Room_check_part (fun _ _ _ _ _ _ us hl => match us, hl with | [_, _, _], _ => rfl) (fun cdv A outer s H E hr hg => sts_one (st_if (DW.t (dw_or (dt_not (dt_val (de_isi (isf_b (T := "str") (by decide) own_no) (.ty "str") (pe_bltn rfl kf.b_str boot_str rfl) rfl kf.b_isinstance (de_var 2 rfl (Or.inl rfl))))) (dw_or1 (dt_inL (o_ninL (u66 hr)) (de_var 2 rfl (Or.inl rfl)) (DE.dl (FE.de (fe_lc (own := [("part", 3)]) rfl sc_Room_check_part.nd (di_iter (de_ixL (u1 hr) (DE.dl (de_attr (de_var 0 rfl (Or.inl rfl)) (acc_one (a0 := .fld 3) (fldOf (c := 0) (j := 3) (ns := fl0) rfl (cls_ok kf.c_Room) (noat_ok kf.n_Room_views) (by decide))) hg)) (de_var 1 rfl (Or.inl rfl))) pi_str) (blkOk_by (N := N_Room_check_part) (sc := defScope s_Room_check_part) (by decide +kernel)) (fun _ _ _ _ _ => tg_name (i := 3) sc_Room_check_part.nd rfl (Or.inl rfl)) (fun _ _ _ _ _ => dts_nil) (fun _ _ _ _ _ => de_ixL (u1 hr) (dl_var 3 rfl (Or.inl rfl)) (de_int)) (by decide)))) (by rfl))))) (sts_one (st_never)) (sts_nil)))

abbrev s_Room_told : Stmt := sub 46 13
theorem sc_Room_told : FnScope N_Room_told ["self", "name", "lot"] (defScope s_Room_told) := ⟨rfl, rfl, rfl, by decide +kernel, rfl, by decide +kernel, by decide +kernel⟩
theorem ok_Room_told {P : Program} {w : World} {K : PySem.W.Frag} {mg : Str → Option Value} {base : Heap} (kf : KF K mg) : DefOk P w K mg base (ct K) (ma K (ga K "Room") "told") 2 3 m_Room_told := by
  obtain ⟨fd, F⟩ := kf.d_Room_told
  exact fn_ofF F sc_Room_told (fun _ _ _ _ _ _ us hl => match us, hl with | [_, _, _], _ => rfl) (fun cdv A outer s H E hr hg => sts_cons (st_expr (de_objm (DefOk.meth (c := 0) (ok_Room_check_name kf) (hr.mono (by decide)) (cls_ok kf.c_Room) (notIn (ns := fl0) rfl (by decide)) (meth_ok kf.me_Room_check_name)) (takes_of rfl rfl rfl rfl) hg (de_var 0 rfl (Or.inl rfl)) (da_cons (de_var 1 rfl (Or.inl rfl)) (da_nil)) rfl (len1 (len0)))) (sts_cons (st_expr (de_objm (DefOk.meth (c := 0) (ok_Room_check_part kf) (hr.mono (by decide)) (cls_ok kf.c_Room) (notIn (ns := fl0) rfl (by decide)) (meth_ok kf.me_Room_check_part)) (takes_of rfl rfl rfl rfl) hg (de_var 0 rfl (Or.inl rfl)) (da_cons (de_var 1 rfl (Or.inl rfl)) (da_cons (de_var 2 rfl (Or.inl rfl)) (da_nil))) rfl (len1 (len1 (len0))))) (sts_one (st_ret (de_ixL (u1 hr) (DE.dl (FE.de (fe_callTy (c_dict rfl) rfl kf.b_dict boot_dict (da_cons (de_ixL (u1 hr) (DE.dl (de_attr (de_var 0 rfl (Or.inl rfl)) (acc_one (a0 := .fld 3) (fldOf (c := 0) (j := 3) (ns := fl0) rfl (cls_ok kf.c_Room) (noat_ok kf.n_Room_views) (by decide))) hg)) (de_var 1 rfl (Or.inl rfl))) (da_nil))))) (de_var 2 rfl (Or.inl rfl)))))))

abbrev s_Room_changed : Stmt := sub 46 14
theorem sc_Room_changed : FnScope N_Room_changed ["self", "name", "lot", "told"] (defScope s_Room_changed) := ⟨rfl, rfl, rfl, by decide +kernel, rfl, by decide +kernel, by decide +kernel⟩
theorem ok_Room_changed {P : Program} {w : World} {K : PySem.W.Frag} {mg : Str → Option Value} {base : Heap} (kf : KF K mg) : DefOk P w K mg base (ct K) (ma K (ga K "Room") "changed") 12 4 m_Room_changed := by
  obtain ⟨fd, F⟩ := kf.d_Room_changed
  exact fn_ofF F sc_Room_changed (fun _ _ _ _ _ _ us hl => match us, hl with | [_, _, _, _], _ => rfl) (fun cdv A outer s H E hr hg => sts_cons (st_set (i := 4) sc_Room_changed.nd rfl (Or.inr rfl) (de_callTy c_tuple rfl kf.b_tuple boot_tuple (da_cons (FE.de (fe_lc (own := [("other", 5), ("old", 6)]) rfl sc_Room_changed.nd (di_iter (de_ixL (u1 hr) (DE.dl (de_attr (de_var 0 rfl (Or.inl rfl)) (acc_one (a0 := .fld 3) (fldOf (c := 0) (j := 3) (ns := fl0) rfl (cls_ok kf.c_Room) (noat_ok kf.n_Room_views) (by decide))) hg)) (de_var 1 rfl (Or.inr (Or.inl rfl)))) pi_str) (blkOk_by (N := N_Room_changed) (sc := defScope s_Room_changed) (by decide +kernel)) (fun _ _ _ _ _ => tg_tup K rfl (tgs_cons (tg_name (i := 5) sc_Room_changed.nd rfl (Or.inl rfl)) (tgs_cons (tg_name (i := 6) sc_Room_changed.nd rfl (Or.inl rfl)) (tgs_nil)))) (fun _ _ _ _ _ => dts_nil) (fun _ _ _ _ _ => de_tup (da_cons (de_var 5 rfl (Or.inl rfl)) (da_cons (de_if (dt_cmp (o_eqD (u64 hr)) (de_var 5 rfl (Or.inl rfl)) (de_var 2 rfl (Or.inr (Or.inl rfl))) (nomark _)) (de_var 3 rfl (Or.inr (Or.inl rfl))) (de_var 6 rfl (Or.inl rfl))) (da_nil)))) (by decide))) (da_nil)))) (sts_cons (st_set (i := 7) sc_Room_changed.nd rfl (Or.inl rfl) (de_callTy c_tuple rfl kf.b_tuple boot_tuple (da_cons (FE.de (fe_lc (own := [("other", 5), ("old", 6)]) rfl sc_Room_changed.nd (di_iter (de_attr (de_var 0 rfl (Or.inl rfl)) (acc_one (a0 := .fld 1) (fldOf (c := 0) (j := 1) (ns := fl0) rfl (cls_ok kf.c_Room) (noat_ok kf.n_Room_all_people) (by decide))) hg) pi_str) (blkOk_by (N := N_Room_changed) (sc := defScope s_Room_changed) (by decide +kernel)) (fun _ _ _ _ _ => tg_tup K rfl (tgs_cons (tg_name (i := 5) sc_Room_changed.nd rfl (Or.inl rfl)) (tgs_cons (tg_name (i := 6) sc_Room_changed.nd rfl (Or.inl rfl)) (tgs_nil)))) (fun _ _ _ _ _ => dts_nil) (fun _ _ _ _ _ => de_tup (da_cons (de_var 5 rfl (Or.inl rfl)) (da_cons (de_if (dt_cmp (o_eqD (u64 hr)) (de_var 5 rfl (Or.inl rfl)) (de_var 1 rfl (Or.inr (Or.inl rfl))) (nomark _)) (de_var 4 rfl (Or.inr (Or.inl rfl))) (de_var 6 rfl (Or.inl rfl))) (da_nil)))) (by decide))) (da_nil)))) (sts_one (st_ret (de_makeZ (DefOk.make (ok_Room_init kf) (hr.mono (by decide)) kf.g_Room (mkr_ok kf.mk_Room)) (takes_of rfl rfl rfl rfl) hg rfl (da_cons (de_attr (de_var 0 rfl (Or.inl rfl)) (acc_one (a0 := .fld 0) (fldOf (c := 0) (j := 0) (ns := fl0) rfl (cls_ok kf.c_Room) (noat_ok kf.n_Room_all_cases) (by decide))) hg) (da_cons (de_var 7 rfl (Or.inl rfl)) (da_nil))) rfl (len1 (len1 (len0))))))))

abbrev s_Room_without_told : Stmt := sub 46 16
theorem sc_Room_without_told : FnScope N_Room_without_told ["self", "name", "lot"] (defScope s_Room_without_told) := ⟨rfl, rfl, rfl, by decide +kernel, rfl, by decide +kernel, by decide +kernel⟩
theorem ok_Room_without_told {P : Program} {w : World} {K : PySem.W.Frag} {mg : Str → Option Value} {base : Heap} (kf : KF K mg) : DefOk P w K mg base (ct K) (ma K (ga K "Room") "without_told") 13 3 m_Room_without_told := by
  obtain ⟨fd, F⟩ := kf.d_Room_without_told
  exact fn_ofF F sc_Room_without_told (fun _ _ _ _ _ _ us hl => match us, hl with | [_, _, _], _ => rfl) (fun cdv A outer s H E hr hg => sts_cons (st_if (dt_cmp o_isN (de_objm (DefOk.meth (c := 0) (ok_Room_told kf) (hr.mono (by decide)) (cls_ok kf.c_Room) (notIn (ns := fl0) rfl (by decide)) (meth_ok kf.me_Room_told)) (takes_of rfl rfl rfl rfl) hg (de_var 0 rfl (Or.inl rfl)) (da_cons (de_var 1 rfl (Or.inl rfl)) (da_cons (de_var 2 rfl (Or.inl rfl)) (da_nil))) rfl (len1 (len1 (len0)))) (de_non) (nomark _)) (sts_one (st_never)) (sts_nil)) (sts_one (st_ret (de_objm (DefOk.meth (c := 0) (ok_Room_changed kf) (hr.mono (by decide)) (cls_ok kf.c_Room) (notIn (ns := fl0) rfl (by decide)) (meth_ok kf.me_Room_changed)) (takes_of rfl rfl rfl rfl) hg (de_var 0 rfl (Or.inl rfl)) (da_cons (de_var 1 rfl (Or.inl rfl)) (da_cons (de_var 2 rfl (Or.inl rfl)) (da_cons (de_non) (da_nil)))) rfl (len1 (len1 (len1 (len0))))))))

abbrev s_law_pair_right : Stmt := top 64
theorem sc_law_pair_right : FnScope N_law_pair_right ["_law_cup_here"] (defScope s_law_pair_right) := ⟨rfl, rfl, rfl, by decide +kernel, rfl, by decide +kernel, by decide +kernel⟩
theorem ok_law_pair_right {P : Program} {w : World} {K : PySem.W.Frag} {mg : Str → Option Value} {base : Heap} (kf : KF K mg) : DefOk P w K mg base (ct K) (ga K "_law_pair_right") 14 1 m_law_pair_right := by
  obtain ⟨fd, F⟩ := kf.d_law_pair_right
  exact fn_ofF F sc_law_pair_right (fun _ _ _ _ _ _ us hl => match us, hl with | [_], _ => rfl) (fun cdv A outer s H E hr hg => sts_cons (st_ownLc (i := 1) (own := [("_law_k", 2)]) rfl rfl (sw_true rfl rfl rfl (by first | rfl | decide +kernel)) rfl sc_law_pair_right.nd (di_range1 rfl kf.b_range (da_cons (de_op o_add (de_int) (de_call (DefOk.fnx (ok_law_sip kf) (hr.mono (by decide)) kf.g_law_sip) (takes_of rfl rfl rfl rfl) hg rfl (da_cons (de_var 0 rfl (Or.inr (Or.inl rfl))) (da_cons (de_int) (da_nil))) rfl (hlen := (len1 (len1 (len0)))))) (da_nil)) (len1 (len0))) (blkOk_by (N := N_law_pair_right) (sc := defScope s_law_pair_right) (by decide +kernel)) (fun _ _ _ _ _ => tg_name (i := 2) sc_law_pair_right.nd rfl (Or.inl rfl)) (fun _ _ _ _ _ => dts_nil) (fun _ _ _ _ _ => de_op o_add (de_int) (de_call (DefOk.fnx (ok_law_sip kf) (hr.mono (by decide)) kf.g_law_sip) takesN hg rfl (da_cons (de_var 0 rfl (Or.inr (Or.inl rfl))) (da_cons (de_int) (da_nil))) rfl (hlen := (len1 (len1 (len0)))))) (by decide)) (sts_cons (st_asg (de_op o_add (de_ixL (u1 hr) (dl_var 1 rfl (Or.inl rfl)) (de_int)) (de_int)) (tg_ix (u1 hr) (dl_var 1 rfl (Or.inl rfl)) (de_int))) (sts_cons (st_set (i := 3) sc_law_pair_right.nd rfl (Or.inr rfl) (FE.de (fe_lc (own := [("_law_top", 4)]) rfl sc_law_pair_right.nd (di_iter (de_var 1 rfl (Or.inl rfl)) pi_str) (blkOk_by (N := N_law_pair_right) (sc := defScope s_law_pair_right) (by decide +kernel)) (fun _ _ _ _ _ => tg_name (i := 4) sc_law_pair_right.nd rfl (Or.inl rfl)) (fun _ _ _ _ _ => dts_nil) (fun _ _ _ _ _ => de_tup (da_cons (de_call (DefOk.fnx (ok_law_low_v2 kf) (hr.mono (by decide)) kf.g_law_low) takesN hg rfl (da_cons (de_var 4 rfl (Or.inl rfl)) (da_cons (de_int) (da_nil))) rfl (hlen := (len1 (len1 (len0))))) (da_cons (de_call (DefOk.fnx (ok_law_low_v2 kf) (hr.mono (by decide)) kf.g_law_low) takesN hg rfl (da_cons (de_op o_subI (de_int) (de_var 4 rfl (Or.inl rfl))) (da_cons (de_int) (da_nil))) rfl (hlen := (len1 (len1 (len0))))) (da_nil)))) (by decide)))) (sts_cons (st_set (i := 5) sc_law_pair_right.nd rfl (Or.inl rfl) (de_makeZ (DefOk.make (ok_Room_init kf) (hr.mono (by decide)) kf.g_Room (mkr_ok kf.mk_Room)) (takes_of rfl rfl rfl rfl) hg rfl (da_cons (de_str) (da_cons (de_callTy c_tuple rfl kf.b_tuple boot_tuple (da_cons (FE.de (fe_lc (own := [("_law_k", 2)]) rfl sc_law_pair_right.nd (di_range1 rfl kf.b_range (da_cons (de_look1 c_lenL rfl kf.b_len boot_len (dl_var 1 rfl (Or.inl rfl))) (da_nil)) (len1 (len0))) (blkOk_by (N := N_law_pair_right) (sc := defScope s_law_pair_right) (by decide +kernel)) (fun _ _ _ _ _ => tg_name (i := 2) sc_law_pair_right.nd rfl (Or.inl rfl)) (fun _ _ _ _ _ => dts_nil) (fun _ _ _ _ _ => de_tup (da_cons (de_op o_add (de_str) (de_ixL (u1 hr) (DE.dl (de_str)) (de_var 2 rfl (Or.inl rfl)))) (da_cons (de_tup (da_cons (de_tup (da_cons (de_str) (da_cons (de_ixL (u1 hr) (dl_var 3 rfl (Or.inr (Or.inl rfl))) (de_var 2 rfl (Or.inl rfl))) (da_nil)))) (da_nil))) (da_nil)))) (by decide))) (da_nil))) (da_nil))) rfl (len1 (len1 (len0))))) (sts_cons (st_for (passes_of rfl) rfl (di_iter (de_lst (da_cons (de_tup (da_cons (de_str) (da_cons (de_int) (da_nil)))) (da_cons (de_tup (da_cons (de_str) (da_cons (de_int) (da_nil)))) (da_nil)))) pi_str) (tg_tup K rfl (tgs_cons (tg_name (i := 6) sc_law_pair_right.nd rfl (Or.inl rfl)) (tgs_cons (tg_name (i := 7) sc_law_pair_right.nd rfl (Or.inr rfl)) (tgs_nil)))) (sts_cons (st_set (i := 8) sc_law_pair_right.nd rfl (Or.inl rfl) (de_callTy c_tuple rfl kf.b_tuple boot_tuple (da_cons (FE.de (fe_lc (own := [("_law_part", 9)]) rfl sc_law_pair_right.nd (di_iter (de_var 3 rfl (Or.inr (Or.inl rfl))) pi_str) (blkOk_by (N := N_law_pair_right) (sc := defScope s_law_pair_right) (by decide +kernel)) (fun _ _ _ _ _ => tg_name (i := 9) sc_law_pair_right.nd rfl (Or.inl rfl)) (fun _ _ _ _ _ => dts_nil) (fun _ _ _ _ _ => de_ixL (u1 hr) (dl_var 9 rfl (Or.inl rfl)) (de_var 7 rfl (Or.inr (Or.inl rfl)))) (by decide))) (da_nil)))) (sts_cons (st_for (passes_of rfl) rfl (di_iter (de_str) pi_str) (tg_name (i := 10) sc_law_pair_right.nd rfl (Or.inl rfl)) (sts_cons (st_if (DW.t (dw_or (dt_cmp (o_neD (u64 hr)) (de_call (DefOk.fnx (ok_sayings kf) (hr.mono (by decide)) kf.g_sayings) (takes_of rfl rfl rfl rfl) hg rfl (da_cons (de_var 5 rfl (Or.inl rfl)) (da_cons (de_var 10 rfl (Or.inl rfl)) (da_cons (de_var 6 rfl (Or.inl rfl)) (da_nil)))) rfl (hlen := (len1 (len1 (len1 (len0)))))) (de_tup (da_nil)) (nomark _)) (dw_or1 (dt_cmp (o_neD (u64 hr)) (de_call (DefOk.fnx (ok_heard_at_last kf) (hr.mono (by decide)) kf.g_heard_at_last) (takes_of rfl rfl rfl rfl) hg rfl (da_cons (de_var 5 rfl (Or.inl rfl)) (da_cons (de_var 10 rfl (Or.inl rfl)) (da_cons (de_var 6 rfl (Or.inl rfl)) (da_nil)))) rfl (hlen := (len1 (len1 (len1 (len0)))))) (de_str) (nomark _))))) (sts_one (st_ret (de_bl))) (sts_nil)) (sts_one (st_if (dt_cmp (o_neD (u64 hr)) (de_call (DefOk.fnx (ok_last_sayings kf) (hr.mono (by decide)) kf.g_last_sayings) (takes_of rfl rfl rfl rfl) hg rfl (da_cons (de_var 5 rfl (Or.inl rfl)) (da_cons (de_var 10 rfl (Or.inl rfl)) (da_cons (de_var 6 rfl (Or.inl rfl)) (da_nil)))) rfl (hlen := (len1 (len1 (len1 (len0)))))) (de_var 8 rfl (Or.inl rfl)) (nomark _)) (sts_one (st_ret (de_bl))) (sts_nil))))) (sts_one (st_if (DW.t (dw_or (dt_val (de_call (DefOk.fnx (ok_agree kf) (hr.mono (by decide)) kf.g_agree) (takes_of rfl rfl rfl rfl) hg rfl (da_cons (de_var 5 rfl (Or.inl rfl)) (da_cons (de_var 6 rfl (Or.inl rfl)) (da_nil))) rfl (hlen := (len1 (len1 (len0)))))) (dw_or1 (dt_cmp (o_neD (u64 hr)) (de_call (DefOk.fnx (ok_most_sayings kf) (hr.mono (by decide)) kf.g_most_sayings) (takes_of rfl rfl rfl rfl) hg rfl (da_cons (de_var 5 rfl (Or.inl rfl)) (da_cons (de_var 6 rfl (Or.inl rfl)) (da_nil))) rfl (hlen := (len1 (len1 (len0))))) (de_int) (nomark _))))) (sts_one (st_ret (de_bl))) (sts_nil)))))) (sts_cons (st_if (DW.t (dw_or (dt_not (dt_val (de_call (DefOk.fnx (ok_agree kf) (hr.mono (by decide)) kf.g_agree) (takes_of rfl rfl rfl rfl) hg rfl (da_cons (de_var 5 rfl (Or.inl rfl)) (da_cons (de_str) (da_nil))) rfl (hlen := (len1 (len1 (len0))))))) (dw_or1 (dt_not (dt_val (de_call (DefOk.fnx (ok_agree kf) (hr.mono (by decide)) kf.g_agree) (takes_of rfl rfl rfl rfl) hg rfl (da_cons (de_var 5 rfl (Or.inl rfl)) (da_cons (de_str) (da_nil))) rfl (hlen := (len1 (len1 (len0)))))))))) (sts_one (st_ret (de_bl))) (sts_nil)) (sts_cons (st_set (i := 11) sc_law_pair_right.nd rfl (Or.inl rfl) (de_var 5 rfl (Or.inl rfl))) (sts_cons (st_for (passes_of rfl) rfl (di_range2 rfl kf.b_range (da_cons (de_int) (da_cons (de_look1 c_lenL rfl kf.b_len boot_len (dl_var 1 rfl (Or.inl rfl))) (da_nil))) (len1 (len1 (len0)))) (tg_name (i := 2) sc_law_pair_right.nd rfl (Or.inl rfl)) (sts_one (st_set (i := 11) sc_law_pair_right.nd rfl (Or.inl rfl) (de_objm (DefOk.meth (c := 0) (ok_Room_without_told kf) (hr.mono (by decide)) (cls_ok kf.c_Room) (notIn (ns := fl0) rfl (by decide)) (meth_ok kf.me_Room_without_told)) (takes_of rfl rfl rfl rfl) hg (de_var 11 rfl (Or.inl rfl)) (da_cons (de_op o_add (de_str) (de_ixL (u1 hr) (DE.dl (de_str)) (de_var 2 rfl (Or.inl rfl)))) (da_cons (de_str) (da_nil))) rfl (len1 (len1 (len0))))))) (sts_one (st_ret (de_and (de_call (DefOk.fnx (ok_agree kf) (hr.mono (by decide)) kf.g_agree) (takes_of rfl rfl rfl rfl) hg rfl (da_cons (de_var 11 rfl (Or.inl rfl)) (da_cons (de_str) (da_nil))) rfl (hlen := (len1 (len1 (len0))))) (de_one (de_cmp (o_eqD (u64 hr)) (de_call (DefOk.fnx (ok_last_sayings kf) (hr.mono (by decide)) kf.g_last_sayings) (takes_of rfl rfl rfl rfl) hg rfl (da_cons (de_var 11 rfl (Or.inl rfl)) (da_cons (de_str) (da_cons (de_str) (da_nil)))) rfl (hlen := (len1 (len1 (len1 (len0)))))) (de_op o_add (de_tup (da_cons (de_ixL (u1 hr) (DE.dl (de_ixL (u1 hr) (dl_var 3 rfl (Or.inr (Or.inl rfl))) (de_int))) (de_int)) (da_nil))) (de_op o_mul (de_tup (da_cons (de_non) (da_nil))) (de_op o_subI (de_look1 c_lenL rfl kf.b_len boot_len (dl_var 1 rfl (Or.inl rfl))) (de_int)))) (nomark _))))))))))))))

abbrev s_natural_in : Stmt := top 41
theorem sc_natural_in : FnScope N_natural_in ["word"] (defScope s_natural_in) := ⟨rfl, rfl, rfl, by decide +kernel, rfl, by decide +kernel, by decide +kernel⟩
theorem ok_natural_in {P : Program} {w : World} {K : PySem.W.Frag} {mg : Str → Option Value} {base : Heap} (kf : KF K mg) : DefOk P w K mg base (ct K) (ga K "natural_in") 1 1 m_natural_in := by
  obtain ⟨fd, F⟩ := kf.d_natural_in
  exact fn_ofF F sc_natural_in (fun _ _ _ _ _ _ us hl => match us, hl with | [_], _ => rfl) (fun cdv A outer s H E hr hg => sts_cons (st_if (DW.t (dw_or (dt_not (dt_chain o_le o_le (de_int) (de_look1 c_lenL rfl kf.b_len boot_len (dl_var 0 rfl (Or.inl rfl))) (de_gint (x := "MOST_DIGITS") (i := 10) ⟨kf.i_MOST_DIGITS_10⟩ rfl))) (dw_or1 (dt_val (de_callB (c_any rfl) rfl kf.b_any boot_any (da_cons (FE.de (fe_lc (own := [("digit", 1)]) rfl sc_natural_in.nd (di_iter (de_var 0 rfl (Or.inl rfl)) pi_str) (blkOk_by (N := N_natural_in) (sc := defScope s_natural_in) (by decide +kernel)) (fun _ _ _ _ _ => tg_name (i := 1) sc_natural_in.nd rfl (Or.inl rfl)) (fun _ _ _ _ _ => dts_nil) (fun _ _ _ _ _ => de_inL (o_ninL (u66 hr)) (de_var 1 rfl (Or.inl rfl)) (DE.dl (de_gstr (x := "DIGITS") (z := "0123456789") ⟨kf.s_DIGITS⟩ rfl)) (by rfl)) (by decide))) (da_nil))))))) (sts_one (st_ret (de_non))) (sts_nil)) (sts_one (st_ret (de_if (DW.t (dw_or (dt_cmp (o_eqD (u64 hr)) (de_var 0 rfl (Or.inl rfl)) (de_str) (nomark _)) (dw_or1 (dt_cmp (o_neD (u64 hr)) (de_ixL (u1 hr) (dl_var 0 rfl (Or.inl rfl)) (de_int)) (de_str) (nomark _))))) (de_callTy c_int rfl kf.b_int boot_int (da_cons (de_var 0 rfl (Or.inl rfl)) (da_nil))) (de_non)))))

abbrev s_fraction_in : Stmt := top 42
theorem sc_fraction_in : FnScope N_fraction_in ["word"] (defScope s_fraction_in) := ⟨rfl, rfl, rfl, by decide +kernel, rfl, by decide +kernel, by decide +kernel⟩
theorem ok_fraction_in {P : Program} {w : World} {K : PySem.W.Frag} {mg : Str → Option Value} {base : Heap} (kf : KF K mg) : DefOk P w K mg base (ct K) (ga K "fraction_in") 2 1 m_fraction_in := by
  obtain ⟨fd, F⟩ := kf.d_fraction_in
  exact fn_ofF F sc_fraction_in (fun _ _ _ _ _ _ us hl => match us, hl with | [_], _ => rfl) (fun cdv A outer s H E hr hg => sts_cons (st_set (i := 1) sc_fraction_in.nd rfl (Or.inl rfl) (de_meth PySem.F.plainAttrs_str PySem.F.slot_str_split PySem.F.type_str_split (MtD.x m_split) actR_ne (dl_var 0 rfl (Or.inl rfl)) (da_cons (de_str) (da_nil)))) (sts_cons (st_if (dt_cmp (o_neD (u64 hr)) (de_look1 c_lenL rfl kf.b_len boot_len (dl_var 1 rfl (Or.inl rfl))) (de_int) (nomark _)) (sts_one (st_ret (de_non))) (sts_nil)) (sts_cons (st_set (i := 2) sc_fraction_in.nd rfl (Or.inl rfl) (de_tup (da_cons (de_call (DefOk.fnx (ok_natural_in kf) (hr.mono (by decide)) kf.g_natural_in) (takes_of rfl rfl rfl rfl) hg rfl (da_cons (de_ixL (u1 hr) (dl_var 1 rfl (Or.inl rfl)) (de_int)) (da_nil)) rfl (hlen := (len1 (len0)))) (da_cons (de_call (DefOk.fnx (ok_natural_in kf) (hr.mono (by decide)) kf.g_natural_in) (takes_of rfl rfl rfl rfl) hg rfl (da_cons (de_ixL (u1 hr) (dl_var 1 rfl (Or.inl rfl)) (de_int)) (da_nil)) rfl (hlen := (len1 (len0)))) (da_nil))))) (sts_one (st_ret (de_if (DW.t (dw_or (dt_cmp o_isN (de_ixL (u1 hr) (dl_var 2 rfl (Or.inl rfl)) (de_int)) (de_non) (nomark _)) (dw_or1 (dt_cmp o_isN (de_ixL (u1 hr) (dl_var 2 rfl (Or.inl rfl)) (de_int)) (de_non) (nomark _))))) (de_non) (de_var 2 rfl (Or.inl rfl))))))))

abbrev s_told_in : Stmt := top 43
theorem sc_told_in : FnScope N_told_in ["words"] (defScope s_told_in) := ⟨rfl, rfl, rfl, by decide +kernel, rfl, by decide +kernel, by decide +kernel⟩
theorem ok_told_in {P : Program} {w : World} {K : PySem.W.Frag} {mg : Str → Option Value} {base : Heap} (kf : KF K mg) : DefOk P w K mg base (ct K) (ga K "told_in") 3 1 m_told_in := by
  obtain ⟨fd, F⟩ := kf.d_told_in
  exact fn_ofF F sc_told_in (fun _ _ _ _ _ _ us hl => match us, hl with | [_], _ => rfl) (fun cdv A outer s H E hr hg => sts_cons (st_if (dt_cmp (o_eqD (u64 hr)) (de_var 0 rfl (Or.inl rfl)) (de_lst (da_cons (de_str) (da_nil))) (nomark _)) (sts_one (st_ret (de_tup (da_cons (de_bl) (da_cons (de_non) (da_nil)))))) (sts_nil)) (sts_cons (st_set (i := 1) sc_told_in.nd rfl (Or.inl rfl) (de_callTy c_tuple rfl kf.b_tuple boot_tuple (da_cons (FE.de (fe_lc (own := [("word", 2)]) rfl sc_told_in.nd (di_iter (de_var 0 rfl (Or.inl rfl)) pi_str) (blkOk_by (N := N_told_in) (sc := defScope s_told_in) (by decide +kernel)) (fun _ _ _ _ _ => tg_name (i := 2) sc_told_in.nd rfl (Or.inl rfl)) (fun _ _ _ _ _ => dts_nil) (fun _ _ _ _ _ => de_call (DefOk.fnx (ok_fraction_in kf) (hr.mono (by decide)) kf.g_fraction_in) takesN hg rfl (da_cons (de_var 2 rfl (Or.inl rfl)) (da_nil)) rfl (hlen := (len1 (len0)))) (by decide))) (da_nil)))) (sts_one (st_ret (de_tup (da_cons (de_inL (o_ninL (u66 hr)) (de_non) (dl_var 1 rfl (Or.inl rfl)) (by rfl)) (da_cons (de_var 1 rfl (Or.inl rfl)) (da_nil))))))))

abbrev s_people_in : Stmt := top 44
theorem sc_people_in : FnScope N_people_in ["lines"] (defScope s_people_in) := ⟨rfl, rfl, rfl, by decide +kernel, rfl, by decide +kernel, by decide +kernel⟩
theorem ok_people_in {P : Program} {w : World} {K : PySem.W.Frag} {mg : Str → Option Value} {base : Heap} (kf : KF K mg) : DefOk P w K mg base (ct K) (ga K "people_in") 4 1 m_people_in := by
  obtain ⟨fd, F⟩ := kf.d_people_in
  exact fn_ofF F sc_people_in (fun _ _ _ _ _ _ us hl => match us, hl with | [_], _ => rfl) (fun cdv A outer s H E hr hg => sts_cons (st_own (i := 1) sc_people_in.nd rfl (Or.inl rfl) (fe_lst (da_nil))) (sts_cons (st_for (passes_of rfl) rfl (di_iter (de_var 0 rfl (Or.inl rfl)) pi_str) (tg_name (i := 2) sc_people_in.nd rfl (Or.inl rfl)) (sts_cons (st_set (i := 3) sc_people_in.nd rfl (Or.inl rfl) (de_meth PySem.F.plainAttrs_str PySem.F.slot_str_split PySem.F.type_str_split (MtD.x m_split) actR_ne (dl_var 2 rfl (Or.inl rfl)) (da_cons (de_str) (da_nil)))) (sts_cons (st_if (dt_cmp o_lt (de_look1 c_lenL rfl kf.b_len boot_len (dl_var 3 rfl (Or.inl rfl))) (de_int) (nomark _)) (sts_one (st_ret (de_non))) (sts_nil)) (sts_cons (st_asg (de_call (DefOk.fnx (ok_told_in kf) (hr.mono (by decide)) kf.g_told_in) (takes_of rfl rfl rfl rfl) hg rfl (da_cons (de_slice (de_var 3 rfl (Or.inl rfl)) (do_some (de_int)) (do_none)) (da_nil)) rfl (hlen := (len1 (len0)))) (tg_tup K rfl (tgs_cons (tg_name (i := 4) sc_people_in.nd rfl (Or.inl rfl)) (tgs_cons (tg_name (i := 5) sc_people_in.nd rfl (Or.inl rfl)) (tgs_nil))))) (sts_cons (st_if (dt_not (dt_val (de_var 4 rfl (Or.inl rfl)))) (sts_one (st_ret (de_non))) (sts_nil)) (sts_cons (st_if (DW.t (dw_or (dt_cmp (o_eqD (u64 hr)) (de_look1 c_lenL rfl kf.b_len boot_len (dl_var 1 rfl (Or.inl rfl))) (de_int) (nomark _)) (dw_or1 (dt_cmp (o_neD (u64 hr)) (de_ixL (u1 hr) (DE.dl (de_ixL (u1 hr) (dl_var 1 rfl (Or.inl rfl)) (de_neg (de_int)))) (de_int)) (de_ixL (u1 hr) (dl_var 3 rfl (Or.inl rfl)) (de_int)) (nomark _))))) (sts_one (st_expr (de_meth PySem.F.plainAttrs_list PySem.F.slot_list_append PySem.F.type_list_append (MtW.x m_append) actW_ne (dl_var 1 rfl (Or.inl rfl)) (da_cons (de_tup (da_cons (de_ixL (u1 hr) (dl_var 3 rfl (Or.inl rfl)) (de_int)) (da_cons (de_tup (da_nil)) (da_nil)))) (da_nil))))) (sts_nil)) (sts_one (st_asg (de_tup (da_cons (de_ixL (u1 hr) (dl_var 3 rfl (Or.inl rfl)) (de_int)) (da_cons (de_op o_add (de_ixL (u1 hr) (DE.dl (de_ixL (u1 hr) (dl_var 1 rfl (Or.inl rfl)) (de_neg (de_int)))) (de_int)) (de_tup (da_cons (de_tup (da_cons (de_ixL (u1 hr) (dl_var 3 rfl (Or.inl rfl)) (de_int)) (da_cons (de_var 5 rfl (Or.inl rfl)) (da_nil)))) (da_nil)))) (da_nil)))) (tg_ix (u1 hr) (dl_var 1 rfl (Or.inl rfl)) (de_neg (de_int))))))))))) (sts_one (st_ret (de_callTy c_tuple rfl kf.b_tuple boot_tuple (da_cons (de_var 1 rfl (Or.inl rfl)) (da_nil)))))))

abbrev s_room_in : Stmt := top 45
theorem sc_room_in : FnScope N_room_in ["text"] (defScope s_room_in) := ⟨rfl, rfl, rfl, by decide +kernel, rfl, by decide +kernel, by decide +kernel⟩
theorem ok_room_in {P : Program} {w : World} {K : PySem.W.Frag} {mg : Str → Option Value} {base : Heap} (kf : KF K mg) : DefOk P w K mg base (ct K) (ga K "room_in") 10 1 m_room_in := by
  obtain ⟨fd, F⟩ := kf.d_room_in
  exact fn_ofF F sc_room_in (fun _ _ _ _ _ _ us hl => match us, hl with | [_], _ => rfl) (fun cdv A outer s H E hr hg => sts_cons (st_if (dt_not (dt_val (de_isi (isf_b (T := "str") (by decide) own_no) (.ty "str") (pe_bltn rfl kf.b_str boot_str rfl) rfl kf.b_isinstance (de_var 0 rfl (Or.inl rfl))))) (sts_one (st_ret (de_non))) (sts_nil)) (sts_cons (st_set (i := 1) sc_room_in.nd rfl (Or.inl rfl) (de_meth PySem.F.plainAttrs_str PySem.F.slot_str_split PySem.F.type_str_split (MtD.x m_split) actR_ne (dl_var 0 rfl (Or.inl rfl)) (da_cons (de_str) (da_nil)))) (sts_cons (st_set (i := 2) sc_room_in.nd rfl (Or.inl rfl) (de_meth PySem.F.plainAttrs_str PySem.F.slot_str_split PySem.F.type_str_split (MtD.x m_split) actR_ne (DE.dl (de_ixL (u1 hr) (dl_var 1 rfl (Or.inl rfl)) (de_int))) (da_cons (de_str) (da_nil)))) (sts_cons (st_if (DW.t (dw_or (dt_cmp (o_neD (u64 hr)) (de_look1 c_lenL rfl kf.b_len boot_len (dl_var 2 rfl (Or.inl rfl))) (de_int) (nomark _)) (dw_or (dt_cmp (o_neD (u64 hr)) (de_ixL (u1 hr) (dl_var 2 rfl (Or.inl rfl)) (de_int)) (de_str) (nomark _)) (dw_or1 (dt_not (dt_val (de_call (DefOk.fnx (ok_are_cases kf) (hr.mono (by decide)) kf.g_are_cases) (takes_of rfl rfl rfl rfl) hg rfl (da_cons (de_ixL (u1 hr) (dl_var 2 rfl (Or.inl rfl)) (de_int)) (da_nil)) rfl (hlen := (len1 (len0)))))))))) (sts_one (st_ret (de_non))) (sts_nil)) (sts_cons (st_set (i := 3) sc_room_in.nd rfl (Or.inl rfl) (de_call (DefOk.fnx (ok_people_in kf) (hr.mono (by decide)) kf.g_people_in) (takes_of rfl rfl rfl rfl) hg rfl (da_cons (de_slice (de_var 1 rfl (Or.inl rfl)) (do_some (de_int)) (do_none)) (da_nil)) rfl (hlen := (len1 (len0))))) (sts_one (st_ret (de_if (DW.t (dw_or (dt_cmp o_isN (de_var 3 rfl (Or.inl rfl)) (de_non) (nomark _)) (dw_or1 (dt_not (dt_val (de_call (DefOk.fnx (ok_are_people kf) (hr.mono (by decide)) kf.g_are_people) (takes_of rfl rfl rfl rfl) hg rfl (da_cons (de_var 3 rfl (Or.inl rfl)) (da_cons (de_ixL (u1 hr) (dl_var 2 rfl (Or.inl rfl)) (de_int)) (da_nil))) rfl (hlen := (len1 (len1 (len0)))))))))) (de_non) (de_tup (da_cons (de_ixL (u1 hr) (dl_var 2 rfl (Or.inl rfl)) (de_int)) (da_cons (de_var 3 rfl (Or.inl rfl)) (da_nil))))))))))))

abbrev s_Room_read : Stmt := sub 46 1
theorem sc_Room_read : FnScope N_Room_read ["text"] (defScope s_Room_read) := ⟨rfl, rfl, rfl, by decide +kernel, rfl, by decide +kernel, by decide +kernel⟩
theorem ok_Room_read {P : Program} {w : World} {K : PySem.W.Frag} {mg : Str → Option Value} {base : Heap} (kf : KF K mg) : DefOk P w K mg base (ct K) (He5.wf K (ga K "Room") "staticmethod" "read") 12 1 m_Room_read := by
  obtain ⟨fd, F⟩ := kf.d_Room_read
  exact fn_ofF F sc_Room_read (fun _ _ _ _ _ _ us hl => match us, hl with | [_], _ => rfl) (fun cdv A outer s H E hr hg => sts_cons (st_set (i := 1) sc_Room_read.nd rfl (Or.inl rfl) (de_call (DefOk.fnx (ok_room_in kf) (hr.mono (by decide)) kf.g_room_in) (takes_of rfl rfl rfl rfl) hg rfl (da_cons (de_var 0 rfl (Or.inl rfl)) (da_nil)) rfl (hlen := (len1 (len0))))) (sts_cons (st_if (dt_cmp o_isN (de_var 1 rfl (Or.inl rfl)) (de_non) (nomark _)) (sts_one (st_never)) (sts_nil)) (sts_one (st_ret (de_makeZ (DefOk.make (ok_Room_init kf) (hr.mono (by decide)) kf.g_Room (mkr_ok kf.mk_Room)) (takes_of rfl rfl rfl rfl) hg rfl (da_cons (de_ixL (u1 hr) (dl_var 1 rfl (Or.inl rfl)) (de_int)) (da_cons (de_ixL (u1 hr) (dl_var 1 rfl (Or.inl rfl)) (de_int)) (da_nil))) rfl (len1 (len1 (len0))))))))

abbrev s_law_right_v21 : Stmt := top 65
theorem sc_law_right_v21 : FnScope N_law_right_v21 ["_law_cup_here"] (defScope s_law_right_v21) := ⟨rfl, rfl, rfl, by decide +kernel, rfl, by decide +kernel, by decide +kernel⟩
theorem ok_law_right_v21 {P : Program} {w : World} {K : PySem.W.Frag} {mg : Str → Option Value} {base : Heap} (kf : KF K mg) : DefOk P w K mg base (ct K) (ga K "_law_right") 15 1 m_law_right_v21 := by
  obtain ⟨fd, F⟩ := kf.d_law_right_v21
  exact fn_ofF F sc_law_right_v21 (fun _ _ _ _ _ _ us hl => match us, hl with | [_], _ => rfl) (fun cdv A outer s H E hr hg => sts_cons (st_if (dt_not (dt_val (de_call (DefOk.fnx (ok_law_pair_right kf) (hr.mono (by decide)) kf.g_law_pair_right) (takes_of rfl rfl rfl rfl) hg rfl (da_cons (de_var 0 rfl (Or.inl rfl)) (da_nil)) rfl (hlen := (len1 (len0)))))) (sts_one (st_ret (de_bl))) (sts_nil)) (sts_cons (st_set (i := 1) sc_law_right_v21.nd rfl (Or.inl rfl) (de_str)) (sts_cons (st_set (i := 2) sc_law_right_v21.nd rfl (Or.inl rfl) (de_stat (DefOk.stat (ok_Room_read kf) (hr.mono (by decide)) kf.g_Room (readB_ok kf.rd_Room) (He5.wrapB_ok kf.wr_Room_read).1 (He5.wrapB_ok kf.wr_Room_read).2.choose_spec) (takes_of rfl rfl rfl rfl) hg rfl (da_cons (de_var 1 rfl (Or.inl rfl)) (da_nil)) rfl (len1 (len0)))) (sts_cons (st_set (i := 3) sc_law_right_v21.nd rfl (Or.inl rfl) (de_lst (da_cons (de_call (DefOk.fnx (ok_last_sayings kf) (hr.mono (by decide)) kf.g_last_sayings) (takes_of rfl rfl rfl rfl) hg rfl (da_cons (de_var 2 rfl (Or.inl rfl)) (da_cons (de_str) (da_cons (de_str) (da_nil)))) rfl (hlen := (len1 (len1 (len1 (len0)))))) (da_cons (de_call (DefOk.fnx (ok_last_sayings kf) (hr.mono (by decide)) kf.g_last_sayings) (takes_of rfl rfl rfl rfl) hg rfl (da_cons (de_var 2 rfl (Or.inl rfl)) (da_cons (de_str) (da_cons (de_str) (da_nil)))) rfl (hlen := (len1 (len1 (len1 (len0)))))) (da_cons (de_call (DefOk.fnx (ok_heard_at_last kf) (hr.mono (by decide)) kf.g_heard_at_last) (takes_of rfl rfl rfl rfl) hg rfl (da_cons (de_var 2 rfl (Or.inl rfl)) (da_cons (de_str) (da_cons (de_str) (da_nil)))) rfl (hlen := (len1 (len1 (len1 (len0)))))) (da_nil)))))) (sts_cons (st_if (DW.t (dw_or (dt_cmp (o_neD (u64 hr)) (de_var 3 rfl (Or.inl rfl)) (de_lst (da_cons (de_tup (da_cons (de_tup (da_cons (de_int) (da_cons (de_int) (da_nil)))) (da_cons (de_tup (da_cons (de_int) (da_cons (de_int) (da_nil)))) (da_nil)))) (da_cons (de_tup (da_cons (de_tup (da_cons (de_int) (da_cons (de_int) (da_nil)))) (da_cons (de_tup (da_cons (de_int) (da_cons (de_int) (da_nil)))) (da_nil)))) (da_cons (de_str) (da_nil))))) (nomark _)) (dw_or1 (dt_cmp (o_neD (u64 hr)) (de_call (DefOk.fnx (ok_sayings kf) (hr.mono (by decide)) kf.g_sayings) (takes_of rfl rfl rfl rfl) hg rfl (da_cons (de_var 2 rfl (Or.inl rfl)) (da_cons (de_str) (da_cons (de_str) (da_nil)))) rfl (hlen := (len1 (len1 (len1 (len0)))))) (de_tup (da_cons (de_tup (da_cons (de_str) (da_cons (de_tup (da_cons (de_int) (da_cons (de_int) (da_nil)))) (da_nil)))) (da_nil))) (nomark _))))) (sts_one (st_ret (de_bl))) (sts_nil)) (sts_cons (st_if (DW.t (dw_or (dt_val (de_call (DefOk.fnx (ok_agree kf) (hr.mono (by decide)) kf.g_agree) (takes_of rfl rfl rfl rfl) hg rfl (da_cons (de_var 2 rfl (Or.inl rfl)) (da_cons (de_str) (da_nil))) rfl (hlen := (len1 (len1 (len0)))))) (dw_or (dt_not (dt_val (de_call (DefOk.fnx (ok_agree kf) (hr.mono (by decide)) kf.g_agree) (takes_of rfl rfl rfl rfl) hg rfl (da_cons (de_var 2 rfl (Or.inl rfl)) (da_cons (de_str) (da_nil))) rfl (hlen := (len1 (len1 (len0))))))) (dw_or1 (dt_not (dt_val (de_call (DefOk.fnx (ok_agree kf) (hr.mono (by decide)) kf.g_agree) (takes_of rfl rfl rfl rfl) hg rfl (da_cons (de_objm (DefOk.meth (c := 0) (ok_Room_without_told kf) (hr.mono (by decide)) (cls_ok kf.c_Room) (notIn (ns := fl0) rfl (by decide)) (meth_ok kf.me_Room_without_told)) (takes_of rfl rfl rfl rfl) hg (de_var 2 rfl (Or.inl rfl)) (da_cons (de_str) (da_cons (de_str) (da_nil))) rfl (len1 (len1 (len0)))) (da_cons (de_str) (da_nil))) rfl (hlen := (len1 (len1 (len0))))))))))) (sts_one (st_ret (de_bl))) (sts_nil)) (sts_cons (st_set (i := 1) sc_law_right_v21.nd rfl (Or.inl rfl) (de_str)) (sts_cons (st_set (i := 2) sc_law_right_v21.nd rfl (Or.inl rfl) (de_stat (DefOk.stat (ok_Room_read kf) (hr.mono (by decide)) kf.g_Room (readB_ok kf.rd_Room) (He5.wrapB_ok kf.wr_Room_read).1 (He5.wrapB_ok kf.wr_Room_read).2.choose_spec) (takes_of rfl rfl rfl rfl) hg rfl (da_cons (de_var 1 rfl (Or.inl rfl)) (da_nil)) rfl (len1 (len0)))) (sts_cons (st_set (i := 3) sc_law_right_v21.nd rfl (Or.inl rfl) (de_lst (da_cons (de_call (DefOk.fnx (ok_sayings kf) (hr.mono (by decide)) kf.g_sayings) (takes_of rfl rfl rfl rfl) hg rfl (da_cons (de_var 2 rfl (Or.inl rfl)) (da_cons (de_str) (da_cons (de_str) (da_nil)))) rfl (hlen := (len1 (len1 (len1 (len0)))))) (da_cons (de_call (DefOk.fnx (ok_last_sayings kf) (hr.mono (by decide)) kf.g_last_sayings) (takes_of rfl rfl rfl rfl) hg rfl (da_cons (de_var 2 rfl (Or.inl rfl)) (da_cons (de_str) (da_cons (de_str) (da_nil)))) rfl (hlen := (len1 (len1 (len1 (len0)))))) (da_cons (de_call (DefOk.fnx (ok_heard_at_last kf) (hr.mono (by decide)) kf.g_heard_at_last) (takes_of rfl rfl rfl rfl) hg rfl (da_cons (de_var 2 rfl (Or.inl rfl)) (da_cons (de_str) (da_cons (de_str) (da_nil)))) rfl (hlen := (len1 (len1 (len1 (len0)))))) (da_nil)))))) (sts_one (st_ret (de_and (de_cmp (o_eqD (u64 hr)) (de_var 3 rfl (Or.inl rfl)) (de_lst (da_cons (de_tup (da_cons (de_tup (da_cons (de_str) (da_cons (de_tup (da_cons (de_int) (da_cons (de_int) (da_nil)))) (da_nil)))) (da_cons (de_tup (da_cons (de_str) (da_cons (de_tup (da_cons (de_int) (da_cons (de_int) (da_nil)))) (da_nil)))) (da_nil)))) (da_cons (de_tup (da_cons (de_tup (da_cons (de_int) (da_cons (de_int) (da_nil)))) (da_cons (de_tup (da_cons (de_int) (da_cons (de_int) (da_nil)))) (da_cons (de_tup (da_cons (de_int) (da_cons (de_int) (da_nil)))) (da_nil))))) (da_cons (de_str) (da_nil))))) (nomark _)) (de_one (de_call (DefOk.fnx (ok_agree kf) (hr.mono (by decide)) kf.g_agree) (takes_of rfl rfl rfl rfl) hg rfl (da_cons (de_var 2 rfl (Or.inl rfl)) (da_cons (de_str) (da_nil))) rfl (hlen := (len1 (len1 (len0))))))))))))))))))

abbrev s_law_cup : Stmt := top 61
theorem sc_law_cup : FnScope N_law_cup ["_law_script", "_law_spot"] (defScope s_law_cup) := ⟨rfl, rfl, rfl, by decide +kernel, rfl, by decide +kernel, by decide +kernel⟩
theorem ok_law_cup {P : Program} {w : World} {K : PySem.W.Frag} {mg : Str → Option Value} {base : Heap} (kf : KF K mg) : DefOk P w K mg base (ct K) (ga K "_law_cup") 1 2 m_law_cup := by
  obtain ⟨fd, F⟩ := kf.d_law_cup
  exact fn_ofF F sc_law_cup (fun _ _ _ _ _ _ us hl => match us, hl with | [_, _], _ => rfl) (fun cdv A outer s H E hr hg => sts_cons (st_set (i := 2) sc_law_cup.nd rfl (Or.inl rfl) (de_if (dt_cmp o_lt (de_var 1 rfl (Or.inl rfl)) (de_look1 c_lenL rfl kf.b_len boot_len (dl_var 0 rfl (Or.inl rfl))) (nomark _)) (de_ixL (u1 hr) (dl_var 0 rfl (Or.inl rfl)) (de_var 1 rfl (Or.inl rfl))) (de_op o_add (de_op o_mul (de_int) (de_var 1 rfl (Or.inl rfl))) (de_int)))) (sts_cons (st_for (passes_of rfl) rfl (di_iter (de_if (dt_cmp o_ge (de_var 1 rfl (Or.inl rfl)) (de_look1 c_lenL rfl kf.b_len boot_len (dl_var 0 rfl (Or.inl rfl))) (nomark _)) (de_slice (de_var 0 rfl (Or.inl rfl)) (do_none) (do_some (de_int))) (de_lst (da_nil))) pi_str) (tg_name (i := 3) sc_law_cup.nd rfl (Or.inl rfl)) (sts_one (st_set (i := 2) sc_law_cup.nd rfl (Or.inl rfl) (de_op o_modI (de_callTy c_int rfl kf.b_int boot_int (da_cons (de_op o_add (de_op o_mul (de_var 2 rfl (Or.inl rfl)) (de_int)) (de_var 3 rfl (Or.inl rfl))) (da_nil))) (de_int))))) (sts_one (st_ret (FE.new (fe_lst (da_cons (de_op o_modI (de_callTy c_int rfl kf.b_int boot_int (da_cons (de_op o_add (de_op o_add (de_op o_mul (de_var 2 rfl (Or.inl rfl)) (de_int)) (de_op o_mul (de_int) (de_var 1 rfl (Or.inl rfl)))) (de_int)) (da_nil))) (de_int)) (da_cons (de_if (DW.t (dw_or (dt_cmp o_lt (de_var 2 rfl (Or.inl rfl)) (de_int) (nomark _)) (dw_or1 (dt_cmp o_ge (de_var 2 rfl (Or.inl rfl)) (de_op o_powI (de_int) (de_int)) (nomark _))))) (de_callB c_abs rfl kf.b_abs boot_abs (da_cons (de_var 2 rfl (Or.inl rfl)) (da_nil))) (de_int)) (da_nil)))))))))

abbrev s_law : Stmt := top 66
def N_law : List Str := ["_law_script", "_law_spot"]
theorem sc_law : FnScope N_law ["_law_script"] (defScope s_law) := ⟨rfl, rfl, rfl, by decide +kernel, rfl, by decide +kernel, by decide +kernel⟩
def b_law : DS := retS (appM allN (consM (frzM (lcC [1] (rangeM (consM (appM maxN (consM (ret (.int 2)) (consM (appM minN (consM (look1M lenD (slM 0)) (consM (ret (.int 6)) (nilM)))) (nilM)))) (nilM))) (nameG 1) (ret true) (callM m_law_right_v21 (consM (callM m_law_cup (consM (varM 0) (consM (varM 1) (nilM)))) (nilM))))) (nilM)))
def m_law : DF := defF N_law.length b_law
theorem end_law {K : PySem.W.Frag} {mg : Str → Option Value} (kf : KF K mg) : ∃ fd : FuncData, (∀ (s : Shared) (u : Value), BindsTo s fd ⟨[u], []⟩ [("_law_script", u)]) ∧ ∀ (P : Program) (w : World) (base : Heap), FnG P w K mg base (ct K) 16 (ga K "law") fd ["_law_script"] m_law := by
  obtain ⟨fd, F⟩ := kf.d_law
  exact ⟨fd, fun s u => FunD.bindsA (ps := ["_law_script"]) F (fun _ _ _ _ _ _ us hl => match us, hl with | [_], _ => rfl) s [u] rfl, fun P w base => fg_ofF F sc_law (fun cdv A outer s H E hr hg => sts_one (st_ret (de_callB (c_all rfl) rfl kf.b_all boot_all (da_cons (FE.de (fe_lc (own := [("_law_spot", 1)]) rfl sc_law.nd (di_range1 rfl kf.b_range (da_cons (de_callB (c_max rfl) rfl kf.b_max boot_max (da_cons (de_int) (da_cons (de_callB (c_min rfl) rfl kf.b_min boot_min (da_cons (de_look1 c_lenL rfl kf.b_len boot_len (dl_var 0 rfl (Or.inr (Or.inl rfl)))) (da_cons (de_int) (da_nil)))) (da_nil)))) (da_nil)) (len1 (len0))) (blkOk_by (N := N_law) (sc := defScope s_law) (by decide +kernel)) (fun _ _ _ _ _ => tg_name (i := 1) sc_law.nd rfl (Or.inl rfl)) (fun _ _ _ _ _ => dts_nil) (fun _ _ _ _ _ => de_call (DefOk.fnx (ok_law_right_v21 kf) (hr.mono (by decide)) kf.g_law_right) takesN hg rfl (da_cons (de_call (DefOk.fnx (ok_law_cup kf) (hr.mono (by decide)) kf.g_law_cup) takesN hg rfl (da_cons (de_var 0 rfl (Or.inr (Or.inl rfl))) (da_cons (de_var 1 rfl (Or.inl rfl)) (da_nil))) rfl (hlen := (len1 (len1 (len0))))) (da_nil)) rfl (hlen := (len1 (len0)))) (by decide))) (da_nil)))))⟩
/-! the head -/
def ex (K : PySem.W.Frag) : List Bool := [(Fa.glo "law").ok K,
  (Fa.free "len").ok K,
  (Fa.free "min").ok K,
  (Fa.free "max").ok K,
  (Fa.free "range").ok K,
  (Fa.free "int").ok K,
  (Fa.free "divmod").ok K,
  (Fa.glo "_law_sip").ok K,
  (Fa.free "abs").ok K,
  (Fa.glo "_law_low").ok K,
  (Fa.free "str").ok K,
  (Fa.free "isinstance").ok K,
  (Fa.int "MOST_CASES" 8).ok K,
  (Fa.str "LETTERS" "abcdefghijklmnopqrstuvwxyz").ok K,
  (Fa.free "all").ok K,
  (Fa.glo "is_rising").ok K,
  (Fa.glo "are_cases").ok K,
  (Fa.free "tuple").ok K,
  (Fa.int "MOST_PEOPLE" 4).ok K,
  (Fa.int "MOST_SIGNS" 8).ok K,
  (Fa.glo "is_name").ok K,
  (Fa.glo "is_lot").ok K,
  (Fa.free "bool").ok K,
  (Fa.glo "is_between").ok K,
  (Fa.glo "common").ok K,
  (Fa.glo "is_fraction").ok K,
  (Fa.int "MOST_BOTTOM" 1000000000).ok K,
  (Fa.glo "ZERO").ok K,
  tupB1 K "ZERO" (([0, 1] : List Int).map V.int),
  (Fa.glo "lowest").ok K,
  (Fa.glo "add").ok K,
  (Fa.glo "total").ok K,
  (Fa.glo "ONE").ok K,
  tupB1 K "ONE" (([1, 1] : List Int).map V.int),
  (Fa.glo "is_told").ok K,
  (Fa.glo "is_part").ok K,
  (Fa.free "list").ok K,
  (Fa.free "sorted").ok K,
  (Fa.glo "is_view").ok K,
  (Fa.glo "is_person").ok K,
  (Fa.glo "are_people").ok K,
  (Fa.cls "Room").ok K,
  (Fa.noat "Room" "all_cases").ok K,
  (Fa.noat "Room" "all_people").ok K,
  (Fa.glo "text_of").ok K,
  (Fa.noat "Room" "words").ok K,
  (Fa.free "dict").ok K,
  (Fa.noat "Room" "views").ok K,
  (Fa.glo "Room").ok K,
  (Fa.mkr "Room").ok K,
  kitN K "Room",
  insB K "Room",
  kitR K "Room" (.ref (ga K "Room")) true,
  (Fa.glo "check_room").ok K,
  (Fa.meth "Room" "check_case").ok K,
  (Fa.meth "Room" "check_lot").ok K,
  (Fa.glo "check_asked").ok K,
  propB K (ga K "Room") "cases",
  propB K (ga K "Room") "names",
  (Fa.meth "Room" "part_of").ok K,
  (Fa.free "enumerate").ok K,
  (Fa.glo "over").ok K,
  (Fa.glo "saying_of").ok K,
  (Fa.glo "heard_behind").ok K,
  (Fa.glo "walk_through").ok K,
  (Fa.glo "sayings").ok K,
  (Fa.glo "heard_at_last").ok K,
  (Fa.glo "last_of").ok K,
  (Fa.glo "last_sayings").ok K,
  (Fa.glo "are_alike").ok K,
  (Fa.glo "agree").ok K,
  (Fa.glo "most_sayings").ok K,
  (Fa.meth "Room" "check_name").ok K,
  (Fa.meth "Room" "check_part").ok K,
  (Fa.meth "Room" "told").ok K,
  (Fa.meth "Room" "changed").ok K,
  (Fa.meth "Room" "without_told").ok K,
  (Fa.glo "_law_pair_right").ok K,
  (Fa.int "MOST_DIGITS" 10).ok K,
  (Fa.str "DIGITS" "0123456789").ok K,
  (Fa.free "any").ok K,
  (Fa.glo "natural_in").ok K,
  (Fa.glo "fraction_in").ok K,
  (Fa.glo "told_in").ok K,
  (Fa.glo "people_in").ok K,
  (Fa.glo "room_in").ok K,
  readB K (ga K "Room"),
  He5.wrapB K (ga K "Room") "staticmethod" "staticmethod.__get__" "read",
  (Fa.glo "_law_right").ok K,
  (Fa.glo "_law_cup").ok K]
def fn : List He5.DefA := [⟨fun K => ga K "_law_sip", "_law_sip", "_law_sip", defArgs (top 62), defBody (top 62), defScope (top 62), [], []⟩,
  ⟨fun K => ga K "_law_low", "_law_low", "_law_low", defArgs (top 63), defBody (top 63), defScope (top 63), [], []⟩,
  ⟨fun K => ga K "is_rising", "is_rising", "is_rising", defArgs (top 31), defBody (top 31), defScope (top 31), [], []⟩,
  ⟨fun K => ga K "are_cases", "are_cases", "are_cases", defArgs (top 32), defBody (top 32), defScope (top 32), [], []⟩,
  ⟨fun K => ga K "is_name", "is_name", "is_name", defArgs (top 34), defBody (top 34), defScope (top 34), [], []⟩,
  ⟨fun K => ga K "is_lot", "is_lot", "is_lot", defArgs (top 33), defBody (top 33), defScope (top 33), [], []⟩,
  ⟨fun K => ga K "is_between", "is_between", "is_between", defArgs (top 16), defBody (top 16), defScope (top 16), [], []⟩,
  ⟨fun K => ga K "common", "common", "common", defArgs (top 17), defBody (top 17), defScope (top 17), [], []⟩,
  ⟨fun K => ga K "is_fraction", "is_fraction", "is_fraction", defArgs (top 19), defBody (top 19), defScope (top 19), [], []⟩,
  ⟨fun K => ga K "lowest", "lowest", "lowest", defArgs (top 18), defBody (top 18), defScope (top 18), [], []⟩,
  ⟨fun K => ga K "add", "add", "add", defArgs (top 20), defBody (top 20), defScope (top 20), [], []⟩,
  ⟨fun K => ga K "total", "total", "total", defArgs (top 22), defBody (top 22), defScope (top 22), [], []⟩,
  ⟨fun K => ga K "is_told", "is_told", "is_told", defArgs (top 35), defBody (top 35), defScope (top 35), [], []⟩,
  ⟨fun K => ga K "is_part", "is_part", "is_part", defArgs (top 36), defBody (top 36), defScope (top 36), [], []⟩,
  ⟨fun K => ga K "is_view", "is_view", "is_view", defArgs (top 37), defBody (top 37), defScope (top 37), [], []⟩,
  ⟨fun K => ga K "is_person", "is_person", "is_person", defArgs (top 38), defBody (top 38), defScope (top 38), [], []⟩,
  ⟨fun K => ga K "are_people", "are_people", "are_people", defArgs (top 39), defBody (top 39), defScope (top 39), [], []⟩,
  ⟨fun K => ga K "text_of", "text_of", "text_of", defArgs (top 40), defBody (top 40), defScope (top 40), [], []⟩,
  ⟨fun K => ma K (ga K "Room") "__init__", "__init__", "Room.__init__", defArgs (sub 46 0), defBody (sub 46 0), defScope (sub 46 0), [], []⟩,
  ⟨fun K => ga K "check_room", "check_room", "check_room", defArgs (top 47), defBody (top 47), defScope (top 47), [], []⟩,
  ⟨fun K => ma K (ga K "Room") "check_case", "check_case", "Room.check_case", defArgs (sub 46 8), defBody (sub 46 8), defScope (sub 46 8), [], []⟩,
  ⟨fun K => ma K (ga K "Room") "check_lot", "check_lot", "Room.check_lot", defArgs (sub 46 9), defBody (sub 46 9), defScope (sub 46 9), [], []⟩,
  ⟨fun K => ga K "check_asked", "check_asked", "check_asked", defArgs (top 53), defBody (top 53), defScope (top 53), [], []⟩,
  ⟨fun K => He5.wf K (ga K "Room") "property" "cases", "cases", "Room.cases", defArgs (sub 46 2), defBody (sub 46 2), defScope (sub 46 2), [], []⟩,
  ⟨fun K => He5.wf K (ga K "Room") "property" "names", "names", "Room.names", defArgs (sub 46 5), defBody (sub 46 5), defScope (sub 46 5), [], []⟩,
  ⟨fun K => ma K (ga K "Room") "part_of", "part_of", "Room.part_of", defArgs (sub 46 11), defBody (sub 46 11), defScope (sub 46 11), [], []⟩,
  ⟨fun K => ga K "over", "over", "over", defArgs (top 21), defBody (top 21), defScope (top 21), [], []⟩,
  ⟨fun K => ga K "saying_of", "saying_of", "saying_of", defArgs (top 49), defBody (top 49), defScope (top 49), [], []⟩,
  ⟨fun K => ga K "heard_behind", "heard_behind", "heard_behind", defArgs (top 50), defBody (top 50), defScope (top 50), [], []⟩,
  ⟨fun K => ga K "walk_through", "walk_through", "walk_through", defArgs (top 51), defBody (top 51), defScope (top 51), [], []⟩,
  ⟨fun K => ga K "sayings", "sayings", "sayings", defArgs (top 54), defBody (top 54), defScope (top 54), [], []⟩,
  ⟨fun K => ga K "heard_at_last", "heard_at_last", "heard_at_last", defArgs (top 55), defBody (top 55), defScope (top 55), [], []⟩,
  ⟨fun K => ga K "last_of", "last_of", "last_of", defArgs (top 52), defBody (top 52), defScope (top 52), [], []⟩,
  ⟨fun K => ga K "last_sayings", "last_sayings", "last_sayings", defArgs (top 56), defBody (top 56), defScope (top 56), [], []⟩,
  ⟨fun K => ga K "are_alike", "are_alike", "are_alike", defArgs (top 57), defBody (top 57), defScope (top 57), [], []⟩,
  ⟨fun K => ga K "agree", "agree", "agree", defArgs (top 58), defBody (top 58), defScope (top 58), [], []⟩,
  ⟨fun K => ga K "most_sayings", "most_sayings", "most_sayings", defArgs (top 59), defBody (top 59), defScope (top 59), [], []⟩,
  ⟨fun K => ma K (ga K "Room") "check_name", "check_name", "Room.check_name", defArgs (sub 46 7), defBody (sub 46 7), defScope (sub 46 7), [], []⟩,
  ⟨fun K => ma K (ga K "Room") "check_part", "check_part", "Room.check_part", defArgs (sub 46 10), defBody (sub 46 10), defScope (sub 46 10), [], []⟩,
  ⟨fun K => ma K (ga K "Room") "told", "told", "Room.told", defArgs (sub 46 13), defBody (sub 46 13), defScope (sub 46 13), [], []⟩,
  ⟨fun K => ma K (ga K "Room") "changed", "changed", "Room.changed", defArgs (sub 46 14), defBody (sub 46 14), defScope (sub 46 14), [], []⟩,
  ⟨fun K => ma K (ga K "Room") "without_told", "without_told", "Room.without_told", defArgs (sub 46 16), defBody (sub 46 16), defScope (sub 46 16), [], []⟩,
  ⟨fun K => ga K "_law_pair_right", "_law_pair_right", "_law_pair_right", defArgs (top 64), defBody (top 64), defScope (top 64), [], []⟩,
  ⟨fun K => ga K "natural_in", "natural_in", "natural_in", defArgs (top 41), defBody (top 41), defScope (top 41), [], []⟩,
  ⟨fun K => ga K "fraction_in", "fraction_in", "fraction_in", defArgs (top 42), defBody (top 42), defScope (top 42), [], []⟩,
  ⟨fun K => ga K "told_in", "told_in", "told_in", defArgs (top 43), defBody (top 43), defScope (top 43), [], []⟩,
  ⟨fun K => ga K "people_in", "people_in", "people_in", defArgs (top 44), defBody (top 44), defScope (top 44), [], []⟩,
  ⟨fun K => ga K "room_in", "room_in", "room_in", defArgs (top 45), defBody (top 45), defScope (top 45), [], []⟩,
  ⟨fun K => He5.wf K (ga K "Room") "staticmethod" "read", "read", "Room.read", defArgs (sub 46 1), defBody (sub 46 1), defScope (sub 46 1), [], []⟩,
  ⟨fun K => ga K "_law_right", "_law_right", "_law_right", defArgs (top 65), defBody (top 65), defScope (top 65), [], []⟩,
  ⟨fun K => ga K "_law_cup", "_law_cup", "_law_cup", defArgs (top 61), defBody (top 61), defScope (top 61), [], []⟩,
  ⟨fun K => ga K "law", "law", "law", defArgs (top 66), defBody (top 66), defScope (top 66), [], []⟩]
theorem kf_of {K : PySem.W.Frag} {h : Heap} {mg : Str → Option Value} (X : K.In h) (G : h.Ns mainGlobals mg) (c : SaysP ex fn K) : KF K mg where
  g_law := glo_ok X G (c.fact 0 rfl)
  b_len := free_ok X G (c.fact 1 rfl)
  b_min := free_ok X G (c.fact 2 rfl)
  b_max := free_ok X G (c.fact 3 rfl)
  b_range := free_ok X G (c.fact 4 rfl)
  b_int := free_ok X G (c.fact 5 rfl)
  b_divmod := free_ok X G (c.fact 6 rfl)
  g_law_sip := glo_ok X G (c.fact 7 rfl)
  b_abs := free_ok X G (c.fact 8 rfl)
  g_law_low := glo_ok X G (c.fact 9 rfl)
  b_str := free_ok X G (c.fact 10 rfl)
  b_isinstance := free_ok X G (c.fact 11 rfl)
  i_MOST_CASES_8 := int_ok X G (c.fact 12 rfl)
  s_LETTERS := str_ok X G (c.fact 13 rfl)
  b_all := free_ok X G (c.fact 14 rfl)
  g_is_rising := glo_ok X G (c.fact 15 rfl)
  g_are_cases := glo_ok X G (c.fact 16 rfl)
  b_tuple := free_ok X G (c.fact 17 rfl)
  i_MOST_PEOPLE_4 := int_ok X G (c.fact 18 rfl)
  i_MOST_SIGNS_8 := int_ok X G (c.fact 19 rfl)
  g_is_name := glo_ok X G (c.fact 20 rfl)
  g_is_lot := glo_ok X G (c.fact 21 rfl)
  b_bool := free_ok X G (c.fact 22 rfl)
  g_is_between := glo_ok X G (c.fact 23 rfl)
  g_common := glo_ok X G (c.fact 24 rfl)
  g_is_fraction := glo_ok X G (c.fact 25 rfl)
  i_MOST_BOTTOM_1000000000 := int_ok X G (c.fact 26 rfl)
  g_ZERO := glo_ok X G (c.fact 27 rfl)
  t_ZERO := (c.fact 28 rfl)
  g_lowest := glo_ok X G (c.fact 29 rfl)
  g_add := glo_ok X G (c.fact 30 rfl)
  g_total := glo_ok X G (c.fact 31 rfl)
  g_ONE := glo_ok X G (c.fact 32 rfl)
  t_ONE := (c.fact 33 rfl)
  g_is_told := glo_ok X G (c.fact 34 rfl)
  g_is_part := glo_ok X G (c.fact 35 rfl)
  b_list := free_ok X G (c.fact 36 rfl)
  b_sorted := free_ok X G (c.fact 37 rfl)
  g_is_view := glo_ok X G (c.fact 38 rfl)
  g_is_person := glo_ok X G (c.fact 39 rfl)
  g_are_people := glo_ok X G (c.fact 40 rfl)
  c_Room := (c.fact 41 rfl)
  n_Room_all_cases := (c.fact 42 rfl)
  n_Room_all_people := (c.fact 43 rfl)
  g_text_of := glo_ok X G (c.fact 44 rfl)
  n_Room_words := (c.fact 45 rfl)
  b_dict := free_ok X G (c.fact 46 rfl)
  n_Room_views := (c.fact 47 rfl)
  g_Room := glo_ok X G (c.fact 48 rfl)
  mk_Room := (c.fact 49 rfl)
  kn_Room := (c.fact 50 rfl)
  in_Room := (c.fact 51 rfl)
  kr_Room_Room_true := (c.fact 52 rfl)
  g_check_room := glo_ok X G (c.fact 53 rfl)
  me_Room_check_case := (c.fact 54 rfl)
  me_Room_check_lot := (c.fact 55 rfl)
  g_check_asked := glo_ok X G (c.fact 56 rfl)
  pr_Room_cases := (c.fact 57 rfl)
  pr_Room_names := (c.fact 58 rfl)
  me_Room_part_of := (c.fact 59 rfl)
  b_enumerate := free_ok X G (c.fact 60 rfl)
  g_over := glo_ok X G (c.fact 61 rfl)
  g_saying_of := glo_ok X G (c.fact 62 rfl)
  g_heard_behind := glo_ok X G (c.fact 63 rfl)
  g_walk_through := glo_ok X G (c.fact 64 rfl)
  g_sayings := glo_ok X G (c.fact 65 rfl)
  g_heard_at_last := glo_ok X G (c.fact 66 rfl)
  g_last_of := glo_ok X G (c.fact 67 rfl)
  g_last_sayings := glo_ok X G (c.fact 68 rfl)
  g_are_alike := glo_ok X G (c.fact 69 rfl)
  g_agree := glo_ok X G (c.fact 70 rfl)
  g_most_sayings := glo_ok X G (c.fact 71 rfl)
  me_Room_check_name := (c.fact 72 rfl)
  me_Room_check_part := (c.fact 73 rfl)
  me_Room_told := (c.fact 74 rfl)
  me_Room_changed := (c.fact 75 rfl)
  me_Room_without_told := (c.fact 76 rfl)
  g_law_pair_right := glo_ok X G (c.fact 77 rfl)
  i_MOST_DIGITS_10 := int_ok X G (c.fact 78 rfl)
  s_DIGITS := str_ok X G (c.fact 79 rfl)
  b_any := free_ok X G (c.fact 80 rfl)
  g_natural_in := glo_ok X G (c.fact 81 rfl)
  g_fraction_in := glo_ok X G (c.fact 82 rfl)
  g_told_in := glo_ok X G (c.fact 83 rfl)
  g_people_in := glo_ok X G (c.fact 84 rfl)
  g_room_in := glo_ok X G (c.fact 85 rfl)
  rd_Room := (c.fact 86 rfl)
  wr_Room_read := (c.fact 87 rfl)
  g_law_right := glo_ok X G (c.fact 88 rfl)
  g_law_cup := glo_ok X G (c.fact 89 rfl)
  d_law_sip := c.def_ 0 rfl
  d_law_low_v2 := c.def_ 1 rfl
  d_is_rising := c.def_ 2 rfl
  d_are_cases := c.def_ 3 rfl
  d_is_name := c.def_ 4 rfl
  d_is_lot := c.def_ 5 rfl
  d_is_between := c.def_ 6 rfl
  d_common := c.def_ 7 rfl
  d_is_fraction := c.def_ 8 rfl
  d_lowest := c.def_ 9 rfl
  d_add := c.def_ 10 rfl
  d_total := c.def_ 11 rfl
  d_is_told := c.def_ 12 rfl
  d_is_part := c.def_ 13 rfl
  d_is_view := c.def_ 14 rfl
  d_is_person := c.def_ 15 rfl
  d_are_people := c.def_ 16 rfl
  d_text_of := c.def_ 17 rfl
  d_Room_init := c.def_ 18 rfl
  d_check_room := c.def_ 19 rfl
  d_Room_check_case := c.def_ 20 rfl
  d_Room_check_lot := c.def_ 21 rfl
  d_check_asked := c.def_ 22 rfl
  d_Room_cases := c.def_ 23 rfl
  d_Room_names := c.def_ 24 rfl
  d_Room_part_of := c.def_ 25 rfl
  d_over := c.def_ 26 rfl
  d_saying_of := c.def_ 27 rfl
  d_heard_behind := c.def_ 28 rfl
  d_walk_through := c.def_ 29 rfl
  d_sayings := c.def_ 30 rfl
  d_heard_at_last := c.def_ 31 rfl
  d_last_of := c.def_ 32 rfl
  d_last_sayings := c.def_ 33 rfl
  d_are_alike := c.def_ 34 rfl
  d_agree := c.def_ 35 rfl
  d_most_sayings := c.def_ 36 rfl
  d_Room_check_name := c.def_ 37 rfl
  d_Room_check_part := c.def_ 38 rfl
  d_Room_told := c.def_ 39 rfl
  d_Room_changed := c.def_ 40 rfl
  d_Room_without_told := c.def_ 41 rfl
  d_law_pair_right := c.def_ 42 rfl
  d_natural_in := c.def_ 43 rfl
  d_fraction_in := c.def_ 44 rfl
  d_told_in := c.def_ 45 rfl
  d_people_in := c.def_ 46 rfl
  d_room_in := c.def_ 47 rfl
  d_Room_read := c.def_ 48 rfl
  d_law_right_v21 := c.def_ 49 rfl
  d_law_cup := c.def_ 50 rfl
  d_law := c.def_ 51 rfl
def nm0 : List Str := ["_wall", "WrongValue", "InvalidCases", "InvalidPeople", "InvalidText", "InvalidLot", "NotARoom", "WrongName", "UnknownName", "UnknownCase", "NoAnswer", "NotTold", "ZERO", "ONE", "is_between", "common", "lowest", "is_fraction", "add", "over", "total", "MOST_CASES", "MOST_PEOPLE", "MOST_BOTTOM", "LETTERS", "DIGITS", "MOST_SIGNS", "MOST_DIGITS", "is_rising", "are_cases"]
def nm1 : List Str := ["is_lot", "is_name", "is_told", "is_part", "is_view", "is_person", "are_people", "text_of", "natural_in", "fraction_in", "told_in", "people_in", "room_in", "Room", "check_room", "saying_of", "heard_behind", "walk_through", "last_of", "check_asked", "sayings", "heard_at_last", "last_sayings", "are_alike", "agree", "most_sayings", "_law_cup", "_law_sip", "_law_low", "_law_pair_right"]
def nm2 : List Str := ["_law_right"]
def nms : List Str := nm0 ++ nm1 ++ nm2
abbrev RR : PySem.W.OpenRow := PySem.W.OpenLaw.row PySem.Challenge.rw_oneprior_k22_rooms_that_agree_to_differ
abbrev hk : PySem.W.Hook := hookP 6 ex fn
def ob (s : PySem.W.SharedT) : He.AlD := obsPG 6 ex fn (HandSHeadRun.getT s)
theorem ob_eq (s : PySem.W.SharedT) : ob s = hk.obs s.abs := obsPG_eq (HandSHeadRun.getT_eq s)
theorem run (w : World) : HandSHeadRun.RunEq RR (PySem.W.view RR.prog [66]) hk ob 20000 nms w := by
  intro os
  kernel_rfl
end LK
open PySem PySem.W PySem.Calls PyProof.Rows
theorem LK.holds_of (HL : ∀ ns : List Int, ns.length ≤ 63 → (∀ z ∈ ns, z.natAbs.log2 ≤ 1048576) → ∃ hp, LK.m_law [.lst (ns.map DP.D.int)] [] = .ok (.bl true) hp) : PySem.Challenge.rw_oneprior_k22_rooms_that_agree_to_differ.Holds := by
  w_on; o_law
  refine HandSHeadRun.head_any (r := OpenLaw.row PySem.Challenge.rw_oneprior_k22_rooms_that_agree_to_differ) (q := view (OpenLaw.row PySem.Challenge.rw_oneprior_k22_rooms_that_agree_to_differ).prog [66]) (H := LK.hk) (ob := LK.ob) (M := 20000) (loose := LK.nms) (d := HandSHeadRun.topDef (OpenLaw.row PySem.Challenge.rw_oneprior_k22_rooms_that_agree_to_differ).prog 66) (kwd := []) LK.ob_eq
    (by kernel_rfl) (fun s => by kernel_rfl) LK.run (by kernel_rfl) (by kernel_rfl) (by kernel_rfl) (by rfl) (by first | assumption | decide +kernel) (by decide +kernel) ⟨rfl, rfl, rfl, rfl, rfl, by decide +kernel⟩ ?hw ?hc
  case hw => w_witness2
  case hc =>
    refine DP.walk_ofG (l := PySem.Challenge.rw_oneprior_k22_rooms_that_agree_to_differ) (n := 63) (k := 16) (x := "_law_script") (m := LK.m_law) rfl (by decide) (by kernel_rfl) ⟨rfl, by decide, by decide⟩ HL ?F
    intro w mg fa h Y G hmg0
    obtain ⟨K, KX, c⟩ := Y
    have hmg : mg ("law" : PySem.Str) = some (.ref fa) := by
      have e : (HandSHeadRun.topDef (OpenLaw.row PySem.Challenge.rw_oneprior_k22_rooms_that_agree_to_differ).prog 66).name = ("law" : PySem.Str) := by kernel_rfl
      rw [← e]
      exact hmg0
    have e := hmg.symm.trans (He.glo_ok KX G (c.fact 0 rfl))
    cases e
    obtain ⟨fd, hb, hF⟩ := LK.end_law (LK.kf_of KX G c)
    exact ⟨K, LK.ct K, fd, KX, hb, fun base _ _ => hF _ w base⟩
set_option Elab.async false
set_option linter.all false
set_option maxRecDepth 100000
set_option maxHeartbeats 4000000
/-! SP0: reading the functions on data by simp; loops, comprehensions. -/
namespace LK
open PySem PySem.Spec PyProof.Rows L2 He DP

/-! ### the readings -/
section
variable {α β : Type}
@[simp] theorem ret_ap (a : α) (s : DSt) : ret a s = .ok a s := rfl
@[simp] theorem bnd_ap (f : DM α) (k : α → DM β) (s : DSt) : DP.bnd f k s = (match f s with | .ok a s' => k a s' | .err x s' => .err x s' | .stuck => .stuck) := by
  unfold DP.bnd; cases f s <;> rfl
@[simp] theorem bndS_ap (f : DM α) (k : α → DS) (s : DSt) : bndS f k s = (match f s with | .ok a s' => k a s' | .err x s' => .err x s' | .stuck => .stuck) := by
  unfold bndS; cases f s <;> rfl
@[simp] theorem lift_some (a : α) (s : DSt) : DP.lift (some a) s = .ok a s := rfl
@[simp] theorem varM_ap (i : Nat) (sl : List SV) (hp : List Cell) : varM i ⟨sl, hp⟩ = (match sl[i]? with | some (.val d) => .ok d ⟨sl, hp⟩ | some (.own c) => .ok c.frz ⟨sl.set i (.val c.frz), hp⟩ | _ => .stuck) := by
  unfold varM
  dsimp only
  all_goals (cases sl[i]? <;> first | rfl | (rename_i x; cases x <;> rfl))
@[simp] theorem slM_ap (i : Nat) (sl : List SV) (hp : List Cell) : slM i ⟨sl, hp⟩ = (match sl[i]? with | some (.val _) => .ok (.sl i) ⟨sl, hp⟩ | some (.own _) => .ok (.sl i) ⟨sl, hp⟩ | _ => .stuck) := rfl
@[simp] theorem seqS_ap (f g : DS) (s : DSt) : seqS f g s = (match f s with | .nx s' => g s' | r => r) := by
  unfold seqS; cases f s <;> rfl
@[simp] theorem nxS_ap (s : DSt) : nxS s = .nx s := rfl
@[simp] theorem nameG_ap (i : Nat) (d : D) (sl : List SV) (hp : List Cell) : nameG i d ⟨sl, hp⟩ = some ⟨sl.set i (.val d), hp⟩ := rfl
@[simp] theorem asgS_ap (g : DG) (f : DM D) (s : DSt) : asgS g f s = (match f s with | .ok d s' => (match g d s' with | some s2 => .nx s2 | none => .stuck) | .err x s' => .err x s' | .stuck => .stuck) := by
  unfold asgS bndS; cases f s <;> rfl
@[simp] theorem setS_ap (i : Nat) (f : DM D) (s : DSt) : setS i f s = (match f s with | .ok d s' => .nx ⟨s'.sl.set i (.val d), s'.hp⟩ | .err x s' => .err x s' | .stuck => .stuck) := by
  unfold setS asgS bndS; cases f s <;> rfl
@[simp] theorem ownS_ap (i : Nat) (f : DM Cell) (s : DSt) : ownS i f s = (match f s with | .ok d s' => .nx ⟨s'.sl.set i (.own d), s'.hp⟩ | .err x s' => .err x s' | .stuck => .stuck) := by
  unfold ownS bndS; cases f s <;> rfl
@[simp] theorem forS_ap (g : DG) (f : DM (List D)) (b : DS) (s : DSt) : forS g f b s = (match f s with | .ok ds s' => forL g b ds s' | .err x s' => .err x s' | .stuck => .stuck) := by
  unfold forS bndS; cases f s <;> rfl
@[simp] theorem retS_ap (f : DM D) (s : DSt) : retS f s = (match f s with | .ok d s' => .rt d s' | .err x s' => .err x s' | .stuck => .stuck) := by
  unfold retS bndS; cases f s <;> rfl
@[simp] theorem exprS_ap (f : DM D) (s : DSt) : exprS f s = (match f s with | .ok d s' => .nx s' | .err x s' => .err x s' | .stuck => .stuck) := by
  unfold exprS bndS; cases f s <;> rfl
@[simp] theorem ifS_ap (c : DM Bool) (f g : DS) (s : DSt) : ifS c f g s = (match c s with | .ok b s' => (if b = true then f s' else g s') | .err x s' => .err x s' | .stuck => .stuck) := by
  unfold ifS bndS; cases c s with
  | ok b s' => cases b <;> rfl
  | _ => rfl
@[simp] theorem ifM_ap (c : DM Bool) (f g : DM D) (s : DSt) : ifM c f g s = (match c s with | .ok b s' => (if b = true then f s' else g s') | .err x s' => .err x s' | .stuck => .stuck) := by
  unfold ifM DP.bnd; cases c s with
  | ok b s' => cases b <;> rfl
  | _ => rfl
@[simp] theorem bin_ap (g : D → D → Option D) (fa fb : DM D) (s : DSt) : DP.bin g fa fb s = (match fa s with | .ok x s' => (match fb s' with | .ok y s2 => (match g x y with | some d => .ok d s2 | none => .stuck) | .err x s' => .err x s' | .stuck => .stuck) | .err x s' => .err x s' | .stuck => .stuck) := by
  unfold DP.bin DP.bnd DP.lift; cases fa s with
  | ok x s' =>
    dsimp only
    cases fb s' with
    | ok y s2 => dsimp only; cases g x y <;> rfl
    | _ => rfl
  | _ => rfl
@[simp] theorem tst_ap (f : DM D) (s : DSt) : tst f s = (match f s with | .ok x s' => (match asB x with | some b => .ok b s' | none => .stuck) | .err x s' => .err x s' | .stuck => .stuck) := by
  unfold tst DP.bnd DP.lift; cases f s with
  | ok x s' => dsimp only; cases asB x <;> rfl
  | _ => rfl
@[simp] theorem notT_ap (f : DM Bool) (s : DSt) : notT f s = (match f s with | .ok x s' => .ok (!x) s' | .err x s' => .err x s' | .stuck => .stuck) := by
  unfold notT DP.bnd; cases f s <;> rfl
@[simp] theorem andT_ap (f g : DM Bool) (s : DSt) : andT f g s = (match f s with | .ok x s' => (if x = true then g s' else .ok false s') | .err x s' => .err x s' | .stuck => .stuck) := by
  unfold andT DP.bnd; cases f s with
  | ok b s' => cases b <;> rfl
  | _ => rfl
@[simp] theorem orT_ap (f g : DM Bool) (s : DSt) : orT f g s = (match f s with | .ok x s' => (if x = true then .ok true s' else g s') | .err x s' => .err x s' | .stuck => .stuck) := by
  unfold orT DP.bnd; cases f s with
  | ok b s' => cases b <;> rfl
  | _ => rfl
@[simp] theorem andV_ap (f g : DM D) (s : DSt) : andV f g s = (match f s with | .ok x s' => (match asB x with | some b => (if b = true then g s' else .ok (.bl false) s') | none => .stuck) | .err x s' => .err x s' | .stuck => .stuck) := by
  unfold andV DP.bnd DP.lift; cases f s with
  | ok x s' =>
    dsimp only
    cases asB x with
    | none => rfl
    | some b => cases b <;> rfl
  | _ => rfl
@[simp] theorem orV_ap (f g : DM D) (s : DSt) : orV f g s = (match f s with | .ok x s' => (match asB x with | some b => (if b = true then .ok (.bl true) s' else g s') | none => .stuck) | .err x s' => .err x s' | .stuck => .stuck) := by
  unfold orV DP.bnd DP.lift; cases f s with
  | ok x s' =>
    dsimp only
    cases asB x with
    | none => rfl
    | some b => cases b <;> rfl
  | _ => rfl
@[simp] theorem notV_ap (f : DM D) (s : DSt) : notV f s = (match f s with | .ok x s' => (match asB x with | some b => .ok (.bl (!b)) s' | none => .stuck) | .err x s' => .err x s' | .stuck => .stuck) := by
  unfold notV DP.bnd DP.lift; cases f s with
  | ok x s' =>
    dsimp only
    cases asB x <;> rfl
  | _ => rfl
@[simp] theorem asB_bl (b : Bool) : asB (.bl b) = some b := rfl
@[simp] theorem chain_ap (g g' : D → D → Option D) (fa fb fc : DM D) (s : DSt) : chain g g' fa fb fc s = (match fa s with | .ok x s1 => (match fb s1 with | .ok y s2 => (match (g x y).bind asB with | some b => (if b = true then (match fc s2 with | .ok z s3 => (match g' y z with | some d => .ok d s3 | none => .stuck) | .err x s' => .err x s' | .stuck => .stuck) else .ok (.bl false) s2) | none => .stuck) | .err x s' => .err x s' | .stuck => .stuck) | .err x s' => .err x s' | .stuck => .stuck) := by
  unfold chain DP.bnd DP.lift
  cases fa s with
  | ok x s1 =>
    dsimp only
    cases fb s1 with
    | ok y s2 =>
      dsimp only
      cases (g x y).bind asB with
      | none => rfl
      | some b =>
        cases b
        · rfl
        · simp only [if_true]
          cases fc s2 with
          | ok z s3 => dsimp only; cases g' y z <;> rfl
          | _ => rfl
    | _ => rfl
  | _ => rfl
@[simp] theorem nilM_ap (s : DSt) : nilM s = .ok [] s := rfl
@[simp] theorem consM_ap (f : DM D) (g : DM (List D)) (s : DSt) : consM f g s = (match f s with | .ok x s' => (match g s' with | .ok xs s2 => .ok (x :: xs) s2 | .err x s' => .err x s' | .stuck => .stuck) | .err x s' => .err x s' | .stuck => .stuck) := by
  unfold consM DP.bnd; cases f s with
  | ok x s' => dsimp only; cases g s' <;> rfl
  | _ => rfl
theorem small_of_le {xs : List D} (h : xs.length ≤ 1000) : small xs = some xs := by
  unfold small
  rw [if_pos (by rw [sizeLine_eq]; omega)]
@[simp] theorem small_nil : small [] = some [] := rfl
@[simp] theorem small_cons (a : D) : small [a] = some [a] := small_of_le (by simp)
@[simp] theorem small_cons2 (a b : D) : small [a, b] = some [a, b] := small_of_le (by simp)
@[simp] theorem small_cons3 (a b c : D) : small [a, b, c] = some [a, b, c] := small_of_le (by simp)
@[simp] theorem small_cons4 (a b c d : D) : small [a, b, c, d] = some [a, b, c, d] := small_of_le (by simp)
@[simp] theorem small_cons5 (a b c d e : D) : small [a, b, c, d, e] = some [a, b, c, d, e] := small_of_le (by simp)
@[simp] theorem tupM_ap (f : DM (List D)) (s : DSt) : tupM f s = (match f s with | .ok xs s' => (match small xs with | some ys => .ok (.tup ys) s' | none => .stuck) | .err x s' => .err x s' | .stuck => .stuck) := by
  unfold tupM DP.bnd DP.lift; cases f s with
  | ok x s' => dsimp only; cases small x <;> rfl
  | _ => rfl
@[simp] theorem lstM_ap (f : DM (List D)) (s : DSt) : lstM f s = (match f s with | .ok xs s' => (match small xs with | some ys => .ok (.lst ys) s' | none => .stuck) | .err x s' => .err x s' | .stuck => .stuck) := by
  unfold lstM DP.bnd DP.lift; cases f s with
  | ok x s' => dsimp only; cases small x <;> rfl
  | _ => rfl
@[simp] theorem lstC_ap (f : DM (List D)) (s : DSt) : lstC f s = (match f s with | .ok xs s' => (match small xs with | some ys => .ok (.lst ys) s' | none => .stuck) | .err x s' => .err x s' | .stuck => .stuck) := by
  unfold lstC DP.bnd DP.lift; cases f s with
  | ok x s' => dsimp only; cases small x <;> rfl
  | _ => rfl
@[simp] theorem callM_ap (m : DF) (f : DM (List D)) (s : DSt) : callM m f s = (match f s with | .ok xs s' => (match m xs s'.hp with | .ok d hp => .ok d ⟨s'.sl, hp⟩ | .err x hp => .err x ⟨s'.sl, hp⟩ | .stuck => .stuck) | .err x s' => .err x s' | .stuck => .stuck) := by
  unfold callM DP.bnd; cases f s <;> rfl
@[simp] theorem appM_ap (g : List D → Option D) (f : DM (List D)) (s : DSt) : appM g f s = (match f s with | .ok xs s' => (match g xs with | some d => .ok d s' | none => .stuck) | .err x s' => .err x s' | .stuck => .stuck) := by
  unfold appM DP.bnd DP.lift; cases f s with
  | ok x s' => dsimp only; cases g x <;> rfl
  | _ => rfl
@[simp] theorem appC_ap (g : List D → Option Cell) (f : DM (List D)) (s : DSt) : appC g f s = (match f s with | .ok xs s' => (match g xs with | some d => .ok d s' | none => .stuck) | .err x s' => .err x s' | .stuck => .stuck) := by
  unfold appC DP.bnd DP.lift; cases f s with
  | ok x s' => dsimp only; cases g x <;> rfl
  | _ => rfl
@[simp] theorem frzM_ap (f : DM Cell) (s : DSt) : frzM f s = (match f s with | .ok c s' => .ok c.frz s' | .err x s' => .err x s' | .stuck => .stuck) := by
  unfold frzM DP.bnd; cases f s <;> rfl
@[simp] theorem iterM_ap (f : DM D) (s : DSt) : iterM f s = (match f s with | .ok d s' => (match itemsOf d with | some ds => .ok ds s' | none => .stuck) | .err x s' => .err x s' | .stuck => .stuck) := by
  unfold iterM DP.bnd DP.lift; cases f s with
  | ok x s' => dsimp only; cases itemsOf x <;> rfl
  | _ => rfl
@[simp] theorem rangeM_ap (f : DM (List D)) (s : DSt) : rangeM f s = (match f s with | .ok d s' => (match rangeOf d with | some ds => .ok ds s' | none => .stuck) | .err x s' => .err x s' | .stuck => .stuck) := by
  unfold rangeM DP.bnd DP.lift; cases f s with
  | ok x s' => dsimp only; cases rangeOf x <;> rfl
  | _ => rfl
@[simp] theorem enumM_ap (f : DM (List D)) (s : DSt) : enumM f s = (match f s with | .ok d s' => (match enumOf d with | some ds => .ok ds s' | none => .stuck) | .err x s' => .err x s' | .stuck => .stuck) := by
  unfold enumM DP.bnd DP.lift; cases f s with
  | ok x s' => dsimp only; cases enumOf x <;> rfl
  | _ => rfl
@[simp] theorem datM_ap (f : DM D) (s : DSt) : datM f s = (match f s with | .ok d s' => .ok (.d d) s' | .err x s' => .err x s' | .stuck => .stuck) := by
  unfold datM DP.bnd; cases f s <;> rfl
@[simp] theorem lookM_ap (g : D → D → Option D) (fP : DM Plc) (fb : DM D) (s : DSt) : lookM g fP fb s = (match fP s with | .ok P s1 => (match fb s1 with | .ok y s2 => (match (readP P s2).bind fun d => g d y with | some f => .ok f s2 | none => .stuck) | .err x s' => .err x s' | .stuck => .stuck) | .err x s' => .err x s' | .stuck => .stuck) := by
  unfold lookM DP.bnd; cases fP s with
  | ok P s' => dsimp only; cases fb s' <;> rfl
  | _ => rfl
@[simp] theorem lookM2_ap (g : D → D → Option D) (fa : DM D) (fP : DM Plc) (s : DSt) : lookM2 g fa fP s = (match fa s with | .ok x s1 => (match fP s1 with | .ok P s2 => (match (readP P s2).bind fun d => g x d with | some f => .ok f s2 | none => .stuck) | .err x s' => .err x s' | .stuck => .stuck) | .err x s' => .err x s' | .stuck => .stuck) := by
  unfold lookM2 DP.bnd; cases fa s with
  | ok P s' => dsimp only; cases fP s' <;> rfl
  | _ => rfl
@[simp] theorem look1M_ap (g : D → Option D) (fP : DM Plc) (s : DSt) : look1M g fP s = (match fP s with | .ok P s1 => (match (readP P s1).bind g with | some f => .ok f s1 | none => .stuck) | .err x s' => .err x s' | .stuck => .stuck) := by
  unfold look1M DP.bnd; cases fP s <;> rfl
@[simp] theorem readP_sl (i : Nat) (sl : List SV) (hp : List Cell) : readP (.sl i) ⟨sl, hp⟩ = (match sl[i]? with | some (.own c) => some c.frz | some (.val d) => deref hp d | _ => none) := rfl
@[simp] theorem readP_d (x : D) (sl : List SV) (hp : List Cell) : readP (.d x) ⟨sl, hp⟩ = deref hp x := rfl
@[simp] theorem deref_tup (hp : List Cell) (xs : List D) : deref hp (.tup xs) = some (.tup xs) := rfl
@[simp] theorem deref_lst (hp : List Cell) (xs : List D) : deref hp (.lst xs) = some (.lst xs) := rfl
@[simp] theorem deref_str (hp : List Cell) (x : Str) : deref hp (.str x) = some (.str x) := rfl
@[simp] theorem deref_int (hp : List Cell) (x : Int) : deref hp (.int x) = some (.int x) := rfl
@[simp] theorem deref_non (hp : List Cell) : deref hp .non = some .non := rfl
@[simp] theorem deref_bl (hp : List Cell) (b : Bool) : deref hp (.bl b) = some (.bl b) := rfl
@[simp] theorem deref_dk (hp : List Cell) (ks : List Key) (vs : List D) : deref hp (.dk ks vs) = some (.dk ks vs) := rfl
@[simp] theorem deref_dt (hp : List Cell) (ks : List (List Key)) (vs : List D) : deref hp (.dt ks vs) = some (.dt ks vs) := rfl
@[simp] theorem deref_ins (hp : List Cell) (c : Nat) (vs : List D) : deref hp (.ins c vs) = some (.ins c vs) := rfl
@[simp] theorem parS_ap (i j : Nat) (f : DM (List D)) (s : DSt) : parS i j f s = (match f s with | .ok [d, e] s' => .nx ⟨(s'.sl.set i (.val d)).set j (.val e), s'.hp⟩ | .ok _ _ => .stuck | .err x s' => .err x s' | .stuck => .stuck) := by
  unfold parS bndS; cases f s with
  | ok ds s' =>
    match ds with
    | [] => rfl
    | [a] => rfl
    | [a, b] => rfl
    | a :: b :: c :: d => rfl
  | _ => rfl
@[simp] theorem isM_ap (g : TyD → Option Bool) (f : DM D) (s : DSt) : isM g f s = (match f s with | .ok d s' => (match (tyD s'.hp d).bind g with | some b => .ok (.bl b) s' | none => .stuck) | .err x s' => .err x s' | .stuck => .stuck) := by
  unfold isM DP.bnd; cases f s <;> rfl
@[simp] theorem unM_ap (g : D → Option D) (f : DM D) (s : DSt) : unM g f s = (match f s with | .ok d s' => (match g d with | some b => .ok b s' | none => .stuck) | .err x s' => .err x s' | .stuck => .stuck) := by
  unfold unM DP.bnd DP.lift; cases f s with
  | ok x s' => dsimp only; cases g x <;> rfl
  | _ => rfl
@[simp] theorem noPart_ap (s : DSt) : noPart s = .ok none s := rfl
@[simp] theorem partM_ap (f : DM D) (s : DSt) : partM f s = (match f s with | .ok d s' => (match asI d with | some b => .ok (some b) s' | none => .stuck) | .err x s' => .err x s' | .stuck => .stuck) := by
  unfold partM DP.bnd DP.lift; cases f s with
  | ok d s' => dsimp only; cases asI d <;> rfl
  | _ => rfl
@[simp] theorem asI_int (i : Int) : asI (.int i) = some i := rfl
@[simp] theorem sliceM_ap (f : DM D) (lo0 hi0 : DM (Option Int)) (s : DSt) : sliceM f lo0 hi0 s = (match f s with | .ok x s1 => (match lo0 s1 with | .ok lo s2 => (match hi0 s2 with | .ok hi s3 => (match sliceD x lo hi with | some d => .ok d s3 | none => .stuck) | .err x s' => .err x s' | .stuck => .stuck) | .err x s' => .err x s' | .stuck => .stuck) | .err x s' => .err x s' | .stuck => .stuck) := by
  unfold sliceM DP.bnd DP.lift; cases f s with
  | ok x s1 =>
    dsimp only
    cases lo0 s1 with
    | ok lo s2 =>
      dsimp only
      cases hi0 s2 with
      | ok hi s3 => dsimp only; cases sliceD x lo hi <;> rfl
      | _ => rfl
    | _ => rfl
  | _ => rfl
@[simp] theorem fmtM_ap (f : DM D) (s : DSt) : fmtM f s = (match f s with | .ok d s' => (match fmtD d with | some b => .ok (.str b) s' | none => .stuck) | .err x s' => .err x s' | .stuck => .stuck) := by
  unfold fmtM DP.bnd DP.lift; cases f s with
  | ok d s' => dsimp only; cases fmtD d <;> rfl
  | _ => rfl
def accR (acc : Nat → Option Acc) (x : D) (s : DSt) : R D := match insAt s.hp x with
  | some (c, ds) => (match acc c with
    | some (.fld j) => (match ds[j]? with
      | some d => .ok d s
      | none => .stuck)
    | some (.prop m) => (match m [x] s.hp with
      | .ok d hp => .ok d ⟨s.sl, hp⟩
      | _ => .stuck)
    | none => .stuck)
  | none => .stuck
@[simp] theorem getA_ap (acc : Nat → Option Acc) (f : DM D) (s : DSt) : getA acc f s = (match f s with | .ok x s' => accR acc x s' | .err x s' => .err x s' | .stuck => .stuck) := by
  unfold getA DP.bnd accR; cases f s <;> rfl
theorem acc1_same (c : Nat) (a : Acc) : acc1 c a c = some a := by simp [acc1]
@[simp] theorem accR_fld (c j : Nat) (ds : List D) (sl : List SV) (hp : List Cell) : accR (acc1 c (.fld j)) (.ins c ds) ⟨sl, hp⟩ = (match ds[j]? with | some d => .ok d ⟨sl, hp⟩ | none => .stuck) := by
  simp [accR, insAt, acc1_same]
@[simp] theorem accR_prop (c : Nat) (m : DF) (ds : List D) (sl : List SV) (hp : List Cell) : accR (acc1 c (.prop m)) (.ins c ds) ⟨sl, hp⟩ = (match m [.ins c ds] hp with | .ok d hp' => .ok d ⟨sl, hp'⟩ | _ => .stuck) := by
  simp [accR, insAt, acc1_same]
def objR (c : Nat) (m : DF) (x : D) (fs : DM (List D)) (s : DSt) : R D := match insAt s.hp x with
  | some (c', _) => if c' = c then (match fs s with | .ok xs s' => (match m (x :: xs) s'.hp with | .ok d hp => .ok d ⟨s'.sl, hp⟩ | .err x hp => .err x ⟨s'.sl, hp⟩ | .stuck => .stuck) | .err x s' => .err x s' | .stuck => .stuck) else .stuck
  | none => .stuck
@[simp] theorem objM_ap (c : Nat) (m : DF) (f : DM D) (fs : DM (List D)) (s : DSt) : objM c m f fs s = (match f s with | .ok x s' => objR c m x fs s' | .err x s' => .err x s' | .stuck => .stuck) := by
  unfold objM DP.bnd callM DP.bnd objR
  cases f s with
  | ok x s' =>
    dsimp only
    cases insAt s'.hp x with
    | none => rfl
    | some p =>
      obtain ⟨c', ds⟩ := p
      dsimp only
      split
      · cases fs s' <;> rfl
      · rfl
  | _ => rfl
@[simp] theorem objR_ins (c : Nat) (m : DF) (ds : List D) (fs : DM (List D)) (s : DSt) : objR c m (.ins c ds) fs s = (match fs s with | .ok xs s' => (match m (.ins c ds :: xs) s'.hp with | .ok d hp => .ok d ⟨s'.sl, hp⟩ | .err x hp => .err x ⟨s'.sl, hp⟩ | .stuck => .stuck) | .err x s' => .err x s' | .stuck => .stuck) := by
  simp [objR, insAt]
@[simp] theorem insAt_ins (hp : List Cell) (c : Nat) (ds : List D) : insAt hp (.ins c ds) = some (c, ds) := rfl
@[simp] theorem frz_lst (xs : List D) : (Cell.lst xs).frz = .lst xs := rfl
@[simp] theorem frz_dk (ks : List Key) (vs : List D) : (Cell.dk ks vs).frz = .dk ks vs := rfl
@[simp] theorem frz_dt (ks : List (List Key)) (vs : List D) : (Cell.dt ks vs).frz = .dt ks vs := rfl
@[simp] theorem methM_R (T : String) (g : D → List D → Option D) (fP : DM Plc) (fs : DM (List D)) (s : DSt) : methM T (actR g) fP fs s = (match fP s with | .ok P s1 => (if (readP P s1).any (isTy T) = true then (match fs s1 with | .ok ds s2 => (match (readP P s2).bind (fun c => g c ds) with | some d => .ok d s2 | none => .stuck) | .err x s' => .err x s' | .stuck => .stuck) else .stuck) | .err x s' => .err x s' | .stuck => .stuck) := by
  unfold methM actR DP.bnd
  cases fP s with
  | ok P s1 =>
    dsimp only
    split
    · cases fs s1 <;> rfl
    · rfl
  | _ => rfl
@[simp] theorem methM_W (T : String) (g : Cell → List D → Option (D × Cell)) (fP : DM Plc) (fs : DM (List D)) (s : DSt) : methM T (actW g) fP fs s = (match fP s with | .ok P s1 => (if (readP P s1).any (isTy T) = true then (match fs s1 with | .ok ds s2 => (match (cellP P s2).bind (fun c => g c ds) with | some (d, c') => .ok d (putP P c' s2) | none => .stuck) | .err x s' => .err x s' | .stuck => .stuck) else .stuck) | .err x s' => .err x s' | .stuck => .stuck) := by
  unfold methM actW DP.bnd
  cases fP s with
  | ok P s1 =>
    dsimp only
    split
    · cases fs s1 <;> rfl
    · rfl
  | _ => rfl
@[simp] theorem isTy_str (x : Str) : isTy "str" (.str x) = true := rfl
@[simp] theorem isTy_lst (x : List D) : isTy "list" (.lst x) = true := rfl
@[simp] theorem cellP_sl (i : Nat) (sl : List SV) (hp : List Cell) : cellP (.sl i) ⟨sl, hp⟩ = (match sl[i]? with | some (.own c) => some c | some (.val (.ref n)) => hp[n]? | _ => none) := rfl
@[simp] theorem putP_sl (i : Nat) (c : Cell) (sl : List SV) (hp : List Cell) : putP (.sl i) c ⟨sl, hp⟩ = (match sl[i]? with | some (.own _) => ⟨sl.set i (.own c), hp⟩ | some (.val (.ref n)) => ⟨sl, hp.set n c⟩ | _ => ⟨sl, hp⟩) := rfl
end
theorem defF_ap (n : Nat) (b : DS) (ds : List D) (hp : List Cell) : defF n b ds hp = (match b ⟨ds.map .val ++ List.replicate (n - ds.length) .un, hp⟩ with
  | .nx s => .ok .non s.hp
  | .rt d s => .ok d s.hp
  | .err x s => .err x s.hp
  | _ => .stuck) := rfl

/-! ### comprehensions -/
theorem lcL_map {α : Type} {g : DG} {t : DM Bool} {e : DM D} {vs : List Nat} {sl : List SV} {hp : List Cell} {E : α → D} (F : α → Option D) : ∀ {xs : List α}, (∀ x ∈ xs, ∃ s1, g (E x) ⟨sl, hp⟩ = some s1 ∧
    match F x with
    | none => ∃ s2, t s1 = .ok false s2 ∧ unL s2.sl vs = sl ∧ s2.hp = hp
    | some y => ∃ s2 s3, t s1 = .ok true s2 ∧ e s2 = .ok y s3 ∧ unL s3.sl vs = sl ∧ s3.hp = hp) → lcL g t e vs (xs.map E) ⟨sl, hp⟩ = .ok (xs.filterMap F) ⟨sl, hp⟩
  | [], _ => rfl
  | x :: xs, h => by
    obtain ⟨s1, h1, h2⟩ := h x List.mem_cons_self
    have ih := lcL_map F (xs := xs) fun y hy => h y (List.mem_cons_of_mem _ hy)
    rw [List.map_cons]
    unfold lcL
    rw [h1]
    dsimp only
    cases hF : F x with
    | none =>
      rw [hF] at h2
      obtain ⟨s2, h3, h4, h5⟩ := h2
      rw [h3]
      dsimp only
      rw [h4, h5, ih, List.filterMap_cons_none hF]
    | some y =>
      rw [hF] at h2
      obtain ⟨s2, s3, h3, h6, h4, h5⟩ := h2
      rw [h3]
      dsimp only
      rw [h6]
      dsimp only
      rw [h4, h5, ih, List.filterMap_cons_some hF]
theorem filterMap_some_map {α β : Type} (f : α → β) : ∀ xs : List α, xs.filterMap (fun x => some (f x)) = xs.map f
  | [] => rfl
  | x :: xs => by simp [filterMap_some_map f xs]
/-- over items made from xs -/
theorem lcC_map {α : Type} {g : DG} {t : DM Bool} {e : DM D} {vs : List Nat} {f : DM (List D)} {sl sl2 : List SV} {hp : List Cell} {E : α → D} {s : DSt} {xs : List α} (F : α → Option D) (hf : f s = .ok (xs.map E) ⟨sl, hp⟩) (hl : xs.length ≤ 1000) (hfr : freeOf sl vs = true)
    (h : ∀ x ∈ xs, ∃ s1, g (E x) ⟨unL sl vs, hp⟩ = some s1 ∧
    match F x with
    | none => ∃ s2, t s1 = .ok false s2 ∧ unL s2.sl vs = unL sl vs ∧ s2.hp = hp
    | some y => ∃ s2 s3, t s1 = .ok true s2 ∧ e s2 = .ok y s3 ∧ unL s3.sl vs = unL sl vs ∧ s3.hp = hp) (hb : backL sl (unL sl vs) vs = sl2) : lcC vs f g t e s = .ok (.lst (xs.filterMap F)) ⟨sl2, hp⟩ := by
  unfold lcC DP.bnd
  rw [hf]
  dsimp only
  rw [if_pos ⟨by rw [List.length_map, sizeLine_eq]; omega, hfr⟩, lcL_map F h]
  dsimp only
  rw [hb]
/-- no test: each item gives something -/
theorem lcC_all {α : Type} {g : DG} {e : DM D} {vs : List Nat} {f : DM (List D)} {sl sl2 : List SV} {hp : List Cell} {E : α → D} {s : DSt} {xs : List α} (F : α → D) (hf : f s = .ok (xs.map E) ⟨sl, hp⟩) (hl : xs.length ≤ 1000) (hfr : freeOf sl vs = true)
    (h : ∀ x ∈ xs, ∃ s1 s3, g (E x) ⟨unL sl vs, hp⟩ = some s1 ∧ e s1 = .ok (F x) s3 ∧ unL s3.sl vs = unL sl vs ∧ s3.hp = hp) (hb : backL sl (unL sl vs) vs = sl2) : lcC vs f g (ret true) e s = .ok (.lst (xs.map F)) ⟨sl2, hp⟩ := by
  rw [lcC_map (fun x => some (F x)) hf hl hfr (fun x hx => ?_) hb, filterMap_some_map]
  obtain ⟨s1, s3, h1, h2, h3⟩ := h x hx
  exact ⟨s1, h1, s1, s3, rfl, h2, h3⟩

/-! ### loops -/
theorem forL_fold {α β : Type} {g : DG} {b : DS} {E : α → D} (S : β → SV → DSt) (step : β → α → β) : ∀ {xs : List α} {acc : β} {w : SV}, (∀ acc w x, x ∈ xs → ∃ s1 w', g (E x) (S acc w) = some s1 ∧ (b s1 = .nx (S (step acc x) w') ∨ b s1 = .ct (S (step acc x) w'))) → ∃ w', forL g b (xs.map E) (S acc w) = .nx (S (xs.foldl step acc) w')
  | [], acc, w, _ => ⟨w, rfl⟩
  | x :: xs, acc, w, h => by
    obtain ⟨s1, w', h1, h2⟩ := h acc w x List.mem_cons_self
    obtain ⟨w2, ih⟩ := forL_fold S step (xs := xs) (acc := step acc x) (w := w') fun acc w y hy => h acc w y (List.mem_cons_of_mem _ hy)
    refine ⟨w2, ?_⟩
    rw [List.map_cons]
    unfold forL
    rw [h1]
    dsimp only
    rcases h2 with h2 | h2 <;> rw [h2] <;> exact ih
theorem whileL_go {c : DM Bool} {b : DS} {n : Nat} {s s1 : DSt} (h : c s = .ok true s1) {s2 : DSt} (hb : b s1 = .nx s2) : whileL c b (n + 1) s = whileL c b n s2 := by
  rw [whileL, bndS, h]
  dsimp only
  rw [if_pos rfl, hb]
theorem whileL_stop {c : DM Bool} {b : DS} {n : Nat} {s s1 : DSt} (h : c s = .ok false s1) : whileL c b (n + 1) s = .nx s1 := by
  unfold whileL bndS
  rw [h]
  rfl
end LK
namespace LK
open PySem PySem.Spec PyProof.Rows L2 He DP
/-! ### comprehensions over one name, over two -/
theorem set_getD (sl : List SV) (i : Nat) (hi : i < sl.length) : sl.set i (sl.getD i .un) = sl := by
  apply List.ext_getElem?
  intro k
  by_cases e : i = k
  · subst e
    rw [List.getElem?_set_self hi, List.getD_eq_getElem?_getD, List.getElem?_eq_getElem hi]
    rfl
  · rw [List.getElem?_set_ne e]
theorem lc_name {α : Type} {i : Nat} {e : DM D} {f : DM (List D)} {sl : List SV} {hp : List Cell} {E : α → D} {s : DSt} {xs : List α} (F : α → D) (hf : f s = .ok (xs.map E) ⟨sl, hp⟩) (hl : xs.length ≤ 1000) (hfr : freeOf sl [i] = true) (hi : i < sl.length)
    (h : ∀ x ∈ xs, e ⟨sl.set i (.val (E x)), hp⟩ = .ok (F x) ⟨sl.set i (.val (E x)), hp⟩) : lcC [i] f (nameG i) (DP.ret true) e s = .ok (.lst (xs.map F)) ⟨sl, hp⟩ := by
  refine lcC_all F hf hl hfr (fun x hx => ⟨⟨sl.set i (.val (E x)), hp⟩, ⟨sl.set i (.val (E x)), hp⟩, by simp [unL], h x hx, by simp [unL], rfl⟩) ?_
  simp only [backL, unL, List.set_set]
  exact set_getD sl i hi
theorem lc_nameF {α : Type} {i : Nat} {t : DM Bool} {e : DM D} {f : DM (List D)} {sl : List SV} {hp : List Cell} {E : α → D} {s : DSt} {xs : List α} (p : α → Bool) (F : α → D) (hf : f s = .ok (xs.map E) ⟨sl, hp⟩) (hl : xs.length ≤ 1000) (hfr : freeOf sl [i] = true) (hi : i < sl.length)
    (ht : ∀ x ∈ xs, t ⟨sl.set i (.val (E x)), hp⟩ = .ok (p x) ⟨sl.set i (.val (E x)), hp⟩) (h : ∀ x ∈ xs, p x = true → e ⟨sl.set i (.val (E x)), hp⟩ = .ok (F x) ⟨sl.set i (.val (E x)), hp⟩) : lcC [i] f (nameG i) t e s = .ok (.lst ((xs.filter p).map F)) ⟨sl, hp⟩ := by
  have e1 : (xs.filter p).map F = xs.filterMap fun x => if p x = true then some (F x) else none := by
    clear hf hl ht h
    induction xs with
    | nil => rfl
    | cons x xs ih =>
      by_cases q : p x = true
      · rw [List.filter_cons_of_pos q, List.map_cons, List.filterMap_cons_some (by rw [if_pos q]), ih]
      · rw [List.filter_cons_of_neg q, List.filterMap_cons_none (by rw [if_neg q]), ih]
  rw [e1]
  refine lcC_map _ hf hl hfr (fun x hx => ⟨⟨sl.set i (.val (E x)), hp⟩, by simp [unL], ?_⟩) ?_
  · have h1 := ht x hx
    by_cases q : p x = true
    · rw [if_pos q]
      rw [q] at h1
      exact ⟨_, _, h1, h x hx q, by simp [unL], rfl⟩
    · rw [if_neg q]
      rw [Bool.not_eq_true] at q
      rw [q] at h1
      exact ⟨_, h1, by simp [unL], rfl⟩
  · simp only [backL, unL, List.set_set]
    exact set_getD sl i hi
theorem set2_back (sl : List SV) (i j : Nat) (hi : i < sl.length) (hj : j < sl.length) (ne : i ≠ j) : backL sl (unL sl [i, j]) [i, j] = sl := by
  simp only [backL, unL]
  apply List.ext_getElem?
  intro k
  have gd : ∀ m, m < sl.length → some (sl.getD m .un) = sl[m]? := fun m hm => by rw [List.getD_eq_getElem?_getD, List.getElem?_eq_getElem hm]; rfl
  by_cases e : i = k
  · subst e
    rw [List.getElem?_set_self (by simp; exact hi), gd i hi]
  · rw [List.getElem?_set_ne e]
    by_cases e2 : j = k
    · subst e2
      rw [List.getElem?_set_self (by simp; exact hj), gd j hj]
    · rw [List.getElem?_set_ne e2, List.getElem?_set_ne e, List.getElem?_set_ne e2]
theorem tup2G (i j : Nat) (a b : D) (sl : List SV) (hp : List Cell) : tupleG [nameG i, nameG j] (.tup [a, b]) ⟨sl, hp⟩ = some ⟨(sl.set i (.val a)).set j (.val b), hp⟩ := rfl
theorem lc_pairF {α : Type} {i j : Nat} {t : DM Bool} {e : DM D} {f : DM (List D)} {sl : List SV} {hp : List Cell} {A B : α → D} {s : DSt} {xs : List α} (p : α → Bool) (F : α → D) (hf : f s = .ok (xs.map fun x => .tup [A x, B x]) ⟨sl, hp⟩) (hl : xs.length ≤ 1000) (hfr : freeOf sl [i, j] = true) (hi : i < sl.length) (hj : j < sl.length) (ne : i ≠ j)
    (ht : ∀ x ∈ xs, t ⟨(sl.set i (.val (A x))).set j (.val (B x)), hp⟩ = .ok (p x) ⟨(sl.set i (.val (A x))).set j (.val (B x)), hp⟩) (h : ∀ x ∈ xs, p x = true → e ⟨(sl.set i (.val (A x))).set j (.val (B x)), hp⟩ = .ok (F x) ⟨(sl.set i (.val (A x))).set j (.val (B x)), hp⟩) : lcC [i, j] f (tupleG [nameG i, nameG j]) t e s = .ok (.lst ((xs.filter p).map F)) ⟨sl, hp⟩ := by
  have e1 : (xs.filter p).map F = xs.filterMap fun x => if p x = true then some (F x) else none := by
    clear hf hl ht h
    induction xs with
    | nil => rfl
    | cons x xs ih =>
      by_cases q : p x = true
      · rw [List.filter_cons_of_pos q, List.map_cons, List.filterMap_cons_some (by rw [if_pos q]), ih]
      · rw [List.filter_cons_of_neg q, List.filterMap_cons_none (by rw [if_neg q]), ih]
  have un : ∀ a b : SV, unL ((sl.set i a).set j b) [i, j] = unL sl [i, j] := fun a b => by
    simp only [unL, List.set_set]
    rw [List.set_comm _ _ ne.symm, List.set_set, List.set_comm _ _ ne]
  have go : ∀ a b : SV, ((unL sl [i, j]).set i a).set j b = (sl.set i a).set j b := fun a b => by
    simp only [unL, List.set_set]
    rw [List.set_comm _ _ ne.symm, List.set_set]
  rw [e1]
  refine lcC_map _ hf hl hfr (fun x hx => ⟨⟨(sl.set i (.val (A x))).set j (.val (B x)), hp⟩, ?_, ?_⟩) (set2_back sl i j hi hj ne)
  · rw [tup2G, go]
  · have h1 := ht x hx
    by_cases q : p x = true
    · rw [if_pos q]
      rw [q] at h1
      exact ⟨_, _, h1, h x hx q, un _ _, rfl⟩
    · rw [if_neg q]
      rw [Bool.not_eq_true] at q
      rw [q] at h1
      exact ⟨_, h1, un _ _, rfl⟩
theorem filter_all {α : Type} (xs : List α) : xs.filter (fun _ => true) = xs := by simp
theorem lc_pair {α : Type} {i j : Nat} {e : DM D} {f : DM (List D)} {sl : List SV} {hp : List Cell} {A B : α → D} {s : DSt} {xs : List α} (F : α → D) (hf : f s = .ok (xs.map fun x => .tup [A x, B x]) ⟨sl, hp⟩) (hl : xs.length ≤ 1000) (hfr : freeOf sl [i, j] = true) (hi : i < sl.length) (hj : j < sl.length) (ne : i ≠ j)
    (h : ∀ x ∈ xs, e ⟨(sl.set i (.val (A x))).set j (.val (B x)), hp⟩ = .ok (F x) ⟨(sl.set i (.val (A x))).set j (.val (B x)), hp⟩) : lcC [i, j] f (tupleG [nameG i, nameG j]) (DP.ret true) e s = .ok (.lst (xs.map F)) ⟨sl, hp⟩ := by
  have := lc_pairF (t := DP.ret true) (e := e) (s := s) (fun _ => true) F hf hl hfr hi hj ne (fun x hx => rfl) fun x hx _ => h x hx
  rwa [filter_all] at this
end LK
set_option Elab.async false
set_option linter.all false
set_option maxRecDepth 100000
set_option maxHeartbeats 4000000
/-! SP1: the package's fractions, as rationals. -/
namespace LK
open PySem PySem.Spec PyProof.Rows L2 He DP

/-! ### numbers and their sizes -/
theorem log2_lt {n k : Nat} (h : n < 2 ^ k) (hk : 0 < k) : n.log2 < k := by
  by_cases h0 : n = 0
  · subst h0; simpa using hk
  · exact (Nat.log2_lt h0).mpr h
theorem log2_le {n k : Nat} (h : n < 2 ^ k) : n.log2 ≤ k := by
  by_cases h0 : n = 0
  · subst h0; simp
  · exact Nat.le_of_lt ((Nat.log2_lt h0).mpr h)
def Bd (i : Int) (k : Nat) : Prop := i.natAbs < 2 ^ k
theorem Bd.mono {i : Int} {j k : Nat} (h : Bd i j) (hk : j ≤ k) : Bd i k := Nat.lt_of_lt_of_le h (Nat.pow_le_pow_right (by decide) hk)
theorem Bd.mul {i j : Int} {k l : Nat} (h : Bd i k) (h' : Bd j l) : Bd (i * j) (k + l) := by
  unfold Bd at *
  rw [Int.natAbs_mul, Nat.pow_add]
  exact Nat.mul_lt_mul'' h h'
theorem Bd.add {i j : Int} {k : Nat} (h : Bd i k) (h' : Bd j k) : Bd (i + j) (k + 1) := by
  unfold Bd at *
  have := Int.natAbs_add_le i j
  rw [Nat.pow_succ]
  omega
theorem Bd.neg {i : Int} {k : Nat} (h : Bd i k) : Bd (-i) k := by
  unfold Bd at *
  rwa [Int.natAbs_neg]
theorem Bd.sub {i j : Int} {k : Nat} (h : Bd i k) (h' : Bd j k) : Bd (i - j) (k + 1) := by
  rw [Int.sub_eq_add_neg]
  exact h.add h'.neg
@[simp] theorem abs_int (i : Int) : absN [.int i] = some (.int i.natAbs) := by
  simp only [absN]
  congr 2
  split <;> omega
@[simp] theorem intN_int (i : Int) : intN [.int i] = some (.int i) := rfl
theorem mul_int {i j : Int} {k l : Nat} (h : Bd i k) (h' : Bd j l) (hk : k + l < 134000000) : mulD (.int i) (.int j) = some (.int (i * j)) := by
  have a1 := log2_le h
  have a2 := log2_le h'
  simp only [mulD, mulI, DP.intOp]
  rw [if_pos (by omega)]
theorem div_int {i j : Int} {k : Nat} (h0 : 0 < j) (h : Bd j k) (hk : k < 9000) : divI (.int i) (.int j) = some (.int (i / j)) := by
  have a1 := log2_le h
  simp only [divI, DP.intOp]
  rw [if_pos h0, if_pos (by omega)]
theorem mod_int {i j : Int} (h0 : 0 < j) : modI (.int i) (.int j) = some (.int (i % j)) := by
  simp only [modI, DP.intOp]
  rw [if_pos h0]
@[simp] theorem add_int (i j : Int) : addD (.int i) (.int j) = some (.int (i + j)) := rfl
@[simp] theorem sub_int (i j : Int) : subI (.int i) (.int j) = some (.int (i - j)) := rfl
@[simp] theorem lt_int (i j : Int) : ltD (.int i) (.int j) = some (.bl (decide (i < j))) := rfl
@[simp] theorem le_int (i j : Int) : leD (.int i) (.int j) = some (.bl (decide (i ≤ j))) := rfl
@[simp] theorem gt_int (i j : Int) : gtD (.int i) (.int j) = some (.bl (decide (j < i))) := rfl
@[simp] theorem ge_int (i j : Int) : geD (.int i) (.int j) = some (.bl (decide (j ≤ i))) := rfl
@[simp] theorem neg_int (i : Int) : negD (.int i) = some (.int (-i)) := rfl
@[simp] theorem ixD_tup (xs : List D) (i : Int) : ixD (.tup xs) (.int i) = atI xs i := rfl
@[simp] theorem ixD_lst (xs : List D) (i : Int) : ixD (.lst xs) (.int i) = atI xs i := rfl
theorem atI_nat {α : Type} (xs : List α) (k : Nat) : atI xs (k : Int) = xs[k]? := by
  unfold atI ixN
  rw [if_pos (Int.natCast_nonneg k)]
  by_cases h : k < xs.length
  · rw [if_pos (by exact_mod_cast h)]
    simp
  · rw [if_neg (by omega), List.getElem?_eq_none (by omega)]
    rfl
@[simp] theorem atI_zero {α : Type} (x : α) (xs : List α) : atI (x :: xs) 0 = some x := by
  have := atI_nat (x :: xs) 0
  simpa using this
@[simp] theorem atI_one {α : Type} (x y : α) (xs : List α) : atI (x :: y :: xs) 1 = some y := by
  have := atI_nat (x :: y :: xs) 1
  simpa using this
@[simp] theorem atI_two {α : Type} (x y z : α) (xs : List α) : atI (x :: y :: z :: xs) 2 = some z := by
  have := atI_nat (x :: y :: z :: xs) 2
  simpa using this

/-! ### common: the greatest common divisor -/
theorem common_loop {sl2 : List SV} {hp : List Cell} : ∀ (k n : Nat) (a b : Nat), b < 2 ^ k → 2 * k + 2 ≤ n →
    whileL (tst (DP.bin gtD (varM 1) (DP.ret (D.int 0)))) (parS 0 1 (consM (varM 1) (consM (DP.bin modI (appM intN (consM (varM 0) nilM)) (varM 1)) nilM))) n ⟨[.val (.int a), .val (.int b)], hp⟩ = .nx ⟨[.val (.int (Nat.gcd a b : Nat)), .val (.int 0)], hp⟩ := by
  intro k
  induction k with
  | zero =>
    intro n a b hb hn
    have : b = 0 := by simpa using hb
    subst this
    obtain ⟨m, rfl⟩ := Nat.exists_eq_add_of_lt (show 0 < n by omega)
    rw [whileL_stop (s1 := ⟨[.val (.int a), .val (.int 0)], hp⟩) (by simp)]
    simp
  | succ k ih =>
    intro n a b hb hn
    by_cases h0 : b = 0
    · subst h0
      obtain ⟨m, rfl⟩ := Nat.exists_eq_add_of_lt (show 0 < n by omega)
      rw [whileL_stop (s1 := ⟨[.val (.int a), .val (.int 0)], hp⟩) (by simp)]
      simp
    · have hbp : 0 < b := Nat.pos_of_ne_zero h0
      obtain ⟨m, rfl⟩ := Nat.exists_eq_add_of_le (show 2 ≤ n by omega)
      rw [show 2 + m = (m + 1) + 1 by omega]
      have step : ∀ (x y : Nat), 0 < y → ∀ m, whileL (tst (DP.bin gtD (varM 1) (DP.ret (D.int 0)))) (parS 0 1 (consM (varM 1) (consM (DP.bin modI (appM intN (consM (varM 0) nilM)) (varM 1)) nilM))) (m + 1) ⟨[.val (.int x), .val (.int y)], hp⟩ =
          whileL (tst (DP.bin gtD (varM 1) (DP.ret (D.int 0)))) (parS 0 1 (consM (varM 1) (consM (DP.bin modI (appM intN (consM (varM 0) nilM)) (varM 1)) nilM))) m ⟨[.val (.int y), .val (.int (x % y : Nat))], hp⟩ := fun x y hy m => by
        have hy' : (0 : Int) < y := by exact_mod_cast hy
        refine whileL_go (s1 := ⟨[.val (.int x), .val (.int y)], hp⟩) (by simp [hy]) ?_
        simp [mod_int hy']
      rw [step a b hbp]
      by_cases h1 : a % b = 0
      · rw [h1]
        rw [whileL_stop (s1 := ⟨[.val (.int b), .val (.int (0 : Nat))], hp⟩) (by simp)]
        have : Nat.gcd a b = b := by rw [Nat.gcd_comm, Nat.gcd_rec, h1, Nat.gcd_zero_left]
        rw [this]
        rfl
      · have hp1 : 0 < a % b := Nat.pos_of_ne_zero h1
        rw [step b (a % b) hp1]
        have hlt : a % b < b := Nat.mod_lt _ hbp
        rw [ih m (a % b) (b % (a % b)) ?_ (by omega)]
        · have e1 : Nat.gcd a b = Nat.gcd (a % b) b := by rw [Nat.gcd_comm a b, Nat.gcd_rec]
          have e2 : Nat.gcd (a % b) b = Nat.gcd (b % (a % b)) (a % b) := Nat.gcd_rec _ _
          rw [e1, e2, Nat.gcd_comm]
        · have h2 : b % (a % b) < a % b := Nat.mod_lt _ hp1
          have h3 : b % (a % b) + a % b ≤ b := by
            have := Nat.mod_add_div b (a % b)
            have hq : 1 ≤ b / (a % b) := (Nat.one_le_div_iff hp1).mpr (Nat.le_of_lt hlt)
            have : a % b ≤ (a % b) * (b / (a % b)) := Nat.le_mul_of_pos_right _ hq
            omega
          rw [Nat.pow_succ] at hb
          omega
theorem common_ok (a b : Int) (hb : 0 ≤ b) {k : Nat} (hk : Bd b k) (h : k < 100000000) (hp : List Cell) : m_common [.int a, .int b] hp = .ok (.int (Int.gcd a b : Nat)) hp := by
  have e : b = (b.natAbs : Int) := by omega
  have l := common_loop (sl2 := []) (hp := hp) k 1000000000 a.natAbs b.natAbs hk (by omega)
  rw [← e] at l
  simp [m_common, b_common, N_common, defF_ap, l, Int.gcd]

/-! ### fractions -/
def fr (q : Rat) : D := .tup [.int q.num, .int q.den]
@[simp] theorem fr_ix0 (q : Rat) : ixD (fr q) (.int 0) = some (.int q.num) := by simp [fr]
@[simp] theorem fr_ix1 (q : Rat) : ixD (fr q) (.int 1) = some (.int q.den) := by simp [fr]
@[simp] theorem deref_fr (hp : List Cell) (q : Rat) : deref hp (fr q) = some (fr q) := rfl
theorem fr_zero : (.tup (([0, 1] : List Int).map .int) : D) = fr 0 := rfl
theorem fr_one : (.tup (([1, 1] : List Int).map .int) : D) = fr 1 := rfl
@[simp] theorem fr_zero' : (.tup [.int 0, .int 1] : D) = fr 0 := rfl
@[simp] theorem fr_one' : (.tup [.int 1, .int 1] : D) = fr 1 := rfl
theorem fr_inj {p q : Rat} (h : fr p = fr q) : p = q := by
  unfold fr at h
  injection h with h
  injection h with h1 h2
  injection h2 with h2 _
  injection h1 with h1
  injection h2 with h2
  exact Rat.ext h1 (by exact_mod_cast h2)
def Sz (q : Rat) (k : Nat) : Prop := Bd q.num k ∧ q.den < 2 ^ k
theorem Sz.mono {q : Rat} {j k : Nat} (h : Sz q j) (hk : j ≤ k) : Sz q k := ⟨h.1.mono hk, Nat.lt_of_lt_of_le h.2 (Nat.pow_le_pow_right (by decide) hk)⟩
theorem Sz.den {q : Rat} {k : Nat} (h : Sz q k) : Bd (q.den : Int) k := h.2
theorem den_pos (q : Rat) : (0 : Int) < (q.den : Int) := by exact_mod_cast q.den_pos
theorem sz_zero : Sz 0 1 := ⟨show (0 : Int).natAbs < 2 ^ 1 by decide, by decide⟩
theorem sz_one : Sz 1 1 := ⟨show (1 : Int).natAbs < 2 ^ 1 by decide, by decide⟩
theorem fr_divInt {a b : Int} (hb : 0 < b) : fr (Rat.divInt a b) = .tup [.int (a / (Int.gcd a b : Nat)), .int (b / (Int.gcd a b : Nat))] := by
  unfold fr
  have hb0 : b ≠ 0 := by omega
  rw [Rat.num_divInt, Rat.den_divInt, if_neg hb0, Int.sign_eq_one_of_pos hb, Int.one_mul, Int.gcd_comm]
  have : ((b.natAbs / Int.gcd a b : Nat) : Int) = b / (Int.gcd a b : Nat) := by
    rw [Int.natCast_ediv]
    congr 1
    omega
  rw [this]
theorem sz_divInt {a b : Int} {k : Nat} (hb : 0 < b) (h1 : Bd a k) (h2 : Bd b k) : Sz (Rat.divInt a b) k := by
  have hb0 : b ≠ 0 := by omega
  have hg : 0 < Int.gcd b a := Int.gcd_pos_of_ne_zero_left _ hb0
  refine ⟨?_, ?_⟩
  · rw [Rat.num_divInt, Int.sign_eq_one_of_pos hb, Int.one_mul]
    unfold Bd at *
    refine Nat.lt_of_le_of_lt ?_ h1
    rw [Int.natAbs_ediv_of_dvd (Int.gcd_dvd_right ..)]
    exact Nat.div_le_self _ _
  · rw [Rat.den_divInt, if_neg hb0]
    exact Nat.lt_of_le_of_lt (Nat.div_le_self _ _) h2
theorem gcd_bd {a b : Int} {k : Nat} (hb : 0 < b) (h : Bd b k) : Bd (Int.gcd a b : Nat) k := by
  unfold Bd at *
  have : Int.gcd a b ≤ b.natAbs := Nat.le_of_dvd (by omega) (Nat.gcd_dvd_right _ _)
  simp only [Int.natAbs_natCast]
  omega
theorem gcd_pos {a b : Int} (hb : 0 < b) : (0 : Int) < (Int.gcd a b : Nat) := by
  have : 0 < Int.gcd a b := Int.gcd_pos_of_ne_zero_right _ (by omega)
  exact_mod_cast this
theorem lowest_ok (a b : Int) (hb : 0 < b) {k : Nat} (hk : Bd b k) (h : k < 9000) (hp : List Cell) : m_lowest [.int a, .int b] hp = .ok (fr (Rat.divInt a b)) hp := by
  have c := common_ok a b (by omega) hk (by omega) hp
  have hg := gcd_pos (a := a) hb
  have hgb := gcd_bd (a := a) hb hk
  have d1 := div_int (i := a) hg hgb h
  have d2 := div_int (i := b) hg hgb h
  simp [m_lowest, b_lowest, N_lowest, defF_ap, c, d1, d2, fr_divInt hb]
theorem add_divInt (a b : Rat) : Rat.divInt (a.num * b.den + b.num * a.den) (a.den * b.den) = a + b := by
  have := Rat.divInt_add_divInt a.num b.num (d₁ := a.den) (d₂ := b.den) (by have := den_pos a; omega) (by have := den_pos b; omega)
  rw [Rat.num_divInt_den, Rat.num_divInt_den] at this
  exact this.symm
theorem sub_divInt (a b : Rat) : Rat.divInt (a.num * b.den - b.num * a.den) (a.den * b.den) = a - b := by
  have := Rat.divInt_sub_divInt a.num b.num (d₁ := a.den) (d₂ := b.den) (by have := den_pos a; omega) (by have := den_pos b; omega)
  rw [Rat.num_divInt_den, Rat.num_divInt_den] at this
  exact this.symm
theorem mul_divInt (a b : Rat) : Rat.divInt (a.num * b.num) (a.den * b.den) = a * b := by
  have := Rat.divInt_mul_divInt a.num b.num (d₁ := a.den) (d₂ := b.den)
  rw [Rat.num_divInt_den, Rat.num_divInt_den] at this
  exact this.symm
theorem div_divInt (a b : Rat) : Rat.divInt (a.num * b.den) (a.den * b.num) = a / b := by
  rw [Rat.div_def]
  have := Rat.divInt_mul_divInt a.num b.den (d₁ := a.den) (d₂ := b.num)
  rw [Rat.num_divInt_den, ← Rat.inv_divInt, Rat.num_divInt_den] at this
  exact this.symm
theorem mulpos (a b : Rat) : (0 : Int) < (a.den : Int) * b.den := Int.mul_pos (den_pos a) (den_pos b)
section
variable {a b : Rat} {j k : Nat}
theorem add_ok (ha : Sz a j) (hb : Sz b k) (h : j + k < 9000) (hp : List Cell) : m_add [fr a, fr b] hp = .ok (fr (a + b)) hp := by
  have e1 := mul_int ha.1 hb.den (by omega)
  have e2 := mul_int hb.1 ha.den (by omega)
  have e3 := mul_int ha.den hb.den (by omega)
  have l := lowest_ok (a.num * b.den + b.num * a.den) (a.den * b.den) (mulpos a b) (ha.den.mul hb.den) h hp
  rw [add_divInt] at l
  simp [m_add, b_add, N_add, defF_ap, e1, e2, e3, l]
theorem sz_add (ha : Sz a j) (hb : Sz b k) : Sz (a + b) (j + k + 1) := by
  rw [← add_divInt]
  refine sz_divInt (mulpos a b) ((ha.1.mul hb.den).add ?_) ((ha.den.mul hb.den).mono (by omega))
  have := hb.1.mul ha.den
  rwa [Nat.add_comm] at this
theorem less_ok (ha : Sz a j) (hb : Sz b k) (h : j + k < 9000) (hp : List Cell) : m_less [fr a, fr b] hp = .ok (fr (a - b)) hp := by
  have e1 := mul_int ha.1 hb.den (by omega)
  have e2 := mul_int hb.1 ha.den (by omega)
  have e3 := mul_int ha.den hb.den (by omega)
  have l := lowest_ok (a.num * b.den - b.num * a.den) (a.den * b.den) (mulpos a b) (ha.den.mul hb.den) h hp
  rw [sub_divInt] at l
  simp [m_less, b_less, N_less, defF_ap, e1, e2, e3, l]
theorem sz_sub (ha : Sz a j) (hb : Sz b k) : Sz (a - b) (j + k + 1) := by
  rw [← sub_divInt]
  refine sz_divInt (mulpos a b) ((ha.1.mul hb.den).sub ?_) ((ha.den.mul hb.den).mono (by omega))
  have := hb.1.mul ha.den
  rwa [Nat.add_comm] at this
theorem times_ok (ha : Sz a j) (hb : Sz b k) (h : j + k < 9000) (hp : List Cell) : m_times [fr a, fr b] hp = .ok (fr (a * b)) hp := by
  have e1 := mul_int ha.1 hb.1 (by omega)
  have e3 := mul_int ha.den hb.den (by omega)
  have l := lowest_ok (a.num * b.num) (a.den * b.den) (mulpos a b) (ha.den.mul hb.den) h hp
  rw [mul_divInt] at l
  simp [m_times, b_times, N_times, defF_ap, e1, e3, l]
theorem sz_mul (ha : Sz a j) (hb : Sz b k) : Sz (a * b) (j + k) := by
  rw [← mul_divInt]
  exact sz_divInt (mulpos a b) (ha.1.mul hb.1) (ha.den.mul hb.den)
theorem num_pos {b : Rat} (h : 0 < b) : 0 < b.num := by
  have := (Rat.lt_iff 0 b).mp h
  simpa using this
theorem over_ok (ha : Sz a j) (hb : Sz b k) (hpos : 0 < b) (h : j + k < 9000) (hp : List Cell) : m_over [fr a, fr b] hp = .ok (fr (a / b)) hp := by
  have e1 := mul_int ha.1 hb.den (by omega)
  have e3 := mul_int ha.den hb.1 (by omega)
  have l := lowest_ok (a.num * b.den) (a.den * b.num) (Int.mul_pos (den_pos a) (num_pos hpos)) (ha.den.mul hb.1) h hp
  rw [div_divInt] at l
  simp [m_over, b_over, N_over, defF_ap, e1, e3, l]
theorem sz_div (ha : Sz a j) (hb : Sz b k) (hpos : 0 < b) : Sz (a / b) (j + k) := by
  rw [← div_divInt]
  exact sz_divInt (Int.mul_pos (den_pos a) (num_pos hpos)) (ha.1.mul hb.den) (ha.den.mul hb.1)
end
end LK
set_option Elab.async false
set_option linter.all false
set_option maxRecDepth 100000
set_option maxHeartbeats 4000000
/-! SP2: texts as lists of signs; lots, names, cases. -/
namespace LK
open PySem PySem.Spec PyProof.Rows L2 He DP

abbrev Lot := List Nat
def st (l : Lot) : Str := ⟨l.toArray⟩
def sd (l : Lot) : D := .str (st l)
def ch (c : Nat) : D := .str (st [c])
theorem ch_eq (c : Nat) : (.str ⟨#[c]⟩ : D) = ch c := rfl
theorem ch_sd (c : Nat) : ch c = sd [c] := rfl
theorem str_sd (l : Lot) : (.str (st l) : D) = sd l := rfl
theorem st_inj {a b : Lot} (h : st a = st b) : a = b := by
  have := congrArg Str.cps h
  simpa [st] using this
@[simp] theorem st_cps (l : Lot) : (st l).cps.toList = l := by simp [st]
@[simp] theorem st_length (l : Lot) : (st l).length = l.length := by simp [st, Str.length]
theorem st_append (a b : Lot) : st a ++ st b = st (a ++ b) := by
  have : (st a ++ st b).cps = (st (a ++ b)).cps := by
    rw [Str.cps_append]
    simp [st]
  exact congrArg Str.mk this
theorem st_of (s : Str) : st s.cps.toList = s := by simp [st]
@[simp] theorem deref_sd (hp : List Cell) (l : Lot) : deref hp (sd l) = some (sd l) := rfl
@[simp] theorem deref_ch (hp : List Cell) (c : Nat) : deref hp (ch c) = some (ch c) := rfl
@[simp] theorem items_sd (l : Lot) : itemsOf (sd l) = some (l.map ch) := by
  simp [itemsOf, sd, st, ch]
@[simp] theorem items_tup (xs : List D) : itemsOf (.tup xs) = some xs := rfl
@[simp] theorem items_lst (xs : List D) : itemsOf (.lst xs) = some xs := rfl
theorem len_sd {l : Lot} (h : l.length ≤ 10000000) : lenD (sd l) = some (.int l.length) := by
  simp only [lenD, sd, st_length]
  rw [if_pos (by rw [sizeLine_eq]; omega)]
@[simp] theorem len_tup (xs : List D) : lenD (.tup xs) = some (.int xs.length) := rfl
@[simp] theorem len_lst (xs : List D) : lenD (.lst xs) = some (.int xs.length) := rfl
@[simp] theorem isB_str_sd (hp : List Cell) (l : Lot) : (tyD hp (sd l)).bind (isB "str" fun _ => none) = some true := by
  simp only [tyD, sd, Option.bind, isB]; decide
@[simp] theorem isB_str_ch (hp : List Cell) (c : Nat) : (tyD hp (ch c)).bind (isB "str" fun _ => none) = some true := isB_str_sd hp [c]
@[simp] theorem isB_tuple_tup (hp : List Cell) (xs : List D) : (tyD hp (.tup xs)).bind (isB "tuple" fun _ => none) = some true := by
  simp only [tyD, Option.bind, isB]; decide
@[simp] theorem isB_int_int (hp : List Cell) (i : Int) : (tyD hp (.int i)).bind (isB "int" fun _ => none) = some true := by
  simp only [tyD, Option.bind, isB]; decide
@[simp] theorem isB_bool_int (hp : List Cell) (i : Int) : (tyD hp (.int i)).bind (isB "bool" fun _ => none) = some false := by
  simp only [tyD, Option.bind, isB]; decide
@[simp] theorem isO_ins (hp : List Cell) (c : Nat) (vs : List D) : (tyD hp (.ins c vs)).bind (isO (own1 c true)) = some true := by
  simp [tyD, isO, own1]
theorem in_chars (c : Nat) (l : Lot) : inD (ch c) (sd l) = some (.bl (decide (c ∈ l))) := by
  simp [inD, sd, ch, inS, DP.strOp, inStr, st]
theorem nin_chars (c : Nat) (l : Lot) : ninD (ch c) (sd l) = some (.bl (!decide (c ∈ l))) := by
  simp [ninD, sd, ch, ninS, DP.strOp, inStr, st]
/-! lists of bools -/
theorem bools_map {α : Type} (p : α → Bool) : ∀ xs : List α, boolsOf (xs.map fun x => .bl (p x)) = some (xs.map p)
  | [] => rfl
  | x :: xs => by simp [boolsOf, bools_map p xs]
theorem all_map {α : Type} (p : α → Bool) (xs : List α) : allN [.lst (xs.map fun x => .bl (p x))] = some (.bl (xs.all p)) := by
  simp only [allN]
  rw [bools_map]
  simp [Function.comp_def]
theorem any_map {α : Type} (p : α → Bool) (xs : List α) : anyN [.lst (xs.map fun x => .bl (p x))] = some (.bl (xs.any p)) := by
  simp only [anyN]
  rw [bools_map]
  simp [Function.comp_def]
theorem range_ok {n : Nat} (h : n ≤ 100000000) : rangeOf [.int (n : Int)] = some ((List.range n).map fun i => .int (i : Nat)) := by
  simp only [rangeOf]
  rw [if_pos (by omega)]
  simp [rangeL]
theorem range_int {i : Int} (h0 : -100000000 ≤ i) (h : i ≤ 100000000) : rangeOf [.int i] = some ((List.range i.toNat).map fun i => .int (i : Nat)) := by
  simp only [rangeOf]
  rw [if_pos (by omega)]
  simp [rangeL]
theorem ix_sd {l : Lot} {k : Nat} {c : Nat} (hl : l.length ≤ 10000000) (h : l[k]? = some c) : ixD (sd l) (.int (k : Int)) = some (ch c) := by
  simp only [ixD, sd, st_cps]
  rw [atI_nat, h]
  simp only [Option.bind, st_length]
  rw [if_pos (by rw [sizeLine_eq]; omega)]
  rfl
theorem ix_sd0 {c : Nat} {l : Lot} (hl : l.length ≤ 1000000) : ixD (sd (c :: l)) (.int 0) = some (ch c) := ix_sd (k := 0) (by simp; omega) rfl
theorem lt_chars (a b : Nat) : ltD (ch a) (ch b) = some (.bl (decide (a < b))) := by
  simp only [ltD, ch, ltS, DP.strOp, st_cps]
  congr 2
  simp [List.cons_lt_cons_iff]
theorem lt_sd (a b : Lot) : ltD (sd a) (sd b) = some (.bl (decide (a < b))) := by
  simp only [ltD, sd, ltS, DP.strOp, st_cps]

/-! ### rising texts -/
theorem rising_ok (l : Lot) (hl : l.length ≤ 1000) (hp : List Cell) : m_is_rising [sd l] hp = .ok (.bl (decide (∀ i : Nat, i < l.length - 1 → l.getD i 0 < l.getD (i + 1) 0))) hp := by
  have e1 := len_sd (l := l) (by omega)
  have e2 := range_int (i := (l.length : Int) - 1) (by omega) (by omega)
  have e3 : ((l.length : Int) - 1).toNat = l.length - 1 := by omega
  rw [e3] at e2
  simp only [m_is_rising, b_is_rising, N_is_rising, defF_ap]
  simp
  rw [lcC_all (E := fun i : Nat => .int (i : Nat)) (xs := List.range (l.length - 1)) (sl := [.val (sd l), .un]) (sl2 := [.val (sd l), .un]) (hp := hp) (fun i => .bl (decide (l.getD i 0 < l.getD (i + 1) 0)))]
  · simp only [Cell.frz]
    rw [all_map]
    simp only
    congr 2
    rw [Bool.eq_iff_iff]
    simp
  · simp [e1, e2]
  · simp; omega
  · rfl
  · intro x hx
    have hx' : x < l.length - 1 := by simpa using hx
    have q1 : ixD (sd l) (.int (x : Nat)) = some (ch (l.getD x 0)) := ix_sd (by omega) (by rw [List.getD_eq_getElem?_getD, List.getElem?_eq_getElem (by omega)]; rfl)
    have q2 : ixD (sd l) (.int ((x : Int) + 1)) = some (ch (l.getD (x + 1) 0)) := by
      have := ix_sd (l := l) (k := x + 1) (c := l.getD (x + 1) 0) (by omega) (by rw [List.getD_eq_getElem?_getD, List.getElem?_eq_getElem (by omega)]; rfl)
      simpa using this
    exact ⟨⟨[.val (sd l), .val (.int x)], hp⟩, ⟨[.val (sd l), .val (.int x)], hp⟩, by simp [unL], by simp [q1, q2, lt_chars], by simp [unL], rfl⟩
  · rfl
theorem rising_iff (l : Lot) : (∀ i : Nat, i < l.length - 1 → l.getD i 0 < l.getD (i + 1) 0) ↔ l.Pairwise (· < ·) := by
  constructor
  · intro h
    rw [List.pairwise_iff_getElem]
    intro i j hi hj hij
    induction j with
    | zero => omega
    | succ j ih =>
      have hj' : j < l.length := by omega
      have hs := h j (by omega)
      rw [List.getD_eq_getElem?_getD, List.getD_eq_getElem?_getD, List.getElem?_eq_getElem hj', List.getElem?_eq_getElem hj] at hs
      simp only [Option.getD_some] at hs
      by_cases e : i = j
      · subst e; exact hs
      · exact Nat.lt_trans (ih hj' (by omega)) hs
  · intro h i hi
    have := (List.pairwise_iff_getElem.mp h) i (i + 1) (by omega) (by omega) (by omega)
    rw [List.getD_eq_getElem?_getD, List.getD_eq_getElem?_getD, List.getElem?_eq_getElem (by omega), List.getElem?_eq_getElem (by omega)]
    exact this
instance (l : Lot) : Decidable (l.Pairwise (· < ·)) := inferInstance
theorem rising_ok' (l : Lot) (hl : l.length ≤ 1000) (hp : List Cell) : m_is_rising [sd l] hp = .ok (.bl (decide (l.Pairwise (· < ·)))) hp := by
  rw [rising_ok l hl]
  congr 2
  exact decide_eq_decide.mpr (rising_iff l)
end LK
set_option Elab.async false
set_option linter.all false
set_option maxRecDepth 100000
set_option maxHeartbeats 4000000
/-! SP3: equality of data; sorting of texts. -/
namespace LK
open PySem PySem.Spec PyProof.Rows L2 He DP

mutual
/-- data without truth values, dicts, objects: equal only if the same -/
def nb : D → Bool
  | .non => true
  | .bl _ => false
  | .int _ => true
  | .str _ => true
  | .tup xs => nbL xs
  | .lst xs => nbL xs
  | .dk _ _ => false
  | .dt _ _ => false
  | .ins _ _ => false
  | .ref _ => false
def nbL : List D → Bool
  | [] => true
  | x :: xs => nb x && nbL xs
end
mutual
theorem eqv_nb : ∀ {d e : D}, nb d = true → nb e = true → (d.eqv e = true ↔ d = e)
  | .non, e, _, h => by cases e <;> simp_all [nb, D.eqv]
  | .bl _, e, h, _ => by simp [nb] at h
  | .int i, e, _, h => by cases e <;> simp_all [nb, D.eqv]
  | .str i, e, _, h => by cases e <;> simp_all [nb, D.eqv]
  | .tup xs, e, h1, h => by
    cases e with
    | tup ys =>
      simp only [nb] at h1 h
      simp only [D.eqv, D.tup.injEq]
      exact eqvL_nb h1 h
    | _ => simp_all [nb, D.eqv]
  | .lst xs, e, h1, h => by
    cases e with
    | lst ys =>
      simp only [nb] at h1 h
      simp only [D.eqv, D.lst.injEq]
      exact eqvL_nb h1 h
    | _ => simp_all [nb, D.eqv]
  | .dk _ _, e, h, _ => by simp [nb] at h
  | .dt _ _, e, h, _ => by simp [nb] at h
  | .ins _ _, e, h, _ => by simp [nb] at h
  | .ref _, e, h, _ => by simp [nb] at h
theorem eqvL_nb : ∀ {xs ys : List D}, nbL xs = true → nbL ys = true → (eqvL xs ys = true ↔ xs = ys)
  | [], [], _, _ => by simp [eqvL]
  | [], y :: ys, _, _ => by simp [eqvL]
  | x :: xs, [], _, _ => by simp [eqvL]
  | x :: xs, y :: ys, h1, h2 => by
    simp only [nbL, Bool.and_eq_true] at h1 h2
    simp only [eqvL, Bool.and_eq_true, List.cons.injEq]
    rw [eqv_nb h1.1 h2.1, eqvL_nb h1.2 h2.2]
end
theorem nbL_map {α : Type} {f : α → D} {xs : List α} (h : ∀ x ∈ xs, nb (f x) = true) : nbL (xs.map f) = true := by
  induction xs with
  | nil => rfl
  | cons x xs ih =>
    simp only [List.map_cons, nbL, Bool.and_eq_true]
    exact ⟨h x List.mem_cons_self, ih fun y hy => h y (List.mem_cons_of_mem _ hy)⟩
/-- data that == reaches, and that is told apart -/
structure Eqb (n : Nat) (d : D) : Prop where
  ok : d.ok n = true
  nb : nb d = true
theorem Eqb.up {n m : Nat} {d : D} (h : Eqb n d) (hm : n ≤ m) : Eqb m d := by
  refine ⟨?_, h.nb⟩
  have key : ∀ (n m : Nat) (d : D), n ≤ m → d.ok n = true → d.ok m = true := by
    intro n
    induction n with
    | zero =>
      intro m d _ h
      cases d <;> simp_all [D.ok]
    | succ n ih =>
      intro m d hm h
      obtain ⟨m, rfl⟩ : ∃ k, m = k + 1 := ⟨m - 1, by omega⟩
      cases d <;> simp_all [D.ok]
      all_goals (intro x hx; exact ih m x (by omega) (h x hx))
  exact key n m d hm h.ok
theorem eqb_non : Eqb 0 .non := ⟨rfl, rfl⟩
theorem eqb_int (i : Int) : Eqb 0 (.int i) := ⟨rfl, rfl⟩
theorem eqb_tup {n : Nat} {xs : List D} (h : ∀ x ∈ xs, Eqb n x) : Eqb (n + 1) (.tup xs) := by
  refine ⟨?_, ?_⟩
  · simp only [D.ok, List.all_eq_true]
    exact fun x hx => (h x hx).ok
  · simp only [nb]
    induction xs with
    | nil => rfl
    | cons x xs ih =>
      simp only [nbL, Bool.and_eq_true]
      exact ⟨(h x List.mem_cons_self).nb, ih fun y hy => h y (List.mem_cons_of_mem _ hy)⟩
theorem eqb_lst {n : Nat} {xs : List D} (h : ∀ x ∈ xs, Eqb n x) : Eqb (n + 1) (.lst xs) := by
  have := eqb_tup h
  exact ⟨this.ok, this.nb⟩
theorem eqb_fr (q : Rat) : Eqb 1 (fr q) := eqb_tup fun x hx => by
  simp only [List.mem_cons, List.not_mem_nil, or_false] at hx
  rcases hx with rfl | rfl
  · exact eqb_int _
  · exact eqb_int _
def Chars (l : Lot) : Prop := ∀ c ∈ l, c < 1114112
theorem eqb_sd {l : Lot} (h : Chars l) : Eqb 0 (sd l) := by
  refine ⟨?_, rfl⟩
  simp only [D.ok, sd, st]
  simp only [List.size_toArray, List.all_toArray', List.all_eq_true, decide_eq_true_eq]
  intro x hx
  exact h x hx
theorem eq_iff {n : Nat} {x y : D} (hx : Eqb n x) (hy : Eqb n y) (hn : n ≤ 24) {b : Bool} (h : b = true ↔ x = y) : eqD x y = some (.bl b) := by
  have h1 := (hx.up hn).ok
  have h2 := (hy.up hn).ok
  unfold eqD
  rw [show deepest = 24 from rfl, h1, h2]
  simp only [Bool.and_self, if_true]
  congr 2
  rw [Bool.eq_iff_iff, eqv_nb hx.nb hy.nb, h]
theorem ne_iff {n : Nat} {x y : D} (hx : Eqb n x) (hy : Eqb n y) (hn : n ≤ 24) {b : Bool} (h : b = true ↔ x ≠ y) : neD x y = some (.bl b) := by
  have h1 := (hx.up hn).ok
  have h2 := (hy.up hn).ok
  unfold neD
  rw [show deepest = 24 from rfl, h1, h2]
  simp only [Bool.and_self, if_true]
  congr 2
  rw [Bool.eq_iff_iff, h]
  have := eqv_nb hx.nb hy.nb
  cases q : D.eqv x y with
  | true => simp [this.mp q]
  | false =>
    simp only [Bool.not_false, true_iff]
    intro e
    rw [this.mpr e] at q
    cases q
theorem eq_int (i j : Int) : eqD (.int i) (.int j) = some (.bl (decide (i = j))) := eq_iff (eqb_int i) (eqb_int j) (by omega) (by simp)
theorem ne_int (i j : Int) : neD (.int i) (.int j) = some (.bl (decide (i ≠ j))) := ne_iff (eqb_int i) (eqb_int j) (by omega) (by simp)
theorem eq_fr (p q : Rat) : eqD (fr p) (fr q) = some (.bl (decide (p = q))) := eq_iff (eqb_fr p) (eqb_fr q) (by omega) (by
  simp only [decide_eq_true_eq]
  exact ⟨fun h => by rw [h], fr_inj⟩)
theorem ne_fr (p q : Rat) : neD (fr p) (fr q) = some (.bl (decide (p ≠ q))) := ne_iff (eqb_fr p) (eqb_fr q) (by omega) (by
  simp only [decide_eq_true_eq]
  exact ⟨fun h z => h (fr_inj z), fun h z => h (by rw [z])⟩)
theorem sd_inj {a b : Lot} (h : sd a = sd b) : a = b := by
  unfold sd at h
  injection h with h
  exact st_inj h
theorem eq_sd {a b : Lot} (ha : Chars a) (hb : Chars b) : eqD (sd a) (sd b) = some (.bl (decide (a = b))) := eq_iff (eqb_sd ha) (eqb_sd hb) (by omega) (by
  simp only [decide_eq_true_eq]
  exact ⟨fun h => by rw [h], sd_inj⟩)
theorem ne_sd {a b : Lot} (ha : Chars a) (hb : Chars b) : neD (sd a) (sd b) = some (.bl (decide (a ≠ b))) := ne_iff (eqb_sd ha) (eqb_sd hb) (by omega) (by
  simp only [decide_eq_true_eq]
  exact ⟨fun h z => h (sd_inj z), fun h z => h (by rw [z])⟩)
theorem isNone_ap (x : D) : isNoneD x .non = some (.bl (match x with | .non => true | _ => false)) := rfl
theorem notNone_ap (x : D) : notNoneD x .non = some (.bl (match x with | .non => false | _ => true)) := rfl

/-! ### sorting texts -/
theorem leStr_st (a b : Lot) : leStr (st a) (st b) = !decide (b < a) := by simp [leStr]
theorem strs_map {α : Type} (f : α → Lot) : ∀ xs : List α, strsOf (xs.map fun x => sd (f x)) = some (xs.map fun x => st (f x))
  | [] => rfl
  | x :: xs => by
    have := strs_map f xs
    simp only [sd] at this
    simp [strsOf, sd, this]
def joinL (sep : Lot) : List Lot → Lot
  | [] => []
  | [x] => x
  | x :: r => x ++ sep ++ joinL sep r
theorem join_st (sep : Lot) (ls : List Lot) : Txt.join (st sep) (ls.map st) = st (joinL sep ls) := by
  rw [show Txt.join (st sep) (ls.map st) = Str.join (st sep) (ls.map st) from PySem.StrLaws.glued_eq_join _ _]
  induction ls with
  | nil => rfl
  | cons a ls ih =>
    cases ls with
    | nil => rfl
    | cons b ls =>
      simp only [List.map_cons, Str.join, joinL] at ih ⊢
      rw [ih, st_append, st_append]
theorem joinL_flat (ls : List Lot) : joinL [] ls = ls.flatten := by
  induction ls with
  | nil => rfl
  | cons a ls ih =>
    cases ls with
    | nil => simp [joinL]
    | cons b ls =>
      rw [joinL, ih]
      · simp
      · simp
theorem joinL_len (sep : Lot) (ls : List Lot) : (joinL sep ls).length ≤ (ls.map List.length).sum + ls.length * sep.length := by
  induction ls with
  | nil => simp [joinL]
  | cons a ls ih =>
    cases ls with
    | nil => simp [joinL]
    | cons b ls =>
      rw [joinL]
      · simp only [List.length_append, List.map_cons, List.sum_cons, List.length_cons] at ih ⊢
        rw [Nat.add_mul, Nat.add_mul] at *
        omega
      · simp
theorem join_ok (sep : Lot) (ls : List Lot) (h : (ls.map List.length).sum + ls.length * sep.length ≤ 16777216) : joinN (sd sep) [.lst (ls.map sd)] = some (sd (joinL sep ls)) := by
  have e := strs_map (fun l : Lot => l) ls
  rw [show sd sep = .str (st sep) from rfl]
  simp only [joinN]
  rw [show ls.map sd = ls.map (fun x => sd x) from rfl, e]
  simp only [Option.bind, List.map_map]
  have e2 : (Str.length ∘ st) = List.length := by funext l; simp
  rw [e2, List.length_map, st_length, if_pos h, join_st]
  rfl
theorem sortStr_perm (xs : List Str) : (sortStr xs).Perm xs := by
  induction xs with
  | nil => exact .nil
  | cons x xs ih =>
    have ins : ∀ (x : Str) (ys : List Str), (insStr x ys).Perm (x :: ys) := by
      intro x ys
      induction ys with
      | nil => exact .refl _
      | cons y ys ih =>
        unfold insStr
        split
        · exact .refl _
        · exact (ih.cons y).trans (.swap x y ys)
    exact (ins x _).trans (ih.cons x)
theorem lot_total (a b : Lot) (h : ¬ a < b) : b ≤ a := List.not_lt.mp h
theorem leStr_iff (a b : Str) : leStr a b = true ↔ a.cps.toList ≤ b.cps.toList := by
  unfold leStr
  rw [Bool.not_eq_true', decide_eq_false_iff_not]
  exact List.not_lt
theorem sortStr_sorted (xs : List Str) : (sortStr xs).Pairwise (fun a b => a.cps.toList ≤ b.cps.toList) := by
  induction xs with
  | nil => exact .nil
  | cons x xs ih =>
    have ins : ∀ (ys : List Str), ys.Pairwise (fun a b => a.cps.toList ≤ b.cps.toList) → (insStr x ys).Pairwise (fun a b => a.cps.toList ≤ b.cps.toList) := by
      intro ys
      induction ys with
      | nil => intro _; exact .cons (by simp) .nil
      | cons y ys ih =>
        intro h
        obtain ⟨h1, h2⟩ := List.pairwise_cons.mp h
        unfold insStr
        split
        · rename_i hl
          have hl' := (leStr_iff _ _).mp hl
          refine .cons (fun z hz => ?_) h
          rcases List.mem_cons.mp hz with rfl | hz
          · exact hl'
          · exact List.le_trans hl' (h1 z hz)
        · rename_i hl
          have hl' : y.cps.toList ≤ x.cps.toList := by
            have : ¬ x.cps.toList ≤ y.cps.toList := fun z => hl ((leStr_iff _ _).mpr z)
            rcases List.le_total x.cps.toList y.cps.toList with z | z
            · exact absurd z this
            · exact z
          refine .cons (fun z hz => ?_) (ih h2)
          have hz' : z ∈ x :: ys := by
            have hp : ∀ (ys : List Str), (insStr x ys).Perm (x :: ys) := by
              intro ys
              induction ys with
              | nil => exact .refl _
              | cons y ys ih =>
                unfold insStr
                split
                · exact .refl _
                · exact (ih.cons y).trans (.swap x y ys)
            exact (hp ys).mem_iff.mp hz
          rcases List.mem_cons.mp hz' with rfl | hz'
          · exact hl'
          · exact h1 z hz'
    exact ins _ ih
theorem sortStr_is {xs ys : List Lot} (hp : ys.Perm xs) (hs : ys.Pairwise (· ≤ ·)) : sortStr (xs.map st) = ys.map st := by
  refine List.Perm.eq_of_pairwise (le := fun a b : Str => a.cps.toList ≤ b.cps.toList) (fun a b _ _ h1 h2 => ?_) (sortStr_sorted _) ?_ ((sortStr_perm _).trans (hp.symm.map st))
  · have := List.le_antisymm h1 h2
    rw [← st_of a, ← st_of b, this]
  · rw [List.pairwise_map]
    exact hs.imp fun h => by simpa using h
theorem sorted_sd {xs ys : List Lot} (hl : xs.length < 64) (hp : ys.Perm xs) (hs : ys.Pairwise (· ≤ ·)) : sortedN [.lst (xs.map sd)] = some (.lst (ys.map sd)) := by
  have e := strs_map (fun l : Lot => l) xs
  simp only [sortedN, List.length_map, if_pos hl]
  rw [e]
  simp only [sortStr_is hp hs, List.map_map]
  rfl
theorem listD_sd (l : Lot) (hl : l.length ≤ 10000000) : listD [sd l] = some (.lst (l.map ch)) := by
  simp only [listD, sd, st_length, st_cps]
  rw [if_pos (by rw [sizeLine_eq]; omega)]
  rfl
end LK
set_option Elab.async false
set_option linter.all false
set_option maxRecDepth 100000
set_option maxHeartbeats 4000000
/-! SP4: tellings, parts, views, people: what is right passes. -/
namespace LK
open PySem PySem.Spec PyProof.Rows L2 He DP

def qsum (qs : List Rat) : Rat := qs.foldl (· + ·) 0
theorem qsum_from (qs : List Rat) : ∀ a : Rat, qs.foldl (· + ·) a = a + qsum qs := by
  unfold qsum
  induction qs with
  | nil => intro a; simp [Rat.add_zero]
  | cons q qs ih =>
    intro a
    rw [List.foldl_cons, List.foldl_cons, ih, ih (0 + q)]
    grind
@[simp] theorem qsum_nil : qsum [] = 0 := rfl
theorem qsum_cons (q : Rat) (qs : List Rat) : qsum (q :: qs) = q + qsum qs := by
  show (q :: qs).foldl (· + ·) 0 = _
  rw [List.foldl_cons, qsum_from]
  grind
theorem qsum_append (a b : List Rat) : qsum (a ++ b) = qsum a + qsum b := by
  induction a with
  | nil => simp [Rat.zero_add]
  | cons q qs ih => rw [List.cons_append, qsum_cons, qsum_cons, ih]; grind
theorem qsum_nonneg {qs : List Rat} (h : ∀ q ∈ qs, 0 ≤ q) : 0 ≤ qsum qs := by
  induction qs with
  | nil => simp
  | cons q qs ih =>
    rw [qsum_cons]
    have h1 := h q List.mem_cons_self
    have h2 := ih fun x hx => h x (List.mem_cons_of_mem _ hx)
    grind
theorem le_qsum {qs : List Rat} (h : ∀ q ∈ qs, 0 ≤ q) {q : Rat} (hq : q ∈ qs) : q ≤ qsum qs := by
  induction qs with
  | nil => simp at hq
  | cons p qs ih =>
    rw [qsum_cons]
    have h1 := h p List.mem_cons_self
    have h2 := qsum_nonneg fun x hx => h x (List.mem_cons_of_mem _ hx)
    rcases List.mem_cons.mp hq with rfl | hq
    · grind
    · have h3 := ih (fun x hx => h x (List.mem_cons_of_mem _ hx)) hq
      grind
theorem total_loop (k : Nat) : ∀ (qs : List Rat) (a : Rat) (j : Nat) (x : D) (w : SV) (hp : List Cell), (∀ q ∈ qs, Sz q k) → Sz a j → j + (k + 1) * qs.length < 9000 →
    ∃ w', forL (nameG 2) (setS 1 (callM m_add (consM (varM 1) (consM (varM 2) nilM)))) (qs.map fr) ⟨[.val x, .val (fr a), w], hp⟩ = .nx ⟨[.val x, .val (fr (qs.foldl (· + ·) a)), w'], hp⟩
  | [], a, j, x, w, hp, _, _, _ => ⟨w, rfl⟩
  | q :: qs, a, j, x, w, hp, h, ha, hb => by
    have hq := h q List.mem_cons_self
    simp only [List.length_cons, Nat.mul_add] at hb
    have e := add_ok ha hq (by omega) hp
    obtain ⟨w', ih⟩ := total_loop k qs (a + q) (j + k + 1) x (.val (fr q)) hp (fun y hy => h y (List.mem_cons_of_mem _ hy)) (sz_add ha hq) (by omega)
    refine ⟨w', ?_⟩
    rw [List.map_cons]
    simp [forL, e, ih]
theorem total_ok {x : D} {qs : List Rat} {k : Nat} (hx : itemsOf x = some (qs.map fr)) (h : ∀ q ∈ qs, Sz q k) (hb : 1 + (k + 1) * qs.length < 9000) (hp : List Cell) : m_total [x] hp = .ok (fr (qsum qs)) hp := by
  obtain ⟨w', e⟩ := total_loop k qs 0 1 x .un hp h sz_zero hb
  simp [m_total, b_total, N_total, defF_ap, hx, e]
  rfl
theorem sz_qsum {qs : List Rat} {k : Nat} (h : ∀ q ∈ qs, Sz q k) : Sz (qsum qs) (1 + (k + 1) * qs.length) := by
  have key : ∀ (qs : List Rat) (a : Rat) (j : Nat), (∀ q ∈ qs, Sz q k) → Sz a j → Sz (qs.foldl (· + ·) a) (j + (k + 1) * qs.length) := by
    intro qs
    induction qs with
    | nil => intro a j _ ha; simpa using ha
    | cons q qs ih =>
      intro a j h ha
      have := ih (a + q) (j + k + 1) (fun x hx => h x (List.mem_cons_of_mem _ hx)) (sz_add ha (h q List.mem_cons_self))
      rw [List.foldl_cons]
      refine this.mono ?_
      simp only [List.length_cons, Nat.mul_add]
      omega
  exact key qs 0 1 h sz_zero

/-! ### fractions that are fractions -/
theorem between_int (i : Int) (hp : List Cell) : m_is_between [.int i, .non, .non] hp = .ok (.bl true) hp := by
  simp [m_is_between, b_is_between, N_is_between, defF_ap, isNone_ap]
theorem between_from (i j : Int) (hp : List Cell) : m_is_between [.int i, .int j, .non] hp = .ok (.bl (decide (j ≤ i))) hp := by
  simp [m_is_between, b_is_between, N_is_between, defF_ap, isNone_ap]
  by_cases h : j ≤ i <;> simp [h]
theorem between_both (i j k : Int) (hp : List Cell) : m_is_between [.int i, .int j, .int k] hp = .ok (.bl (decide (j ≤ i) && decide (i ≤ k))) hp := by
  simp [m_is_between, b_is_between, N_is_between, defF_ap, isNone_ap]
  by_cases h : j ≤ i <;> simp [h]
theorem isB_tuple_fr (hp : List Cell) (q : Rat) : (tyD hp (fr q)).bind (isB "tuple" fun _ => none) = some true := isB_tuple_tup hp _
theorem len_fr (q : Rat) : lenD (fr q) = some (.int 2) := by simp [fr]
theorem gcd_fr (q : Rat) : Int.gcd q.num q.den = 1 := q.reduced
theorem fraction_ok {q : Rat} {k : Nat} (h : Sz q k) (hk : k < 9000) (hp : List Cell) : m_is_fraction [fr q] hp = .ok (.bl true) hp := by
  have c := common_ok q.num q.den (by have := den_pos q; omega) h.den (by omega) hp
  rw [gcd_fr] at c
  have d : (1 : Int) ≤ q.den := by have := den_pos q; omega
  simp [m_is_fraction, b_is_fraction, N_is_fraction, defF_ap, isB_tuple_fr, len_fr, ne_int, between_int, between_from, c, d, eq_int]

/-! ### a telling -/
structure TellOk (n : Nat) (qs : List Rat) : Prop where
  len : qs.length = n
  pos : ∀ q ∈ qs, 0 < q
  den : ∀ q ∈ qs, q.den ≤ 1000000000
  sum : qsum qs = 1
theorem TellOk.le1 {n : Nat} {qs : List Rat} (h : TellOk n qs) {q : Rat} (hq : q ∈ qs) : q ≤ 1 := by
  rw [← h.sum]
  exact le_qsum (fun x hx => by have := h.pos x hx; grind) hq
theorem TellOk.sz {n : Nat} {qs : List Rat} (h : TellOk n qs) {q : Rat} (hq : q ∈ qs) : Sz q 30 := by
  have h1 := h.le1 hq
  have h2 := num_pos (h.pos q hq)
  have h3 := h.den q hq
  have h4 := (Rat.le_iff q 1).mp h1
  simp at h4
  refine ⟨?_, by omega⟩
  unfold Bd
  have : (q.den : Int) ≤ 1000000000 := by omega
  omega
def tupq (qs : List Rat) : D := .tup (qs.map fr)
@[simp] theorem deref_tupq (hp : List Cell) (qs : List Rat) : deref hp (tupq qs) = some (tupq qs) := rfl
theorem told_ok {lot : Lot} {qs : List Rat} (h : TellOk lot.length qs) (hl : lot.length ≤ 100) (hp : List Cell) : m_is_told [tupq qs, sd lot] hp = .ok (.bl true) hp := by
  have hlen := h.len
  have e1 := len_sd (l := lot) (by omega)
  have tot := total_ok (x := tupq qs) (qs := qs) (k := 30) rfl (fun q hq => h.sz hq) (by omega) hp
  rw [h.sum] at tot
  simp only [m_is_told, b_is_told, N_is_told, defF_ap]
  simp only [List.map_cons, List.map_nil, List.length_cons, List.length_nil, tupq, List.replicate]
  have c1 : lcC [2] (iterM (varM 0)) (nameG 2) (DP.ret true) (callM m_is_fraction (consM (varM 2) nilM)) ⟨[.val (tupq qs), .val (sd lot), .un], hp⟩ = .ok (.lst (qs.map fun _ => .bl true)) ⟨[.val (tupq qs), .val (sd lot), .un], hp⟩ := by
    refine lc_name (E := fr) (xs := qs) (fun _ => .bl true) (by simp [tupq]) (by omega) rfl (by simp) (fun q hq => ?_)
    simp [fraction_ok (h.sz hq)]
  have c2 : lcC [2] (iterM (varM 0)) (nameG 2) (DP.ret true) (andV (DP.bin gtD (lookM ixD (slM 2) (DP.ret (D.int 0))) (DP.ret (D.int 0))) (DP.bin leD (lookM ixD (slM 2) (DP.ret (D.int 1))) (DP.ret (D.int 1000000000)))) ⟨[.val (tupq qs), .val (sd lot), .un], hp⟩ = .ok (.lst (qs.map fun _ => .bl true)) ⟨[.val (tupq qs), .val (sd lot), .un], hp⟩ := by
    refine lc_name (E := fr) (xs := qs) (fun _ => .bl true) (by simp [tupq]) (by omega) rfl (by simp) (fun q hq => ?_)
    have p1 := num_pos (h.pos q hq)
    have p2 : (q.den : Int) ≤ 1000000000 := by have := h.den q hq; omega
    simp [p1, p2]
  have a1 := all_map (fun _ : Rat => true) qs
  simp only [tupq] at c1 c2 tot a1
  simp [c1, c2, Cell.frz, a1, e1, hlen, ne_int, tot, eq_fr]

/-! ### parts, views, people -/
theorem lot_ok (l cs : Lot) (hl : l.length ≤ 1000) (hp : List Cell) : m_is_lot [sd l, sd cs] hp = .ok (.bl (decide ((∀ c ∈ l, c ∈ cs) ∧ l.Pairwise (· < ·)))) hp := by
  have r := rising_ok' l hl hp
  simp only [m_is_lot, b_is_lot, N_is_lot, defF_ap]
  have c1 : lcC [2] (iterM (varM 0)) (nameG 2) (DP.ret true) (lookM2 inD (varM 2) (slM 1)) ⟨[.val (sd l), .val (sd cs), .un], hp⟩ = .ok (.lst (l.map fun c => .bl (decide (c ∈ cs)))) ⟨[.val (sd l), .val (sd cs), .un], hp⟩ := by
    refine lc_name (E := ch) (xs := l) (fun c => .bl (decide (c ∈ cs))) (by simp) (by omega) rfl (by simp) (fun q hq => ?_)
    simp [in_chars]
  have a1 := all_map (fun c => decide (c ∈ cs)) l
  simp [c1, Cell.frz, a1, r]
  by_cases h1 : ∀ c ∈ l, c ∈ cs
  · rw [if_pos h1]
    simp
    exact fun _ => h1
  · rw [if_neg h1]
    simp [h1]
abbrev Part := Lot × Option (List Rat)
abbrev View := List Part
abbrev Person := Lot × View
def toldD : Option (List Rat) → D
  | none => .non
  | some qs => tupq qs
def partD (p : Part) : D := .tup [sd p.1, toldD p.2]
def viewD (v : View) : D := .tup (v.map partD)
def personD (p : Person) : D := .tup [sd p.1, viewD p.2]
def peopleD (ps : List Person) : D := .tup (ps.map personD)
structure PartOk (cs : Lot) (p : Part) : Prop where
  ne : p.1 ≠ []
  sub : ∀ c ∈ p.1, c ∈ cs
  up : p.1.Pairwise (· < ·)
  told : ∀ qs, p.2 = some qs → TellOk p.1.length qs
structure ViewOk (cs : Lot) (v : View) : Prop where
  part : ∀ p ∈ v, PartOk cs p
  all : (v.map (·.1)).flatten.Perm cs
  up : (v.map (·.1)).Pairwise (· ≤ ·)
structure CasesOk (cs : Lot) : Prop where
  one : 1 ≤ cs.length
  most : cs.length ≤ 8
  let_ : ∀ c ∈ cs, 97 ≤ c ∧ c ≤ 122
  up : cs.Pairwise (· < ·)
structure NameOk (n : Lot) : Prop where
  one : 1 ≤ n.length
  most : n.length ≤ 8
  let_ : ∀ c ∈ n, 97 ≤ c ∧ c ≤ 122
structure PeopleOk (cs : Lot) (ps : List Person) : Prop where
  one : 1 ≤ ps.length
  most : ps.length ≤ 4
  name : ∀ p ∈ ps, NameOk p.1
  view : ∀ p ∈ ps, ViewOk cs p.2
  up : (ps.map (·.1)).Pairwise (· < ·)
theorem CasesOk.chars {cs : Lot} (h : CasesOk cs) : Chars cs := fun c hc => by have := h.let_ c hc; omega
theorem NameOk.chars {cs : Lot} (h : NameOk cs) : Chars cs := fun c hc => by have := h.let_ c hc; omega
theorem PartOk.chars {cs : Lot} {p : Part} (h : PartOk cs p) (hc : CasesOk cs) : Chars p.1 := fun c h1 => hc.chars c (h.sub c h1)
theorem nodup_up {l : Lot} (h : l.Pairwise (· < ·)) : l.Nodup := h.imp fun h => Nat.ne_of_lt h
theorem sub_len {l : Lot} : ∀ {cs : Lot}, l.Nodup → (∀ c ∈ l, c ∈ cs) → l.length ≤ cs.length := by
  induction l with
  | nil => intro cs _ _; simp
  | cons a l ih =>
    intro cs hn hs
    obtain ⟨h1, h2⟩ := List.nodup_cons.mp hn
    have ha := hs a List.mem_cons_self
    have := ih (cs := cs.erase a) h2 fun c hc => by
      have hne : c ≠ a := fun e => h1 (e ▸ hc)
      exact (List.mem_erase_of_ne hne).mpr (hs c (List.mem_cons_of_mem _ hc))
    rw [List.length_erase_of_mem ha] at this
    have := List.length_pos_of_mem ha
    simp only [List.length_cons]
    omega

theorem lot_len {l cs : Lot} (hc : cs.length ≤ 8) (hs : ∀ c ∈ l, c ∈ cs) (hu : l.Pairwise (· < ·)) : l.length ≤ 8 := Nat.le_trans (sub_len (nodup_up hu) hs) hc
theorem part_ok {cs : Lot} {p : Part} (hc : CasesOk cs) (h : PartOk cs p) (hp : List Cell) : m_is_part [partD p, sd cs] hp = .ok (.bl true) hp := by
  have hl := lot_len hc.most h.sub h.up
  have e1 := lot_ok p.1 cs (by omega) hp
  have e2 : (decide ((∀ c ∈ p.1, c ∈ cs) ∧ p.1.Pairwise (· < ·))) = true := by simpa using ⟨h.sub, h.up⟩
  rw [e2] at e1
  have e3 : eqD (sd p.1) (.str "") = some (.bl false) := by
    have := eq_sd (a := p.1) (b := []) (h.chars hc) (by simp [Chars])
    rw [decide_eq_false h.ne] at this
    exact this
  obtain ⟨l, t⟩ := p
  simp only at e1 e3 hl
  cases t with
  | none => simp [m_is_part, b_is_part, N_is_part, defF_ap, partD, toldD, ne_int, e1, e3, isNone_ap]
  | some qs =>
    have e4 := told_ok (h.told qs rfl) (by simp only; omega) hp
    simp [m_is_part, b_is_part, N_is_part, defF_ap, partD, toldD, ne_int, e1, e3, isNone_ap, tupq]
    simp only [tupq] at e4
    rw [e4]
def lotsOf (v : View) : List Lot := v.map (·.1)
theorem flat_map_sd (v : View) : (v.map fun p => sd p.1) = (lotsOf v).map sd := by simp [lotsOf]
@[simp] theorem isTy_sd (l : Lot) : isTy "str" (sd l) = true := rfl
@[simp] theorem sd_empty : (.str (Str.ofString "") : D) = sd [] := rfl
theorem view_ok {cs : Lot} {v : View} (hc : CasesOk cs) (h : ViewOk cs v) (hv : v.length ≤ 8) (hp : List Cell) : m_is_view [viewD v, sd cs] hp = .ok (.bl true) hp := by
  have hcl := hc.most
  have hvl : (lotsOf v).length = v.length := by simp [lotsOf]
  have hall : (lotsOf v).flatten.Perm cs := h.all
  have hup : (lotsOf v).Pairwise (· ≤ ·) := h.up
  have hpl : ∀ p ∈ v, p.1.length ≤ 8 := fun p q => lot_len hc.most (h.part p q).sub (h.part p q).up
  have hflen : (lotsOf v).flatten.length ≤ 8 := by rw [hall.length_eq]; exact hc.most
  have c1 : lcC [2] (iterM (varM 0)) (nameG 2) (DP.ret true) (callM m_is_part (consM (varM 2) (consM (varM 1) nilM))) ⟨[.val (viewD v), .val (sd cs), .un, .un, .un, .un], hp⟩ = .ok (.lst (v.map fun _ => .bl true)) ⟨[.val (viewD v), .val (sd cs), .un, .un, .un, .un], hp⟩ := by
    refine lc_name (E := partD) (xs := v) (fun _ => .bl true) (by simp [viewD]) (by omega) rfl (by simp) (fun q hq => ?_)
    simp [part_ok hc (h.part q hq)]
  have a1 := all_map (fun _ : Part => true) v
  have c2 : lcC [4, 5] (iterM (varM 0)) (tupleG [nameG 4, nameG 5]) (DP.ret true) (varM 4) ⟨[.val (viewD v), .val (sd cs), .un, .un, .un, .un], hp⟩ = .ok (.lst (v.map fun p => sd p.1)) ⟨[.val (viewD v), .val (sd cs), .un, .un, .un, .un], hp⟩ := by
    refine lc_pair (A := fun p : Part => sd p.1) (B := fun p : Part => toldD p.2) (xs := v) (fun p => sd p.1) (by simp [viewD]; intros; rfl) (by omega) rfl (by simp) (by simp) (by simp) (fun q hq => ?_)
    simp
  have hsum : ((lotsOf v).map List.length).sum ≤ 8 := by rw [← List.length_flatten]; exact hflen
  have j := join_ok [] (lotsOf v) (by simp only [List.length_nil, Nat.mul_zero]; omega)
  rw [joinL_flat] at j
  obtain ⟨F, hF⟩ : ∃ F, F = (lotsOf v).flatten := ⟨_, rfl⟩
  rw [← hF] at j hall hflen
  have l1 := listD_sd F (by omega)
  have l2 := listD_sd cs (by omega)
  have s1 : sortedN [.lst (F.map ch)] = some (.lst (cs.map ch)) := by
    have := sorted_sd (xs := F.map fun c => [c]) (ys := cs.map fun c => [c]) (by simp only [List.length_map]; omega) (hall.symm.map _) (by
      rw [List.pairwise_map]
      exact hc.up.imp fun h => by
        rw [← List.not_lt]
        simp [List.cons_lt_cons_iff]
        omega)
    simpa [Function.comp_def, ← ch_sd] using this
  have s2 : sortedN [.lst ((lotsOf v).map sd)] = some (.lst ((lotsOf v).map sd)) := sorted_sd (by omega) (.refl _) hup
  have q1 : eqD (.lst (cs.map ch)) (.lst (cs.map ch)) = some (.bl true) := eq_iff (n := 1) (eqb_lst fun x hx => by
      obtain ⟨c, hc', rfl⟩ := List.mem_map.mp hx
      exact eqb_sd (l := [c]) fun d hd => by
        have : d = c := by simpa using hd
        subst this
        exact hc.chars d hc') (eqb_lst fun x hx => by
      obtain ⟨c, hc', rfl⟩ := List.mem_map.mp hx
      exact eqb_sd (l := [c]) fun d hd => by
        have : d = c := by simpa using hd
        subst this
        exact hc.chars d hc') (by omega) (by simp)
  have eb : Eqb 1 (.lst ((lotsOf v).map sd)) := eqb_lst fun x hx => by
    obtain ⟨l, hl, rfl⟩ := List.mem_map.mp hx
    obtain ⟨p, hp, rfl⟩ := List.mem_map.mp hl
    exact eqb_sd ((h.part p hp).chars hc)
  have q2 : eqD (.lst ((lotsOf v).map sd)) (.lst ((lotsOf v).map sd)) = some (.bl true) := eq_iff eb eb (by omega) (by simp)
  rw [flat_map_sd] at c2
  have t1 : (tyD hp (viewD v)).bind (isB "tuple" fun _ => none) = some true := isB_tuple_tup hp _
  simp [m_is_view, b_is_view, N_is_view, defF_ap, c1, c2, a1, t1, j, l1, l2, s1, s2, q1, q2]
end LK
set_option Elab.async false
set_option linter.all false
set_option maxRecDepth 100000
set_option maxHeartbeats 4000000
/-! SP5: people, the text, the room. -/
namespace LK
open PySem PySem.Spec PyProof.Rows L2 He DP

theorem name_ok {n : Lot} (h : NameOk n) (hp : List Cell) : m_is_name [sd n] hp = .ok (.bl true) hp := by
  have hl := h.most
  have h1 := h.one
  have e1 := len_sd (l := n) (by omega)
  have c1 : lcC [1] (iterM (varM 0)) (nameG 1) (DP.ret true) (lookM2 inD (varM 1) (datM (DP.ret (D.str (Str.ofString "abcdefghijklmnopqrstuvwxyz"))))) ⟨[.val (sd n), .un], hp⟩ = .ok (.lst (n.map fun _ => .bl true)) ⟨[.val (sd n), .un], hp⟩ := by
    refine lc_name (E := ch) (xs := n) (fun _ => .bl true) (by simp) (by omega) rfl (by simp) (fun q hq => ?_)
    have hq' := h.let_ q hq
    have : inD (ch q) (.str (Str.ofString "abcdefghijklmnopqrstuvwxyz")) = some (.bl true) := by
      rw [show (.str (Str.ofString "abcdefghijklmnopqrstuvwxyz") : D) = sd (List.range' 97 26) from by
        have : Str.ofString "abcdefghijklmnopqrstuvwxyz" = st (List.range' 97 26) := by decide +kernel
        rw [this]; rfl]
      rw [in_chars]
      congr 2
      simp only [decide_eq_true_eq, List.mem_range']
      exact ⟨q - 97, by omega, by omega⟩
    simp [this]
  have a1 := all_map (fun _ : Nat => true) n
  have l2 : (1 : Int) ≤ n.length := by omega
  have l3 : (n.length : Int) ≤ 8 := by omega
  simp [m_is_name, b_is_name, N_is_name, defF_ap, e1, c1, a1, l2, l3]
theorem cases_ok {n : Lot} (h : CasesOk n) (hp : List Cell) : m_are_cases [sd n] hp = .ok (.bl true) hp := by
  have hl := h.most
  have h1 := h.one
  have e1 := len_sd (l := n) (by omega)
  have r := rising_ok' n (by omega) hp
  rw [decide_eq_true h.up] at r
  have c1 : lcC [1] (iterM (varM 0)) (nameG 1) (DP.ret true) (lookM2 inD (varM 1) (datM (DP.ret (D.str (Str.ofString "abcdefghijklmnopqrstuvwxyz"))))) ⟨[.val (sd n), .un], hp⟩ = .ok (.lst (n.map fun _ => .bl true)) ⟨[.val (sd n), .un], hp⟩ := by
    refine lc_name (E := ch) (xs := n) (fun _ => .bl true) (by simp) (by omega) rfl (by simp) (fun q hq => ?_)
    have hq' := h.let_ q hq
    have : inD (ch q) (.str (Str.ofString "abcdefghijklmnopqrstuvwxyz")) = some (.bl true) := by
      rw [show (.str (Str.ofString "abcdefghijklmnopqrstuvwxyz") : D) = sd (List.range' 97 26) from by
        have : Str.ofString "abcdefghijklmnopqrstuvwxyz" = st (List.range' 97 26) := by decide +kernel
        rw [this]; rfl]
      rw [in_chars]
      congr 2
      simp only [decide_eq_true_eq, List.mem_range']
      exact ⟨q - 97, by omega, by omega⟩
    simp [this]
  have a1 := all_map (fun _ : Nat => true) n
  have l2 : (1 : Int) ≤ n.length := by omega
  have l3 : (n.length : Int) ≤ 8 := by omega
  simp [m_are_cases, b_are_cases, N_are_cases, defF_ap, e1, c1, a1, l2, l3, r]
theorem view_len {cs : Lot} {v : View} (hc : CasesOk cs) (h : ViewOk cs v) : v.length ≤ 8 := by
  have h1 := h.all.length_eq
  have h2 := hc.most
  have key : ∀ v : View, (∀ p ∈ v, p.1 ≠ []) → v.length ≤ (v.map (·.1)).flatten.length := by
    intro v
    induction v with
    | nil => intro _; simp
    | cons p v ih =>
      intro h
      have := ih fun q hq => h q (List.mem_cons_of_mem _ hq)
      have hp := List.length_pos_iff.mpr (h p List.mem_cons_self)
      simp only [List.map_cons, List.flatten_cons, List.length_append, List.length_cons]
      omega
  have := key v fun p hp => (h.part p hp).ne
  omega
theorem person_ok {cs : Lot} {p : Person} (hc : CasesOk cs) (hn : NameOk p.1) (hv : ViewOk cs p.2) (hp : List Cell) : m_is_person [personD p, sd cs] hp = .ok (.bl true) hp := by
  have e1 := name_ok hn hp
  have e2 := view_ok hc hv (view_len hc hv) hp
  simp [m_is_person, b_is_person, N_is_person, defF_ap, personD, eq_int, e1, e2]
theorem people_ok {cs : Lot} {ps : List Person} (hc : CasesOk cs) (h : PeopleOk cs ps) (hp : List Cell) : m_are_people [peopleD ps, sd cs] hp = .ok (.bl true) hp := by
  have h1 := h.one
  have h4 := h.most
  have c1 : lcC [2] (iterM (varM 0)) (nameG 2) (DP.ret true) (callM m_is_person (consM (varM 2) (consM (varM 1) nilM))) ⟨[.val (peopleD ps), .val (sd cs), .un, .un], hp⟩ = .ok (.lst (ps.map fun _ => .bl true)) ⟨[.val (peopleD ps), .val (sd cs), .un, .un], hp⟩ := by
    refine lc_name (E := personD) (xs := ps) (fun _ => .bl true) (by simp [peopleD]) (by omega) rfl (by simp) (fun q hq => ?_)
    simp [person_ok hc (h.name q hq) (h.view q hq)]
  have a1 := all_map (fun _ : Person => true) ps
  have e2 := range_int (i := (ps.length : Int) - 1) (by omega) (by omega)
  rw [show ((ps.length : Int) - 1).toNat = ps.length - 1 by omega] at e2
  have dp : deref hp (peopleD ps) = some (peopleD ps) := rfl
  have lp : lenD (peopleD ps) = some (.int ps.length) := by simp [peopleD]
  have ip : ∀ (k : Nat) (i : Int) (h : k < ps.length), i = k → ixD (peopleD ps) (.int i) = some (personD ps[k]) := fun k i h e => by
    rw [e, peopleD, ixD_tup, atI_nat, List.getElem?_map, List.getElem?_eq_getElem h]
    rfl
  have ipn : ∀ p : Person, ixD (personD p) (.int 0) = some (sd p.1) := fun p => by simp [personD]
  have dq : ∀ p : Person, deref hp (personD p) = some (personD p) := fun p => rfl
  have c2 : lcC [3] (rangeM (consM (DP.bin subI (look1M lenD (slM 0)) (DP.ret (D.int 1))) nilM)) (nameG 3) (DP.ret true) (DP.bin ltD (lookM ixD (datM (lookM ixD (slM 0) (varM 3))) (DP.ret (D.int 0))) (lookM ixD (datM (lookM ixD (slM 0) (DP.bin addD (varM 3) (DP.ret (D.int 1))))) (DP.ret (D.int 0)))) ⟨[.val (peopleD ps), .val (sd cs), .un, .un], hp⟩ = .ok (.lst ((List.range (ps.length - 1)).map fun _ => .bl true)) ⟨[.val (peopleD ps), .val (sd cs), .un, .un], hp⟩ := by
    refine lc_name (E := fun i : Nat => .int (i : Nat)) (xs := List.range (ps.length - 1)) (fun _ => .bl true) (by simp [dp, lp, e2]) (by simp; omega) rfl (by simp) (fun x hx => ?_)
    have hx' : x < ps.length - 1 := by simpa using hx
    have q1 := ip x x (by omega) rfl
    have q2 := ip (x + 1) ((x : Int) + 1) (by omega) (by omega)
    have up := h.up
    rw [List.pairwise_map, List.pairwise_iff_getElem] at up
    have lt := up x (x + 1) (by omega) (by omega) (by omega)
    simp [dp, q1, q2, dq, ipn, lt_sd, lt]
  have a2 := all_map (fun _ : Nat => true) (List.range (ps.length - 1))
  have tp : (tyD hp (peopleD ps)).bind (isB "tuple" fun _ => none) = some true := isB_tuple_tup hp _
  have l2 : (1 : Int) ≤ ps.length := by omega
  have l3 : (ps.length : Int) ≤ 4 := by omega
  simp [m_are_people, b_are_people, N_are_people, defF_ap, c1, c2, a1, a2, tp, dp, lp, l2, l3]

/-! ### the text of a room -/
def numL (i : Int) : Lot := (Str.ofString (toString i)).cps.toList
theorem numL_st (i : Int) : st (numL i) = Str.ofString (toString i) := st_of _
theorem numL_len {i : Int} (h0 : 0 ≤ i) (h : i < 10 ^ 10) : (numL i).length ≤ 10 := by
  have := PySem.W.KT.len_num h0 h
  unfold numL
  rwa [Array.length_toList]
def fracL (q : Rat) : Lot := numL q.num ++ 47 :: numL q.den
def wordL : Option (List Rat) → List Lot
  | none => [[63]]
  | some qs => qs.map fracL
def lineL (n : Lot) (p : Part) : Lot := n ++ 32 :: (p.1 ++ 32 :: joinL [32] (wordL p.2))
def linesL (cs : Lot) (ps : List Person) : List Lot := ([99, 97, 115, 101, 115, 32] ++ cs) :: ps.flatMap fun p => p.2.map (lineL p.1)
def textL (cs : Lot) (ps : List Person) : Lot := joinL [10] (linesL cs ps)
theorem joinM_nil (a : Lot) (s : DSt) : joinM [] (st a) s = .ok (sd a) s := rfl
theorem joinM_cons {f : DM D} {fs : List (DM D)} {a b : Lot} {s s' : DSt} (h : f s = .ok (sd b) s') (hl : (a ++ b).length ≤ 10000000) : joinM (f :: fs) (st a) s = joinM fs (st (a ++ b)) s' := by
  rw [joinM, DP.bnd, h]
  simp only [sd]
  rw [st_append, if_pos (by rw [st_length, sizeLine_eq]; omega)]
theorem joinM_lit {fs : List (DM D)} {a b : Lot} {s : DSt} (hl : (a ++ b).length ≤ 10000000) : joinM (DP.ret (.str (st b)) :: fs) (st a) s = joinM fs (st (a ++ b)) s := joinM_cons rfl hl
theorem fmt_sd {l : Lot} (h : l.length ≤ 10000000) : fmtD (sd l) = some (st l) := by
  simp only [fmtD, sd, st_length]
  rw [if_pos (by rw [sizeLine_eq]; omega)]
theorem fmt_int {i : Int} (h : Bd i 1000) : fmtD (.int i) = some (st (numL i)) := by
  have := log2_le h
  simp only [fmtD]
  rw [if_pos (by omega), numL_st]
theorem frac_len {q : Rat} (h0 : 0 < q) (h1 : q ≤ 1) (hd : q.den ≤ 1000000000) : (fracL q).length ≤ 21 := by
  have h2 := num_pos h0
  have h4 := (Rat.le_iff q 1).mp h1
  simp at h4
  have a := numL_len (i := q.num) (by omega) (by omega)
  have b := numL_len (i := q.den) (by omega) (by omega)
  simp only [fracL, List.length_append, List.length_cons]
  omega
theorem sum_le {α : Type} (f : α → Nat) (k : Nat) : ∀ xs : List α, (∀ x ∈ xs, f x ≤ k) → (xs.map f).sum ≤ k * xs.length
  | [], _ => by simp
  | x :: xs, h => by
    have h1 := h x List.mem_cons_self
    have h2 := sum_le f k xs fun y hy => h y (List.mem_cons_of_mem _ hy)
    simp only [List.map_cons, List.sum_cons, List.length_cons, Nat.mul_add]
    omega
theorem word_len {n : Nat} {t : Option (List Rat)} (hn : n ≤ 8) (ht : ∀ qs, t = some qs → TellOk n qs) : ((wordL t).map List.length).sum ≤ 168 ∧ (wordL t).length ≤ 8 := by
  cases t with
  | none => simp [wordL]
  | some qs =>
    have h := ht qs rfl
    have hl := h.len
    have := sum_le (fun q => (fracL q).length) 21 qs fun q hq => frac_len (h.pos q hq) (h.le1 hq) (h.den q hq)
    simp only [wordL, List.map_map, List.length_map]
    refine ⟨?_, by omega⟩
    show (qs.map fun q => (fracL q).length).sum ≤ 168
    omega
theorem line_len {n : Lot} {p : Part} {m : Nat} (hn : n.length ≤ 8) (hp : p.1.length ≤ 8) (hm : m ≤ 8) (ht : ∀ qs, p.2 = some qs → TellOk m qs) : (lineL n p).length ≤ 200 := by
  have := word_len hm ht
  have j := joinL_len [32] (wordL p.2)
  simp only [lineL, List.length_append, List.length_cons, List.length_nil] at j ⊢
  omega
abbrev lineB : DS := (seqS (setS 7 (ifM (tst (DP.bin isNoneD (varM 6) (DP.ret .non))) (lstM (consM (DP.ret (.str "?")) (nilM))) (frzM (lcC [8] (iterM (varM 6)) (nameG 8) (DP.ret true) (joinM [fmtM (lookM ixD (slM 8) (DP.ret (.int 0))), DP.ret (.str "/"), fmtM (lookM ixD (slM 8) (DP.ret (.int 1)))] Str.empty))))) (exprS (methM "list" (actW appendN) (slM 2) (consM (DP.bin addD (joinM [fmtM (varM 3), DP.ret (.str " "), fmtM (varM 5), DP.ret (.str " ")] Str.empty) (methM "str" (actR joinN) (datM (DP.ret (.str " "))) (consM (varM 7) (nilM)))) (nilM)))))
/-- one line -/
theorem line_ok {n : Lot} {p : Part} {m : Nat} {sl : List SV} {hp : List Cell} {x0 x1 x4 x5 x8 : SV} {ls : List D} (hn : n.length ≤ 8) (hl : p.1.length ≤ 8) (hm : m ≤ 8) (ht : ∀ qs, p.2 = some qs → TellOk m qs) (hls : ls.length ≤ 1000) (hx8 : x8 = .un) :
    ∃ w7, lineB ⟨[x0, x1, .own (.lst ls), .val (sd n), x4, .val (sd p.1), .val (toldD p.2), x5, x8], hp⟩ =
      .nx ⟨[x0, x1, .own (.lst (ls ++ [sd (lineL n p)])), .val (sd n), x4, .val (sd p.1), .val (toldD p.2), w7, x8], hp⟩ := by
  subst hx8
  refine ⟨.val (.lst ((wordL p.2).map sd)), ?_⟩
  have w := word_len hm ht
  have jl := joinL_len [32] (wordL p.2)
  simp only [List.length_cons, List.length_nil] at jl
  have e1 : (Str.ofString "?" : Str) = st [63] := by decide +kernel
  have e2 : (Str.ofString "/" : Str) = st [47] := by decide +kernel
  have e3 : (Str.ofString " " : Str) = st [32] := by decide +kernel
  have e4 : Str.empty = st [] := rfl
  have words : (ifM (tst (DP.bin isNoneD (varM 6) (DP.ret .non))) (lstM (consM (DP.ret (.str "?")) (nilM))) (frzM (lcC [8] (iterM (varM 6)) (nameG 8) (DP.ret true) (joinM [fmtM (lookM ixD (slM 8) (DP.ret (.int 0))), DP.ret (.str "/"), fmtM (lookM ixD (slM 8) (DP.ret (.int 1)))] Str.empty)))) ⟨[x0, x1, .own (.lst ls), .val (sd n), x4, .val (sd p.1), .val (toldD p.2), x5, .un], hp⟩ = .ok (.lst ((wordL p.2).map sd)) ⟨[x0, x1, .own (.lst ls), .val (sd n), x4, .val (sd p.1), .val (toldD p.2), x5, .un], hp⟩ := by
    cases hp2 : p.2 with
    | none => simp [toldD, isNone_ap, wordL, e1, sd]
    | some qs =>
      have h := ht qs hp2
      have hlen := h.len
      have c1 := lc_name (i := 8) (e := joinM [fmtM (lookM ixD (slM 8) (DP.ret (.int 0))), DP.ret (.str "/"), fmtM (lookM ixD (slM 8) (DP.ret (.int 1)))] Str.empty) (f := iterM (varM 6)) (sl := [x0, x1, .own (.lst ls), .val (sd n), x4, .val (sd p.1), .val (toldD (some qs)), x5, .un]) (hp := hp) (E := fr) (s := ⟨[x0, x1, .own (.lst ls), .val (sd n), x4, .val (sd p.1), .val (toldD (some qs)), x5, .un], hp⟩) (xs := qs) (fun q => sd (fracL q)) (by simp [toldD, tupq]) (by omega) rfl (by simp) (fun q hq => by
        have h2 := num_pos (h.pos q hq)
        have h4 := (Rat.le_iff q 1).mp (h.le1 hq)
        have h5 := h.den q hq
        simp at h4
        have l1 := numL_len (i := q.num) (by omega) (by omega)
        have l2 := numL_len (i := q.den) (by omega) (by omega)
        have f1 := fmt_int (i := q.num) ((h.sz hq).1.mono (by omega))
        have f2 := fmt_int (i := q.den) ((h.sz hq).den.mono (by omega))
        rw [e4, e2]
        rw [joinM_cons (b := numL q.num) (s' := ⟨[x0, x1, .own (.lst ls), .val (sd n), x4, .val (sd p.1), .val (toldD (some qs)), x5, .val (fr q)], hp⟩) (by simp [f1, str_sd]) (by simp only [List.nil_append]; omega), joinM_lit (b := [47]) (by simp only [List.nil_append, List.length_append, List.length_cons, List.length_nil]; omega),
          joinM_cons (b := numL q.den) (s' := ⟨[x0, x1, .own (.lst ls), .val (sd n), x4, .val (sd p.1), .val (toldD (some qs)), x5, .val (fr q)], hp⟩) (by simp [f2, str_sd]) (by simp only [List.nil_append, List.length_append, List.length_cons, List.length_nil]; omega), joinM_nil]
        simp [fracL])
      have mm : ((wordL (some qs)).map sd) = qs.map fun q => sd (fracL q) := by simp [wordL]
      rw [mm]
      simp [toldD, isNone_ap, tupq] at c1 ⊢
      rw [c1]
      simp
  have join2 : joinM [fmtM (varM 3), DP.ret (.str " "), fmtM (varM 5), DP.ret (.str " ")] Str.empty ⟨[x0, x1, .own (.lst ls), .val (sd n), x4, .val (sd p.1), .val (toldD p.2), .val (.lst ((wordL p.2).map sd)), .un], hp⟩ = .ok (sd (n ++ 32 :: (p.1 ++ [32]))) ⟨[x0, x1, .own (.lst ls), .val (sd n), x4, .val (sd p.1), .val (toldD p.2), .val (.lst ((wordL p.2).map sd)), .un], hp⟩ := by
    have f1 := fmt_sd (l := n) (by omega)
    have f2 := fmt_sd (l := p.1) (by omega)
    rw [e4, e3]
    rw [joinM_cons (b := n) (s' := ⟨[x0, x1, .own (.lst ls), .val (sd n), x4, .val (sd p.1), .val (toldD p.2), .val (.lst ((wordL p.2).map sd)), .un], hp⟩) (by simp [f1, str_sd]) (by simp only [List.nil_append]; omega), joinM_lit (b := [32]) (by simp only [List.nil_append, List.length_append, List.length_cons, List.length_nil]; omega),
      joinM_cons (b := p.1) (s' := ⟨[x0, x1, .own (.lst ls), .val (sd n), x4, .val (sd p.1), .val (toldD p.2), .val (.lst ((wordL p.2).map sd)), .un], hp⟩) (by simp [f2, str_sd]) (by simp only [List.nil_append, List.length_append, List.length_cons, List.length_nil]; omega),
      joinM_lit (b := [32]) (by simp only [List.nil_append, List.length_append, List.length_cons, List.length_nil]; omega), joinM_nil]
    simp
  have j1 := join_ok [32] (wordL p.2) (by simp only [List.length_cons, List.length_nil]; omega)
  have ad : addD (sd (n ++ 32 :: (p.1 ++ [32]))) (sd (joinL [32] (wordL p.2))) = some (sd (lineL n p)) := by
    simp only [addD, sd, addS, DP.strOp, st_length]
    rw [if_pos (by simp only [List.length_append, List.length_cons, List.length_nil]; rw [sizeLine_eq]; omega), st_append]
    simp [lineL]
  have ap : appendN (.lst ls) [sd (lineL n p)] = some (.non, .lst (ls ++ [sd (lineL n p)])) := by
    simp only [appendN]
    rw [if_pos (by rw [sizeLine_eq]; omega)]
  have e5 : (.str (Str.ofString " ") : D) = sd [32] := by rw [e3]; rfl
  simp only [e5] at join2
  simp only [lineB, seqS_ap, setS_ap, words]
  simp [join2, e5, j1, ad, ap]

theorem flatMap_len {α β : Type} (f : α → List β) (k : Nat) : ∀ xs : List α, (∀ x ∈ xs, (f x).length ≤ k) → (xs.flatMap f).length ≤ k * xs.length
  | [], _ => by simp
  | x :: xs, h => by
    have h1 := h x List.mem_cons_self
    have h2 := flatMap_len f k xs fun y hy => h y (List.mem_cons_of_mem _ hy)
    simp only [List.flatMap_cons, List.length_append, List.length_cons, Nat.mul_add]
    omega
theorem inner_ok {n : Lot} {hp : List Cell} {x0 x1 x4 : SV} (hn : n.length ≤ 8) : ∀ (v : View) (ls : List D) (w5 w6 w7 : SV), (∀ p ∈ v, p.1.length ≤ 8 ∧ ∀ qs, p.2 = some qs → TellOk p.1.length qs) → ls.length + v.length ≤ 1000 →
    ∃ v5 v6 v7, forL (tupleG [nameG 5, nameG 6]) lineB (v.map partD) ⟨[x0, x1, .own (.lst ls), .val (sd n), x4, w5, w6, w7, .un], hp⟩ = .nx ⟨[x0, x1, .own (.lst (ls ++ v.map fun p => sd (lineL n p))), .val (sd n), x4, v5, v6, v7, .un], hp⟩
  | [], ls, w5, w6, w7, _, _ => ⟨w5, w6, w7, by simp [forL]⟩
  | p :: v, ls, w5, w6, w7, h, hl => by
    have hp1 := h p List.mem_cons_self
    obtain ⟨w, e⟩ := line_ok (n := n) (p := p) (m := p.1.length) (sl := []) (hp := hp) (x0 := x0) (x1 := x1) (x4 := x4) (x5 := w7) (x8 := .un) (ls := ls) hn hp1.1 hp1.1 hp1.2 (by omega) rfl
    simp only [List.length_cons] at hl
    obtain ⟨a, b, c, ih⟩ := inner_ok hn v (ls ++ [sd (lineL n p)]) (.val (sd p.1)) (.val (toldD p.2)) w (fun q hq => h q (List.mem_cons_of_mem _ hq)) (by simp only [List.length_append, List.length_cons, List.length_nil]; omega)
    refine ⟨a, b, c, ?_⟩
    rw [List.map_cons]
    unfold forL
    rw [show tupleG [nameG 5, nameG 6] (partD p) ⟨[x0, x1, .own (.lst ls), .val (sd n), x4, w5, w6, w7, .un], hp⟩ = some ⟨[x0, x1, .own (.lst ls), .val (sd n), x4, .val (sd p.1), .val (toldD p.2), w7, .un], hp⟩ from rfl]
    dsimp only
    rw [e]
    dsimp only
    rw [ih]
    simp
theorem outer_ok {hp : List Cell} {x0 x1 : SV} : ∀ (ps : List Person) (ls : List D) (w3 w4 w5 w6 w7 : SV), (∀ q ∈ ps, q.1.length ≤ 8 ∧ q.2.length ≤ 8 ∧ ∀ p ∈ q.2, p.1.length ≤ 8 ∧ ∀ qs, p.2 = some qs → TellOk p.1.length qs) → ls.length + 8 * ps.length ≤ 1000 →
    ∃ v3 v4 v5 v6 v7, forL (tupleG [nameG 3, nameG 4]) (forS (tupleG [nameG 5, nameG 6]) (iterM (varM 4)) lineB) (ps.map personD) ⟨[x0, x1, .own (.lst ls), w3, w4, w5, w6, w7, .un], hp⟩ = .nx ⟨[x0, x1, .own (.lst (ls ++ (ps.flatMap fun p => p.2.map (lineL p.1)).map sd)), v3, v4, v5, v6, v7, .un], hp⟩
  | [], ls, w3, w4, w5, w6, w7, _, _ => ⟨w3, w4, w5, w6, w7, by simp [forL]⟩
  | q :: ps, ls, w3, w4, w5, w6, w7, h, hl => by
    have hq := h q List.mem_cons_self
    simp only [List.length_cons, Nat.mul_add] at hl
    obtain ⟨a5, a6, a7, e⟩ := inner_ok (n := q.1) (hp := hp) (x0 := x0) (x1 := x1) (x4 := .val (viewD q.2)) hq.1 q.2 ls w5 w6 w7 hq.2.2 (by omega)
    have hll : (ls ++ q.2.map fun p => sd (lineL q.1 p)).length + 8 * ps.length ≤ 1000 := by
      have := hq.2.1
      simp only [List.length_append, List.length_map]
      omega
    obtain ⟨b3, b4, b5, b6, b7, ih⟩ := outer_ok ps (ls ++ q.2.map fun p => sd (lineL q.1 p)) (.val (sd q.1)) (.val (viewD q.2)) a5 a6 a7 (fun x hx => h x (List.mem_cons_of_mem _ hx)) hll
    refine ⟨b3, b4, b5, b6, b7, ?_⟩
    rw [List.map_cons]
    unfold forL
    rw [show tupleG [nameG 3, nameG 4] (personD q) ⟨[x0, x1, .own (.lst ls), w3, w4, w5, w6, w7, .un], hp⟩ = some ⟨[x0, x1, .own (.lst ls), .val (sd q.1), .val (viewD q.2), w5, w6, w7, .un], hp⟩ from rfl]
    dsimp only
    have it : iterM (varM 4) ⟨[x0, x1, .own (.lst ls), .val (sd q.1), .val (viewD q.2), w5, w6, w7, .un], hp⟩ = .ok (q.2.map partD) ⟨[x0, x1, .own (.lst ls), .val (sd q.1), .val (viewD q.2), w5, w6, w7, .un], hp⟩ := by simp [viewD]
    rw [forS_ap, it]
    dsimp only
    rw [e]
    dsimp only
    rw [ih]
    simp
theorem text_ok {cs : Lot} {ps : List Person} (hc : CasesOk cs) (h : PeopleOk cs ps) (hp : List Cell) : m_text_of [sd cs, peopleD ps] hp = .ok (sd (textL cs ps)) hp := by
  have hcl := hc.most
  have h4 := h.most
  have hall : ∀ q ∈ ps, q.1.length ≤ 8 ∧ q.2.length ≤ 8 ∧ ∀ p ∈ q.2, p.1.length ≤ 8 ∧ ∀ qs, p.2 = some qs → TellOk p.1.length qs := fun q hq => ⟨(h.name q hq).most, view_len hc (h.view q hq), fun p hp => ⟨lot_len hc.most ((h.view q hq).part p hp).sub ((h.view q hq).part p hp).up, ((h.view q hq).part p hp).told⟩⟩
  have e6 : (Str.ofString "cases " : Str) = st [99, 97, 115, 101, 115, 32] := by decide +kernel
  have e4 : Str.empty = st [] := rfl
  have f1 := fmt_sd (l := cs) (by omega)
  have j0 : ∀ (sl : List SV), sl[0]? = some (.val (sd cs)) → joinM [DP.ret (.str "cases "), fmtM (varM 0)] Str.empty ⟨sl, hp⟩ = .ok (sd ([99, 97, 115, 101, 115, 32] ++ cs)) ⟨sl, hp⟩ := fun sl hs => by
    rw [e4, e6, joinM_lit (by simp), joinM_cons (b := cs) (s' := ⟨sl, hp⟩) (by simp [hs, f1, str_sd]) (by simp; omega), joinM_nil]
    rfl
  obtain ⟨v3, v4, v5, v6, v7, e⟩ := outer_ok (hp := hp) (x0 := .val (sd cs)) (x1 := .val (peopleD ps)) ps [sd ([99, 97, 115, 101, 115, 32] ++ cs)] .un .un .un .un .un hall (by simp; omega)
  have e10 : (.str (Str.ofString "\n") : D) = sd [10] := by
    have : Str.ofString "\n" = st [10] := by decide +kernel
    rw [this]; rfl
  have lines : [sd ([99, 97, 115, 101, 115, 32] ++ cs)] ++ (ps.flatMap fun p => p.2.map (lineL p.1)).map sd = (linesL cs ps).map sd := rfl
  rw [lines] at e
  have bound : ((linesL cs ps).map List.length).sum + (linesL cs ps).length * 1 ≤ 16777216 := by
    have b1 : ∀ l ∈ linesL cs ps, l.length ≤ 200 := fun l hl => by
      rcases List.mem_cons.mp hl with rfl | hl
      · simp only [List.length_append, List.length_cons, List.length_nil]; omega
      · obtain ⟨q, hq, hl⟩ := List.mem_flatMap.mp hl
        obtain ⟨p, hp, rfl⟩ := List.mem_map.mp hl
        exact line_len (hall q hq).1 ((hall q hq).2.2 p hp).1 ((hall q hq).2.2 p hp).1 ((hall q hq).2.2 p hp).2
    have b2 := sum_le List.length 200 (linesL cs ps) b1
    have b3 : (linesL cs ps).length ≤ 33 := by
      have := flatMap_len (fun p : Person => p.2.map (lineL p.1)) 8 ps fun q hq => by
        rw [List.length_map]; exact (hall q hq).2.1
      simp only [linesL, List.length_cons]
      omega
    omega
  have j1 := join_ok [10] (linesL cs ps) (by simpa using bound)
  have ip : itemsOf (peopleD ps) = some (ps.map personD) := rfl
  simp only [m_text_of, b_text_of, N_text_of, defF_ap]
  have c0 := j0 [.val (sd cs), .val (peopleD ps), .un, .un, .un, .un, .un, .un, .un] rfl
  simp only [lineB] at e
  simp [c0, ip] at e ⊢
  rw [e]
  simp [e10, j1, textL]
end LK
set_option Elab.async false
set_option linter.all false
set_option maxRecDepth 100000
set_option maxHeartbeats 4000000
/-! SP6: the room as data; what it is asked. -/
namespace LK
open PySem PySem.Spec PyProof.Rows L2 He DP

def nameK (l : Lot) : Key := Sum.inr (st l)
theorem nameK_inj {a b : Lot} (h : nameK a = nameK b) : a = b := by
  unfold nameK at h
  injection h with h
  exact st_inj h
@[simp] theorem key_sd (l : Lot) : (sd l).key = some (nameK l) := rfl
def dictD {α : Type} (k : α → Lot) (v : α → D) (xs : List α) : D := .dk (xs.map fun x => nameK (k x)) (xs.map v)
theorem pairs_map {α : Type} (k : α → Lot) (v : α → D) : ∀ xs : List α, DP.pairsOf (xs.map fun x => .tup [sd (k x), v x]) = some (xs.map fun x => (nameK (k x), v x))
  | [] => rfl
  | p :: ps => by
    have := pairs_map k v ps
    simp only [List.map_cons, DP.pairsOf, key_sd, Option.bind, this, Option.map]
theorem merge_new {α : Type} (k : α → Lot) (v : α → D) : ∀ (xs : List α) (ks : List Key) (vs : List D), (xs.map k).Nodup → (∀ x ∈ xs, nameK (k x) ∉ ks) → mergeD (.dk ks vs) (xs.map fun x => (nameK (k x), v x)) = .dk (ks ++ xs.map fun x => nameK (k x)) (vs ++ xs.map v)
  | [], ks, vs, _, _ => by simp [mergeD]
  | x :: xs, ks, vs, hn, hd => by
    rw [List.map_cons] at hn
    obtain ⟨h1, h2⟩ := List.nodup_cons.mp hn
    have hx := hd x List.mem_cons_self
    have e : putKD ks vs (nameK (k x)) (v x) = .dk (ks ++ [nameK (k x)]) (vs ++ [v x]) := by
      unfold putKD
      rw [if_neg]
      simp only [List.any_eq_true, decide_eq_true_eq, not_exists, not_and]
      rintro j hj rfl
      exact hx hj
    rw [List.map_cons, mergeD, e, merge_new k v xs _ _ h2]
    · simp
    · intro y hy
      simp only [List.mem_append, List.mem_singleton, not_or]
      refine ⟨hd y (List.mem_cons_of_mem _ hy), fun z => h1 ?_⟩
      rw [← nameK_inj z]
      exact List.mem_map_of_mem hy
theorem dict_tup {α : Type} (k : α → Lot) (v : α → D) (xs : List α) (hn : (xs.map k).Nodup) : dictN [.tup (xs.map fun x => .tup [sd (k x), v x])] = some (.dk (xs.map fun x => nameK (k x)) (xs.map v)) := by
  have h1 := pairs_map k v xs
  have h2 := merge_new k v xs [] [] hn (by simp)
  simp only [dictN, h1, Option.map, h2, List.nil_append]
theorem dict_lst {α : Type} (k : α → Lot) (v : α → D) (xs : List α) (hn : (xs.map k).Nodup) : dictN [.lst (xs.map fun x => .tup [sd (k x), v x])] = some (.dk (xs.map fun x => nameK (k x)) (xs.map v)) := by
  have h1 := pairs_map k v xs
  have h2 := merge_new k v xs [] [] hn (by simp)
  simp only [dictN, h1, Option.map, h2, List.nil_append]
/-- d[k] -/
theorem val_map {α : Type} (k : α → Lot) (v : α → D) : ∀ {xs : List α} {x : α}, (xs.map k).Nodup → x ∈ xs → DP.valOf (xs.map fun x => nameK (k x)) (xs.map v) (nameK (k x)) = some (v x)
  | [], x, _, h => by simp at h
  | y :: xs, x, hn, h => by
    rw [List.map_cons] at hn
    obtain ⟨h1, h2⟩ := List.nodup_cons.mp hn
    unfold DP.valOf
    simp only [List.map_cons, List.zip_cons_cons]
    by_cases e : nameK (k y) = nameK (k x)
    · have hx : y = x ∨ x ∈ xs := by
        rcases List.mem_cons.mp h with h | h
        · exact .inl h.symm
        · exact .inr h
      rcases hx with rfl | hx
      · simp
      · exact absurd (List.mem_map_of_mem (f := k) hx) (by rw [← nameK_inj e]; exact h1)
    · have hx : x ∈ xs := by
        rcases List.mem_cons.mp h with h | h
        · exact absurd (by rw [h]) e
        · exact h
      have ih := val_map k v h2 hx
      unfold DP.valOf at ih
      rw [List.find?_cons_of_neg (by simpa using e)]
      exact ih
theorem ix_dict {α : Type} (k : α → Lot) (v : α → D) {xs : List α} {x : α} (hn : (xs.map k).Nodup) (h : x ∈ xs) : ixD (dictD k v xs) (sd (k x)) = some (v x) := by
  simp only [dictD, ixD, key_sd, Option.bind]
  exact val_map k v hn h
theorem val_isSome {α : Type} (k : α → Lot) (v : α → D) (l : Lot) : ∀ xs : List α, (DP.valOf (xs.map fun x => nameK (k x)) (xs.map v) (nameK l)).isSome = decide (l ∈ xs.map k)
  | [] => by simp [DP.valOf]
  | x :: xs => by
    have ih := val_isSome k v l xs
    unfold DP.valOf at ih ⊢
    simp only [List.map_cons, List.zip_cons_cons]
    by_cases e : nameK (k x) = nameK l
    · rw [List.find?_cons_of_pos (by simpa using e), nameK_inj e]
      simp
    · rw [List.find?_cons_of_neg (by simpa using e), ih]
      have : l ≠ k x := fun z => e (by rw [z])
      simp [this]
theorem in_dict {α : Type} (k : α → Lot) (v : α → D) (xs : List α) (l : Lot) : inD (sd l) (dictD k v xs) = some (.bl (decide (l ∈ xs.map k))) := by
  have := val_isSome k v l xs
  simp only [dictD, inD, inK, key_sd, Option.map, this]
  rfl
theorem nin_dict {α : Type} (k : α → Lot) (v : α → D) (xs : List α) (l : Lot) : ninD (sd l) (dictD k v xs) = some (.bl (!decide (l ∈ xs.map k))) := by
  have := val_isSome k v l xs
  simp only [dictD, ninD, inK, key_sd, Option.map, this]
  rfl

def viewsD (ps : List Person) : D := dictD (fun p : Person => p.1) (fun p => viewD p.2) ps
def roomD (cs : Lot) (ps : List Person) : D := .ins 0 [sd cs, peopleD ps, sd (textL cs ps), viewsD ps]
theorem lot_irrefl (a : Lot) : ¬ a < a := List.lt_irrefl a
theorem names_nodup {cs : Lot} {ps : List Person} (h : PeopleOk cs ps) : (ps.map (·.1)).Nodup := List.Pairwise.imp (fun {a b} (h : a < b) (e : a = b) => lot_irrefl b (e ▸ h)) h.up
theorem noRefL_map {α : Type} {f : α → D} {xs : List α} (h : ∀ x ∈ xs, (f x).noRef = true) : noRefL (xs.map f) = true := by
  induction xs with
  | nil => rfl
  | cons x xs ih =>
    simp only [List.map_cons, noRefL, Bool.and_eq_true]
    exact ⟨h x List.mem_cons_self, ih fun y hy => h y (List.mem_cons_of_mem _ hy)⟩
@[simp] theorem noRef_sd (l : Lot) : (sd l).noRef = true := rfl
@[simp] theorem noRef_fr (q : Rat) : (fr q).noRef = true := by simp [fr, D.noRef, noRefL]
@[simp] theorem noRef_told (t : Option (List Rat)) : (toldD t).noRef = true := by
  cases t with
  | none => rfl
  | some qs => exact noRefL_map fun q _ => noRef_fr q
@[simp] theorem noRef_part (p : Part) : (partD p).noRef = true := by simp [partD, D.noRef, noRefL]
@[simp] theorem noRef_view (v : View) : (viewD v).noRef = true := noRefL_map fun p _ => noRef_part p
@[simp] theorem noRef_person (p : Person) : (personD p).noRef = true := by simp [personD, D.noRef, noRefL]
@[simp] theorem noRef_people (ps : List Person) : (peopleD ps).noRef = true := noRefL_map fun p _ => noRef_person p
@[simp] theorem noRef_views (ps : List Person) : (viewsD ps).noRef = true := noRefL_map fun p _ => noRef_view p.2
@[simp] theorem noRef_room (cs : Lot) (ps : List Person) : (roomD cs ps).noRef = true := by simp [roomD, D.noRef, noRefL]
def fldR (c j : Nat) (d x : D) (s2 : DSt) : RS := match x with
  | .ref n => (match s2.hp[n]? with
    | some (.ins c' ds) => if c' = c then (match setFld j d ds with
      | some es => .nx ⟨s2.sl, s2.hp.set n (.ins c es)⟩
      | none => .stuck) else .stuck
    | _ => .stuck)
  | _ => .stuck
@[simp] theorem fldR_ref (c j n : Nat) (d : D) (sl : List SV) (hp : List Cell) : fldR c j d (.ref n) ⟨sl, hp⟩ = (match hp[n]? with
    | some (.ins c' ds) => if c' = c then (match setFld j d ds with
      | some es => .nx ⟨sl, hp.set n (.ins c es)⟩
      | none => .stuck) else .stuck
    | _ => .stuck) := rfl
@[simp] theorem fldS_ap (c j : Nat) (fo fv : DM D) (s : DSt) : fldS c j fo fv s = (match fv s with | .ok d s1 => (match fo s1 with | .ok x s2 => fldR c j d x s2 | .err x s' => .err x s' | .stuck => .stuck) | .err x s' => .err x s' | .stuck => .stuck) := by
  unfold fldS bndS fldR
  cases fv s with
  | ok d s1 => dsimp only; cases fo s1 <;> rfl
  | _ => rfl
theorem init_ok {cs : Lot} {ps : List Person} (hc : CasesOk cs) (h : PeopleOk cs ps) : m_Room_init [.ref 0, sd cs, peopleD ps] [.ins 0 []] = .ok .non [.ins 0 [sd cs, peopleD ps, sd (textL cs ps), viewsD ps]] := by
  have e1 := cases_ok hc
  have e2 := people_ok hc h
  have e3 := text_ok hc h
  have e4 : dictN [peopleD ps] = some (.dk (ps.map fun p => nameK p.1) (ps.map fun p => viewD p.2)) := dict_tup (fun p : Person => p.1) (fun p => viewD p.2) ps (names_nodup h)
  simp [m_Room_init, b_Room_init, N_Room_init, defF_ap, e1, e2, e3, e4, setFld]
  rfl
theorem room_ok {cs : Lot} {ps : List Person} (hc : CasesOk cs) (h : PeopleOk cs ps) (hp : List Cell) : makeZ 0 m_Room_init [sd cs, peopleD ps] hp = .ok (roomD cs ps) hp := by
  simp [makeZ, init_ok hc h, noRefL, roomD]
end LK
set_option Elab.async false
set_option linter.all false
set_option maxRecDepth 100000
set_option maxHeartbeats 4000000
/-! SP7: what a room is asked. -/
namespace LK
open PySem PySem.Spec PyProof.Rows L2 He DP

@[simp] theorem deref_room (hp : List Cell) (cs : Lot) (ps : List Person) : deref hp (roomD cs ps) = some (roomD cs ps) := rfl
@[simp] theorem deref_people (hp : List Cell) (ps : List Person) : deref hp (peopleD ps) = some (peopleD ps) := rfl
@[simp] theorem deref_views (hp : List Cell) (ps : List Person) : deref hp (viewsD ps) = some (viewsD ps) := rfl
@[simp] theorem deref_view (hp : List Cell) (v : View) : deref hp (viewD v) = some (viewD v) := rfl
@[simp] theorem deref_part (hp : List Cell) (p : Part) : deref hp (partD p) = some (partD p) := rfl
@[simp] theorem deref_person (hp : List Cell) (p : Person) : deref hp (personD p) = some (personD p) := rfl
@[simp] theorem items_people (ps : List Person) : itemsOf (peopleD ps) = some (ps.map personD) := rfl
@[simp] theorem items_view (v : View) : itemsOf (viewD v) = some (v.map partD) := rfl
@[simp] theorem part_ix0 (p : Part) : ixD (partD p) (.int 0) = some (sd p.1) := by simp [partD]
@[simp] theorem part_ix1 (p : Part) : ixD (partD p) (.int 1) = some (toldD p.2) := by simp [partD]
@[simp] theorem person_ix0 (p : Person) : ixD (personD p) (.int 0) = some (sd p.1) := by simp [personD]
section
variable (cs : Lot) (ps : List Person) (hp : List Cell)
@[simp] theorem room_fld0 (sl : List SV) : accR (acc1 0 (.fld 0)) (roomD cs ps) ⟨sl, hp⟩ = .ok (sd cs) ⟨sl, hp⟩ := by simp [roomD]
@[simp] theorem room_fld1 (sl : List SV) : accR (acc1 0 (.fld 1)) (roomD cs ps) ⟨sl, hp⟩ = .ok (peopleD ps) ⟨sl, hp⟩ := by simp [roomD]
@[simp] theorem room_fld2 (sl : List SV) : accR (acc1 0 (.fld 2)) (roomD cs ps) ⟨sl, hp⟩ = .ok (sd (textL cs ps)) ⟨sl, hp⟩ := by simp [roomD]
@[simp] theorem room_fld3 (sl : List SV) : accR (acc1 0 (.fld 3)) (roomD cs ps) ⟨sl, hp⟩ = .ok (viewsD ps) ⟨sl, hp⟩ := by simp [roomD]
@[simp] theorem room_prop (m : DF) (sl : List SV) : accR (acc1 0 (.prop m)) (roomD cs ps) ⟨sl, hp⟩ = (match m [roomD cs ps] hp with | .ok d hp' => .ok d ⟨sl, hp'⟩ | _ => .stuck) := by
  unfold roomD
  rw [accR_prop]
  all_goals (cases m [D.ins 0 [sd cs, peopleD ps, sd (textL cs ps), viewsD ps]] hp <;> rfl)
@[simp] theorem room_obj (m : DF) (fs : DM (List D)) (s : DSt) : objR 0 m (roomD cs ps) fs s = (match fs s with | .ok xs s' => (match m (roomD cs ps :: xs) s'.hp with | .ok d hp => .ok d ⟨s'.sl, hp⟩ | .err x hp => .err x ⟨s'.sl, hp⟩ | .stuck => .stuck) | .err x s' => .err x s' | .stuck => .stuck) := by
  unfold roomD
  rw [objR_ins]
  all_goals (cases fs s <;> first | rfl | (rename_i xs s'; cases m (D.ins 0 [sd cs, peopleD ps, sd (textL cs ps), viewsD ps] :: xs) s'.hp <;> rfl))
@[simp] theorem isO_room : (tyD hp (roomD cs ps)).bind (isO (own1 0 true)) = some true := by simp [roomD]
theorem check_room_ok : m_check_room [roomD cs ps] hp = .ok .non hp := by
  simp [m_check_room, b_check_room, N_check_room, defF_ap]
theorem cases_get : m_Room_cases [roomD cs ps] hp = .ok (sd cs) hp := by
  simp [m_Room_cases, b_Room_cases, N_Room_cases, defF_ap]
theorem people_get : m_Room_people [roomD cs ps] hp = .ok (peopleD ps) hp := by
  simp [m_Room_people, b_Room_people, N_Room_people, defF_ap]
theorem text_get : m_Room_text [roomD cs ps] hp = .ok (sd (textL cs ps)) hp := by
  simp [m_Room_text, b_Room_text, N_Room_text, defF_ap]
def namesD : D := .tup (ps.map fun p => sd p.1)
@[simp] theorem tuple_lst (xs : List D) : tupleN [.lst xs] = some (.tup xs) := rfl
@[simp] theorem tuple_tup (xs : List D) : tupleN [.tup xs] = some (.tup xs) := rfl
theorem names_get (hl : ps.length ≤ 1000) : m_Room_names [roomD cs ps] hp = .ok (namesD ps) hp := by
  have c := lc_pair (i := 1) (j := 2) (e := varM 1) (f := iterM (getA (acc1 0 (.fld 1)) (varM 0))) (sl := [.val (roomD cs ps), .un, .un]) (hp := hp) (s := ⟨[.val (roomD cs ps), .un, .un], hp⟩) (A := fun p : Person => sd p.1) (B := fun p : Person => viewD p.2) (xs := ps) (fun p => sd p.1) (by simp; intros; rfl) hl rfl (by simp) (by simp) (by simp) (fun q hq => by simp)
  simp [m_Room_names, b_Room_names, N_Room_names, defF_ap, c, namesD]
end
/-! ### checks -/
section
variable {cs : Lot} {ps : List Person} (hp : List Cell)
@[simp] theorem nin_views (ps : List Person) (l : Lot) : ninD (sd l) (viewsD ps) = some (.bl (!decide (l ∈ ps.map (·.1)))) := nin_dict _ _ ps l
theorem check_name_ok {n : Lot} (h : n ∈ ps.map (·.1)) : m_Room_check_name [roomD cs ps, sd n] hp = .ok .non hp := by
  have := nin_views ps n
  rw [decide_eq_true h] at this
  simp [m_Room_check_name, b_Room_check_name, N_Room_check_name, defF_ap, this]
theorem check_case_ok {c : Nat} (h : c ∈ cs) : m_Room_check_case [roomD cs ps, ch c] hp = .ok .non hp := by
  have e := nin_chars c cs
  rw [decide_eq_true h] at e
  have l := len_sd (l := [c]) (by simp)
  simp [m_Room_check_case, b_Room_check_case, N_Room_check_case, defF_ap, e, ch_sd] at e l ⊢
  simp [l, ne_int, e]
theorem check_lot_ok {l : Lot} (hs : ∀ c ∈ l, c ∈ cs) (hu : l.Pairwise (· < ·)) (hl : l.length ≤ 1000) : m_Room_check_lot [roomD cs ps, sd l] hp = .ok .non hp := by
  have e := lot_ok l cs hl hp
  rw [decide_eq_true ⟨hs, hu⟩] at e
  simp [m_Room_check_lot, b_Room_check_lot, N_Room_check_lot, defF_ap, e]
/-- the view of a name -/
theorem ix_views {p : Person} (hn : (ps.map (·.1)).Nodup) (h : p ∈ ps) : ixD (viewsD ps) (sd p.1) = some (viewD p.2) := ix_dict (fun p : Person => p.1) (fun p => viewD p.2) hn h
theorem check_part_ok {p : Person} {l : Lot} (hn : (ps.map (·.1)).Nodup) (h : p ∈ ps) (hl : l ∈ p.2.map (·.1)) (hv : p.2.length ≤ 1000) (hch : ∀ q ∈ p.2, Chars q.1) (hcl : Chars l) : m_Room_check_part [roomD cs ps, sd p.1, sd l] hp = .ok .non hp := by
  have e := ix_views hn h
  have c := lc_name (i := 3) (e := lookM ixD (slM 3) (DP.ret (D.int 0))) (f := iterM (lookM ixD (datM (getA (acc1 0 (.fld 3)) (varM 0))) (varM 1))) (sl := [.val (roomD cs ps), .val (sd p.1), .val (sd l), .un]) (hp := hp) (s := ⟨[.val (roomD cs ps), .val (sd p.1), .val (sd l), .un], hp⟩) (E := partD) (xs := p.2) (fun q => sd q.1) (by simp [e]) hv rfl (by simp) (fun q hq => by simp)
  have n : ninD (sd l) (.lst (p.2.map fun q => sd q.1)) = some (.bl false) := by
    have ok1 := (eqb_sd hcl).up (m := 24) (by omega)
    have ok2 : (p.2.map fun q => sd q.1).all (D.ok 24) = true := by
      rw [List.all_eq_true]
      intro x hx
      obtain ⟨q, hq, rfl⟩ := List.mem_map.mp hx
      exact ((eqb_sd (hch q hq)).up (m := 24) (by omega)).ok
    simp only [ninD, inQ]
    rw [show deepest = 24 from rfl, ok1.ok, ok2]
    simp only [Bool.and_self, if_true]
    congr 2
    obtain ⟨q, hq, rfl⟩ := List.mem_map.mp hl
    rw [Bool.not_eq_false', memD, List.any_eq_true]
    exact ⟨sd q.1, List.mem_map_of_mem hq, (eqv_nb rfl rfl).mpr rfl⟩
  simp [m_Room_check_part, b_Room_check_part, N_Room_check_part, defF_ap, c, n]
/-! ### the part with a case -/
def partOf (v : View) (c : Nat) : Part := (v.filter fun p => decide (c ∈ p.1)).headD ([], none)
theorem partOf_mem {cs : Lot} {v : View} (h : (v.map (·.1)).flatten.Perm cs) {c : Nat} (hc : c ∈ cs) : partOf v c ∈ v ∧ c ∈ (partOf v c).1 := by
  have h1 := (h.mem_iff (a := c)).mpr hc
  obtain ⟨l, hl, hcl⟩ := List.mem_flatten.mp h1
  obtain ⟨p, hp, rfl⟩ := List.mem_map.mp hl
  have h2 : p ∈ v.filter fun p => decide (c ∈ p.1) := List.mem_filter.mpr ⟨hp, by simpa using hcl⟩
  unfold partOf
  cases e : v.filter fun p => decide (c ∈ p.1) with
  | nil => rw [e] at h2; simp at h2
  | cons q r =>
    have h3 : q ∈ v.filter fun p => decide (c ∈ p.1) := by rw [e]; exact List.mem_cons_self
    have h4 := List.mem_filter.mp h3
    exact ⟨h4.1, by simpa using h4.2⟩
theorem part_of_ok {p : Person} {c : Nat} (hn : (ps.map (·.1)).Nodup) (h : p ∈ ps) (hc : (p.2.map (·.1)).flatten.Perm cs) (hcc : c ∈ cs) (hv : p.2.length ≤ 1000) : m_Room_part_of [roomD cs ps, sd p.1, ch c] hp = .ok (partD (partOf p.2 c)) hp := by
  have e := ix_views hn h
  have cc := lc_nameF (i := 3) (t := tst (lookM2 inD (varM 2) (datM (lookM ixD (slM 3) (DP.ret (D.int 0)))))) (e := varM 3) (f := iterM (lookM ixD (datM (getA (acc1 0 (.fld 3)) (varM 0))) (varM 1))) (sl := [.val (roomD cs ps), .val (sd p.1), .val (ch c), .un]) (hp := hp) (s := ⟨[.val (roomD cs ps), .val (sd p.1), .val (ch c), .un], hp⟩) (E := partD) (xs := p.2) (fun q : Part => decide (c ∈ q.1)) partD (by simp [e]) hv rfl (by simp) (fun q hq => by simp [in_chars]) (fun q hq _ => by simp)
  obtain ⟨m1, m2⟩ := partOf_mem hc hcc
  have hne : ∃ q r, p.2.filter (fun q : Part => decide (c ∈ q.1)) = q :: r ∧ partOf p.2 c = q := by
    unfold partOf
    cases e : p.2.filter fun p => decide (c ∈ p.1) with
    | nil =>
      have : partOf p.2 c ∈ p.2.filter fun p => decide (c ∈ p.1) := List.mem_filter.mpr ⟨m1, by simpa using m2⟩
      rw [e] at this
      simp at this
    | cons q r => exact ⟨q, r, rfl, rfl⟩
  obtain ⟨q, r, h1, h2⟩ := hne
  rw [h1] at cc
  simp [m_Room_part_of, b_Room_part_of, N_Room_part_of, defF_ap, cc, h2]
end
end LK
set_option Elab.async false
set_option linter.all false
set_option maxRecDepth 100000
set_option maxHeartbeats 4000000
/-! SP8: sayings. -/
namespace LK
open PySem PySem.Spec PyProof.Rows L2 He DP

theorem enumL_map {α : Type} (f : α → D) : ∀ (xs : List α) (k : Nat), enumL k (xs.map f) = (xs.zipIdx k).map fun x => .tup [.int (x.2 : Nat), f x.1]
  | [], k => rfl
  | x :: xs, k => by
    rw [List.map_cons, enumL, enumL_map f xs, List.zipIdx_cons, List.map_cons]
theorem enum_sd (l : Lot) : enumOf [sd l] = some (l.zipIdx.map fun x => .tup [.int (x.2 : Nat), ch x.1]) := by
  simp only [enumOf, items_sd, Option.map, enumL_map]
theorem zipIdx_zip {α : Type} (d : α) : ∀ (l : Lot) (qs ps : List α), l.length = qs.length → (l.zipIdx ps.length).map (fun x => (x.1, (ps ++ qs).getD x.2 d)) = l.zip qs
  | [], qs, ps, _ => by simp
  | c :: l, [], ps, h => by simp at h
  | c :: l, q :: qs, ps, h => by
    have ih := zipIdx_zip d l qs (ps ++ [q]) (by simpa using h)
    simp only [List.length_append, List.length_cons, List.length_nil, List.append_assoc, List.singleton_append] at ih
    rw [List.zipIdx_cons, List.map_cons, List.zip_cons_cons, ih]
    congr 2
    simp [List.getD_eq_getElem?_getD]
theorem zip_idx (l : Lot) (qs : List Rat) (h : l.length = qs.length) : l.zipIdx.map (fun x => (x.1, qs.getD x.2 0)) = l.zip qs := zipIdx_zip 0 l qs [] h
def heardOf (p : Part) (qs : List Rat) (heard : Lot) : List (Nat × Rat) := (p.1.zip qs).filter fun x => decide (x.1 ∈ heard)
def sayF (p : Part) (ev heard : Lot) : Option Rat := match p.2 with
  | none => none
  | some qs => some (qsum (((heardOf p qs heard).filter fun x => decide (x.1 ∈ ev)).map (·.2)) / qsum ((heardOf p qs heard).map (·.2)))
def sayD : Option Rat → D
  | none => .non
  | some q => fr q
theorem sayD_inj {a b : Option Rat} (h : sayD a = sayD b) : a = b := by
  cases a with
  | none => cases b with
    | none => rfl
    | some q => simp [sayD, fr] at h
  | some p => cases b with
    | none => simp [sayD, fr] at h
    | some q => rw [fr_inj h]
theorem eqb_say (a : Option Rat) : Eqb 1 (sayD a) := by
  cases a with
  | none => exact eqb_non.up (by omega)
  | some q => exact eqb_fr q
theorem eq_say (a b : Option Rat) : eqD (sayD a) (sayD b) = some (.bl (decide (a = b))) := eq_iff (eqb_say a) (eqb_say b) (by omega) (by
  simp only [decide_eq_true_eq]
  exact ⟨fun h => by rw [h], sayD_inj⟩)
theorem filter_map_zip (lot : Lot) (qs : List Rat) (p : Nat → Bool) (h : lot.length = qs.length) : ((lot.zipIdx.filter fun x => p x.1).map fun x => (.tup [ch x.1, fr (qs.getD x.2 0)] : D)) = ((lot.zip qs).filter fun x => p x.1).map fun x => .tup [ch x.1, fr x.2] := by
  rw [← zip_idx lot qs h, List.filter_map, List.map_map]
  rfl
section
variable {cs : Lot} {ps : List Person} (hp : List Cell)
theorem qsum_pos {xs : List Rat} (h : ∀ q ∈ xs, 0 < q) (hne : xs ≠ []) : 0 < qsum xs := by
  cases xs with
  | nil => exact absurd rfl hne
  | cons q xs =>
    rw [qsum_cons]
    have h1 := h q List.mem_cons_self
    have h2 := qsum_nonneg (qs := xs) fun x hx => by have := h x (List.mem_cons_of_mem _ hx); grind
    grind
theorem heard_sz {p : Part} {qs : List Rat} {heard : Lot} (ht : TellOk p.1.length qs) {x : Nat × Rat} (hx : x ∈ heardOf p qs heard) : 0 < x.2 ∧ Sz x.2 30 ∧ x.1 ∈ p.1 := by
  have h1 := (List.mem_filter.mp hx).1
  have h2 := List.of_mem_zip h1
  exact ⟨ht.pos _ h2.2, ht.sz h2.2, h2.1⟩
theorem heard_ne {p : Part} {qs : List Rat} {heard : Lot} (ht : TellOk p.1.length qs) {c : Nat} (hc : c ∈ p.1) (hh : c ∈ heard) : heardOf p qs heard ≠ [] := by
  intro e
  obtain ⟨i, hi, rfl⟩ := List.getElem_of_mem hc
  have hl := ht.len
  have : (p.1[i], qs[i]'(by omega)) ∈ heardOf p qs heard := List.mem_filter.mpr ⟨by
    rw [List.mem_iff_getElem]
    exact ⟨i, by simp; omega, by simp⟩, by simpa using hh⟩
  rw [e] at this
  simp at this
theorem saying_ok {p : Person} {c : Nat} {ev heard : Lot} (hn : (ps.map (·.1)).Nodup) (h : p ∈ ps) (hc : (p.2.map (·.1)).flatten.Perm cs) (hcc : c ∈ cs) (hv : p.2.length ≤ 1000)
    (ht : ∀ q ∈ p.2, q.1.length ≤ 8 ∧ ∀ qs, q.2 = some qs → TellOk q.1.length qs) (hh : c ∈ heard) : m_saying_of [roomD cs ps, sd p.1, ch c, sd ev, sd heard] hp = .ok (sayD (sayF (partOf p.2 c) ev heard)) hp := by
  have e1 := part_of_ok hp hn h hc hcc hv
  obtain ⟨m1, m2⟩ := partOf_mem hc hcc
  generalize partOf p.2 c = q at *
  obtain ⟨hq8, hq⟩ := ht q m1
  obtain ⟨lot, t⟩ := q
  have tgt : ∀ (sl : List SV), tupleG [nameG 5, nameG 6] (partD (lot, t)) ⟨sl, hp⟩ = some ⟨(sl.set 5 (.val (sd lot))).set 6 (.val (toldD t)), hp⟩ := fun sl => rfl
  cases t with
  | none => simp [m_saying_of, b_saying_of, N_saying_of, defF_ap, e1, tgt, toldD, isNone_ap, sayF, sayD]
  | some qs =>
    have hT := hq qs rfl
    have hlen := hT.len
    simp only at hlen hq8 hT m2
    have sl0 : List SV := []
    have c1 := lc_pairF (i := 8) (j := 9) (t := tst (lookM2 inD (varM 9) (slM 4))) (e := tupM (consM (varM 9) (consM (lookM ixD (slM 6) (varM 8)) nilM))) (f := enumM (consM (varM 5) nilM)) (sl := [.val (roomD cs ps), .val (sd p.1), .val (ch c), .val (sd ev), .val (sd heard), .val (sd lot), .val (tupq qs), .un, .un, .un, .un, .un]) (hp := hp)
      (s := ⟨[.val (roomD cs ps), .val (sd p.1), .val (ch c), .val (sd ev), .val (sd heard), .val (sd lot), .val (tupq qs), .un, .un, .un, .un, .un], hp⟩) (A := fun x : Nat × Nat => .int (x.2 : Nat)) (B := fun x : Nat × Nat => ch x.1) (xs := lot.zipIdx) (fun x => decide (x.1 ∈ heard)) (fun x => .tup [ch x.1, fr (qs.getD x.2 0)])
      (by simp [enum_sd]) (by simp; omega) rfl (by simp) (by simp) (by simp) (fun x hx => by simp [in_chars]) (fun x hx _ => by
        have hx2 : x.2 < qs.length := by
          have := List.mem_zipIdx hx
          omega
        have : ixD (tupq qs) (.int (x.2 : Nat)) = some (fr (qs.getD x.2 0)) := by
          rw [tupq, ixD_tup, atI_nat, List.getElem?_map, List.getD_eq_getElem?_getD, List.getElem?_eq_getElem hx2]
          rfl
        simp [this])
    rw [filter_map_zip lot qs (fun x => decide (x ∈ heard)) (by omega)] at c1
    obtain ⟨S, hS⟩ : ∃ S, S = heardOf (lot, some qs) qs heard := ⟨_, rfl⟩
    rw [show (lot.zip qs).filter (fun x => decide (x.1 ∈ heard)) = S from hS.symm] at c1
    have hSl : S.length ≤ 8 := by
      rw [hS]
      refine Nat.le_trans (List.length_filter_le _ _) ?_
      simp
      omega
    have szS : ∀ x ∈ S, 0 < x.2 ∧ Sz x.2 30 := fun x hx => ⟨(heard_sz (p := (lot, some qs)) hT (hS ▸ hx)).1, (heard_sz (p := (lot, some qs)) hT (hS ▸ hx)).2.1⟩
    have hne : S ≠ [] := by rw [hS]; exact heard_ne (p := (lot, some qs)) hT m2 hh
    have c2 := lc_pairF (i := 9) (j := 11) (t := tst (lookM2 inD (varM 9) (slM 3))) (e := varM 11) (f := iterM (varM 7)) (sl := [.val (roomD cs ps), .val (sd p.1), .val (ch c), .val (sd ev), .val (sd heard), .val (sd lot), .val (tupq qs), .val (.lst (S.map fun x => .tup [ch x.1, fr x.2])), .un, .un, .un, .un]) (hp := hp)
      (s := ⟨[.val (roomD cs ps), .val (sd p.1), .val (ch c), .val (sd ev), .val (sd heard), .val (sd lot), .val (tupq qs), .val (.lst (S.map fun x => .tup [ch x.1, fr x.2])), .un, .un, .un, .un], hp⟩) (A := fun x : Nat × Rat => ch x.1) (B := fun x : Nat × Rat => fr x.2) (xs := S) (fun x => decide (x.1 ∈ ev)) (fun x => fr x.2)
      (by simp) (by omega) rfl (by simp) (by simp) (by simp) (fun x hx => by simp [in_chars]) (fun x hx _ => by simp)
    have t1 := total_ok (x := .lst ((S.filter fun x => decide (x.1 ∈ ev)).map fun x => fr x.2)) (qs := (S.filter fun x => decide (x.1 ∈ ev)).map (·.2)) (k := 30) (by simp) (fun q hq => by
      obtain ⟨x, hx, rfl⟩ := List.mem_map.mp hq
      exact (szS x (List.mem_filter.mp hx).1).2) (by
      have := List.length_filter_le (fun x : Nat × Rat => decide (x.1 ∈ ev)) S
      simp only [List.length_map]
      omega) hp
    have t2 := total_ok (x := .lst (S.map fun x => fr x.2)) (qs := S.map (·.2)) (k := 30) (by simp) (fun q hq => by
      obtain ⟨x, hx, rfl⟩ := List.mem_map.mp hq
      exact (szS x hx).2) (by simp only [List.length_map]; omega) hp
    have z1 : Sz (qsum ((S.filter fun x => decide (x.1 ∈ ev)).map (·.2))) 300 := (sz_qsum (k := 30) fun q hq => by
      obtain ⟨x, hx, rfl⟩ := List.mem_map.mp hq
      exact (szS x (List.mem_filter.mp hx).1).2).mono (by
      have := List.length_filter_le (fun x : Nat × Rat => decide (x.1 ∈ ev)) S
      simp only [List.length_map]
      omega)
    have z2 : Sz (qsum (S.map (·.2))) 300 := (sz_qsum (k := 30) fun q hq => by
      obtain ⟨x, hx, rfl⟩ := List.mem_map.mp hq
      exact (szS x hx).2).mono (by simp only [List.length_map]; omega)
    have pos : 0 < qsum (S.map (·.2)) := qsum_pos (fun q hq => by
      obtain ⟨x, hx, rfl⟩ := List.mem_map.mp hq
      exact (szS x hx).1) (by simpa using hne)
    have ov := over_ok z1 z2 pos (by omega) hp
    have c3 := lc_pair (i := 9) (j := 11) (e := varM 11) (f := iterM (varM 7)) (sl := [.val (roomD cs ps), .val (sd p.1), .val (ch c), .val (sd ev), .val (sd heard), .val (sd lot), .val (tupq qs), .val (.lst (S.map fun x => .tup [ch x.1, fr x.2])), .un, .un, .val (fr (qsum ((S.filter fun x => decide (x.1 ∈ ev)).map (·.2)))), .un]) (hp := hp)
      (s := ⟨[.val (roomD cs ps), .val (sd p.1), .val (ch c), .val (sd ev), .val (sd heard), .val (sd lot), .val (tupq qs), .val (.lst (S.map fun x => .tup [ch x.1, fr x.2])), .un, .un, .val (fr (qsum ((S.filter fun x => decide (x.1 ∈ ev)).map (·.2)))), .un], hp⟩) (A := fun x : Nat × Rat => ch x.1) (B := fun x : Nat × Rat => fr x.2) (xs := S) (fun x => fr x.2)
      (by simp) (by omega) rfl (by simp) (by simp) (by simp) (fun x hx => by simp)
    have goal : sayF (lot, some qs) ev heard = some (qsum ((S.filter fun x => decide (x.1 ∈ ev)).map (·.2)) / qsum (S.map (·.2))) := by rw [hS]; rfl
    rw [goal]
    have nn : isNoneD (tupq qs) .non = some (.bl false) := rfl
    simp [m_saying_of, b_saying_of, N_saying_of, defF_ap, e1, tgt, toldD, nn, c1, c2, t1, c3, t2, ov, sayD]
end
end LK
set_option Elab.async false
set_option linter.all false
set_option maxRecDepth 100000
set_option maxHeartbeats 4000000
/-! SP9: talks. -/
namespace LK
open PySem PySem.Spec PyProof.Rows L2 He DP

structure RoomOk (cs : Lot) (ps : List Person) : Prop where
  mk' ::
  kc : CasesOk cs
  kp : PeopleOk cs ps
theorem RoomOk.cs {cs : Lot} {ps : List Person} (R : RoomOk cs ps) : CasesOk cs := R.kc
theorem RoomOk.ps {cs : Lot} {ps : List Person} (R : RoomOk cs ps) : PeopleOk cs ps := R.kp
section
variable {cs : Lot} {ps : List Person}
theorem RoomOk.nod (R : RoomOk cs ps) : (ps.map (·.1)).Nodup := names_nodup R.ps
theorem RoomOk.view (R : RoomOk cs ps) {p : Person} (h : p ∈ ps) : ViewOk cs p.2 := R.ps.view p h
theorem RoomOk.vlen (R : RoomOk cs ps) {p : Person} (h : p ∈ ps) : p.2.length ≤ 8 := view_len R.cs (R.view h)
theorem RoomOk.tell (R : RoomOk cs ps) {p : Person} (h : p ∈ ps) : ∀ q ∈ p.2, q.1.length ≤ 8 ∧ ∀ qs, q.2 = some qs → TellOk q.1.length qs := fun q hq => ⟨lot_len R.cs.most ((R.view h).part q hq).sub ((R.view h).part q hq).up, ((R.view h).part q hq).told⟩
theorem RoomOk.plen (R : RoomOk cs ps) : ps.length ≤ 4 := R.ps.most
/-- a lot of the room's cases -/
structure LotOk (cs l : Lot) : Prop where
  sub : ∀ c ∈ l, c ∈ cs
  up : l.Pairwise (· < ·)
theorem LotOk.len {l : Lot} (h : LotOk cs l) (hc : CasesOk cs) : l.length ≤ 8 := lot_len hc.most h.sub h.up
theorem LotOk.filter {l : Lot} (h : LotOk cs l) (f : Nat → Bool) : LotOk cs (l.filter f) := ⟨fun c hc => h.sub c (List.mem_filter.mp hc).1, h.up.filter f⟩
theorem CasesOk.lot (h : CasesOk cs) : LotOk cs cs := ⟨fun _ h => h, h.up⟩
theorem LotOk.chars {l : Lot} (h : LotOk cs l) (hc : CasesOk cs) : Chars l := fun c h1 => hc.chars c (h.sub c h1)
def heardF (p : Person) (c : Nat) (ev heard : Lot) : Lot := heard.filter fun o => decide (sayF (partOf p.2 o) ev heard = sayF (partOf p.2 c) ev heard)
theorem saying_of_ok (R : RoomOk cs ps) {p : Person} (h : p ∈ ps) {c : Nat} {ev heard : Lot} (hh : c ∈ heard) (hl : LotOk cs heard) (hp : List Cell) : m_saying_of [roomD cs ps, sd p.1, ch c, sd ev, sd heard] hp = .ok (sayD (sayF (partOf p.2 c) ev heard)) hp :=
  saying_ok hp R.nod h (R.view h).all (hl.sub c hh) (by have := R.vlen h; omega) (R.tell h) hh
theorem join_chars (l : Lot) (h : l.length ≤ 1000) : joinN (sd []) [.lst (l.map ch)] = some (sd l) := by
  have := join_ok [] (l.map fun c => [c]) (by
    have := sum_le List.length 1 (l.map fun c => [c]) (by simp)
    simp only [List.length_nil, Nat.mul_zero, List.length_map] at this ⊢
    omega)
  rw [joinL_flat] at this
  have e : (l.map fun c => [c]).flatten = l := by
    clear this h
    induction l with
    | nil => rfl
    | cons c l ih => simp [ih]
  rw [e, List.map_map] at this
  exact this
theorem heard_behind_ok (R : RoomOk cs ps) {p : Person} (h : p ∈ ps) {c : Nat} {ev heard : Lot} (hh : c ∈ heard) (hl : LotOk cs heard) (hp : List Cell) : m_heard_behind [roomD cs ps, sd p.1, ch c, sd ev, sd heard] hp = .ok (sd (heardF p c ev heard)) hp := by
  have e1 := saying_of_ok R h (ev := ev) hh hl hp
  have hlen := hl.len R.cs
  have c1 := lc_nameF (i := 6) (t := tst (DP.bin eqD (callM m_saying_of (consM (varM 0) (consM (varM 1) (consM (varM 6) (consM (varM 3) (consM (varM 4) nilM)))))) (varM 5))) (e := varM 6) (f := iterM (varM 4)) (sl := [.val (roomD cs ps), .val (sd p.1), .val (ch c), .val (sd ev), .val (sd heard), .val (sayD (sayF (partOf p.2 c) ev heard)), .un]) (hp := hp)
    (s := ⟨[.val (roomD cs ps), .val (sd p.1), .val (ch c), .val (sd ev), .val (sd heard), .val (sayD (sayF (partOf p.2 c) ev heard)), .un], hp⟩) (E := ch) (xs := heard) (fun o => decide (sayF (partOf p.2 o) ev heard = sayF (partOf p.2 c) ev heard)) ch
    (by simp) (by omega) rfl (by simp) (fun o ho => by simp [saying_of_ok R h (ev := ev) ho hl hp, eq_say]) (fun o ho _ => by simp)
  have j := join_chars (heardF p c ev heard) (by
    have := List.length_filter_le (fun o => decide (sayF (partOf p.2 o) ev heard = sayF (partOf p.2 c) ev heard)) heard
    unfold heardF
    omega)
  unfold heardF at j ⊢
  generalize (heard.filter fun o => decide (sayF (partOf p.2 o) ev heard = sayF (partOf p.2 c) ev heard)) = F at *
  simp [m_heard_behind, b_heard_behind, N_heard_behind, defF_ap, e1, c1, j]
theorem heardF_ok {p : Person} {c : Nat} {ev heard : Lot} (hl : LotOk cs heard) : LotOk cs (heardF p c ev heard) := hl.filter _
theorem heardF_self {p : Person} {c : Nat} {ev heard : Lot} (h : c ∈ heard) : c ∈ heardF p c ev heard := List.mem_filter.mpr ⟨h, by simp⟩
theorem heardF_le (p : Person) (c : Nat) (ev heard : Lot) : (heardF p c ev heard).length ≤ heard.length := List.length_filter_le _ _
theorem heardF_lt {p : Person} {c : Nat} {ev heard : Lot} (h : heardF p c ev heard ≠ heard) : (heardF p c ev heard).length < heard.length := by
  rcases Nat.lt_or_ge (heardF p c ev heard).length heard.length with h1 | h1
  · exact h1
  · exact absurd (List.Sublist.eq_of_length_le List.filter_sublist h1) h

/-! ### the walk through a talk -/
structure WS where
  heard : Lot
  said : List (Lot × Option Rat)
  last : Nat
  silent : Nat
def spk (ps : List Person) (n : Nat) : Person := ps.getD (n % ps.length) ([], [])
def walkStep (ps : List Person) (c : Nat) (ev : Lot) (s : WS) : WS :=
  let p := spk ps s.said.length
  let later := heardF p c ev s.heard
  ⟨later, s.said ++ [(p.1, sayF (partOf p.2 c) ev s.heard)], if later = s.heard then s.last else s.said.length + 1, if later = s.heard then s.silent + 1 else 0⟩
def walkF (ps : List Person) (c : Nat) (ev : Lot) : Nat → WS → WS
  | 0, s => s
  | k + 1, s => if s.silent < ps.length then walkF ps c ev k (walkStep ps c ev s) else s
def saidD (x : Lot × Option Rat) : D := .tup [sd x.1, sayD x.2]
def mu (n : Nat) (s : WS) : Nat := s.heard.length * (n + 1) + (n - s.silent)
abbrev walkB : DS := (seqS (setS 8 (lookM ixD (slM 7) (DP.bin modI (look1M lenD (slM 4)) (look1M lenD (slM 7))))) (seqS (exprS (methM "list" (actW appendN) (slM 4) (consM (tupM (consM (varM 8) (consM (callM m_saying_of (consM (varM 0) (consM (varM 8) (consM (varM 1) (consM (varM 2) (consM (varM 3) (nilM))))))) (nilM)))) (nilM)))) (seqS (setS 9 (callM m_heard_behind (consM (varM 0) (consM (varM 8) (consM (varM 1) (consM (varM 2) (consM (varM 3) (nilM)))))))) (seqS (setS 6 (ifM (tst (DP.bin eqD (varM 9) (varM 3))) (DP.bin addD (varM 6) (DP.ret (.int 1))) (DP.ret (.int 0)))) (seqS (setS 5 (ifM (tst (DP.bin eqD (varM 9) (varM 3))) (varM 5) (look1M lenD (slM 4)))) (setS 3 (varM 9)))))))
abbrev walkC : DM Bool := tst (DP.bin ltD (varM 6) (look1M lenD (slM 7)))
def wsl (cs : Lot) (ps : List Person) (c : Nat) (ev : Lot) (s : WS) (w8 w9 : SV) : List SV := [.val (roomD cs ps), .val (ch c), .val (sd ev), .val (sd s.heard), .own (.lst (s.said.map saidD)), .val (.int (s.last : Nat)), .val (.int (s.silent : Nat)), .val (namesD ps), w8, w9]
theorem spk_mem {ps : List Person} (h : 0 < ps.length) (n : Nat) : spk ps n ∈ ps := by
  unfold spk
  have := Nat.mod_lt n h
  rw [List.getD_eq_getElem?_getD, List.getElem?_eq_getElem this]
  exact List.getElem_mem this
theorem walk_step (R : RoomOk cs ps) {c : Nat} {ev : Lot} {s : WS} (hl : LotOk cs s.heard) (hh : c ∈ s.heard) (hsd : s.said.length ≤ 1000) (w8 w9 : SV) (hp : List Cell) : ∃ v8 v9, walkB ⟨wsl cs ps c ev s w8 w9, hp⟩ = .nx ⟨wsl cs ps c ev (walkStep ps c ev s) v8 v9, hp⟩ := by
  have hpl : 0 < ps.length := R.ps.one
  have hm := spk_mem hpl s.said.length
  have e1 := saying_of_ok R hm (ev := ev) hh hl hp
  have e2 := heard_behind_ok R hm (ev := ev) hh hl hp
  have nl : lenD (namesD ps) = some (.int ps.length) := by simp [namesD]
  have md : modI (.int (s.said.length : Nat)) (.int ps.length) = some (.int (s.said.length % ps.length : Nat)) := by
    rw [mod_int (by omega)]
    simp
  have ix : ixD (namesD ps) (.int (s.said.length % ps.length : Nat)) = some (sd (spk ps s.said.length).1) := by
    have := Nat.mod_lt s.said.length hpl
    rw [namesD, ixD_tup, atI_nat, List.getElem?_map, List.getElem?_eq_getElem this, spk, List.getD_eq_getElem?_getD, List.getElem?_eq_getElem this]
    rfl
  have dn : deref hp (namesD ps) = some (namesD ps) := rfl
  have ap : ∀ d : D, appendN (.lst (s.said.map saidD)) [d] = some (.non, .lst (s.said.map saidD ++ [d])) := fun d => by
    simp only [appendN]
    rw [if_pos (by rw [List.length_map, sizeLine_eq]; omega)]
  have hch := hl.chars R.cs
  have hch2 := (heardF_ok (p := spk ps s.said.length) (c := c) (ev := ev) hl).chars R.cs
  have eqq := eq_sd hch2 hch
  refine ⟨.val (sd (spk ps s.said.length).1), .val (sd (heardF (spk ps s.said.length) c ev s.heard)), ?_⟩
  unfold wsl walkStep
  generalize spk ps s.said.length = p at *
  simp only [Int.natCast_emod] at md ix
  simp [walkB, nl, md, ix, dn, e1, e2, ap, saidD, eqq]
  by_cases hq : heardF p c ev s.heard = s.heard
  · have eqs := eq_sd hch hch
    simp [hq, eqs]
  · simp [hq, eqq]
theorem walk_loop (R : RoomOk cs ps) {c : Nat} {ev : Lot} {hp : List Cell} : ∀ (k N : Nat) (s : WS) (w8 w9 : SV), LotOk cs s.heard → c ∈ s.heard → s.silent ≤ ps.length → mu ps.length s ≤ k → s.said.length + k ≤ 1000 → k < N →
    ∃ v8 v9, whileL walkC walkB N ⟨wsl cs ps c ev s w8 w9, hp⟩ = .nx ⟨wsl cs ps c ev (walkF ps c ev k s) v8 v9, hp⟩ := by
  intro k
  have nl : lenD (namesD ps) = some (.int ps.length) := by simp [namesD]
  have dn : deref hp (namesD ps) = some (namesD ps) := rfl
  induction k with
  | zero =>
    intro N s w8 w9 hl hh hs hm hk hN
    have h0 : 0 < s.heard.length := List.length_pos_of_mem hh
    unfold mu at hm
    have : 0 < s.heard.length * (ps.length + 1) := Nat.mul_pos h0 (by omega)
    omega
  | succ k ih =>
    intro N s w8 w9 hl hh hs hm hk hN
    obtain ⟨N, rfl⟩ : ∃ M, N = M + 1 := ⟨N - 1, by omega⟩
    by_cases ht : s.silent < ps.length
    · obtain ⟨v8, v9, hb⟩ := walk_step R (ev := ev) hl hh (by omega) w8 w9 hp
      have hc : walkC ⟨wsl cs ps c ev s w8 w9, hp⟩ = .ok true ⟨wsl cs ps c ev s w8 w9, hp⟩ := by
        simp [wsl, walkC, nl, dn, ht]
      obtain ⟨u8, u9, hr⟩ := ih N (walkStep ps c ev s) v8 v9 (heardF_ok hl) (heardF_self hh) (by
        simp only [walkStep]
        split <;> omega) (by
        unfold mu at hm ⊢
        simp only [walkStep]
        by_cases hq : heardF (spk ps s.said.length) c ev s.heard = s.heard
        · simp only [hq, if_true]; omega
        · simp only [if_neg hq]
          have h1 := heardF_lt hq
          have h2 : (heardF (spk ps s.said.length) c ev s.heard).length * (ps.length + 1) + (ps.length + 1) ≤ s.heard.length * (ps.length + 1) := by
            rw [← Nat.succ_mul]
            exact Nat.mul_le_mul_right _ h1
          omega) (by simp only [walkStep, List.length_append, List.length_cons, List.length_nil]; omega) (by omega)
      refine ⟨u8, u9, ?_⟩
      rw [whileL_go hc hb, hr, walkF, if_pos ht]
    · have hc : walkC ⟨wsl cs ps c ev s w8 w9, hp⟩ = .ok false ⟨wsl cs ps c ev s w8 w9, hp⟩ := by
        simp [wsl, walkC, nl, dn]
        omega
      refine ⟨w8, w9, ?_⟩
      rw [whileL_stop hc, walkF, if_neg ht]
def walkOf (cs : Lot) (ps : List Person) (c : Nat) (ev : Lot) : WS := walkF ps c ev 100 ⟨cs, [], 0, 0⟩
theorem walkF_last (ps : List Person) (c : Nat) (ev : Lot) : ∀ (k : Nat) (s : WS), s.last ≤ s.said.length → (walkF ps c ev k s).last ≤ (walkF ps c ev k s).said.length
  | 0, s, h => h
  | k + 1, s, h => by
    rw [walkF]
    split
    · refine walkF_last ps c ev k _ ?_
      simp only [walkStep, List.length_append, List.length_cons, List.length_nil]
      split <;> omega
    · exact h
theorem walkF_heard (ps : List Person) {c : Nat} (ev : Lot) : ∀ (k : Nat) (s : WS), LotOk cs s.heard → c ∈ s.heard → LotOk cs (walkF ps c ev k s).heard ∧ c ∈ (walkF ps c ev k s).heard
  | 0, s, h, h2 => ⟨h, h2⟩
  | k + 1, s, h, h2 => by
    rw [walkF]
    split
    · exact walkF_heard ps ev k _ (heardF_ok h) (heardF_self h2)
    · exact ⟨h, h2⟩
def sayingsF (cs : Lot) (ps : List Person) (c : Nat) (ev : Lot) : List (Lot × Option Rat) := (walkOf cs ps c ev).said.take (walkOf cs ps c ev).last
theorem cut_take {α : Type} (xs : List α) (k : Nat) (h : k ≤ xs.length) : DP.cutD xs none (some (k : Int)) = xs.take k := by
  unfold DP.cutD
  rw [HT.sIx_nat, HT.sIx_none, List.drop_zero, Nat.sub_zero, Nat.min_eq_left h]

theorem chars_small {l : Lot} (h : LotOk cs l) (hc : CasesOk cs) : l.length ≤ 8 := h.len hc
theorem walk_ok (R : RoomOk cs ps) {c : Nat} {ev : Lot} (hc : c ∈ cs) (hp : List Cell) : m_walk_through [roomD cs ps, ch c, sd ev] hp = .ok (.tup [.tup ((sayingsF cs ps c ev).map saidD), sd (walkOf cs ps c ev).heard]) hp := by
  have hcl := R.cs.most
  have h4 := R.plen
  have e1 := cases_get cs ps hp
  have e2 := names_get cs ps hp (by omega)
  have hmu : mu ps.length ⟨cs, [], 0, 0⟩ ≤ 100 := by
    unfold mu
    simp only [Nat.sub_zero]
    have : cs.length * (ps.length + 1) ≤ 8 * 5 := Nat.mul_le_mul hcl (by omega)
    omega
  obtain ⟨v8, v9, e3⟩ := walk_loop R (ev := ev) (hp := hp) (c := c) 100 1000000000 ⟨cs, [], 0, 0⟩ .un .un R.cs.lot hc (Nat.zero_le _) hmu (by simp) (by omega)
  have hl := walkF_last ps c ev 100 ⟨cs, [], 0, 0⟩ (by simp)
  have ct := cut_take ((walkOf cs ps c ev).said.map saidD) (walkOf cs ps c ev).last (by rw [List.length_map]; exact hl)
  have sl : sliceD (.lst ((walkOf cs ps c ev).said.map saidD)) none (some ((walkOf cs ps c ev).last : Int)) = some (.lst ((sayingsF cs ps c ev).map saidD)) := by
    simp only [sliceD, ct, sayingsF, List.map_take]
  rw [show walkF ps c ev 100 ⟨cs, [], 0, 0⟩ = walkOf cs ps c ev from rfl] at e3
  simp only [walkC, walkB, wsl] at e3
  simp [m_walk_through, b_walk_through, N_walk_through, defF_ap, e1, e2]
  simp at e3
  rw [e3]
  simp [sl]
theorem asked_ok (R : RoomOk cs ps) {c : Nat} {ev : Lot} (hc : c ∈ cs) (he : LotOk cs ev) (hp : List Cell) : m_check_asked [roomD cs ps, ch c, sd ev] hp = .ok .non hp := by
  have e1 := check_room_ok cs ps hp
  have e2 := check_case_ok (ps := ps) hp hc
  have e3 := check_lot_ok (ps := ps) hp he.sub he.up (by have := he.len R.cs; omega)
  simp [m_check_asked, b_check_asked, N_check_asked, defF_ap, e1, e2, e3]
theorem sayings_ok (R : RoomOk cs ps) {c : Nat} {ev : Lot} (hc : c ∈ cs) (he : LotOk cs ev) (hp : List Cell) : m_sayings [roomD cs ps, ch c, sd ev] hp = .ok (.tup ((sayingsF cs ps c ev).map saidD)) hp := by
  have e1 := asked_ok R hc he hp
  have e2 := walk_ok R (ev := ev) hc hp
  simp [m_sayings, b_sayings, N_sayings, defF_ap, e1, e2]
theorem heard_ok (R : RoomOk cs ps) {c : Nat} {ev : Lot} (hc : c ∈ cs) (he : LotOk cs ev) (hp : List Cell) : m_heard_at_last [roomD cs ps, ch c, sd ev] hp = .ok (sd (walkOf cs ps c ev).heard) hp := by
  have e1 := asked_ok R hc he hp
  have e2 := walk_ok R (ev := ev) hc hp
  simp [m_heard_at_last, b_heard_at_last, N_heard_at_last, defF_ap, e1, e2]
def lastF (cs : Lot) (ps : List Person) (c : Nat) (ev : Lot) : List (Option Rat) := ps.map fun p => sayF (partOf p.2 c) ev (walkOf cs ps c ev).heard
theorem last_of_ok (R : RoomOk cs ps) {c : Nat} {ev : Lot} (hc : c ∈ cs) (hp : List Cell) : m_last_of [roomD cs ps, ch c, sd ev] hp = .ok (.tup ((lastF cs ps c ev).map sayD)) hp := by
  have h4 := R.plen
  have e2 := walk_ok R (ev := ev) hc hp
  have e3 := names_get cs ps hp (by omega)
  obtain ⟨hh, hch⟩ := walkF_heard ps ev 100 ⟨cs, [], 0, 0⟩ R.cs.lot hc
  have c1 := lc_name (i := 4) (e := callM m_saying_of (consM (varM 0) (consM (varM 4) (consM (varM 1) (consM (varM 2) (consM (varM 3) nilM)))))) (f := iterM (getA (acc1 0 (.prop m_Room_names)) (varM 0))) (sl := [.val (roomD cs ps), .val (ch c), .val (sd ev), .val (sd (walkOf cs ps c ev).heard), .un]) (hp := hp)
    (s := ⟨[.val (roomD cs ps), .val (ch c), .val (sd ev), .val (sd (walkOf cs ps c ev).heard), .un], hp⟩) (E := fun p : Person => sd p.1) (xs := ps) (fun p => sayD (sayF (partOf p.2 c) ev (walkOf cs ps c ev).heard)) (by simp [e3, namesD]) (by omega) rfl (by simp) (fun p h => by
      simp [saying_of_ok R h (ev := ev) hch hh hp]
      have := saying_of_ok R h (ev := ev) hch hh hp
      rw [show walkF ps c ev 100 ⟨cs, [], 0, 0⟩ = walkOf cs ps c ev from rfl] at this
      rw [this])
  simp [m_last_of, b_last_of, N_last_of, defF_ap, e2, c1, lastF]
theorem last_ok (R : RoomOk cs ps) {c : Nat} {ev : Lot} (hc : c ∈ cs) (he : LotOk cs ev) (hp : List Cell) : m_last_sayings [roomD cs ps, ch c, sd ev] hp = .ok (.tup ((lastF cs ps c ev).map sayD)) hp := by
  have e1 := asked_ok R hc he hp
  have e2 := last_of_ok R (ev := ev) hc hp
  simp [m_last_sayings, b_last_sayings, N_last_sayings, defF_ap, e1, e2]
/-- all that are not None are the same -/
def alikeF (xs : List (Option Rat)) : Bool := (xs.filter Option.isSome).all fun x => decide (x = ((xs.filter Option.isSome).head?.getD none))
theorem notNone_say (x : Option Rat) : notNoneD (sayD x) .non = some (.bl x.isSome) := by
  cases x <;> rfl
theorem alike_ok (xs : List (Option Rat)) (h : xs.length ≤ 1000) (hp : List Cell) : m_are_alike [.tup (xs.map sayD)] hp = .ok (.bl (alikeF xs)) hp := by
  have c1 := lc_nameF (i := 2) (t := tst (DP.bin notNoneD (varM 2) (DP.ret D.non))) (e := varM 2) (f := iterM (varM 0)) (sl := [.val (.tup (xs.map sayD)), .un, .un]) (hp := hp) (s := ⟨[.val (.tup (xs.map sayD)), .un, .un], hp⟩) (E := sayD) (xs := xs) Option.isSome sayD
    (by simp) h rfl (by simp) (fun x hx => by simp [notNone_say]) (fun x hx _ => by simp)
  have hl : (xs.filter Option.isSome).length ≤ 1000 := Nat.le_trans (List.length_filter_le _ _) h
  unfold alikeF
  generalize xs.filter Option.isSome = F at *
  have c2 := lc_name (i := 2) (e := DP.bin eqD (varM 2) (lookM ixD (slM 1) (DP.ret (D.int 0)))) (f := iterM (varM 1)) (sl := [.val (.tup (xs.map sayD)), .val (.lst (F.map sayD)), .un]) (hp := hp) (s := ⟨[.val (.tup (xs.map sayD)), .val (.lst (F.map sayD)), .un], hp⟩) (E := sayD) (xs := F) (fun x => .bl (decide (x = F.head?.getD none)))
    (by simp) hl rfl (by simp) (fun x hx => by
      cases F with
      | nil => simp at hx
      | cons y F =>
        simp [eq_say]
        exact decide_eq_decide.mpr Iff.rfl)
  have a := all_map (fun x : Option Rat => decide (x = F.head?.getD none)) F
  simp [m_are_alike, b_are_alike, N_are_alike, defF_ap, c1, c2, a]
theorem agree_ok (R : RoomOk cs ps) {ev : Lot} (he : LotOk cs ev) (hp : List Cell) : m_agree [roomD cs ps, sd ev] hp = .ok (.bl (cs.all fun c => alikeF (lastF cs ps c ev))) hp := by
  have hcl := R.cs.most
  have h4 := R.plen
  have e1 := check_room_ok cs ps hp
  have e3 := check_lot_ok (ps := ps) hp he.sub he.up (by have := he.len R.cs; omega)
  have e4 := cases_get cs ps hp
  have c1 := lc_name (i := 2) (e := callM m_are_alike (consM (callM m_last_of (consM (varM 0) (consM (varM 2) (consM (varM 1) nilM)))) nilM)) (f := iterM (getA (acc1 0 (.prop m_Room_cases)) (varM 0))) (sl := [.val (roomD cs ps), .val (sd ev), .un]) (hp := hp) (s := ⟨[.val (roomD cs ps), .val (sd ev), .un], hp⟩) (E := ch) (xs := cs) (fun c => .bl (alikeF (lastF cs ps c ev)))
    (by simp [e4]) (by omega) rfl (by simp) (fun c hc => by
      have a1 := last_of_ok R (ev := ev) hc hp
      have a2 := alike_ok (lastF cs ps c ev) (by simp [lastF]; omega) hp
      simp [a1, a2])
  have a := all_map (fun c => alikeF (lastF cs ps c ev)) cs
  simp [m_agree, b_agree, N_agree, defF_ap, e1, e3, c1, a]
theorem ints_map {α : Type} (f : α → Int) : ∀ xs : List α, intsOf (xs.map fun x => .int (f x)) = some (xs.map f)
  | [] => rfl
  | x :: xs => by simp [intsOf, ints_map f xs]
theorem most_ok (R : RoomOk cs ps) {ev : Lot} (he : LotOk cs ev) (hp : List Cell) : m_most_sayings [roomD cs ps, sd ev] hp = .ok (.int (maxI (cs.map fun c => ((sayingsF cs ps c ev).length : Int)))) hp := by
  have hcl := R.cs.most
  have h4 := R.plen
  have e1 := check_room_ok cs ps hp
  have e3 := check_lot_ok (ps := ps) hp he.sub he.up (by have := he.len R.cs; omega)
  have e4 := cases_get cs ps hp
  have c1 := lc_name (i := 2) (e := look1M lenD (datM (lookM ixD (datM (callM m_walk_through (consM (varM 0) (consM (varM 2) (consM (varM 1) nilM))))) (DP.ret (D.int 0))))) (f := iterM (getA (acc1 0 (.prop m_Room_cases)) (varM 0))) (sl := [.val (roomD cs ps), .val (sd ev), .un]) (hp := hp) (s := ⟨[.val (roomD cs ps), .val (sd ev), .un], hp⟩) (E := ch) (xs := cs) (fun c => .int ((sayingsF cs ps c ev).length : Int))
    (by simp [e4]) (by omega) rfl (by simp) (fun c hc => by
      have a1 := walk_ok R (ev := ev) hc hp
      simp [a1])
  have a := ints_map (fun c => ((sayingsF cs ps c ev).length : Int)) cs
  have mx : maxN [.lst (cs.map fun c => .int ((sayingsF cs ps c ev).length : Int))] = some (.int (maxI (cs.map fun c => ((sayingsF cs ps c ev).length : Int)))) := by
    simp only [maxN, a, Option.bind]
    rw [if_neg]
    intro h
    have := R.cs.one
    have h2 := congrArg List.length h
    simp at h2
    simp [h2] at this
  simp [m_most_sayings, b_most_sayings, N_most_sayings, defF_ap, e1, e3, c1, mx]
end
end LK
set_option Elab.async false
set_option linter.all false
set_option maxRecDepth 100000
set_option maxHeartbeats 4000000
/-! SPc: the cup, from which the first family of laws draws. -/
namespace LK
open PySem PySem.Spec PyProof.Rows L2 He DP

structure CupAt (hp : List Cell) (n : Nat) : Prop where
  ex : ∃ a b : Int, hp[n]? = some (.lst [.int a, .int b]) ∧ 0 ≤ a ∧ a < 2147483629 ∧ 0 ≤ b
/-- draws change the cup alone -/
def Ch (n : Nat) (hp hp' : List Cell) : Prop := hp'.length = hp.length ∧ ∀ m, m ≠ n → hp'[m]? = hp[m]?
theorem Ch.refl (n : Nat) (hp : List Cell) : Ch n hp hp := ⟨rfl, fun _ _ => rfl⟩
theorem Ch.trans {n : Nat} {a b c : List Cell} (h : Ch n a b) (h' : Ch n b c) : Ch n a c := ⟨h'.1.trans h.1, fun m hm => (h'.2 m hm).trans (h.2 m hm)⟩
theorem Ch.set (n : Nat) (hp : List Cell) (c : Cell) : Ch n hp (hp.set n c) := ⟨by simp, fun m hm => List.getElem?_set_ne (Ne.symm hm)⟩
theorem deref_ref {hp : List Cell} {n : Nat} {c : Cell} (h : hp[n]? = some c) : deref hp (.ref n) = some c.frz := by
  simp [deref, h]
theorem deref_ref' (hp : List Cell) (n : Nat) : deref hp (.ref n) = (hp[n]?).map Cell.frz := by
  simp only [deref]
@[simp] theorem ixG_ap (fP : DM Plc) (fi : DM D) (d : D) (s : DSt) : ixG fP fi d s = (match fP s with
  | .ok P s1 => (match fi s1 with
    | .ok y s2 => (cellP P s2).bind fun c => (storeC c y d).map fun c' => putP P c' s2
    | _ => none)
  | _ => none) := rfl
@[simp] theorem store_two0 (a b d : D) : storeC (.lst [a, b]) (.int 0) d = some (.lst [d, b]) := rfl
@[simp] theorem store_two1 (a b d : D) : storeC (.lst [a, b]) (.int 1) d = some (.lst [a, d]) := rfl
theorem tup_two (g1 g2 : DG) (a b : D) (s : DSt) : tupleG [g1, g2] (.tup [a, b]) s = (g1 a s).bind fun s1 => g2 b s1 := by
  simp only [tupleG, List.length_cons, List.length_nil, if_true, tupG]
  cases g1 a s with
  | none => rfl
  | some s1 =>
    simp only [Option.bind]
    cases g2 b s1 <;> rfl
theorem sip_ok {hp : List Cell} {n : Nat} (C : CupAt hp n) {top : Nat} (h0 : 0 < top) (h1 : top < 1073741824) : ∃ (d : Nat) (hp' : List Cell), m_law_sip [.ref n, .int top] hp = .ok (.int d) hp' ∧ d < top ∧ CupAt hp' n ∧ Ch n hp hp' := by
  obtain ⟨a, b, hn, ha0, ha1, hb⟩ := C.ex
  have hl : n < hp.length := (List.getElem?_eq_some_iff.mp hn).1
  have e1 : mulD (.int a) (.int 48271) = some (.int (a * 48271)) := mul_int (k := 40) (l := 40) (by unfold Bd; omega) (by unfold Bd; omega) (by omega)
  have e2 : modI (.int (a * 48271 + 13)) (.int 2147483629) = some (.int ((a * 48271 + 13) % 2147483629)) := mod_int (by omega)
  obtain ⟨a', ha'⟩ : ∃ a', a' = (a * 48271 + 13) % 2147483629 := ⟨_, rfl⟩
  have hr0 : 0 ≤ a' := by rw [ha']; exact Int.emod_nonneg _ (by omega)
  have hr1 : a' < 2147483629 := by rw [ha']; exact Int.emod_lt_of_pos _ (by omega)
  rw [← ha'] at e2
  have g1 : (hp.set n (.lst [.int a', .int b]))[n]? = some (.lst [.int a', .int b]) := List.getElem?_set_self hl
  have d0 : deref hp (.ref n) = some (.lst [.int a, .int b]) := deref_ref hn
  have d1 : deref (hp.set n (.lst [.int a', .int b])) (.ref n) = some (.lst [.int a', .int b]) := deref_ref g1
  by_cases hb0 : 0 < b
  · have hdm : divmodN [.int b, .int top] = some (.tup [.int (b / top), .int (b % top)]) := by
      simp only [divmodN]
      rw [if_pos (by omega)]
    have hm0 : 0 ≤ b % (top : Int) := Int.emod_nonneg _ (by omega)
    have hm1 : b % (top : Int) < top := Int.emod_lt_of_pos _ (by omega)
    refine ⟨(b % top).toNat, (hp.set n (.lst [.int a', .int b])).set n (.lst [.int a', .int (b / top)]), ?_, by omega, ⟨a', b / top, List.getElem?_set_self (by simpa using hl), hr0, hr1, Int.ediv_nonneg (by omega) (by omega)⟩, (Ch.set _ _ _).trans (Ch.set _ _ _)⟩
    have ht : ((b % (top : Int)).toNat : Int) = b % top := by omega
    rw [ht]
    simp [m_law_sip, b_law_sip, N_law_sip, defF_ap, d0, e1, e2, hn, d1, hb0, hdm, tup_two, g1]
  · have hdv : divI (.int a') (.int 1019) = some (.int (a' / 1019)) := div_int (k := 30) (by omega) (by unfold Bd; omega) (by omega)
    have hmd : modI (.int (a' / 1019)) (.int top) = some (.int (a' / 1019 % top)) := mod_int (by omega)
    have hm0 : 0 ≤ (a' / 1019) % (top : Int) := Int.emod_nonneg _ (by omega)
    have hm1 : (a' / 1019) % (top : Int) < top := Int.emod_lt_of_pos _ (by omega)
    refine ⟨((a' / 1019) % top).toNat, hp.set n (.lst [.int a', .int b]), ?_, by omega, ⟨a', b, g1, hr0, hr1, hb⟩, Ch.set _ _ _⟩
    have ht : (((a' / 1019) % (top : Int)).toNat : Int) = (a' / 1019) % top := by omega
    rw [ht]
    simp [m_law_sip, b_law_sip, N_law_sip, defF_ap, d0, e1, e2, hn, d1, hb0, hdv, hmd]

theorem mul_log {i j : Int} (h : i.natAbs.log2 + j.natAbs.log2 < 134000000) : mulD (.int i) (.int j) = some (.int (i * j)) := by
  simp only [mulD, mulI, DP.intOp]
  rw [if_pos h]
theorem log2_small {i : Int} {k : Nat} (h : i.natAbs < 2 ^ k) : i.natAbs.log2 ≤ k := log2_le h
theorem cup_loop {x0 x1 : SV} {hp : List Cell} : ∀ (l : List Int) (cell : Int) (w : SV), 0 ≤ cell → cell < 10000000000 →
    ∃ cell' w', forL (nameG 3) (setS 2 (DP.bin modI (appM intN (consM (DP.bin addD (DP.bin mulD (varM 2) (DP.ret (.int 31))) (varM 3)) (nilM))) (DP.ret (.int 1000000007)))) (l.map D.int) ⟨[x0, x1, .val (.int cell), w], hp⟩ = .nx ⟨[x0, x1, .val (.int cell'), w'], hp⟩ ∧ 0 ≤ cell' ∧ cell' < 10000000000
  | [], cell, w, h0, h1 => ⟨cell, w, rfl, h0, h1⟩
  | x :: l, cell, w, h0, h1 => by
    have m0 : 0 ≤ (cell * 31 + x) % 1000000007 := Int.emod_nonneg _ (by omega)
    have m1 : (cell * 31 + x) % 1000000007 < 1000000007 := Int.emod_lt_of_pos _ (by omega)
    obtain ⟨c', w', e, q⟩ := cup_loop (x0 := x0) (x1 := x1) (hp := hp) l ((cell * 31 + x) % 1000000007) (.val (.int x)) m0 (by omega)
    refine ⟨c', w', ?_, q⟩
    have e1 : mulD (.int cell) (.int 31) = some (.int (cell * 31)) := mul_int (k := 40) (l := 40) (by unfold Bd; omega) (by unfold Bd; omega) (by omega)
    have e2 : modI (.int (cell * 31 + x)) (.int 1000000007) = some (.int ((cell * 31 + x) % 1000000007)) := mod_int (by omega)
    rw [List.map_cons]
    unfold forL
    simp [e1, e2]
    exact e
theorem add_CupAt {hp : List Cell} {a b : Int} (h0 : 0 ≤ a) (h1 : a < 2147483629) (h2 : 0 ≤ b) : CupAt (hp ++ [.lst [.int a, .int b]]) hp.length := ⟨a, b, by simp, h0, h1, h2⟩
@[simp] theorem newM_ap (f : DM Cell) (s : DSt) : newM f s = (match f s with | .ok c s' => .ok (.ref s'.hp.length) ⟨s'.sl, s'.hp ++ [c]⟩ | .err x s' => .err x s' | .stuck => .stuck) := by
  unfold newM
  cases f s <;> rfl
@[simp] theorem slice_lst (xs : List D) (lo hi : Option Int) : sliceD (.lst xs) lo hi = some (.lst (DP.cutD xs lo hi)) := rfl
theorem cup_ok (ns : List Int) (h63 : ns.length ≤ 63) (hb : ∀ z ∈ ns, z.natAbs.log2 ≤ 1048576) (spot : Nat) (hs : spot < 100) (hp : List Cell) :
    ∃ hp', m_law_cup [.lst (ns.map D.int), .int spot] hp = .ok (.ref hp.length) hp' ∧ CupAt hp' hp.length := by
  have pw : powI (.int 10) (.int 18) = some (.int 1000000000000000000) := by
    simp only [powI, DP.intOp]
    rw [if_pos (by decide)]
    rfl
  -- the end, from the cell
  have fin : ∀ (cell : Int) (w : SV), cell.natAbs.log2 ≤ 1048576 → ∃ a b : Int, 0 ≤ a ∧ a < 2147483629 ∧ 0 ≤ b ∧
      (retS (newM (lstC (consM (DP.bin modI (appM intN (consM (DP.bin addD (DP.bin addD (DP.bin mulD (varM 2) (DP.ret (.int 4093))) (DP.bin mulD (DP.ret (.int 269)) (varM 1))) (DP.ret (.int 19))) (nilM))) (DP.ret (.int 2147483629))) (consM (ifM (orT (tst (DP.bin ltD (varM 2) (DP.ret (.int 0)))) (tst (DP.bin geD (varM 2) (DP.bin powI (DP.ret (.int 10)) (DP.ret (.int 18)))))) (appM absN (consM (varM 2) (nilM))) (DP.ret (.int 0))) (nilM)))))) ⟨[.val (.lst (ns.map D.int)), .val (.int spot), .val (.int cell), w], hp⟩ =
        .rt (.ref hp.length) ⟨[.val (.lst (ns.map D.int)), .val (.int spot), .val (.int cell), w], hp ++ [.lst [.int a, .int b]]⟩ := by
    intro cell w hc
    have e1 : mulD (.int cell) (.int 4093) = some (.int (cell * 4093)) := mul_log (by
      have : ((4093 : Int).natAbs.log2) ≤ 20 := by decide
      omega)
    have e2 : mulD (.int 269) (.int spot) = some (.int (269 * spot)) := mul_int (k := 40) (l := 40) (by unfold Bd; omega) (by unfold Bd; omega) (by omega)
    have e3 : modI (.int (cell * 4093 + 269 * spot + 19)) (.int 2147483629) = some (.int ((cell * 4093 + 269 * spot + 19) % 2147483629)) := mod_int (by omega)
    refine ⟨(cell * 4093 + 269 * spot + 19) % 2147483629, if cell < 0 ∨ 1000000000000000000 ≤ cell then cell.natAbs else 0, Int.emod_nonneg _ (by omega), Int.emod_lt_of_pos _ (by omega), by split <;> omega, ?_⟩
    by_cases h1 : cell < 0
    · simp [e1, e2, e3, h1]
    · by_cases h2 : 1000000000000000000 ≤ cell
      · simp [e1, e2, e3, h1, h2, pw]
      · simp [e1, e2, e3, h1, h2, pw]
  by_cases hlt : spot < ns.length
  · have hz := hb _ (List.getElem_mem hlt)
    have ix : ixD (.lst (ns.map D.int)) (.int spot) = some (.int ns[spot]) := by
      rw [ixD_lst, atI_nat, List.getElem?_map, List.getElem?_eq_getElem hlt]
      rfl
    obtain ⟨a, b, h0, h1, h2, e⟩ := fin ns[spot] .un hz
    refine ⟨hp ++ [.lst [.int a, .int b]], ?_, add_CupAt h0 h1 h2⟩
    have g : ¬ ((ns.length : Int) ≤ spot) := by omega
    simp only [m_law_cup, b_law_cup, N_law_cup, defF_ap, seqS_ap]
    simp only [List.map_cons, List.map_nil, List.length_cons, List.length_nil, List.replicate]
    simp [hlt, ix, g, forL]
    simp at e
    rw [e]
  · have e1 : mulD (.int 5167) (.int spot) = some (.int (5167 * spot)) := mul_int (k := 40) (l := 40) (by unfold Bd; omega) (by unfold Bd; omega) (by omega)
    obtain ⟨cell, w, el, hc0, hc1⟩ := cup_loop (x0 := .val (.lst (ns.map D.int))) (x1 := .val (.int spot)) (hp := hp) (DP.cutD ns none (some 2)) (5167 * spot + 90173) .un (by omega) (by omega)
    obtain ⟨a, b, h0, h1, h2, e⟩ := fin cell w (by
      have := log2_le (n := cell.natAbs) (k := 40) (by omega)
      omega)
    refine ⟨hp ++ [.lst [.int a, .int b]], ?_, add_CupAt h0 h1 h2⟩
    have g : (ns.length : Int) ≤ spot := by omega
    have cm : DP.cutD (ns.map D.int) none (some 2) = (DP.cutD ns none (some 2)).map D.int := by
      unfold DP.cutD
      simp [List.map_drop, List.map_take]
    simp only [m_law_cup, b_law_cup, N_law_cup, defF_ap, seqS_ap]
    simp only [List.map_cons, List.map_nil, List.length_cons, List.length_nil, List.replicate]
    simp [hlt, g, e1, cm]
    rw [el]
    simp
    simp at e
    rw [e]
end LK
set_option Elab.async false
set_option linter.all false
set_option maxRecDepth 100000
set_option maxHeartbeats 4000000
/-! SPd: comprehensions that draw; the ends of laws; lowest numbers by 900 turns; changed rooms; rooms looked at. -/
namespace LK
open PySem PySem.Spec PyProof.Rows L2 He DP

theorem set_sl (sl : List SV) (i : Nat) (a b : SV) : (sl.set i a).set i b = sl.set i b := List.set_set ..
/-- items that change the heap within I -/
theorem lc_heap {α β : Type} {i : Nat} {e : DM D} {f : DM (List D)} {sl : List SV} {hp : List Cell} {E : α → D} {s : DSt} {xs : List α} (F : α → β → D) (P : α → β → Prop) (I : List Cell → Prop) (hf : f s = .ok (xs.map E) ⟨sl, hp⟩) (hI : I hp) (hl : xs.length ≤ 1000) (hfr : freeOf sl [i] = true) (hi : i < sl.length)
    (h : ∀ x ∈ xs, ∀ hp, I hp → ∃ y hp', e ⟨sl.set i (.val (E x)), hp⟩ = .ok (F x y) ⟨sl.set i (.val (E x)), hp'⟩ ∧ P x y ∧ I hp') : ∃ (ys : List β) (hp' : List Cell), lcC [i] f (nameG i) (DP.ret true) e s = .ok (.lst (xs.zipWith F ys)) ⟨sl, hp'⟩ ∧ ys.length = xs.length ∧ (∀ xy ∈ xs.zip ys, P xy.1 xy.2) ∧ I hp' := by
  have go : ∀ (xs' : List α), (∀ x ∈ xs', x ∈ xs) → ∀ hp, I hp → ∃ (ys : List β) (hp' : List Cell), lcL (nameG i) (DP.ret true) e [i] (xs'.map E) ⟨sl.set i .un, hp⟩ = .ok (xs'.zipWith F ys) ⟨sl.set i .un, hp'⟩ ∧ ys.length = xs'.length ∧ (∀ xy ∈ xs'.zip ys, P xy.1 xy.2) ∧ I hp' := by
    intro xs'
    induction xs' with
    | nil => exact fun _ hp hI => ⟨[], hp, rfl, rfl, by simp, hI⟩
    | cons x xs' ih =>
      intro hx hp hI
      obtain ⟨y, hp1, e1, p1, I1⟩ := h x (hx x List.mem_cons_self) hp hI
      obtain ⟨ys, hp2, e2, l2, p2, I2⟩ := ih (fun z hz => hx z (List.mem_cons_of_mem _ hz)) hp1 I1
      refine ⟨y :: ys, hp2, ?_, by simp [l2], ?_, I2⟩
      · rw [List.map_cons]
        unfold lcL
        simp only [nameG_ap, List.set_set, ret_ap, e1, unL]
        rw [e2]
        rfl
      · intro xy hxy
        rw [List.zip_cons_cons] at hxy
        rcases List.mem_cons.mp hxy with rfl | hxy
        · exact p1
        · exact p2 xy hxy
  obtain ⟨ys, hp', e1, l1, p1, I1⟩ := go xs (fun _ h => h) hp hI
  refine ⟨ys, hp', ?_, l1, p1, I1⟩
  unfold lcC DP.bnd
  rw [hf]
  dsimp only
  rw [if_pos ⟨by rw [List.length_map, sizeLine_eq]; omega, hfr⟩]
  simp only [unL]
  rw [e1]
  simp only [backL, List.set_set]
  rw [set_getD sl i hi]
/-- the same where what comes does not hang on the item -/
theorem zipWith_right {α β γ : Type} (F : β → γ) : ∀ (xs : List α) (ys : List β), ys.length = xs.length → xs.zipWith (fun _ y => F y) ys = ys.map F
  | [], [], _ => rfl
  | [], _ :: _, h => by simp at h
  | _ :: _, [], h => by simp at h
  | x :: xs, y :: ys, h => by simp [zipWith_right F xs ys (by simpa using h)]
theorem mem_zip_right {α β : Type} : ∀ {xs : List α} {ys : List β} {y : β}, ys.length = xs.length → y ∈ ys → ∃ x, (x, y) ∈ xs.zip ys
  | [], ys, y, h, hy => by
    have : ys = [] := List.eq_nil_of_length_eq_zero h
    subst this
    simp at hy
  | x :: xs, [], y, h, hy => by simp at hy
  | x :: xs, z :: ys, y, h, hy => by
    rcases List.mem_cons.mp hy with rfl | hy
    · exact ⟨x, by simp⟩
    · obtain ⟨w, hw⟩ := mem_zip_right (xs := xs) (ys := ys) (by simpa using h) hy
      exact ⟨w, by simp [hw]⟩
theorem lc_draw {α β : Type} {i : Nat} {e : DM D} {f : DM (List D)} {sl : List SV} {hp : List Cell} {E : α → D} {s : DSt} {xs : List α} (F : β → D) (P : β → Prop) (I : List Cell → Prop) (hf : f s = .ok (xs.map E) ⟨sl, hp⟩) (hI : I hp) (hl : xs.length ≤ 1000) (hfr : freeOf sl [i] = true) (hi : i < sl.length)
    (h : ∀ x ∈ xs, ∀ hp, I hp → ∃ y hp', e ⟨sl.set i (.val (E x)), hp⟩ = .ok (F y) ⟨sl.set i (.val (E x)), hp'⟩ ∧ P y ∧ I hp') : ∃ (ys : List β) (hp' : List Cell), lcC [i] f (nameG i) (DP.ret true) e s = .ok (.lst (ys.map F)) ⟨sl, hp'⟩ ∧ ys.length = xs.length ∧ (∀ y ∈ ys, P y) ∧ I hp' := by
  obtain ⟨ys, hp', e1, l1, p1, I1⟩ := lc_heap (fun _ y => F y) (fun _ y => P y) I hf hI hl hfr hi h
  rw [zipWith_right F xs ys l1] at e1
  exact ⟨ys, hp', e1, l1, fun y hy => by
    obtain ⟨x, hx⟩ := mem_zip_right l1 hy
    exact p1 _ hx, I1⟩
/-- all([right(cup(script, spot)) for spot in range(max(2, min(len(script), k)))]) -/
theorem law_all {mr : DF} {k : Nat} (hk : k ≤ 50) (ns : List Int) (h63 : ns.length ≤ 63) (hb : ∀ z ∈ ns, z.natAbs.log2 ≤ 1048576) (hr : ∀ (hp : List Cell) (n : Nat), CupAt hp n → ∃ hp', mr [.ref n] hp = .ok (.bl true) hp') :
    ∃ hp, defF 2 (retS (appM allN (consM (frzM (lcC [1] (rangeM (consM (appM maxN (consM (DP.ret (.int 2)) (consM (appM minN (consM (look1M lenD (slM 0)) (consM (DP.ret (.int k)) (nilM)))) (nilM)))) (nilM))) (nameG 1) (DP.ret true) (callM mr (consM (callM m_law_cup (consM (varM 0) (consM (varM 1) (nilM)))) (nilM))))) (nilM)))) [.lst (ns.map D.int)] [] = .ok (.bl true) hp := by
  obtain ⟨q, hq⟩ : ∃ q : Int, q = if (k : Int) < ns.length then (k : Int) else ns.length := ⟨_, rfl⟩
  have hq0 : 0 ≤ q ∧ q ≤ 63 := by rw [hq]; split <;> omega
  obtain ⟨m, hm, hmk⟩ : ∃ m : Nat, (if q > 2 then q else 2 : Int) = m ∧ m ≤ 63 := ⟨(if q > 2 then q else 2 : Int).toNat, by split <;> omega, by split <;> omega⟩
  have mn : minN [.int ns.length, .int k] = some (.int q) := by rw [hq]; rfl
  have mx : maxN [.int 2, .int q] = some (.int m) := by rw [← hm]; rfl
  have rg := range_ok (n := m) (by omega)
  obtain ⟨ys, hp', e1, l1, p1, _⟩ := lc_draw (i := 1) (e := callM mr (consM (callM m_law_cup (consM (varM 0) (consM (varM 1) (nilM)))) (nilM))) (f := rangeM (consM (appM maxN (consM (DP.ret (.int 2)) (consM (appM minN (consM (look1M lenD (slM 0)) (consM (DP.ret (.int k)) (nilM)))) (nilM)))) (nilM))) (sl := [.val (.lst (ns.map D.int)), .un]) (hp := []) (s := ⟨[.val (.lst (ns.map D.int)), .un], []⟩) (E := fun i : Nat => .int i) (xs := List.range m) (fun _ : Unit => .bl true) (fun _ => True) (fun _ => True)
    (by simp [mn, mx, rg]) trivial (by simp; omega) rfl (by simp) (fun x hx hp _ => by
      have hx' : x < m := by simpa using hx
      obtain ⟨hp1, e1, c1⟩ := cup_ok ns h63 hb x (by omega) hp
      obtain ⟨hp2, e2⟩ := hr hp1 hp.length c1
      exact ⟨(), hp2, by simp [e1, e2], trivial, trivial⟩)
  refine ⟨hp', ?_⟩
  have a := all_map (fun _ : Unit => true) ys
  simp [defF_ap, e1, a]
end LK
set_option Elab.async false
set_option linter.all false
set_option maxRecDepth 100000
set_option maxHeartbeats 4000000
/-! SPe: lowest numbers by 900 turns; changed rooms; rooms looked at. -/
namespace LK
open PySem PySem.Spec PyProof.Rows L2 He DP

abbrev lowB : DS := (seqS (ifS (tst (DP.bin eqD (varM 3) (DP.ret (.int 0)))) (retS (tupM (consM (DP.bin divI (varM 0) (varM 2)) (consM (DP.bin divI (varM 1) (varM 2)) (nilM))))) (nxS)) (parS 2 3 (consM (varM 3) (consM (DP.bin modI (varM 2) (varM 3)) (nilM)))))
theorem low_loop {top bottom : Int} {hp : List Cell} {g : Nat} (hg : 0 < g) (hg2 : g < 2 ^ 400) : ∀ (k : Nat) (l : List D) (a b : Nat) (w : SV), b < 2 ^ k → 2 * k + 1 ≤ l.length → Nat.gcd a b = g →
    ∃ sl, forL (nameG 4) lowB l ⟨[.val (.int top), .val (.int bottom), .val (.int a), .val (.int b), w], hp⟩ = .rt (.tup [.int (top / g), .int (bottom / g)]) ⟨sl, hp⟩ := by
  have d1 : divI (.int top) (.int (g : Nat)) = some (.int (top / (g : Nat))) := div_int (k := 400) (by omega) (by unfold Bd; simpa using hg2) (by omega)
  have d2 : divI (.int bottom) (.int (g : Nat)) = some (.int (bottom / (g : Nat))) := div_int (k := 400) (by omega) (by unfold Bd; simpa using hg2) (by omega)
  have stop : ∀ (d : D) (l : List D) (w : SV), ∃ sl, forL (nameG 4) lowB (d :: l) ⟨[.val (.int top), .val (.int bottom), .val (.int (g : Nat)), .val (.int (0 : Nat)), w], hp⟩ = .rt (.tup [.int (top / g), .int (bottom / g)]) ⟨sl, hp⟩ := fun d l w => by
    refine ⟨[.val (.int top), .val (.int bottom), .val (.int (g : Nat)), .val (.int (0 : Nat)), .val d], ?_⟩
    unfold forL
    simp [lowB, eq_int, d1, d2]
  have step : ∀ (d : D) (l : List D) (x y : Nat) (w : SV), 0 < y → forL (nameG 4) lowB (d :: l) ⟨[.val (.int top), .val (.int bottom), .val (.int x), .val (.int y), w], hp⟩ = forL (nameG 4) lowB l ⟨[.val (.int top), .val (.int bottom), .val (.int y), .val (.int (x % y : Nat)), .val d], hp⟩ := fun d l x y w hy => by
    have hy' : (0 : Int) < y := by omega
    have m := mod_int (i := (x : Int)) hy'
    have hne : ¬ (y = 0) := by omega
    rw [forL]
    simp [lowB, eq_int, hne, m]
  intro k
  induction k with
  | zero =>
    intro l a b w hb hl e
    have : b = 0 := by simpa using hb
    subst this
    cases l with
    | nil => simp at hl
    | cons d l =>
      rw [Nat.gcd_zero_right] at e
      subst e
      exact stop d l w
  | succ k ih =>
    intro l a b w hb hl e
    by_cases h0 : b = 0
    · subst h0
      cases l with
      | nil => simp at hl
      | cons d l =>
        rw [Nat.gcd_zero_right] at e
        subst e
        exact stop d l w
    · have hbp : 0 < b := Nat.pos_of_ne_zero h0
      cases l with
      | nil => simp at hl
      | cons d l =>
        cases l with
        | nil => simp at hl
        | cons d' l =>
          simp only [List.length_cons] at hl
          rw [step d _ a b w hbp]
          by_cases h1 : a % b = 0
          · rw [h1]
            have : g = b := by rw [← e, Nat.gcd_comm, Nat.gcd_rec, h1, Nat.gcd_zero_left]
            subst this
            exact stop d' l _
          · have hp1 : 0 < a % b := Nat.pos_of_ne_zero h1
            rw [step d' _ b (a % b) _ hp1]
            have hlt : a % b < b := Nat.mod_lt _ hbp
            refine ih l (a % b) (b % (a % b)) _ ?_ (by omega) ?_
            · have h2 : b % (a % b) < a % b := Nat.mod_lt _ hp1
              have h3 : b % (a % b) + a % b ≤ b := by
                have := Nat.mod_add_div b (a % b)
                have hq : 1 ≤ b / (a % b) := (Nat.one_le_div_iff hp1).mpr (Nat.le_of_lt hlt)
                have : a % b ≤ (a % b) * (b / (a % b)) := Nat.le_mul_of_pos_right _ hq
                omega
              rw [Nat.pow_succ] at hb
              omega
            · have e1 : Nat.gcd a b = Nat.gcd (a % b) b := by rw [Nat.gcd_comm a b, Nat.gcd_rec]
              have e2 : Nat.gcd (a % b) b = Nat.gcd (b % (a % b)) (a % b) := Nat.gcd_rec _ _
              rw [← e, e1, e2, Nat.gcd_comm]
theorem low2_ok (a b : Int) (hb : 0 < b) (hk : Bd b 400) (hp : List Cell) : m_law_low_v2 [.int a, .int b] hp = .ok (fr (Rat.divInt a b)) hp := by
  have hg := gcd_pos (a := a) hb
  have hgb := gcd_bd (a := a) hb hk
  have hbn : (b.natAbs : Int) = b := by omega
  obtain ⟨sl, e⟩ := low_loop (top := a) (bottom := b) (hp := hp) (g := Int.gcd a b) (by omega) (by unfold Bd at hgb; simpa using hgb) 400 ((List.range 900).map fun i : Nat => .int (i : Nat)) a.natAbs b.natAbs .un hk (by simp) rfl
  rw [hbn] at e
  have rg := range_ok (n := 900) (by omega)
  rw [fr_divInt hb]
  simp only [lowB] at e
  have rg' : rangeOf [.int 900] = some ((List.range 900).map fun i : Nat => .int (i : Nat)) := rg
  generalize ((List.range 900).map fun i : Nat => (.int (i : Nat) : D)) = R at *
  simp [m_law_low_v2, b_law_low_v2, N_law_low_v2, defF_ap, rg', e]

/-! ### changed rooms -/
theorem lots_nodup {cs : Lot} {v : View} (hc : CasesOk cs) (h : ViewOk cs v) : (v.map (·.1)).Nodup := by
  have h1 : (v.map (·.1)).flatten.Nodup := (h.all.nodup_iff).mpr (nodup_up hc.up)
  have h2 := (List.pairwise_flatten.mp h1).2
  refine List.Pairwise.imp_of_mem (fun {a b} ha hb hd e => ?_) h2
  obtain ⟨p, hp, rfl⟩ := List.mem_map.mp ha
  have hne := (h.part p hp).ne
  obtain ⟨x, hx⟩ := List.exists_mem_of_ne_nil _ hne
  exact hd x hx x (e ▸ hx) rfl
def changeV (v : View) (l : Lot) (t : Option (List Rat)) : View := v.map fun q => (q.1, if q.1 = l then t else q.2)
def changeF (ps : List Person) (n l : Lot) (t : Option (List Rat)) : List Person := ps.map fun p => (p.1, if p.1 = n then changeV p.2 l t else p.2)
theorem changeV_fst (v : View) (l : Lot) (t : Option (List Rat)) : (changeV v l t).map (·.1) = v.map (·.1) := by
  simp [changeV, Function.comp_def]
theorem changeF_fst (ps : List Person) (n l : Lot) (t : Option (List Rat)) : (changeF ps n l t).map (·.1) = ps.map (·.1) := by
  simp [changeF, Function.comp_def]
theorem changeV_ok {cs : Lot} {v : View} {l : Lot} {t : Option (List Rat)} (h : ViewOk cs v) (ht : ∀ qs, t = some qs → TellOk l.length qs) : ViewOk cs (changeV v l t) := by
  refine ⟨fun p hp => ?_, by rw [changeV_fst]; exact h.all, by rw [changeV_fst]; exact h.up⟩
  obtain ⟨q, hq, rfl⟩ := List.mem_map.mp hp
  have k := h.part q hq
  refine ⟨k.ne, k.sub, k.up, fun qs e => ?_⟩
  simp only at e
  split at e
  · rename_i e2
    rw [e2]
    exact ht qs e
  · exact k.told qs e
theorem change_room {cs : Lot} {ps : List Person} (R : RoomOk cs ps) {n l : Lot} {t : Option (List Rat)} (ht : ∀ qs, t = some qs → TellOk l.length qs) : RoomOk cs (changeF ps n l t) := by
  have h := R.ps
  refine ⟨R.cs, by simp [changeF]; exact h.one, by simp [changeF]; exact h.most, fun p hp => ?_, fun p hp => ?_, by rw [changeF_fst]; exact h.up⟩
  · obtain ⟨q, hq, rfl⟩ := List.mem_map.mp hp
    exact h.name q hq
  · obtain ⟨q, hq, rfl⟩ := List.mem_map.mp hp
    simp only
    split
    · exact changeV_ok (h.view q hq) ht
    · exact h.view q hq
theorem name_chars {cs : Lot} {ps : List Person} (R : RoomOk cs ps) {n : Lot} (h : n ∈ ps.map (·.1)) : Chars n := by
  obtain ⟨p, hp, rfl⟩ := List.mem_map.mp h
  exact (R.ps.name p hp).chars
theorem lot_chars {cs : Lot} {ps : List Person} (R : RoomOk cs ps) {p : Person} (hp : p ∈ ps) {l : Lot} (h : l ∈ p.2.map (·.1)) : Chars l := by
  obtain ⟨q, hq, rfl⟩ := List.mem_map.mp h
  exact ((R.view hp).part q hq).chars R.cs
theorem changed_ok {cs : Lot} {ps : List Person} (R : RoomOk cs ps) {p : Person} {l : Lot} {t : Option (List Rat)} (hp : p ∈ ps) (hl : l ∈ p.2.map (·.1)) (ht : ∀ qs, t = some qs → TellOk l.length qs) (hh : List Cell) :
    m_Room_changed [roomD cs ps, sd p.1, sd l, toldD t] hh = .ok (roomD cs (changeF ps p.1 l t)) hh := by
  have h4 := R.plen
  have hv8 := R.vlen hp
  have e := ix_views R.nod hp
  have hlc := lot_chars R hp hl
  have hnc := (R.ps.name p hp).chars
  have R2 := change_room R (n := p.1) (l := l) ht
  have mk := room_ok R2.cs R2.ps hh
  have c1 := lc_pair (i := 5) (j := 6) (e := tupM (consM (varM 5) (consM (ifM (tst (DP.bin eqD (varM 5) (varM 2))) (varM 3) (varM 6)) nilM))) (f := iterM (lookM ixD (datM (getA (acc1 0 (.fld 3)) (varM 0))) (varM 1))) (sl := [.val (roomD cs ps), .val (sd p.1), .val (sd l), .val (toldD t), .un, .un, .un, .un]) (hp := hh) (s := ⟨[.val (roomD cs ps), .val (sd p.1), .val (sd l), .val (toldD t), .un, .un, .un, .un], hh⟩)
    (A := fun q : Part => sd q.1) (B := fun q : Part => toldD q.2) (xs := p.2) (fun q => partD (q.1, if q.1 = l then t else q.2)) (by simp [e]; intros; rfl) (by omega) rfl (by simp) (by simp) (by simp) (fun q hq => by
      have qc := ((R.view hp).part q hq).chars R.cs
      have eqq := eq_sd qc hlc
      by_cases hq2 : q.1 = l
      · simp [eqq, hq2, partD]
        have eqs := eq_sd hlc hlc
        simp [eqs]
      · simp [eqq, hq2, partD])
  have v1 : (.tup (p.2.map fun q => partD (q.1, if q.1 = l then t else q.2)) : D) = viewD (changeV p.2 l t) := by simp [viewD, changeV, Function.comp_def]
  have c2 := lc_pair (i := 5) (j := 6) (e := tupM (consM (varM 5) (consM (ifM (tst (DP.bin eqD (varM 5) (varM 1))) (varM 4) (varM 6)) nilM))) (f := iterM (getA (acc1 0 (.fld 1)) (varM 0))) (sl := [.val (roomD cs ps), .val (sd p.1), .val (sd l), .val (toldD t), .val (viewD (changeV p.2 l t)), .un, .un, .un]) (hp := hh) (s := ⟨[.val (roomD cs ps), .val (sd p.1), .val (sd l), .val (toldD t), .val (viewD (changeV p.2 l t)), .un, .un, .un], hh⟩)
    (A := fun q : Person => sd q.1) (B := fun q : Person => viewD q.2) (xs := ps) (fun q => personD (q.1, if q.1 = p.1 then changeV q.2 l t else q.2)) (by simp; intros; rfl) (by omega) rfl (by simp) (by simp) (by simp) (fun q hq => by
      have qc := (R.ps.name q hq).chars
      have eqq := eq_sd qc hnc
      by_cases hq2 : q.1 = p.1
      · have hqp : q = p := by
          have nd := R.nod
          obtain ⟨i, hi, rfl⟩ := List.getElem_of_mem hq
          obtain ⟨j, hj, rfl⟩ := List.getElem_of_mem hp
          have : (ps.map (·.1))[i]'(by simpa using hi) = (ps.map (·.1))[j]'(by simpa using hj) := by simpa using hq2
          have := (List.getElem_inj nd).mp this
          subst this
          rfl
        subst hqp
        have eqs := eq_sd qc qc
        simp [eqs, personD]
      · simp [eqq, hq2, personD])
  have v2 : (.tup (ps.map fun q => personD (q.1, if q.1 = p.1 then changeV q.2 l t else q.2)) : D) = peopleD (changeF ps p.1 l t) := by simp [peopleD, changeF, Function.comp_def]
  generalize (p.2.map fun q => partD (q.1, if q.1 = l then t else q.2)) = A at *
  generalize (ps.map fun q => personD (q.1, if q.1 = p.1 then changeV q.2 l t else q.2)) = B at *
  simp [m_Room_changed, b_Room_changed, N_Room_changed, defF_ap, c1, v1, c2, v2, mk]
theorem ix_told {cs : Lot} {ps : List Person} (R : RoomOk cs ps) {p : Person} (hp : p ∈ ps) {q : Part} (hq : q ∈ p.2) (hh : List Cell) : m_Room_told [roomD cs ps, sd p.1, sd q.1] hh = .ok (toldD q.2) hh := by
  have e := ix_views R.nod hp
  have e1 := check_name_ok (cs := cs) hh (List.mem_map_of_mem (f := (·.1)) hp)
  have e2 := check_part_ok (cs := cs) hh R.nod hp (List.mem_map_of_mem (f := (·.1)) hq) (by have := R.vlen hp; omega) (fun r hr => ((R.view hp).part r hr).chars R.cs) (((R.view hp).part q hq).chars R.cs)
  have nd := lots_nodup R.cs (R.view hp)
  have d : dictN [viewD p.2] = some (.dk (p.2.map fun q => nameK q.1) (p.2.map fun q => toldD q.2)) := dict_tup (fun q : Part => q.1) (fun q => toldD q.2) p.2 nd
  have ix := ix_dict (fun q : Part => q.1) (fun q => toldD q.2) nd hq
  simp only [dictD] at ix
  simp [m_Room_told, b_Room_told, N_Room_told, defF_ap, e, e1, e2, d, ix]
theorem without_ok {cs : Lot} {ps : List Person} (R : RoomOk cs ps) {p : Person} (hp : p ∈ ps) {q : Part} (hq : q ∈ p.2) (hs : q.2.isSome = true) (hh : List Cell) :
    m_Room_without_told [roomD cs ps, sd p.1, sd q.1] hh = .ok (roomD cs (changeF ps p.1 q.1 none)) hh := by
  have e1 := ix_told R hp hq hh
  have e2 := changed_ok R hp (List.mem_map_of_mem (f := (·.1)) hq) (t := none) (by simp) hh
  have nn : isNoneD (toldD q.2) .non = some (.bl false) := by
    obtain ⟨qs, h⟩ := Option.isSome_iff_exists.mp hs
    rw [h]; rfl
  simp only [toldD] at e2
  simp [m_Room_without_told, b_Room_without_told, N_Room_without_told, defF_ap, e1, nn, e2]
/-! ### rooms that are given: looked at -/
def tellB (n : Nat) (qs : List Rat) : Bool := decide (qs.length = n) && (qs.all (fun q => decide (0 < q) && decide (q.den ≤ 1000000000)) && decide (qsum qs = 1))
theorem tellB_ok {n : Nat} {qs : List Rat} (h : tellB n qs = true) : TellOk n qs := by
  simp only [tellB, Bool.and_eq_true, decide_eq_true_eq, List.all_eq_true] at h
  exact ⟨h.1, fun q hq => (h.2.1 q hq).1, fun q hq => (h.2.1 q hq).2, h.2.2⟩
def partB (cs : Lot) (p : Part) : Bool := decide (p.1 ≠ []) && (p.1.all (fun c => decide (c ∈ cs)) && (decide (p.1.Pairwise (· < ·)) && (match p.2 with | none => true | some qs => tellB p.1.length qs)))
theorem partB_ok {cs : Lot} {p : Part} (h : partB cs p = true) : PartOk cs p := by
  simp only [partB, Bool.and_eq_true, decide_eq_true_eq, List.all_eq_true] at h
  refine ⟨h.1, h.2.1, h.2.2.1, fun qs e => ?_⟩
  have h3 := h.2.2.2
  rw [e] at h3
  exact tellB_ok h3
def viewB (cs : Lot) (v : View) : Bool := v.all (partB cs) && (decide ((v.map (·.1)).flatten.Perm cs) && decide ((v.map (·.1)).Pairwise (· ≤ ·)))
theorem viewB_ok {cs : Lot} {v : View} (h : viewB cs v = true) : ViewOk cs v := by
  simp only [viewB, Bool.and_eq_true, decide_eq_true_eq, List.all_eq_true] at h
  exact ⟨fun p hp => partB_ok (h.1 p hp), h.2.1, h.2.2⟩
def casesB (cs : Lot) : Bool := decide (1 ≤ cs.length) && (decide (cs.length ≤ 8) && (cs.all (fun c => decide (97 ≤ c) && decide (c ≤ 122)) && decide (cs.Pairwise (· < ·))))
theorem casesB_ok {cs : Lot} (h : casesB cs = true) : CasesOk cs := by
  simp only [casesB, Bool.and_eq_true, decide_eq_true_eq, List.all_eq_true] at h
  exact ⟨h.1, h.2.1, h.2.2.1, h.2.2.2⟩
def nameB (n : Lot) : Bool := decide (1 ≤ n.length) && (decide (n.length ≤ 8) && n.all (fun c => decide (97 ≤ c) && decide (c ≤ 122)))
theorem nameB_ok {n : Lot} (h : nameB n = true) : NameOk n := by
  simp only [nameB, Bool.and_eq_true, decide_eq_true_eq, List.all_eq_true] at h
  exact ⟨h.1, h.2.1, h.2.2⟩
def peopleB (cs : Lot) (ps : List Person) : Bool := decide (1 ≤ ps.length) && (decide (ps.length ≤ 4) && (ps.all (fun p => nameB p.1 && viewB cs p.2) && decide ((ps.map (·.1)).Pairwise (· < ·))))
def roomB (cs : Lot) (ps : List Person) : Bool := casesB cs && peopleB cs ps
theorem roomB_ok {cs : Lot} {ps : List Person} (h : roomB cs ps = true) : RoomOk cs ps := by
  simp only [roomB, peopleB, Bool.and_eq_true, decide_eq_true_eq, List.all_eq_true] at h
  exact ⟨casesB_ok h.1, h.2.1, h.2.2.1, fun p hp => nameB_ok (h.2.2.2.1 p hp).1, fun p hp => viewB_ok (h.2.2.2.1 p hp).2, h.2.2.2.2⟩
end LK
set_option Elab.async false
set_option linter.all false
set_option maxRecDepth 100000
set_option maxHeartbeats 4000000
/-! k22: nobody learns anything; the facts, person by person. -/
namespace LK
open PySem PySem.Spec PyProof.Rows L2 He DP

def Still (cs : Lot) (ps : List Person) (c : Nat) (ev : Lot) : Prop := ∀ p ∈ ps, heardF p c ev cs = cs
theorem walkF_still {cs : Lot} {ps : List Person} {c : Nat} {ev : Lot} (h : Still cs ps c ev) (h0 : 0 < ps.length) : ∀ (k : Nat) (s : WS), s.heard = cs → s.last = 0 → (walkF ps c ev k s).heard = cs ∧ (walkF ps c ev k s).last = 0
  | 0, s, h1, h2 => ⟨h1, h2⟩
  | k + 1, s, h1, h2 => by
    rw [walkF]
    split
    · have e := h _ (spk_mem h0 s.said.length)
      refine walkF_still h h0 k _ ?_ ?_
      · simp only [walkStep, h1, e]
      · simp only [walkStep, h1, e, if_true, h2]
    · exact ⟨h1, h2⟩
theorem still_walk {cs : Lot} {ps : List Person} {c : Nat} {ev : Lot} (h : Still cs ps c ev) (h0 : 0 < ps.length) : (walkOf cs ps c ev).heard = cs ∧ sayingsF cs ps c ev = [] ∧ lastF cs ps c ev = ps.map fun p => sayF (partOf p.2 c) ev cs := by
  obtain ⟨h1, h2⟩ := walkF_still h h0 100 ⟨cs, [], 0, 0⟩ rfl rfl
  refine ⟨h1, ?_, ?_⟩
  · unfold sayingsF
    rw [show (walkOf cs ps c ev).last = 0 from h2, List.take_zero]
  · unfold lastF
    rw [show (walkOf cs ps c ev).heard = cs from h1]
def saysF (cs : Lot) (ps : List Person) (c : Nat) (ev : Lot) : List (Option Rat) := ps.map fun p => sayF (partOf p.2 c) ev cs

def T22 (t : Nat) : List Rat := [Rat.divInt t 12, Rat.divInt (12 - (t : Int)) 12]
/-- a person who sees both cases, and tells t of 12, or nothing -/
def view22 : Option Nat → View
  | none => [([103, 107], none)]
  | some t => [([103, 107], some (T22 t))]
def pers22 (k : Nat) (o : Option Nat) : Person := ([112, 97 + k], view22 o)
def say22 (x : Nat) : Option Nat → Option Rat
  | none => none
  | some t => (T22 t)[x]?
def one22 (o : Option Nat) : Bool :=
  viewB [103, 107] (view22 o) && ([103, 107].all fun c => ((([[103], [107], [], [103, 107]] : List Lot).all fun ev => decide (heardF ([], view22 o) c ev [103, 107] = [103, 107])) &&
    (decide (sayF (partOf (view22 o) c) [103] [103, 107] = say22 0 o) && (decide (sayF (partOf (view22 o) c) [107] [103, 107] = say22 1 o) &&
    (decide (sayF (partOf (view22 o) c) [] [103, 107] = o.map fun _ => 0) && decide (sayF (partOf (view22 o) c) [103, 107] [103, 107] = o.map fun _ => 1))))))
set_option maxRecDepth 1000000 in
theorem every22 : (none :: (List.range' 1 10).map some).all one22 = true := by decide +kernel
/-- who tells t of 12 (1 to 10), or nothing -/
def Fine (o : Option Nat) : Prop := ∀ t, o = some t → 1 ≤ t ∧ t ≤ 10
theorem one_of {o : Option Nat} (h : Fine o) : one22 o = true := by
  refine List.all_eq_true.mp every22 o ?_
  cases o with
  | none => exact List.mem_cons_self
  | some t =>
    have := h t rfl
    exact List.mem_cons_of_mem _ (List.mem_map.mpr ⟨t, by rw [List.mem_range'_1]; omega, rfl⟩)
/-- the room of these people -/
def ps22 (os : List (Option Nat)) : List Person := os.zipIdx.map fun x => pers22 x.2 x.1
theorem ps22_len (os : List (Option Nat)) : (ps22 os).length = os.length := by simp [ps22]
structure Os (os : List (Option Nat)) : Prop where
  one : 1 ≤ os.length
  most : os.length ≤ 4
  fine : ∀ o ∈ os, Fine o
theorem ps22_room {os : List (Option Nat)} (h : Os os) : RoomOk [103, 107] (ps22 os) := by
  have fine : ∀ p ∈ ps22 os, ∃ k o, p = pers22 k o ∧ k < os.length ∧ o ∈ os := fun p hp => by
    obtain ⟨x, hx, rfl⟩ := List.mem_map.mp hp
    have := List.mem_zipIdx hx
    refine ⟨x.2, x.1, rfl, by omega, ?_⟩
    rw [this.2.2]
    exact List.getElem_mem _
  refine ⟨casesB_ok (by decide +kernel), by rw [ps22_len]; exact h.one, by rw [ps22_len]; exact h.most, fun p hp => ?_, fun p hp => ?_, ?_⟩
  · obtain ⟨k, o, rfl, hk, _⟩ := fine p hp
    have := h.most
    exact ⟨by simp [pers22], by simp [pers22], fun c hc => by
      simp only [pers22, List.mem_cons, List.not_mem_nil, or_false] at hc
      omega⟩
  · obtain ⟨k, o, rfl, _, ho⟩ := fine p hp
    have g := one_of (h.fine o ho)
    simp only [one22, Bool.and_eq_true] at g
    exact viewB_ok g.1
  · rw [ps22, List.map_map, List.pairwise_map, List.pairwise_iff_getElem]
    intro i j hi hj hij
    simp only [List.length_zipIdx] at hi hj
    simp only [List.getElem_zipIdx, Function.comp, pers22]
    simp [List.cons_lt_cons_iff]
    omega
section
variable {os : List (Option Nat)} (h : Os os)
theorem pers_fact (h : Os os) {p : Person} (hp : p ∈ ps22 os) : ∃ o ∈ os, p.2 = view22 o ∧ one22 o = true := by
  obtain ⟨x, hx, rfl⟩ := List.mem_map.mp hp
  have hm : x.1 ∈ os := by
    have := List.mem_zipIdx hx
    rw [this.2.2]
    exact List.getElem_mem _
  exact ⟨x.1, hm, rfl, one_of (h.fine _ hm)⟩
theorem ps22_still (h : Os os) {c : Nat} (hc : c ∈ [103, 107]) {ev : Lot} (he : ev ∈ ([[103], [107], [], [103, 107]] : List Lot)) : Still [103, 107] (ps22 os) c ev := fun p hp => by
  obtain ⟨o, ho, e, g⟩ := pers_fact h hp
  simp only [one22, Bool.and_eq_true, List.all_eq_true, decide_eq_true_eq] at g
  have := (g.2 c hc).1 ev he
  unfold heardF at this ⊢
  rw [e]
  exact this
theorem ps22_says (h : Os os) {c : Nat} (ev : Lot) (f : Option Nat → Option Rat) (hf : ∀ o ∈ os, one22 o = true → sayF (partOf (view22 o) c) ev [103, 107] = f o) : saysF [103, 107] (ps22 os) c ev = os.map f := by
  unfold saysF ps22
  rw [List.map_map]
  have e : os = os.zipIdx.map (·.1) := by simp
  conv => rhs; rw [e, List.map_map]
  refine List.map_congr_left fun x hx => ?_
  have hm : x.1 ∈ os := by
    have := List.mem_zipIdx hx
    rw [this.2.2]
    exact List.getElem_mem _
  exact hf x.1 hm (one_of (h.fine _ hm))
theorem says0 (h : Os os) {c : Nat} (hc : c ∈ [103, 107]) : saysF [103, 107] (ps22 os) c [103] = os.map (say22 0) := ps22_says h _ _ fun o _ g => by
  simp only [one22, Bool.and_eq_true, List.all_eq_true, decide_eq_true_eq] at g
  exact (g.2 c hc).2.1
theorem says1 (h : Os os) {c : Nat} (hc : c ∈ [103, 107]) : saysF [103, 107] (ps22 os) c [107] = os.map (say22 1) := ps22_says h _ _ fun o _ g => by
  simp only [one22, Bool.and_eq_true, List.all_eq_true, decide_eq_true_eq] at g
  exact (g.2 c hc).2.2.1
theorem saysE (h : Os os) {c : Nat} (hc : c ∈ [103, 107]) : saysF [103, 107] (ps22 os) c [] = os.map fun o => o.map fun _ => 0 := ps22_says h _ _ fun o _ g => by
  simp only [one22, Bool.and_eq_true, List.all_eq_true, decide_eq_true_eq] at g
  exact (g.2 c hc).2.2.2.1
theorem saysA (h : Os os) {c : Nat} (hc : c ∈ [103, 107]) : saysF [103, 107] (ps22 os) c [103, 107] = os.map fun o => o.map fun _ => 1 := ps22_says h _ _ fun o _ g => by
  simp only [one22, Bool.and_eq_true, List.all_eq_true, decide_eq_true_eq] at g
  exact (g.2 c hc).2.2.2.2
end
/-- all told numbers are q: alike -/
theorem alike_const {xs : List (Option Rat)} (q : Rat) (h : ∀ x ∈ xs, x = none ∨ x = some q) : alikeF xs = true := by
  unfold alikeF
  have hh : ∀ x ∈ xs.filter Option.isSome, x = some q := fun x hx => by
    have := List.mem_filter.mp hx
    rcases h x this.1 with rfl | e
    · simp at this
    · exact e
  generalize xs.filter Option.isSome = F at *
  rw [List.all_eq_true]
  intro x hx
  rw [decide_eq_true_eq, hh x hx]
  cases F with
  | nil => simp at hx
  | cons y F => simp [hh y List.mem_cons_self]
/-- the first two are told unlike: not alike -/
theorem alike_two {a b : Rat} {xs : List (Option Rat)} (h : a ≠ b) : alikeF (some a :: some b :: xs) = false := by
  unfold alikeF
  simp
  exact fun z => absurd z.symm h
end LK
set_option Elab.async false
set_option linter.all false
set_option maxRecDepth 100000
set_option maxHeartbeats 4000000
namespace LK
open PySem PySem.Spec PyProof.Rows L2 He DP

theorem lit_gk : (Str.ofString "gk" : Str) = st [103, 107] := by decide +kernel
theorem lit_g : (Str.ofString "g" : Str) = st [103] := by decide +kernel
theorem lit_k : (Str.ofString "k" : Str) = st [107] := by decide +kernel
theorem lit_p : (Str.ofString "p" : Str) = st [112] := by decide +kernel
theorem lit_abcd : (Str.ofString "abcd" : Str) = st [97, 98, 99, 100] := by decide +kernel
theorem lit_e : (Str.ofString "" : Str) = st [] := rfl
/-- the numbers drawn: the first step -/
theorem tops22 {n : Nat} {hp : List Cell} (C : CupAt hp n) (sl : List SV) (hs : sl = [.val (.ref n), .un, .un, .un, .un, .un, .un, .un, .un, .un, .un, .un]) : ∃ (ys : List Nat) (hp' : List Cell), lcC [2] (rangeM (consM (DP.bin addD (DP.ret (.int 2)) (callM m_law_sip (consM (varM 0) (consM (DP.ret (.int 3)) (nilM))))) (nilM))) (nameG 2) (DP.ret true) (DP.bin addD (DP.ret (.int 1)) (callM m_law_sip (consM (varM 0) (consM (DP.ret (.int 9)) (nilM))))) ⟨sl, hp⟩ = .ok (.lst (ys.map fun y => .int (y : Nat))) ⟨sl, hp'⟩ ∧ 2 ≤ ys.length ∧ ys.length ≤ 4 ∧ ∀ y ∈ ys, 1 ≤ y ∧ y ≤ 9 := by
  obtain ⟨d, hp1, e1, hd, c1, _⟩ := sip_ok C (top := 3) (by omega) (by omega)
  have rg := range_ok (n := 2 + d) (by omega)
  obtain ⟨ys, hp', e2, l2, p2, _⟩ := lc_draw (i := 2) (e := DP.bin addD (DP.ret (.int 1)) (callM m_law_sip (consM (varM 0) (consM (DP.ret (.int 9)) (nilM))))) (f := rangeM (consM (DP.bin addD (DP.ret (.int 2)) (callM m_law_sip (consM (varM 0) (consM (DP.ret (.int 3)) (nilM))))) (nilM))) (sl := sl) (hp := hp1) (s := ⟨sl, hp⟩) (E := fun i : Nat => .int (i : Nat)) (xs := List.range (2 + d)) (fun y : Nat => .int (y : Nat)) (fun y => 1 ≤ y ∧ y ≤ 9) (fun hp => CupAt hp n)
    (by
      subst hs
      have e1' : m_law_sip [.ref n, .int 3] hp = .ok (.int d) hp1 := e1
      have rg' : rangeOf [.int (2 + (d : Int))] = some ((List.range (2 + d)).map fun i : Nat => .int (i : Nat)) := by
        have e : ((2 + d : Nat) : Int) = 2 + (d : Int) := by omega
        rw [e] at rg
        exact rg
      simp [e1', rg']) c1 (by simp; omega) (by subst hs; rfl) (by subst hs; simp) (fun x hx hq cq => by
      obtain ⟨y, hp2, e3, hy, c3, _⟩ := sip_ok cq (top := 9) (by omega) (by omega)
      have e3' : m_law_sip [.ref n, .int 9] hq = .ok (.int y) hp2 := e3
      refine ⟨1 + y, hp2, ?_, by omega, c3⟩
      subst hs
      simp [e3'])
  refine ⟨ys, hp', e2, ?_, ?_, p2⟩
  · rw [l2]; simp
  · rw [l2]; simp; omega

theorem store_cons1 (a b d : D) (xs : List D) : storeC (.lst (a :: b :: xs)) (.int 1) d = some (.lst (a :: d :: xs)) := by
  simp only [storeC, ixN]
  rw [if_pos (by omega), if_pos (by simp only [List.length_cons]; omega)]
  rfl
/-- the room of the numbers t -/
def persT (k t : Nat) : Person := pers22 k (some t)
def psT (ts : List Nat) : List Person := (List.range ts.length).map fun k => persT k (ts.getD k 0)
def loneT (ts : List Nat) : List Person := (List.range' 1 (ts.length - 1)).foldl (fun ps k => changeF ps [112, 97 + k] [103, 107] none) (psT ts)
theorem psT_eq : ∀ {ts : List Nat}, 2 ≤ ts.length → ts.length ≤ 4 → psT ts = ps22 (ts.map some)
  | [_, _], _, _ => rfl
  | [_, _, _], _, _ => rfl
  | [_, _, _, _], _, _ => rfl
  | [], h, _ => by simp at h
  | [_], h, _ => by simp at h
  | _ :: _ :: _ :: _ :: _ :: _, _, h => by simp at h
theorem loneT_eq : ∀ {ts : List Nat}, 2 ≤ ts.length → ts.length ≤ 4 → loneT ts = ps22 (some (ts.getD 0 0) :: List.replicate (ts.length - 1) none)
  | [_, _], _, _ => rfl
  | [_, _, _], _, _ => rfl
  | [_, _, _, _], _, _ => rfl
  | [], h, _ => by simp at h
  | [_], h, _ => by simp at h
  | _ :: _ :: _ :: _ :: _ :: _, _, h => by simp at h
theorem twelve {a b : Int} (h : a ≠ b) : Rat.divInt a 12 ≠ Rat.divInt b 12 := fun e => by
  have := (Rat.divInt_eq_divInt_iff (by decide) (by decide)).mp e
  omega
/-- what the room of the numbers tells -/
structure FactsP (ts : List Nat) (ps : List Person) : Prop where
  R : RoomOk [103, 107] ps
  say : ∀ c x : Nat, c ∈ [103, 107] → x ∈ [103, 107] → ∀ hp, m_sayings [roomD [103, 107] ps, ch c, sd [x]] hp = .ok (.tup []) hp
  heard : ∀ c x : Nat, c ∈ [103, 107] → x ∈ [103, 107] → ∀ hp, m_heard_at_last [roomD [103, 107] ps, ch c, sd [x]] hp = .ok (sd [103, 107]) hp
  last0 : ∀ c : Nat, c ∈ [103, 107] → ∀ hp, m_last_sayings [roomD [103, 107] ps, ch c, sd [103]] hp = .ok (.tup (ts.map fun t : Nat => fr (Rat.divInt (t : Int) 12))) hp
  last1 : ∀ c : Nat, c ∈ [103, 107] → ∀ hp, m_last_sayings [roomD [103, 107] ps, ch c, sd [107]] hp = .ok (.tup (ts.map fun t : Nat => fr (Rat.divInt (12 - (t : Int)) 12))) hp
  dis : ∀ x : Nat, x ∈ [103, 107] → ∀ hp, m_agree [roomD [103, 107] ps, sd [x]] hp = .ok (.bl false) hp
  most : ∀ x : Nat, x ∈ [103, 107] → ∀ hp, m_most_sayings [roomD [103, 107] ps, sd [x]] hp = .ok (.int 0) hp
  agr : ∀ ev : Lot, ev = [] ∨ ev = [103, 107] → ∀ hp, m_agree [roomD [103, 107] ps, sd ev] hp = .ok (.bl true) hp
  lone : ∀ hp, m_agree [roomD [103, 107] (loneT ts), sd [103]] hp = .ok (.bl true) hp
  lone1 : ∀ hp, m_last_sayings [roomD [103, 107] (loneT ts), ch 103, sd [107]] hp = .ok (.tup (fr (Rat.divInt (12 - (ts.getD 0 0 : Int)) 12) :: List.replicate (ts.length - 1) .non)) hp
abbrev Facts (ts : List Nat) : Prop := FactsP ts (psT ts)
theorem mem2 {x : Nat} (h : x ∈ [103, 107]) : x = 103 ∨ x = 107 := by simpa using h
theorem facts22 {ts : List Nat} (h2 : 2 ≤ ts.length) (h4 : ts.length ≤ 4) (hb : ∀ t ∈ ts, 1 ≤ t ∧ t ≤ 10) (h01 : ts.getD 1 0 = ts.getD 0 0 + 1) : Facts ts := by
  have O : Os (ts.map some) := ⟨by simp; omega, by simpa using h4, fun o ho t e => by
    obtain ⟨u, hu, rfl⟩ := List.mem_map.mp ho
    obtain rfl : u = t := by simpa using e
    exact hb u hu⟩
  have m0 : ts.getD 0 0 ∈ ts := by
    match ts, h2 with
    | a :: b :: _, _ => simp
  have OL : Os (some (ts.getD 0 0) :: List.replicate (ts.length - 1) none) := ⟨by simp, by simp; omega, fun o ho t e => by
    rcases List.mem_cons.mp ho with rfl | ho
    · obtain rfl : ts.getD 0 0 = t := by simpa using e
      exact hb _ m0
    · rw [List.eq_of_mem_replicate ho] at e
      simp at e⟩
  have R := ps22_room O
  have RL := ps22_room OL
  have lot : ∀ ev : Lot, ev ∈ ([[103], [107], [], [103, 107]] : List Lot) → LotOk [103, 107] ev := fun ev h => by
    simp only [List.mem_cons, List.not_mem_nil, or_false] at h
    rcases h with rfl | rfl | rfl | rfl
    all_goals exact ⟨by decide, by decide⟩
  have W : ∀ (ev : Lot), ev ∈ ([[103], [107], [], [103, 107]] : List Lot) → ∀ c ∈ [103, 107], (walkOf [103, 107] (ps22 (ts.map some)) c ev).heard = [103, 107] ∧ sayingsF [103, 107] (ps22 (ts.map some)) c ev = [] ∧ lastF [103, 107] (ps22 (ts.map some)) c ev = saysF [103, 107] (ps22 (ts.map some)) c ev := fun ev he c hc => still_walk (ps22_still O hc he) R.ps.one
  have one : ∀ x : Nat, x ∈ [103, 107] → [x] ∈ ([[103], [107], [], [103, 107]] : List Lot) := fun x h => by
    rcases mem2 h with rfl | rfl <;> decide
  have alike : ∀ ev ∈ ([[103], [107], [], [103, 107]] : List Lot), ∀ hp, m_agree [roomD [103, 107] (ps22 (ts.map some)), sd ev] hp = .ok (.bl ([103, 107].all fun c => alikeF (saysF [103, 107] (ps22 (ts.map some)) c ev))) hp := fun ev he hp => by
    rw [agree_ok R (lot ev he) hp]
    congr 2
    apply Bool.eq_iff_iff.mpr
    simp only [List.all_eq_true]
    constructor
    · intro h c hc
      rw [← (W ev he c hc).2.2]
      exact h c hc
    · intro h c hc
      rw [(W ev he c hc).2.2]
      exact h c hc
  have two : ∀ i : Nat, i = 0 ∨ i = 1 → alikeF ((ts.map some).map (say22 i)) = false := fun i hi => by
    match ts, h2, h01 with
    | a :: b :: r, _, h01 =>
      simp only [List.getD_cons_succ, List.getD_cons_zero] at h01
      subst h01
      rcases hi with rfl | rfl
      · exact alike_two (twelve (by omega))
      · exact alike_two (twelve (by omega))
  refine (psT_eq h2 h4 ▸ ⟨R, fun c x hc hx hp => ?_, fun c x hc hx hp => ?_, fun c hc hp => ?_, fun c hc hp => ?_, fun x hx hp => ?_, fun x hx hp => ?_, fun ev he hp => ?_, fun hp => ?_, fun hp => ?_⟩ : FactsP ts (psT ts))
  · rw [sayings_ok R hc (lot _ (one x hx)) hp, (W _ (one x hx) c hc).2.1]
    rfl
  · rw [heard_ok R hc (lot _ (one x hx)) hp, (W _ (one x hx) c hc).1]
  · rw [last_ok R hc (lot _ (by decide)) hp, (W _ (by decide) c hc).2.2, says0 O hc, List.map_map, List.map_map]
    rfl
  · rw [last_ok R hc (lot _ (by decide)) hp, (W _ (by decide) c hc).2.2, says1 O hc, List.map_map, List.map_map]
    rfl
  · rw [alike _ (one x hx) hp]
    have g : (103 : Nat) ∈ [103, 107] := by decide
    rcases mem2 hx with rfl | rfl
    · rw [List.all_cons, says0 O g, two 0 (.inl rfl)]; rfl
    · rw [List.all_cons, says1 O g, two 1 (.inr rfl)]; rfl
  · rw [most_ok R (lot _ (one x hx)) hp]
    have e1 := (W _ (one x hx) 103 (by decide)).2.1
    have e2 := (W _ (one x hx) 107 (by decide)).2.1
    simp only [List.map_cons, List.map_nil, e1, e2]
    rfl
  · rcases he with rfl | rfl
    · rw [alike _ (by decide) hp]
      congr 2
      rw [List.all_eq_true]
      intro c hc
      rw [saysE O hc]
      exact alike_const 0 fun x hx => by
        obtain ⟨o, _, rfl⟩ := List.mem_map.mp hx
        cases o <;> simp
    · rw [alike _ (by decide) hp]
      congr 2
      rw [List.all_eq_true]
      intro c hc
      rw [saysA O hc]
      exact alike_const 1 fun x hx => by
        obtain ⟨o, _, rfl⟩ := List.mem_map.mp hx
        cases o <;> simp
  · rw [loneT_eq h2 h4, agree_ok RL (lot _ (by decide)) hp]
    congr 2
    rw [List.all_eq_true]
    intro c hc
    rw [(still_walk (ps22_still OL hc (ev := [103]) (by decide)) RL.ps.one).2.2]
    have e := says0 OL hc
    unfold saysF at e
    rw [e]
    refine alike_const (Rat.divInt (ts.getD 0 0 : Nat) 12) fun x hx => ?_
    obtain ⟨o, ho, rfl⟩ := List.mem_map.mp hx
    rcases List.mem_cons.mp ho with rfl | ho
    · exact .inr rfl
    · rw [List.eq_of_mem_replicate ho]; exact .inl rfl
  · have g : (103 : Nat) ∈ [103, 107] := by decide
    have e := says1 OL g
    unfold saysF at e
    rw [loneT_eq h2 h4, last_ok RL (by decide) (lot _ (by decide)) hp, (still_walk (ps22_still OL g (ev := [107]) (by decide)) RL.ps.one).2.2, e]
    rw [List.map_cons, List.map_replicate, List.map_cons, List.map_replicate]
    rfl

theorem ix_abcd {k : Nat} (h : k < 4) : ixD (sd [97, 98, 99, 100]) (.int (k : Int)) = some (ch (97 + k)) := by
  refine ix_sd (k := k) (by simp) ?_
  have : k = 0 ∨ k = 1 ∨ k = 2 ∨ k = 3 := by omega
  rcases this with rfl | rfl | rfl | rfl <;> rfl
theorem add_sd {a b : Lot} (h : a.length + b.length ≤ 10000000) : addD (sd a) (sd b) = some (sd (a ++ b)) := by
  simp only [addD, sd, addS, DP.strOp, st_length]
  rw [if_pos (by rw [sizeLine_eq]; omega), st_append]
theorem d_gk : (.str (Str.ofString "gk") : D) = sd [103, 107] := by rw [lit_gk]; rfl
theorem d_g : (.str (Str.ofString "g") : D) = sd [103] := by rw [lit_g]; rfl
theorem d_k : (.str (Str.ofString "k") : D) = sd [107] := by rw [lit_k]; rfl
theorem d_p : (.str (Str.ofString "p") : D) = sd [112] := by rw [lit_p]; rfl
theorem d_abcd : (.str (Str.ofString "abcd") : D) = sd [97, 98, 99, 100] := by rw [lit_abcd]; rfl
abbrev loneB : DS := setS 11 (objM 0 m_Room_without_told (varM 11) (consM (DP.bin addD (DP.ret (.str "p")) (lookM ixD (datM (DP.ret (.str "abcd"))) (varM 2))) (consM (DP.ret (.str "gk")) (nilM))))
theorem change_other {ps : List Person} {n l : Lot} {t : Option (List Rat)} {p : Person} (h : p ∈ ps) (hn : p.1 ≠ n) : p ∈ changeF ps n l t := by
  refine List.mem_map.mpr ⟨p, h, ?_⟩
  rw [if_neg hn]
theorem lone_loop {hp : List Cell} {x0 x1 x3 x4 x5 x6 x7 x8 x9 x10 : SV} : ∀ (m k : Nat) (ps : List Person) (w : SV), RoomOk [103, 107] ps → (∀ j, k ≤ j → j < k + m → ∃ qs, (([112, 97 + j], [([103, 107], some qs)]) : Person) ∈ ps) → k + m ≤ 4 →
    ∃ w', forL (nameG 2) loneB ((List.range' k m).map fun i : Nat => .int (i : Int)) ⟨[x0, x1, w, x3, x4, x5, x6, x7, x8, x9, x10, .val (roomD [103, 107] ps)], hp⟩ = .nx ⟨[x0, x1, w', x3, x4, x5, x6, x7, x8, x9, x10, .val (roomD [103, 107] ((List.range' k m).foldl (fun ps k => changeF ps [112, 97 + k] [103, 107] none) ps))], hp⟩
  | 0, k, ps, w, _, _, _ => ⟨w, rfl⟩
  | m + 1, k, ps, w, R, h, hk => by
    obtain ⟨qs, hq⟩ := h k (Nat.le_refl _) (by omega)
    have e := without_ok R hq (q := ([103, 107], some qs)) (by simp) rfl hp
    simp only at e
    have ix := ix_abcd (k := k) (by omega)
    have ad := add_sd (a := [112]) (b := [97 + k]) (by simp)
    obtain ⟨w', ih⟩ := lone_loop (hp := hp) (x0 := x0) (x1 := x1) (x3 := x3) (x4 := x4) (x5 := x5) (x6 := x6) (x7 := x7) (x8 := x8) (x9 := x9) (x10 := x10) m (k + 1) (changeF ps [112, 97 + k] [103, 107] none) (.val (.int k)) (change_room R (by simp)) (fun j h1 h2 => by
      obtain ⟨qs, hq⟩ := h j (by omega) (by omega)
      refine ⟨qs, change_other hq ?_⟩
      simp
      omega) (by omega)
    refine ⟨w', ?_⟩
    rw [List.range'_succ, List.map_cons, List.foldl_cons]
    rw [forL]
    simp only [loneB] at ih ⊢
    simp [d_p, d_abcd, d_gk, ix, ch_sd, ad, e] at ih ⊢
    exact ih
theorem ne_same {n : Nat} {x : D} (h : Eqb n x) (hn : n ≤ 24) : neD x x = some (.bl false) := ne_iff h h hn (by simp)
theorem eq_same {n : Nat} {x : D} (h : Eqb n x) (hn : n ≤ 24) : eqD x x = some (.bl true) := eq_iff h h hn (by simp)
theorem eqb_frs {α : Type} (f : α → Rat) (xs : List α) : Eqb 2 (.tup (xs.map fun x => fr (f x))) := eqb_tup fun x hx => by
  obtain ⟨y, _, rfl⟩ := List.mem_map.mp hx
  exact eqb_fr _
theorem rep_none (k : Nat) (h : 1 ≤ k) (h2 : k ≤ 10) : mulD (.tup [.non]) (.int (k : Int)) = some (.tup (List.replicate k .non)) := by
  simp only [mulD, repT]
  by_cases h1 : (k : Int) = 1
  · rw [if_pos h1]
    have : k = 1 := by omega
    subst this
    rfl
  · rw [if_neg h1, if_pos ⟨by simp, by omega, by omega, by simp⟩]
    congr 2
    have : (k : Int).toNat = k := by omega
    rw [this]
    clear this h1 h h2
    induction k with
    | zero => rfl
    | succ k ih => rw [List.replicate_succ, List.flatten_cons, ih, List.replicate_succ]; rfl
end LK
set_option Elab.async false
set_option linter.all false
set_option maxRecDepth 100000
set_option maxHeartbeats 4000000
namespace LK
open PySem PySem.Spec PyProof.Rows L2 He DP
theorem seqS_nx {f g : DS} {s s' : DSt} (h : f s = .nx s') : seqS f g s = g s' := by rw [seqS_ap, h]
theorem pers_eq (k t : Nat) : personD (persT k t) = .tup [sd [112, 97 + k], .tup [.tup [sd [103, 107], tupq (T22 t)]]] := rfl
theorem pair22 {n : Nat} {hp : List Cell} (C : CupAt hp n) : ∃ hp', m_law_pair_right [.ref n] hp = .ok (.bl true) hp' := by
  obtain ⟨ys, hp1, c1, hl2, hl4, hy⟩ := tops22 C _ rfl
  match ys, hl2 with
  | [], hl2 => simp at hl2
  | [_], hl2 => simp at hl2
  | y0 :: y1 :: rest, _ =>
  have y0b := hy y0 (by simp)
  have hrest : ∀ y ∈ rest, 1 ≤ y ∧ y ≤ 9 := fun y h => hy y (by simp [h])
  obtain ⟨ts, hts⟩ : ∃ ts, ts = y0 :: (y0 + 1) :: rest := ⟨_, rfl⟩
  have tl : ts.length = rest.length + 2 := by rw [hts]; rfl
  simp only [List.length_cons] at hl4
  have tb : ∀ t ∈ ts, 1 ≤ t ∧ t ≤ 10 := fun t h => by
    rw [hts] at h
    simp only [List.mem_cons] at h
    rcases h with rfl | rfl | h
    · omega
    · omega
    · have := hrest t h; omega
  have F : Facts ts := facts22 (by omega) (by omega) tb (by rw [hts]; rfl)
  refine ⟨hp1, ?_⟩
  simp only [m_law_pair_right, b_law_pair_right, N_law_pair_right, defF_ap, List.map_cons, List.map_nil, List.length_cons, List.length_nil, List.replicate, List.cons_append, List.nil_append, Nat.zero_add, Nat.reduceAdd, Nat.reduceSub, d_gk, d_g, d_k, d_p, d_abcd, sd_empty]
  rw [seqS_nx (s' := ⟨[.val (.ref n), .own (.lst ((y0 :: y1 :: rest).map fun y : Nat => .int (y : Nat))), .un, .un, .un, .un, .un, .un, .un, .un, .un, .un], hp1⟩) (by simp only [ownS_ap, c1]; rfl)]
  rw [seqS_nx (s' := ⟨[.val (.ref n), .own (.lst (ts.map fun y : Nat => .int (y : Nat))), .un, .un, .un, .un, .un, .un, .un, .un, .un, .un], hp1⟩) (by rw [hts]; simp [store_cons1])]
  have c3 := lc_name (i := 4) (e := tupM (consM (callM m_law_low_v2 (consM (varM 4) (consM (DP.ret (.int 12)) (nilM)))) (consM (callM m_law_low_v2 (consM (DP.bin subI (DP.ret (.int 12)) (varM 4)) (consM (DP.ret (.int 12)) (nilM)))) (nilM)))) (f := iterM (varM 1)) (sl := [.val (.ref n), .val (.lst (ts.map fun y : Nat => .int (y : Nat))), .un, .un, .un, .un, .un, .un, .un, .un, .un, .un]) (hp := hp1) (s := ⟨[.val (.ref n), .own (.lst (ts.map fun y : Nat => .int (y : Nat))), .un, .un, .un, .un, .un, .un, .un, .un, .un, .un], hp1⟩) (E := fun y : Nat => .int (y : Nat)) (xs := ts) (fun t => tupq (T22 t))
    (by simp) (by omega) rfl (by simp) (fun t ht => by
      have a1 := low2_ok (t : Int) 12 (by omega) (Bd.mono (j := 10) (by unfold Bd; omega) (by omega)) hp1
      have a2 := low2_ok (12 - (t : Int)) 12 (by omega) (Bd.mono (j := 10) (by unfold Bd; omega) (by omega)) hp1
      simp [a1, a2, tupq, T22])
  rw [seqS_nx (s' := ⟨[.val (.ref n), .val (.lst (ts.map fun y : Nat => .int (y : Nat))), .un, .val (.lst (ts.map fun t => tupq (T22 t))), .un, .un, .un, .un, .un, .un, .un, .un], hp1⟩) (by simp [c3])]
  have tlen : lenD (.lst (ts.map fun y : Nat => .int (y : Nat))) = some (.int ts.length) := by simp
  have rg := range_ok (n := ts.length) (by omega)
  have c5 := lc_name (i := 2) (e := tupM (consM (DP.bin addD (DP.ret (sd [112])) (lookM ixD (datM (DP.ret (sd [97, 98, 99, 100]))) (varM 2))) (consM (tupM (consM (tupM (consM (DP.ret (sd [103, 107])) (consM (lookM ixD (slM 3) (varM 2)) (nilM)))) (nilM))) (nilM)))) (f := rangeM (consM (look1M lenD (slM 1)) (nilM))) (sl := [.val (.ref n), .val (.lst (ts.map fun y : Nat => .int (y : Nat))), .un, .val (.lst (ts.map fun t => tupq (T22 t))), .un, .un, .un, .un, .un, .un, .un, .un]) (hp := hp1) (s := ⟨[.val (.ref n), .val (.lst (ts.map fun y : Nat => .int (y : Nat))), .un, .val (.lst (ts.map fun t => tupq (T22 t))), .un, .un, .un, .un, .un, .un, .un, .un], hp1⟩) (E := fun i : Nat => .int (i : Nat)) (xs := List.range ts.length) (fun k => personD (persT k (ts.getD k 0)))
    (by simp [rg]) (by simp; omega) rfl (by simp) (fun k hk => by
      have hk' : k < ts.length := by simpa using hk
      have ix := ix_abcd (k := k) (by omega)
      have ad := add_sd (a := [112]) (b := [97 + k]) (by simp)
      have it : ixD (.lst (ts.map fun t => tupq (T22 t))) (.int (k : Int)) = some (tupq (T22 (ts.getD k 0))) := by
        rw [ixD_lst, atI_nat, List.getElem?_map, List.getD_eq_getElem?_getD, List.getElem?_eq_getElem hk']
        rfl
      simp [ix, ch_sd, ad, it, pers_eq])
  have pp : (.tup ((List.range ts.length).map fun k => personD (persT k (ts.getD k 0))) : D) = peopleD (psT ts) := by
    simp [peopleD, psT, Function.comp_def]
  have mk := room_ok F.R.cs F.R.ps hp1
  rw [seqS_nx (s' := ⟨[.val (.ref n), .val (.lst (ts.map fun y : Nat => .int (y : Nat))), .un, .val (.lst (ts.map fun t => tupq (T22 t))), .un, .val (roomD [103, 107] (psT ts)), .un, .un, .un, .un, .un, .un], hp1⟩) (by
    generalize ((List.range ts.length).map fun k => personD (persT k (ts.getD k 0))) = A at *
    simp [c5, pp, mk])]
  -- the talks
  have L0 : Eqb 2 (.tup (ts.map fun t : Nat => fr (Rat.divInt (t : Int) 12))) := eqb_frs _ ts
  have L1 : Eqb 2 (.tup (ts.map fun t : Nat => fr (Rat.divInt (12 - (t : Int)) 12))) := eqb_frs _ ts
  have nL0 := ne_same L0 (by omega)
  have nL1 := ne_same L1 (by omega)
  have nE : neD (.tup []) (.tup []) = some (.bl false) := rfl
  have nGK : neD (sd [103, 107]) (sd [103, 107]) = some (.bl false) := ne_same (eqb_sd (by intro c hc; simp at hc; omega)) (by omega)
  have n0 : neD (.int 0) (.int 0) = some (.bl false) := rfl
  have gg : (103 : Nat) ∈ [103, 107] := by decide
  have kk : (107 : Nat) ∈ [103, 107] := by decide
  have due : ∀ (i : Int) (g : Nat → Rat) (w2 w6 w8 w10 w11 : SV), (∀ t, ixD (tupq (T22 t)) (.int i) = some (fr (g t))) → lcC [9] (iterM (varM 3)) (nameG 9) (DP.ret true) (lookM ixD (slM 9) (varM 7)) ⟨[.val (.ref n), .val (.lst (ts.map fun y : Nat => .int (y : Nat))), w2, .val (.lst (ts.map fun t => tupq (T22 t))), .un, .val (roomD [103, 107] (psT ts)), w6, .val (.int i), w8, .un, w10, w11], hp1⟩ = .ok (.lst (ts.map fun t => fr (g t))) ⟨[.val (.ref n), .val (.lst (ts.map fun y : Nat => .int (y : Nat))), w2, .val (.lst (ts.map fun t => tupq (T22 t))), .un, .val (roomD [103, 107] (psT ts)), w6, .val (.int i), w8, .un, w10, w11], hp1⟩ := fun i g w2 w6 w8 w10 w11 hg =>
    lc_name (E := fun t => tupq (T22 t)) (xs := ts) (fun t => fr (g t)) (by simp) (by omega) rfl (by simp) (fun t ht => by simp [hg t])
  have d0 := fun w2 w6 w8 w10 w11 => due 0 (fun t => Rat.divInt (t : Int) 12) w2 w6 w8 w10 w11 (fun t => by simp [tupq, T22])
  have d1 := fun w2 w6 w8 w10 w11 => due 1 (fun t => Rat.divInt (12 - (t : Int)) 12) w2 w6 w8 w10 w11 (fun t => by simp [tupq, T22])
  have s1 := F.say 103 103 gg gg hp1
  have s2 := F.say 103 107 gg kk hp1
  have s3 := F.say 107 103 kk gg hp1
  have s4 := F.say 107 107 kk kk hp1
  have h1 := F.heard 103 103 gg gg hp1
  have h2 := F.heard 103 107 gg kk hp1
  have h3 := F.heard 107 103 kk gg hp1
  have h4 := F.heard 107 107 kk kk hp1
  have l1 := F.last0 103 gg hp1
  have l2 := F.last0 107 kk hp1
  have l3 := F.last1 103 gg hp1
  have l4 := F.last1 107 kk hp1
  have a1 := F.dis 103 gg hp1
  have a2 := F.dis 107 kk hp1
  have m1 := F.most 103 gg hp1
  have m2 := F.most 107 kk hp1
  have v0 := F.agr [] (.inl rfl) hp1
  have v1 := F.agr [103, 107] (.inr rfl) hp1
  have z0 := F.lone hp1
  have z1 := F.lone1 hp1
  generalize hL0 : (.tup (ts.map fun t : Nat => fr (Rat.divInt (t : Int) 12)) : D) = LL0 at *
  generalize hL1 : (.tup (ts.map fun t : Nat => fr (Rat.divInt (12 - (t : Int)) 12)) : D) = LL1 at *
  rw [seqS_nx (s' := ⟨[.val (.ref n), .val (.lst (ts.map fun y : Nat => .int (y : Nat))), .un, .val (.lst (ts.map fun t => tupq (T22 t))), .un, .val (roomD [103, 107] (psT ts)), .val (sd [107]), .val (.int 1), .val LL1, .un, .val (ch 107), .un], hp1⟩) (by
    simp [ch_sd] at s1 s2 s3 s4 h1 h2 h3 h4 l1 l2 l3 l4
    simp [forL, tup2G, d0, d1, ch_sd, s1, s2, s3, s4, h1, h2, h3, h4, l1, l2, l3, l4, a1, a2, m1, m2, nE, nGK, n0, nL0, nL1, hL0, hL1])]
  rw [seqS_nx (s' := ⟨[.val (.ref n), .val (.lst (ts.map fun y : Nat => .int (y : Nat))), .un, .val (.lst (ts.map fun t => tupq (T22 t))), .un, .val (roomD [103, 107] (psT ts)), .val (sd [107]), .val (.int 1), .val LL1, .un, .val (ch 107), .un], hp1⟩) (by simp [v0, v1])]
  rw [seqS_nx (s' := ⟨[.val (.ref n), .val (.lst (ts.map fun y : Nat => .int (y : Nat))), .un, .val (.lst (ts.map fun t => tupq (T22 t))), .un, .val (roomD [103, 107] (psT ts)), .val (sd [107]), .val (.int 1), .val LL1, .un, .val (ch 107), .val (roomD [103, 107] (psT ts))], hp1⟩) (by simp)]
  have pk : ∀ j, 1 ≤ j → j < 1 + (ts.length - 1) → ∃ qs, (([112, 97 + j], [([103, 107], some qs)]) : Person) ∈ psT ts := fun j h1 h2 => ⟨T22 (ts.getD j 0), List.mem_map.mpr ⟨j, by rw [List.mem_range]; omega, rfl⟩⟩
  obtain ⟨w', ll⟩ := lone_loop (hp := hp1) (x0 := .val (.ref n)) (x1 := .val (.lst (ts.map fun y : Nat => .int (y : Nat)))) (x3 := .val (.lst (ts.map fun t => tupq (T22 t)))) (x4 := .un) (x5 := .val (roomD [103, 107] (psT ts))) (x6 := .val (sd [107])) (x7 := .val (.int 1)) (x8 := .val LL1) (x9 := .un) (x10 := .val (ch 107)) (ts.length - 1) 1 (psT ts) .un F.R pk (by omega)
  rw [show (List.range' 1 (ts.length - 1)).foldl (fun ps k => changeF ps [112, 97 + k] [103, 107] none) (psT ts) = loneT ts from rfl] at ll
  have rg2 : rangeOf [.int 1, .int (ts.length : Int)] = some ((List.range' 1 (ts.length - 1)).map fun i : Nat => .int (i : Int)) := by
    simp only [rangeOf]
    rw [if_pos (by omega)]
    congr 1
    simp only [rangeL]
    rw [List.range'_eq_map_range, List.map_map, show ((ts.length : Int) - 1).toNat = ts.length - 1 by omega]
    congr 1
  simp only [loneB, d_p, d_abcd, d_gk] at ll
  rw [seqS_nx (s' := ⟨[.val (.ref n), .val (.lst (ts.map fun y : Nat => .int (y : Nat))), w', .val (.lst (ts.map fun t => tupq (T22 t))), .un, .val (roomD [103, 107] (psT ts)), .val (sd [107]), .val (.int 1), .val LL1, .un, .val (ch 107), .val (roomD [103, 107] (loneT ts))], hp1⟩) (by
    rw [forS_ap]
    simp only [rangeM_ap, consM_ap, ret_ap, look1M_ap, slM_ap, List.getElem?_cons_succ, List.getElem?_cons_zero, readP_sl, deref_lst, Option.bind_some, len_lst, List.length_map, nilM_ap, rg2]
    exact ll)]
  have t0 : ixD (.lst (ts.map fun t => tupq (T22 t))) (.int 0) = some (tupq (T22 (ts.getD 0 0))) := by
    rw [hts]; simp
  have q1 : ixD (tupq (T22 (ts.getD 0 0))) (.int 1) = some (fr (Rat.divInt (12 - (ts.getD 0 0 : Int)) 12)) := by simp [tupq, T22]
  have rp := rep_none (ts.length - 1) (by omega) (by omega)
  have sb : ((ts.length - 1 : Nat) : Int) = (ts.length : Int) - 1 := by omega
  rw [sb] at rp
  have ct : addD (.tup [fr (Rat.divInt (12 - (ts.getD 0 0 : Int)) 12)]) (.tup (List.replicate (ts.length - 1) .non)) = some (.tup (fr (Rat.divInt (12 - (ts.getD 0 0 : Int)) 12) :: List.replicate (ts.length - 1) .non)) := by
    simp only [addD, catT]
    rw [if_pos (by simp only [List.length_cons, List.length_nil, List.length_replicate]; rw [sizeLine_eq]; omega)]
    rfl
  have eb : Eqb 2 (.tup (fr (Rat.divInt (12 - (ts.getD 0 0 : Int)) 12) :: List.replicate (ts.length - 1) .non)) := eqb_tup fun x hx => by
    rcases List.mem_cons.mp hx with rfl | hx
    · exact eqb_fr _
    · rw [List.eq_of_mem_replicate hx]
      exact eqb_non.up (by omega)
  have eqe := eq_same eb (by omega)
  generalize fr (Rat.divInt (12 - (ts.getD 0 0 : Int)) 12) = A at *
  have dB : deref hp1 (tupq (T22 (ts.getD 0 0))) = some (tupq (T22 (ts.getD 0 0))) := rfl
  generalize tupq (T22 (ts.getD 0 0)) = B at t0 q1 dB
  simp only [ch_sd] at z1
  simp [z0, ch_sd, z1, t0, q1, rp, ct, eqe, dB]
end LK
set_option Elab.async false
set_option linter.all false
set_option maxRecDepth 100000
set_option maxHeartbeats 4000000
namespace LK
open PySem PySem.Spec PyProof.Rows L2 He DP
def cs1 : Lot := [97, 98, 99, 100]
def ps1 : List Person := [([97, 110, 110], [([97, 98], some [1/3, 2/3]), ([99, 100], some [1/2, 1/2])]), ([98, 111, 98], [([97, 98], some [1/2, 1/2]), ([99, 100], some [3/4, 1/4])])]
def cs2 : Lot := [97, 98, 99]
def ps2 : List Person := [([97, 110, 110], [([97, 98], some [1/2, 1/2]), ([99], some [1])]), ([98, 111, 98], [([97], some [1]), ([98, 99], some [1/2, 1/2])]), ([99, 105, 100], [([97, 99], some [1/3, 2/3]), ([98], some [1])])]
set_option maxRecDepth 1000000 in
theorem read1 (hp : List Cell) : m_Room_read [.str "cases abcd\nann ab 1/3 2/3\nann cd 1/2 1/2\nbob ab 1/2 1/2\nbob cd 3/4 1/4"] hp = .ok (roomD cs1 ps1) hp := by kernel_rfl
set_option maxRecDepth 1000000 in
theorem read2 (hp : List Cell) : m_Room_read [.str "cases abc\nann ab 1/2 1/2\nann c 1/1\nbob a 1/1\nbob bc 1/2 1/2\ncid ac 1/3 2/3\ncid b 1/1"] hp = .ok (roomD cs2 ps2) hp := by kernel_rfl
theorem R1 : RoomOk cs1 ps1 := roomB_ok (by decide +kernel)
theorem R2 : RoomOk cs2 ps2 := roomB_ok (by decide +kernel)
end LK
set_option Elab.async false
set_option linter.all false
set_option maxRecDepth 1000000
set_option maxHeartbeats 4000000
namespace LK
open PySem PySem.Spec PyProof.Rows L2 He DP
theorem step_read (F : DF) (t A : D) (hp : List Cell) (x0 x2 x3 : SV) (r : F [t] hp = .ok A hp) : setS 2 (callM F (consM (varM 1) nilM)) ⟨[x0, .val t, x2, x3], hp⟩ = .nx ⟨[x0, .val t, .val A, x3], hp⟩ := by simp [r]
theorem three (F G H : DF) (A a1 b1 a2 b2 a3 b3 r1 r2 r3 : D) (hp : List Cell) (x0 x1 x3 : SV) (h1 : F [A, a1, b1] hp = .ok r1 hp) (h2 : G [A, a2, b2] hp = .ok r2 hp) (h3 : H [A, a3, b3] hp = .ok r3 hp) :
    setS 3 (lstM (consM (callM F (consM (varM 2) (consM (DP.ret a1) (consM (DP.ret b1) nilM)))) (consM (callM G (consM (varM 2) (consM (DP.ret a2) (consM (DP.ret b2) nilM)))) (consM (callM H (consM (varM 2) (consM (DP.ret a3) (consM (DP.ret b3) nilM)))) nilM)))) ⟨[x0, x1, .val A, x3], hp⟩ = .nx ⟨[x0, x1, .val A, .val (.lst [r1, r2, r3])], hp⟩ := by
  simp [h1, h2, h3]
theorem look4 (F : DF) (E E2 : DM D) (A a b r w w2 : D) (hp : List Cell) (x0 x1 : SV) (hE : E ⟨[x0, x1, .val A, .val w], hp⟩ = .ok w2 ⟨[x0, x1, .val A, .val w], hp⟩) (hn : neD w w2 = some (.bl false)) (h : F [A, a, b] hp = .ok r hp) (hE2 : E2 ⟨[x0, x1, .val A, .val w], hp⟩ = .ok r ⟨[x0, x1, .val A, .val w], hp⟩) (hr : neD r r = some (.bl false)) :
    ifS (orT (tst (DP.bin neD (varM 3) E)) (tst (DP.bin neD (callM F (consM (varM 2) (consM (DP.ret a) (consM (DP.ret b) nilM)))) E2))) (retS (DP.ret (.bl false))) nxS ⟨[x0, x1, .val A, .val w], hp⟩ = .nx ⟨[x0, x1, .val A, .val w], hp⟩ := by
  simp [hE, hn, h, hE2, hr]
theorem look5 (F : DF) (W : DF) (A A3 a b c d e : D) (hp : List Cell) (x0 x1 x3 : SV) (h1 : F [A, a] hp = .ok (.bl false) hp) (h2 : F [A, b] hp = .ok (.bl true) hp) (h3 : objR 0 W A (consM (DP.ret c) (consM (DP.ret d) nilM)) ⟨[x0, x1, .val A, x3], hp⟩ = .ok A3 ⟨[x0, x1, .val A, x3], hp⟩) (h4 : F [A3, e] hp = .ok (.bl true) hp) :
    ifS (orT (tst (callM F (consM (varM 2) (consM (DP.ret a) nilM)))) (orT (notT (tst (callM F (consM (varM 2) (consM (DP.ret b) nilM))))) (notT (tst (callM F (consM (objM 0 W (varM 2) (consM (DP.ret c) (consM (DP.ret d) nilM))) (consM (DP.ret e) nilM))))))) (retS (DP.ret (.bl false))) nxS ⟨[x0, x1, .val A, x3], hp⟩ = .nx ⟨[x0, x1, .val A, x3], hp⟩ := by
  simp [h1, h2, h3, h4]
theorem fin22 (F : DF) (E : DM D) (A a w w2 : D) (hp : List Cell) (x0 x1 : SV) (hE : E ⟨[x0, x1, .val A, .val w], hp⟩ = .ok w2 ⟨[x0, x1, .val A, .val w], hp⟩) (hn : eqD w w2 = some (.bl true)) (h : F [A, a] hp = .ok (.bl true) hp) :
    retS (andV (DP.bin eqD (varM 3) E) (callM F (consM (varM 2) (consM (DP.ret a) nilM)))) ⟨[x0, x1, .val A, .val w], hp⟩ = .rt (.bl true) ⟨[x0, x1, .val A, .val w], hp⟩ := by
  simp [hE, hn, h]
end LK
set_option Elab.async false
set_option linter.all false
set_option maxRecDepth 1000000
set_option maxHeartbeats 4000000
namespace LK
open PySem PySem.Spec PyProof.Rows L2 He DP
theorem lotB {cs l : Lot} (h : (l.all (fun c => decide (c ∈ cs)) && decide (l.Pairwise (· < ·))) = true) : LotOk cs l := by
  simp only [Bool.and_eq_true, List.all_eq_true, decide_eq_true_eq] at h
  exact ⟨h.1, h.2⟩
theorem d_ (s : String) (l : Lot) (h : Str.ofString s = st l) : (.str (Str.ofString s) : D) = sd l := by rw [h]; rfl
theorem e_a : (.str (Str.ofString "a") : D) = ch 97 := d_ _ _ (by decide +kernel)
theorem e_b : (.str (Str.ofString "b") : D) = ch 98 := d_ _ _ (by decide +kernel)
theorem e_c : (.str (Str.ofString "c") : D) = ch 99 := d_ _ _ (by decide +kernel)
theorem e_d : (.str (Str.ofString "d") : D) = ch 100 := d_ _ _ (by decide +kernel)
theorem e_ac : (.str (Str.ofString "ac") : D) = sd [97, 99] := d_ _ _ (by decide +kernel)
theorem e_ab : (.str (Str.ofString "ab") : D) = sd [97, 98] := d_ _ _ (by decide +kernel)
theorem e_bob : (.str (Str.ofString "bob") : D) = sd [98, 111, 98] := d_ _ _ (by decide +kernel)
theorem e_ann : (.str (Str.ofString "ann") : D) = sd [97, 110, 110] := d_ _ _ (by decide +kernel)
section
variable (hp : List Cell)
theorem f1 : m_last_sayings [roomD cs1 ps1, ch 97, sd [97, 99]] hp = .ok (.tup [.tup [.int 1, .int 3], .tup [.int 1, .int 2]]) hp := by
  rw [last_ok R1 (by decide) (lotB (by decide +kernel)) hp]; kernel_rfl
theorem f2 : m_last_sayings [roomD cs1 ps1, ch 99, sd [97, 99]] hp = .ok (.tup [.tup [.int 1, .int 2], .tup [.int 3, .int 4]]) hp := by
  rw [last_ok R1 (by decide) (lotB (by decide +kernel)) hp]; kernel_rfl
theorem f3 : m_heard_at_last [roomD cs1 ps1, ch 97, sd [97, 99]] hp = .ok (sd [97, 98]) hp := by
  rw [heard_ok R1 (by decide) (lotB (by decide +kernel)) hp]; kernel_rfl
theorem f4 : m_sayings [roomD cs1 ps1, ch 100, sd [97, 99]] hp = .ok (.tup [.tup [sd [97, 110, 110], .tup [.int 1, .int 2]]]) hp := by
  rw [sayings_ok R1 (by decide) (lotB (by decide +kernel)) hp]; kernel_rfl
theorem f5 : m_agree [roomD cs1 ps1, sd [97, 99]] hp = .ok (.bl false) hp := by
  rw [agree_ok R1 (lotB (by decide +kernel)) hp]; kernel_rfl
theorem f6 : m_agree [roomD cs1 ps1, sd [97, 98]] hp = .ok (.bl true) hp := by
  rw [agree_ok R1 (lotB (by decide +kernel)) hp]; kernel_rfl
theorem f7 : m_Room_without_told [roomD cs1 ps1, sd [98, 111, 98], sd [97, 98]] hp = .ok (roomD cs1 (changeF ps1 [98, 111, 98] [97, 98] none)) hp :=
  without_ok R1 (p := ([98, 111, 98], [([97, 98], some [1/2, 1/2]), ([99, 100], some [3/4, 1/4])])) (by simp [ps1]) (q := ([97, 98], some [1/2, 1/2])) (by simp) rfl hp
theorem f8 : m_agree [roomD cs1 (changeF ps1 [98, 111, 98] [97, 98] none), sd [98]] hp = .ok (.bl true) hp := by
  rw [agree_ok (change_room R1 (by simp)) (lotB (by decide +kernel)) hp]; kernel_rfl
theorem f9 : m_sayings [roomD cs2 ps2, ch 97, sd [97]] hp = .ok (.tup [.tup [sd [97, 110, 110], .tup [.int 1, .int 2]], .tup [sd [98, 111, 98], .tup [.int 1, .int 1]]]) hp := by
  rw [sayings_ok R2 (by decide) (lotB (by decide +kernel)) hp]; kernel_rfl
theorem f10 : m_last_sayings [roomD cs2 ps2, ch 98, sd [97]] hp = .ok (.tup [.tup [.int 0, .int 1], .tup [.int 0, .int 1], .tup [.int 0, .int 1]]) hp := by
  rw [last_ok R2 (by decide) (lotB (by decide +kernel)) hp]; kernel_rfl
theorem f11 : m_heard_at_last [roomD cs2 ps2, ch 99, sd [97]] hp = .ok (sd [99]) hp := by
  rw [heard_ok R2 (by decide) (lotB (by decide +kernel)) hp]; kernel_rfl
theorem f12 : m_agree [roomD cs2 ps2, sd [97]] hp = .ok (.bl true) hp := by
  rw [agree_ok R2 (lotB (by decide +kernel)) hp]; kernel_rfl
end
theorem g1 : neD (.lst [.tup [.tup [.int 1, .int 3], .tup [.int 1, .int 2]], .tup [.tup [.int 1, .int 2], .tup [.int 3, .int 4]], sd [97, 98]]) (.lst [.tup [.tup [.int 1, .int 3], .tup [.int 1, .int 2]], .tup [.tup [.int 1, .int 2], .tup [.int 3, .int 4]], sd [97, 98]]) = some (.bl false) := by kernel_rfl
theorem g2 : neD (.tup [.tup [sd [97, 110, 110], .tup [.int 1, .int 2]]]) (.tup [.tup [sd [97, 110, 110], .tup [.int 1, .int 2]]]) = some (.bl false) := by kernel_rfl
theorem g3 : eqD (.lst [.tup [.tup [sd [97, 110, 110], .tup [.int 1, .int 2]], .tup [sd [98, 111, 98], .tup [.int 1, .int 1]]], .tup [.tup [.int 0, .int 1], .tup [.int 0, .int 1], .tup [.int 0, .int 1]], sd [99]]) (.lst [.tup [.tup [sd [97, 110, 110], .tup [.int 1, .int 2]], .tup [sd [98, 111, 98], .tup [.int 1, .int 1]]], .tup [.tup [.int 0, .int 1], .tup [.int 0, .int 1], .tup [.int 0, .int 1]], sd [99]]) = some (.bl true) := by kernel_rfl
theorem lit_l1 (s : DSt) : lstM (consM (tupM (consM (tupM (consM (DP.ret (.int 1)) (consM (DP.ret (.int 3)) (nilM)))) (consM (tupM (consM (DP.ret (.int 1)) (consM (DP.ret (.int 2)) (nilM)))) (nilM)))) (consM (tupM (consM (tupM (consM (DP.ret (.int 1)) (consM (DP.ret (.int 2)) (nilM)))) (consM (tupM (consM (DP.ret (.int 3)) (consM (DP.ret (.int 4)) (nilM)))) (nilM)))) (consM (DP.ret (sd [97, 98])) (nilM)))) s = .ok (.lst [.tup [.tup [.int 1, .int 3], .tup [.int 1, .int 2]], .tup [.tup [.int 1, .int 2], .tup [.int 3, .int 4]], sd [97, 98]]) s := rfl
theorem lit_t1 (s : DSt) : tupM (consM (tupM (consM (DP.ret (sd [97, 110, 110])) (consM (tupM (consM (DP.ret (.int 1)) (consM (DP.ret (.int 2)) (nilM)))) (nilM)))) (nilM)) s = .ok (.tup [.tup [sd [97, 110, 110], .tup [.int 1, .int 2]]]) s := rfl
theorem lit_l2 (s : DSt) : lstM (consM (tupM (consM (tupM (consM (DP.ret (sd [97, 110, 110])) (consM (tupM (consM (DP.ret (.int 1)) (consM (DP.ret (.int 2)) (nilM)))) (nilM)))) (consM (tupM (consM (DP.ret (sd [98, 111, 98])) (consM (tupM (consM (DP.ret (.int 1)) (consM (DP.ret (.int 1)) (nilM)))) (nilM)))) (nilM)))) (consM (tupM (consM (tupM (consM (DP.ret (.int 0)) (consM (DP.ret (.int 1)) (nilM)))) (consM (tupM (consM (DP.ret (.int 0)) (consM (DP.ret (.int 1)) (nilM)))) (consM (tupM (consM (DP.ret (.int 0)) (consM (DP.ret (.int 1)) (nilM)))) (nilM))))) (consM (DP.ret (ch 99)) (nilM)))) s = .ok (.lst [.tup [.tup [sd [97, 110, 110], .tup [.int 1, .int 2]], .tup [sd [98, 111, 98], .tup [.int 1, .int 1]]], .tup [.tup [.int 0, .int 1], .tup [.int 0, .int 1], .tup [.int 0, .int 1]], sd [99]]) s := rfl
theorem set1 (d : D) (x0 x1 x2 x3 : SV) (hp : List Cell) : setS 1 (DP.ret d) ⟨[x0, x1, x2, x3], hp⟩ = .nx ⟨[x0, .val d, x2, x3], hp⟩ := rfl
theorem wt {hp : List Cell} (x0 : SV) (xs : List SV) : objR 0 m_Room_without_told (roomD cs1 ps1) (consM (DP.ret (sd [98, 111, 98])) (consM (DP.ret (sd [97, 98])) nilM)) ⟨x0 :: xs, hp⟩ = .ok (roomD cs1 (changeF ps1 [98, 111, 98] [97, 98] none)) ⟨x0 :: xs, hp⟩ := by
  have f := f7 hp
  generalize changeF ps1 [98, 111, 98] [97, 98] none = w at *
  generalize cs1 = u at *
  generalize ps1 = v at *
  simp [f]
theorem right22 {n : Nat} {hp : List Cell} (C : CupAt hp n) : ∃ hp', m_law_right_v21 [.ref n] hp = .ok (.bl true) hp' := by
  obtain ⟨hp1, e1⟩ := pair22 C
  refine ⟨hp1, ?_⟩
  have f8' : m_agree [roomD cs1 (changeF ps1 [98, 111, 98] [97, 98] none), ch 98] hp1 = .ok (.bl true) hp1 := f8 hp1
  have f9' : m_sayings [roomD cs2 ps2, ch 97, ch 97] hp1 = .ok (.tup [.tup [sd [97, 110, 110], .tup [.int 1, .int 2]], .tup [sd [98, 111, 98], .tup [.int 1, .int 1]]]) hp1 := f9 hp1
  have f10' : m_last_sayings [roomD cs2 ps2, ch 98, ch 97] hp1 = .ok (.tup [.tup [.int 0, .int 1], .tup [.int 0, .int 1], .tup [.int 0, .int 1]]) hp1 := f10 hp1
  have f11' : m_heard_at_last [roomD cs2 ps2, ch 99, ch 97] hp1 = .ok (sd [99]) hp1 := f11 hp1
  have f12' : m_agree [roomD cs2 ps2, ch 97] hp1 = .ok (.bl true) hp1 := f12 hp1
  unfold m_law_right_v21 b_law_right_v21
  rw [e_a, e_b, e_c, e_d, e_ac, e_ab, e_bob, e_ann]
  simp only [N_law_right_v21, defF_ap, List.map_cons, List.map_nil, List.length_cons, List.length_nil, List.replicate, List.cons_append, List.nil_append, Nat.zero_add, Nat.reduceAdd, Nat.reduceSub]
  rw [seqS_nx (s' := ⟨[.val (.ref n), .un, .un, .un], hp1⟩) (by simp [e1])]
  rw [seqS_nx (set1 _ _ _ _ _ _)]
  rw [seqS_nx (step_read m_Room_read _ _ hp1 _ _ _ (read1 hp1))]
  rw [seqS_nx (three m_last_sayings m_last_sayings m_heard_at_last _ _ _ _ _ _ _ _ _ _ hp1 _ _ _ (f1 hp1) (f2 hp1) (f3 hp1))]
  rw [seqS_nx (look4 m_sayings _ _ _ _ _ _ _ _ hp1 _ _ (lit_l1 _) g1 (f4 hp1) (lit_t1 _) g2)]
  rw [seqS_nx (look5 m_agree m_Room_without_told _ (roomD cs1 (changeF ps1 [98, 111, 98] [97, 98] none)) _ _ (sd [98, 111, 98]) (sd [97, 98]) _ hp1 _ _ _ (f5 hp1) (f6 hp1) (wt _ _) f8')]
  rw [seqS_nx (set1 _ _ _ _ _ _)]
  rw [seqS_nx (step_read m_Room_read _ _ hp1 _ _ _ (read2 hp1))]
  rw [seqS_nx (three m_sayings m_last_sayings m_heard_at_last _ _ _ _ _ _ _ _ _ _ hp1 _ _ _ f9' f10' f11')]
  rw [fin22 m_agree _ _ _ _ _ hp1 _ _ (lit_l2 _) g3 f12']
end LK
namespace LK
open PySem PySem.Spec PyProof.Rows L2 He DP
theorem law22 (ns : List Int) (h : ns.length ≤ 63) (hb : ∀ z ∈ ns, z.natAbs.log2 ≤ 1048576) : ∃ hp, m_law [.lst (ns.map D.int)] [] = .ok (.bl true) hp :=
  law_all (mr := m_law_right_v21) (k := 6) (by omega) ns h hb fun hp n C => right22 C
end LK
open PySem PySem.W PyProof.Rows
theorem PySem.Challenge.cw_oneprior_k22_rooms_that_agree_to_differ_holds : PySem.Challenge.rw_oneprior_k22_rooms_that_agree_to_differ.Holds := by
  exact LK.holds_of LK.law22
