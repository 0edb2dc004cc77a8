import PyProof.Rows.All
import HandS.ForMost
import HandS.Wide
import HandS.Conv
import HandS.TupAny
import HandS.TupMul
import HandS.Deep
import HandS.Zip
import HandS.Walk
import HandS.Style
import HandS.IsInst
import KE.SortData
import KE.DataCmp
import PyProof.ListStr
import KE.KSortTup
import KE.DataMinMax
import KE.DataFind
import HandS.SetFor
import PyProof.Rows.SortStr
import HandS.Strs
import PyProof.Rows.StrCountLaw
import HandS.HeadHook3
import HandS.More
import KE.GoesMore
import KE.GoesEnum
import KE.GoesZip
import HandS.Defaults
import HandS.Words
import HandS.HeadEnd
import HandS.Head0
import HandS.Head1
import HandS.Head2
import KE.KStateDown
import Lean
import PySem.Challenge.RW_signsure_k40_whole_rows
set_option Elab.async false
set_option linter.all false
set_option maxRecDepth 100000
set_option maxHeartbeats 0
set_option exponentiation.threshold 10000
-- SgTup
/-! SgTup: rules that make tuples, told with their objects (which have no dict). -/
namespace Sg
open PySem PySem.Spec PyProof.Rows L2
/-- behind a new tuple -/
def NewT (H : Hp) (xs : List V) (Q : VK) : Prop := ∀ (p : Addr) (o : Obj), o.dict = none → H p = none → Q (.ref p) (upd H p (.frz o (.tup xs)))
section
variable {X : Cx}
theorem newT_end {pins : List (Addr × Obj)} {σ : L2.St} {H : Hp} {s : Shared} {xs : List V} {its : List Value} {Q : VK} (I : Inv X pins σ H s) (r : Vals xs its) (hz : xs.length ≤ sizeLine) (q : NewT H xs Q) {arr : Array Value} (ha : arr = its.toArray) {t' : Nat} :
    ∃ x H', Inv X pins σ H' { s with heap := s.heap.push { cls := .type "tuple", data := .seq arr }, toks := t' } ∧ RelV x (.ref s.heap.objs.size) ∧ Q x H' := by
  subst ha
  have hob : (s.heap.push { cls := .type "tuple", data := .seq its.toArray }).get? s.heap.objs.size = some { cls := .type "tuple", data := .seq its.toArray } := Heap.get?_push_size _ rfl
  refine ⟨.ref s.heap.objs.size, _, I.laid (t' := t') (o := .frz { cls := .type "tuple", data := .seq its.toArray } (.tup xs)) (fun b ob q => Heap.get?_push_of_some _ q) (Nat.le_refl _) ⟨hob, hz, its, r, ⟨_, hob, rfl, _, rfl⟩⟩, rfl, q _ _ rfl (I.hok.fresh (Nat.le_refl _))⟩
def tTupF (t : TA) : TE := fun σ H Q => t σ H fun xs H1 => xs.length ≤ sizeLine ∧ NewT H1 xs Q
theorem pe_tupF {es : List Expr} {t : TA} {x1 : Nat} {pos : Pos} (h : PA X es t) : PE X (.Tuple es x1 pos) (tTupF t) := by
  refine ⟨fun pins s σ H Q I hq => ?_⟩
  refine wpAny_Tuple_spliced (thn (h.run pos pins s σ H _ I hq) fun us s1 ⟨xs, H1, I1, r, z, q⟩ => ⟨by rw [← r.length]; exact z, ?_⟩)
  exact newT_end (t' := s1.toks) I1 r z q rfl
/-- t + u -/
def rCatF (K : PySem.W.Frag) : R2 := fun x y H Q => ∃ a b xs ys, x = .ref a ∧ y = .ref b ∧ SqT K H a xs ∧ SqT K H b ys ∧ xs.length + ys.length ≤ sizeLine ∧
  (xs = [] → Q (.ref b) H) ∧ (xs ≠ [] → ys = [] → Q (.ref a) H) ∧ (xs ≠ [] → ys ≠ [] → NewT H (xs ++ ys) Q)
theorem op_catF : OpR X (binaryOp .Add) (rCatF X.K) := by
  intro pins s σ H x y v u Q I rx ry h
  obtain ⟨a, b, xs, ys, rfl, rfl, ha, hb, hz, q0, q1, q2⟩ := h
  cases rx
  cases ry
  obtain ⟨its, r1, p1, _⟩ := I.tuple ha
  obtain ⟨its2, r2, p2, _⟩ := I.tuple hb
  by_cases hx : xs = []
  · subst hx
    cases r1
    exact cat_tup0 p1 p2 ⟨.ref b, H, I, rfl, q0 rfl⟩
  · refine HT.cat_tup p1 p2 (fun z => hx (r1.nil_iff.mp z)) (fun z => ⟨.ref a, H, I, rfl, q1 hx (r2.nil_iff.mp z)⟩) (fun z => ?_) (by rw [← r1.length, ← r2.length]; exact hz)
    exact newT_end (t' := s.toks) I (r1.append r2) (by rw [List.length_append]; exact hz) (q2 hx fun w => z (r2.nil_iff.mpr w)) rfl
/-- t[lo:hi] -/
def rSlF (K : PySem.W.Frag) : V → Option Int → Option Int → Hp → VK → Prop := fun x lo hi H Q => ∃ a xs, x = .ref a ∧ SqT K H a xs ∧
  (HT.sIx xs.length 0 lo = 0 ∧ HT.sIx xs.length xs.length hi = xs.length → Q (.ref a) H) ∧ (¬ (HT.sIx xs.length 0 lo = 0 ∧ HT.sIx xs.length xs.length hi = xs.length) → NewT H (cutV xs lo hi) Q)
theorem sl_tupF : SlR X (rSlF X.K) := by
  intro pins s σ H x v vl vu lo hi sl Q I rx hs pl pu h
  obtain ⟨a, xs, rfl, hx, q1, q2⟩ := h
  cases rx
  obtain ⟨its, r, ht, hz⟩ := I.tuple hx
  have hlen : its.toArray.size = xs.length := by rw [List.size_toArray]; exact r.length.symm
  refine ⟨"tuple", _, PyProof.Rows.slot_tuple_getitem.lookup, ht.typeIs, ?_⟩
  by_cases hw : HT.sIx xs.length 0 lo = 0 ∧ HT.sIx xs.length xs.length hi = xs.length
  · exact getItem_tuple_whole ht hs pl pu (by rw [hlen]; exact hw) ⟨.ref a, H, I, rfl, q1 hw⟩
  · refine HT.getItem_tuple_cut ht hs pl pu (by rw [hlen]; exact hw) ?_ (by rw [hlen]; exact hz)
    rw [hlen]
    exact newT_end (t' := s.toks) I ((r.drop (HT.sIx xs.length 0 lo)).take (HT.sIx xs.length xs.length hi - HT.sIx xs.length 0 lo)) (Nat.le_trans (cutV_length xs lo hi) hz) (q2 hw) rfl
/-- tuple(x) -/
theorem call_tupleF : CallR X (.type "tuple") (fun xs H Q => ∃ p ys, xs = [.ref p] ∧ ((SqL X.K H p ys ∧ NewT H ys Q) ∨ (SqT X.K H p ys ∧ Q (.ref p) H))) := by
  intro pins s σ H xs us Q I r h
  obtain ⟨p, ys, rfl, h⟩ := h
  obtain ⟨u, rfl, rx⟩ := vals1 r
  cases rx
  rcases h with ⟨hq, q⟩ | ⟨hq, q⟩
  · obtain ⟨its, r', pl, hz⟩ := I.list hq
    have hlen := r'.length
    refine call_tuple_list pl.isList (fun h' kp => ?_) (by simp only [List.size_toArray] <;> omega)
    have I1 : Inv X pins σ H { s with heap := h' } := I.kept (t' := s.toks) kp
    exact newT_end (t' := s.toks) I1 r' hz q rfl
  · obtain ⟨its, r', pl, hz⟩ := I.tuple hq
    exact call_tuple_same pl ⟨.ref p, H, I, rfl, q⟩
/-- t * n -/
def rRepF (K : PySem.W.Frag) : R2 := fun x y H Q => ∃ l k xs, x = .ref l ∧ y = .int k ∧ SqT K H l xs ∧ xs ≠ [] ∧ 2 ≤ k ∧ k ≤ 1000 ∧ xs.length ≤ 1000 ∧ NewT H (List.replicate k.toNat xs).flatten Q
theorem op_repF : OpR X (binaryOp .Mult) (rRepF X.K) := by
  intro pins s σ H x y v u Q I rx ry h
  obtain ⟨l, k, xs, rfl, rfl, hT, hne, h1, h2, hz, q⟩ := h
  cases rx
  obtain ⟨t, rfl⟩ := ry
  obtain ⟨its, r, ⟨⟨cls, dd, data, sl⟩, ho, hc, n, hd⟩, hs⟩ := I.tuple hT
  simp only at hc hd
  subst hc hd
  have le : its.length = xs.length := r.length.symm
  have nn : its ≠ [] := fun e => hne (by
    rw [e] at le
    exact List.eq_nil_of_length_eq_zero le.symm)
  have emp : its.toArray.isEmpty = false := by
    cases its with
    | nil => exact absurd rfl nn
    | cons a b => rfl
  have sz0 : its.toArray.size = xs.length := by rw [List.size_toArray, le]
  have few : ((its.toArray.size : Nat) : Int) * k ≤ 1000000 := by
    rw [sz0]
    have a1 : ((xs.length : Nat) : Int) * k ≤ 1000 * k := Int.mul_le_mul_of_nonneg_right (by omega) (by omega)
    omega
  have flen : (List.replicate k.toNat its).flatten.length ≤ sizeLine := by
    rw [PyProof.Rows.lm_len_rep_flat, le, sizeLine_eq]
    have a1 : k.toNat * xs.length ≤ 1000 * 1000 := Nat.mul_le_mul (by omega) hz
    omega
  have g0 : (decide (k < -(2 ^ 63)) || decide (k ≥ 2 ^ 63)) = false := by
    rw [decide_eq_false (by omega), decide_eq_false (by omega)] <;> rfl
  have g1 : (its.toArray.isEmpty || k == 1) = false := by
    rw [emp, Bool.false_or]
    exact beq_eq_false_iff_ne.mpr (by omega)
  have g2 : (decide (k ≤ 0) || its.toArray.isEmpty) = false := by
    rw [emp, Bool.or_false]
    exact decide_eq_false (by omega)
  have g4 : Builtin.Tuple.tupleTooMany (((its.toArray.size : Nat) : Int) * k) = false := by
    unfold Builtin.Tuple.tupleTooMany
    rw [sizeLine_eq]
    exact decide_eq_false (by omega)
  refine wpAny_binaryOp_repeat_ref (T := "tuple") (U := "int") (by decide) ⟨_, ho, rfl⟩ (fun s' => typeIs_int s' k t) noFill_tuple_mul F.fills_int_mul F.slot_int_rmul repeat_tuple F.slot_int_index.lookup
    (call_meets F.slot_int_rmul (typeIs_int s k t) F.entry_int_rmul (F.args_int_rmul_2 _ _) (int_rmul_tuple k t l its.toArray n dd sl)
      ⟨ho, rfl, ⟨_, ho, rfl⟩, call_meets F.slot_tuple_mul ⟨_, ho, rfl⟩ F.entry_tuple_mul (F.args_tuple_mul_2 _ _) (tuple_mulW l its.toArray n dd sl k t g0 g1 g2 (by omega) g4 (by rw [size_rep, List.size_toArray]; exact flen)) ⟨ho, ?_⟩⟩)
  rw [size_rep]
  exact newT_end (t' := s.toks) I (r.rep k.toNat) (by rw [PyProof.Rows.lm_len_rep_flat, sizeLine_eq]; have a1 : k.toNat * xs.length ≤ 1000 * 1000 := Nat.mul_le_mul (by omega) hz; omega) q rfl
/-- tuple(range(..)) -/
def tTupRF (te : L2.St → Hp → (Int → Int → Hp → Prop) → Prop) : TE := fun σ H Q => te σ H fun a b H1 => RgOk a b ∧ NewT H1 (rgV a b) Q
theorem pe_tupRF {e : Expr} {te : L2.St → Hp → (Int → Int → Hp → Prop) → Prop} {p pos : Pos} (hc : X.calm = true) (hg : Gl X "tuple") (hm : X.mg "tuple" = none) (he : PRg X e te) (na : starEach [e] X.env = (false, eval e X.env) :: starEach [] X.env := by rfl) : PE X (.Call (.Name "tuple" p) [e] [] pos) (tTupRF te) := by
  refine ⟨fun pins s σ H Q I h => ?_⟩
  refine Call_ (ld_blt I hg hm boot_tuple (PyProof.Rows.callWith_type1 (args_cons (thn (he pins s σ H _ I h) fun x s1 ⟨r, a, b, t, u, v, H1, ex, hr, I1, ok, q⟩ => args_nil ?_) na) na))
  subst ex
  obtain ⟨b1, b2, b3, b4, b5⟩ := ok
  refine call_tuple_range (n := (b - a).toNat) (I1.ok.hd hc) hr (small_one b1 b2 b3 b4) (rangeSize_nat a b) b5 fun h' tk acc hk hi => ?_
  have I2 : Inv X pins σ H1 { s1 with heap := h', toks := tk } := I1.kept hk
  exact newT_end (t' := tk) I2 (vals_rg hi) (by rw [rgV_length, sizeLine_eq]; omega) q (Array.toArray_toList (xs := acc)).symm
/-! methods of a receiver whose class is told when it is known -/
def tyZ (K : PySem.W.Frag) (T : String) (x : V) (H : Hp) : Prop := tyV K T x H ∨ (T = "tuple" ∧ ∃ (p : Addr) (o : Obj) (xs : List V), x = .ref p ∧ H p = some (.frz o (.tup xs)) ∧ o.dict = none)
def McR (X : Cx) (name : Str) (T : String) (r : V → List V → Hp → VK → Prop) : Prop := ∃ id : String, PlainAttrs T ∧ PySem.Slot T name id ∧ typeOf (.builtin id) = pure (.type "method_descriptor") ∧ MtR X id r
def tBMZ (X : Cx) (name : Str) (to : TE) (t : TA) : TE := fun σ H Q => to σ H fun x H1 => ∃ (T : String) (r : V → List V → Hp → VK → Prop), McR X name T r ∧ tyZ X.K T x H1 ∧ t σ H1 fun xs H2 => r x xs H2 Q
theorem tyZ_is {pins : List (Addr × Obj)} {σ : L2.St} {H : Hp} {s : Shared} {T : String} {x : V} {v : Value} (I : Inv X pins σ H s) (r : RelV x v) (ty : tyZ X.K T x H) :
    s.TypeIs v T ∧ ∀ a, v = .ref a → ∃ ob, s.heap.get? a = some ob ∧ ob.dict = none := by
  rcases ty with ty | ⟨rfl, p, o, xs, rfl, e, d⟩
  · exact tyV_is I r ty
  · obtain ⟨g, _, its, _, ob, go, c, _⟩ := I.hok p _ e
    rw [g] at go
    cases go
    cases (show v = Value.ref p from r)
    exact ⟨⟨o, g, c⟩, fun a e => by cases e; exact ⟨o, g, d⟩⟩
variable {o e : Expr} {es : List Expr} {to : TE} {t : TA} {name : Str} {apos cpos : Pos}
theorem pe_bmZ (ho : PE X o to) (ha : PA X (e :: es) t) (hbase : attributeBase o name X.env (eval o X.env) = eval o X.env)
    (hfew : ((backTo cpos (starEach (e :: es) X.env)).all (fun x => !x.1) && (backToKw cpos (keywordEach [] X.env)).all (fun x => x.1.isSome)
      && decide ((e :: es).length + ([] : List Keyword).length + (if ([] : List Keyword).isEmpty then 0 else 1) < 30)) = true)
    (hline : (apos.endLine == cpos.line) = true) (hs : starEach (e :: es) X.env = (false, eval e X.env) :: starEach es X.env) (hplain : (backTo cpos (starEach es X.env)).any (·.1) = false) :
    PE X (.Call (.Attribute o name apos) (e :: es) [] cpos) (tBMZ X name to t) := by
  refine ⟨fun pins s σ H Q I h => ?_⟩
  refine wpAny_Call_method_late hbase hfew hline rfl (thn (ho.run pins s σ H _ I h) fun v s1 ⟨x, H1, I1, r1, T, r, ⟨id, pa, slot, hty, hm⟩, ty, q1⟩ => ?_)
  obtain ⟨h1, h2⟩ := tyZ_is I1 r1 ty
  refine ⟨T, id, pa, slot, hty, h1, h2, ?_⟩
  have hA := ha.run cpos pins s1 σ H1 _ I1 q1
  rw [hs] at hA ⊢
  refine Calls.callWith_builtin (by show (false || (backTo cpos (starEach es X.env)).any (·.1)) = false; rw [hplain] <;> rfl) (Calls.evalArgs_plain ?_)
  exact thn hA fun us s2 ⟨vs, H2, I2, r2, q2⟩ => hm pins s2 σ H2 x vs v us Q I2 r1 r2 q2
end
end Sg

-- SgCore
/-! SgCore: the data, the small language (IR) and its run. Plain Lean, no library. -/
namespace Sg

/-- data: what values stand for -/
inductive D where
  | non | bl (b : Bool) | int (i : Int) | str (s : List Char) | tup (xs : List D) | lst (xs : List D)
  | scr (ns : List Int) | dic (ks vs : List D) | exc (c : Nat)

mutual
def D.dep : D → Nat
  | .tup xs => depL xs + 1
  | .lst xs => depL xs + 1
  | .scr _ => 1
  | _ => 0
def depL : List D → Nat
  | [] => 0
  | x :: xs => max x.dep (depL xs)
end

mutual
def eqD : D → D → Bool
  | .non, .non => true
  | .bl a, .bl b => a == b
  | .bl a, .int j => (if a then 1 else 0) == j
  | .int i, .bl b => i == (if b then 1 else 0)
  | .int i, .int j => i == j
  | .str x, .str y => x == y
  | .lst xs, .lst ys => eqL xs ys
  | .tup xs, .tup ys => eqL xs ys
  | _, _ => false
def eqL : List D → List D → Bool
  | [], [] => true
  | x :: xs, y :: ys => eqD x y && eqL xs ys
  | _, _ => false
end
-- no dict and no exception within
mutual
def D.plain : D → Bool
  | .tup xs => plainL xs
  | .lst xs => plainL xs
  | .dic _ _ => false
  | .exc _ => false
  | .scr _ => false
  | _ => true
def plainL : List D → Bool
  | [] => true
  | x :: xs => x.plain && plainL xs
end
/-- may be compared -/
def D.okc (d : D) : Bool := d.plain && decide (d.dep ≤ 60)

/-! ### the run's monad -/
inductive Res (α : Type) where
  | ok (a : α) (b : List D) | exn (c : Nat) (b : List D) | bad
/-- b: the boxes (lists and dicts that several frames may change) -/
abbrev M (α : Type) := List D → Res α
def M.pure {α : Type} (a : α) : M α := fun b => .ok a b
def M.bind {α β : Type} (m : M α) (f : α → M β) : M β := fun b => match m b with
  | .ok a b' => f a b'
  | .exn c b' => .exn c b'
  | .bad => .bad
def M.bad {α : Type} : M α := fun _ => .bad
instance : Monad M where
  pure := M.pure
  bind := M.bind
def M.opt {α : Type} : Option α → M α
  | some a => M.pure a
  | none => M.bad

/-! ### results, slots, arguments -/
inductive R where
  | val (d : D) | fr (d : D) | own (d : D) | bx (n : Nat)
inductive Slot where
  | no | val (d : D) | own (d : D) | bx (n : Nat)
inductive A where
  | val (d : D) | bx (n : Nat)
def R.get : R → M D
  | .val d => M.pure d
  | .fr d => M.pure d
  | .own d => M.pure d
  | .bx n => fun b => match b[n]? with
    | some d => .ok d b
    | none => .bad
/-- what may be kept -/
def R.keep : R → M D
  | .val d => M.pure d
  | .fr d => M.pure d
  | _ => M.bad
def Slot.read : Slot → M R
  | .val d => M.pure (.val d)
  | .own d => M.pure (.own d)
  | .bx n => M.pure (.bx n)
  | .no => M.bad
def A.slot : A → Slot
  | .val d => .val d
  | .bx n => .bx n

/-! ### operators -/
inductive Bop where
  | add | sub | mul | fdiv | mod | pow
inductive Cop where
  | eq | ne | lt | le | gt | ge | isin | notin | is | isnot
  deriving DecidableEq
def LIM : Nat := 1000000
def small (i : Int) : Bool := decide (-(2 ^ 64) < i) && decide (i < 2 ^ 64)
def bnd (i : Int) : Bool := decide (i.natAbs < 2 ^ 8000)
/-- n copies -/
def rep {α : Type} (n : Nat) (xs : List α) : List α := (List.replicate n xs).flatten

def binD : Bop → D → D → Option R
  | .add, .int i, .int j => some (.val (.int (i + j)))
  | .add, .str x, .str y => if x.length + y.length ≤ LIM then some (.val (.str (x ++ y))) else none
  | .add, .lst x, .lst y => if x.length + y.length ≤ LIM then some (.fr (.lst (x ++ y))) else none
  | .add, .tup x, .tup y => if x.length + y.length ≤ LIM then some (.val (.tup (x ++ y))) else none
  | .sub, .int i, .int j => some (.val (.int (i - j)))
  | .mul, .int i, .int j => if small i || small j || (bnd i && bnd j) then some (.val (.int (i * j))) else none
  | .mul, .str x, .int j => if x.length ≤ 1000 ∧ -1000 ≤ j ∧ j ≤ 1000 then some (.val (.str (rep j.toNat x))) else none
  | .mul, .lst x, .int j => if x.length ≤ 1000 ∧ -1000 ≤ j ∧ j ≤ 1000 then some (.fr (.lst (rep j.toNat x))) else none
  | .mul, .tup x, .int j => if x.length ≤ 1000 ∧ x.isEmpty = false ∧ 1 ≤ j ∧ j ≤ 1000 then some (.val (.tup (rep j.toNat x))) else none
  | .fdiv, .int i, .int j => if j ≠ 0 ∧ bnd j = true then some (.val (.int (i.fdiv j))) else none
  | .mod, .int i, .int j => if j ≠ 0 then some (.val (.int (i.fmod j))) else none
  | .pow, .int i, .int j => if 0 ≤ j ∧ j ≤ 1000000 ∧ small i = true then some (.val (.int (i ^ j.toNat))) else none
  | _, _, _ => none

def inD (x : D) (ys : List D) : Bool := ys.any fun y => eqD y x
-- of one kind, place by place
mutual
def likD : D → D → Bool
  | .non, .non => true
  | .bl _, .bl _ => true
  | .int _, .int _ => true
  | .str _, .str _ => true
  | .tup xs, .tup ys => likL xs ys
  | .lst xs, .lst ys => likL xs ys
  | _, _ => false
def likL : List D → List D → Bool
  | x :: xs, y :: ys => likD x y && likL xs ys
  | _, _ => true
end
def ltS (x y : List Char) : Bool := decide (x.map Char.toNat < y.map Char.toNat)
mutual
def ltb : D → D → Bool
  | .bl x, .bl y => !x && y
  | .int i, .int j => decide (i < j)
  | .str x, .str y => ltS x y
  | .tup xs, .tup ys => ltbL xs ys
  | .lst xs, .lst ys => ltbL xs ys
  | _, _ => false
def ltbL : List D → List D → Bool
  | [], [] => false
  | [], _ :: _ => true
  | _ :: _, [] => false
  | x :: xs, y :: ys => if eqD x y then ltbL xs ys else ltb x y
end
def insW {α : Type} (lt : α → α → Bool) (x : α) : List α → List α
  | [] => [x]
  | y :: r => if lt y x then y :: insW lt x r else x :: y :: r
/-- ascending; like ones in their order -/
def sortW {α : Type} (lt : α → α → Bool) : List α → List α
  | [] => []
  | x :: r => insW lt x (sortW lt r)
def D.ne : D → Bool
  | .tup _ => true
  | _ => false
def D.ntn : D → Bool
  | .tup _ => false
  | .non => false
  | _ => true
def D.nn : D → Bool
  | .non => false
  | _ => true
def alkL (xs : List D) : Bool := xs.all fun x => x.okc && xs.all fun y => likD x y
def srtOk (xs : List D) : Bool := alkL xs && (xs.all D.ne || xs.all D.ntn)
def minW {α : Type} (lt : α → α → Bool) (x : α) (xs : List α) : α := xs.foldl (fun a y => if lt y a then y else a) x
def maxW {α : Type} (lt : α → α → Bool) (x : α) (xs : List α) : α := xs.foldl (fun a y => if lt a y then y else a) x
def bestD (f : D → List D → D) : List D → Option R
  | [] => none
  | x :: xs => if alkL (x :: xs) && (x :: xs).all D.nn then some (.val (f x xs)) else none
/-- each once -/
def nub {α : Type} [DecidableEq α] : List α → List α
  | [] => []
  | x :: r => if x ∈ r then nub r else x :: nub r
def D.isNon : D → Bool
  | .non => true
  | _ => false
/-- rows of one kind, in order -/
def ordT (k : Bool) (xs ys : List D) : Option Bool := if (D.tup xs).okc && (D.tup ys).okc && likL xs ys then some k else none
def cmpD : Cop → D → D → Option Bool
  | .eq, .scr ns, .lst [] => some ns.isEmpty
  | .eq, x, y => if x.okc && y.okc then some (eqD x y) else none
  | .ne, x, y => if x.okc && y.okc then some (!eqD x y) else none
  | .lt, .int i, .int j => some (decide (i < j))
  | .le, .int i, .int j => some (decide (i ≤ j))
  | .gt, .int i, .int j => some (decide (j < i))
  | .ge, .int i, .int j => some (decide (j ≤ i))
  | .lt, .str x, .str y => some (decide (x.map Char.toNat < y.map Char.toNat))
  | .lt, .tup xs, .tup ys => ordT (ltbL xs ys) xs ys
  | .le, .tup xs, .tup ys => ordT (!ltbL ys xs) xs ys
  | .gt, .tup xs, .tup ys => ordT (ltbL ys xs) xs ys
  | .ge, .tup xs, .tup ys => ordT (!ltbL xs ys) xs ys
  | .isin, .str [c], .str y => some (decide (c ∈ y))
  | .notin, .str [c], .str y => some (!decide (c ∈ y))
  | .isin, x, .lst ys => if x.okc && (D.lst ys).okc then some (inD x ys) else none
  | .notin, x, .lst ys => if x.okc && (D.lst ys).okc then some (!inD x ys) else none
  | .isin, x, .tup ys => if x.okc && (D.tup ys).okc then some (inD x ys) else none
  | .notin, x, .tup ys => if x.okc && (D.tup ys).okc then some (!inD x ys) else none
  | .is, x, .non => some x.isNon
  | .isnot, x, .non => some (!x.isNon)
  | .is, .bl x, .bl y => some (x == y)
  | .isnot, .bl x, .bl y => some (!(x == y))
  | _, _, _ => none

def truD : D → Option Bool
  | .non => some false
  | .bl b => some b
  | .int i => some (i != 0)
  | .str s => if s.length ≤ LIM then some (!s.isEmpty) else none
  | .tup xs => some (!xs.isEmpty)
  | .lst xs => some (!xs.isEmpty)
  | .scr ns => some (!ns.isEmpty)
  | _ => none

/-- the place of an index of any sign -/
def ixI (n : Nat) (i : Int) : Option Nat := if 0 ≤ i then (if i < n then some i.toNat else none) else if -(n : Int) ≤ i then some (i + n).toNat else none
def atD {α : Type} (xs : List α) (i : Int) : Option α := (ixI xs.length i).bind fun j => xs[j]?
def idxD : D → D → Option D
  | .lst xs, .int i => atD xs i
  | .tup xs, .int i => atD xs i
  | .scr ns, .int i => (atD ns i).map .int
  | .str s, .int i => if s.length ≤ LIM then (atD s i).map fun c => .str [c] else none
  | _, _ => none
/-- where a slice's part stands -/
def sIx (n d : Nat) : Option Int → Nat
  | none => d
  | some v => if v < 0 then (v + (n : Int)).toNat else min v.toNat n
def cutL {α : Type} (xs : List α) (lo hi : Option Int) : List α := (xs.drop (sIx xs.length 0 lo)).take (sIx xs.length xs.length hi - sIx xs.length 0 lo)
def slcD : D → Option Int → Option Int → Option R
  | .lst xs, lo, hi => some (.fr (.lst (cutL xs lo hi)))
  | .tup xs, lo, hi => some (.val (.tup (cutL xs lo hi)))
  | .str s, lo, hi => if s.length ≤ LIM then some (.val (.str (cutL s lo hi))) else none
  | _, _, _ => none
/-- what is walked -/
def itD : D → Option (List D)
  | .lst xs => some xs
  | .tup xs => some xs
  | .scr ns => some (ns.map .int)
  | .str s => if s.length ≤ LIM then some (s.map fun c => .str [c]) else none
  | _ => none
def lenD : D → Option Nat
  | .lst xs => some xs.length
  | .tup xs => some xs.length
  | .scr ns => some ns.length
  | .str s => if s.length ≤ LIM then some s.length else none
  | _ => none

inductive Bi where
  | len | tuple | list | all | any | sum | abs | int | sorted | min | max
  | isint | isbool | isstr | istuple
inductive Me where
  | join | count | index

def boolsOf : List D → Option (List Bool)
  | [] => some []
  | .bl b :: r => (boolsOf r).map (b :: ·)
  | _ => none
def intsOf : List D → Option (List Int)
  | [] => some []
  | .int b :: r => (intsOf r).map (b :: ·)
  | _ => none
def strsOf : List D → Option (List (List Char))
  | [] => some []
  | .str b :: r => (strsOf r).map (b :: ·)
  | _ => none
def joinS (sep : List Char) : List (List Char) → List Char
  | [] => []
  | [x] => x
  | x :: y :: r => x ++ sep ++ joinS sep (y :: r)
/-- of a set: its members, sorted; their number -/
def setD : D → Option (List (List Char) ⊕ List Int)
  | .lst xs => match strsOf xs with
    | some ss => if ss.length ≤ 4000 then some (.inl ss) else none
    | none => match intsOf xs with
      | some ns => if ns.length ≤ 4000 then some (.inr ns) else none
      | none => none
  | .tup xs => match strsOf xs with
    | some ss => if ss.length ≤ 4000 then some (.inl ss) else none
    | none => match intsOf xs with
      | some ns => if ns.length ≤ 4000 then some (.inr ns) else none
      | none => none
  | _ => none
def ltI (i j : Int) : Bool := decide (i < j)
def ssetD : List (List Char) ⊕ List Int → R
  | .inl ss => .fr (.lst ((sortW ltS (nub ss)).map .str))
  | .inr ns => .fr (.lst ((sortW ltI (nub ns)).map .int))
def lsetD : List (List Char) ⊕ List Int → R
  | .inl ss => .val (.int (nub ss).length)
  | .inr ns => .val (.int (nub ns).length)
/-- the built-in class's name -/
def tyN : D → Option String
  | .non => some "NoneType"
  | .bl _ => some "bool"
  | .int _ => some "int"
  | .str _ => some "str"
  | .tup _ => some "tuple"
  | .lst _ => some "list"
  | _ => none
def biD : Bi → List D → Option R
  | .len, [x] => (lenD x).map fun n => .val (.int n)
  | .tuple, [.lst xs] => some (.val (.tup xs))
  | .tuple, [.tup xs] => some (.val (.tup xs))
  | .list, [.lst xs] => some (.fr (.lst xs))
  | .list, [.tup xs] => some (.fr (.lst xs))
  | .list, [.scr ns] => some (.fr (.lst (ns.map .int)))
  | .list, [.str s] => if s.length ≤ LIM then some (.fr (.lst (s.map fun c => .str [c]))) else none
  | .all, [.lst xs] => (boolsOf xs).map fun bs => .val (.bl (bs.all id))
  | .any, [.lst xs] => (boolsOf xs).map fun bs => .val (.bl (bs.any id))
  | .sum, [.lst xs] => (intsOf xs).map fun ns => .val (.int ns.sum)
  | .abs, [.int i] => some (.val (.int (if i < 0 then -i else i)))
  | .int, [.int i] => some (.val (.int i))
  | .int, [.bl b] => some (.val (.int (if b then 1 else 0)))
  | .sorted, [.lst xs] => if srtOk xs then some (.fr (.lst (sortW ltb xs))) else none
  | .min, [.lst xs] => bestD (minW ltb) xs
  | .min, [.tup xs] => bestD (minW ltb) xs
  | .max, [.lst xs] => bestD (maxW ltb) xs
  | .max, [.tup xs] => bestD (maxW ltb) xs
  | .isint, [x] => (tyN x).map fun n => .val (.bl (n == "int" || n == "bool"))
  | .isbool, [x] => (tyN x).map fun n => .val (.bl (n == "bool"))
  | .isstr, [x] => (tyN x).map fun n => .val (.bl (n == "str"))
  | .istuple, [x] => (tyN x).map fun n => .val (.bl (n == "tuple"))
  | _, _ => none
/-- the first place -/
def indexD (x : D) : List D → Option Nat
  | [] => none
  | y :: r => if eqD y x then some 0 else (indexD x r).map (· + 1)
def sumLen (xs : List (List Char)) : Nat := (xs.map (·.length)).sum
def meD : Me → D → List D → Option R
  | .join, .str s, [.lst xs] => (strsOf xs).bind fun ys => if sumLen ys + ys.length * s.length ≤ LIM then some (.val (.str (joinS s ys))) else none
  | .join, .str s, [.tup xs] => (strsOf xs).bind fun ys => if sumLen ys + ys.length * s.length ≤ LIM then some (.val (.str (joinS s ys))) else none
  | .index, .lst xs, [x] => if (D.lst xs).okc && x.okc then (indexD x xs).map fun n => .val (.int n) else none
  | .count, .lst xs, [x] => if (D.lst xs).okc && x.okc then some (.val (.int (xs.countP fun y => eqD y x))) else none
  | .index, .tup xs, [x] => if (D.tup xs).okc && x.okc then (indexD x xs).map fun n => .val (.int n) else none
  | .count, .tup xs, [x] => if (D.tup xs).okc && x.okc then some (.val (.int (xs.countP fun y => eqD y x))) else none
  | .count, .str s, [.str [c]] => if s.length ≤ LIM then some (.val (.int (s.count c))) else none
  | _, _, _ => none

/-- the receiver's class -/
def meOk : Me → D → Bool
  | .join, .str _ => true
  | .count, .lst _ => true
  | .index, .lst _ => true
  | .count, .tup _ => true
  | .index, .tup _ => true
  | .count, .str _ => true
  | _, _ => false

/-! ### the small language -/
inductive Tg where
  | nm (i : Nat) | tup (t : Tg) | nil | cons (t r : Tg)
inductive IE where
  | non | bl (b : Bool) | int (i : Int) | str (s : List Char)
  | var (i : Nat)
  | bin (o : Bop) (a b : IE)
  | not (a : IE) | neg (a : IE)
  | cmp (o : Cop) (a b : IE)
  | cmp3 (o p : Cop) (a b c : IE)
  | and (a b : IE) | or (a b : IE)
  | ite (c a b : IE)
  | nil | cons (a r : IE)
  | tup (as : IE) | lst (as : IE)
  | idx (a i : IE) | slc (a lo hi : IE)
  | gix (g : Nat) (k : IE) | gin (g : Nat) (neg : Bool) (k : IE)
  | dix (ks vs : List D) (k : IE)
  | call (f : Nat) (as : IE)
  | bi (b : Bi) (as : IE)
  | me (m : Me) (o as : IE)
  | lc (own : List Nat) (t : Tg) (s c e : IE)
  | lc2 (own own2 : List Nat) (t : Tg) (s c : IE) (t2 : Tg) (s2 c2 e : IE)
  | rng1 (a : IE) | rng2 (a b : IE) | zip (a b : IE) | enum (a : IE)
  | lr1 (t : Bool) (a : IE) | lr2 (t : Bool) (a b : IE)
  | mm (mx : Bool) (a b : IE) | sset (a : IE) | lset (a : IE)
inductive IS where
  | nil | cons (s r : IS)
  | asg (t : Tg) (e : IE) | asgo (i : Nat) (e : IE) | asgb (i : Nat) (e : IE)
  | par (os : List Bool) (is : List Nat) (es : List IE)
  | pop (t : Tg) (i : Nat) | popApp (i j : Nat) (k : IE) | app (i : Nat) (e : IE) | ext (i : Nat) (e : IE) | sub (i : Nat) (k e : IE)
  | ex (e : IE)
  | ite (c : IE) (a b : IS)
  | for_ (t : Tg) (s : IE) (b : IS) | whl (c : IE) (b : IS)
  | ret (e : IE) | retn | pas | frz (i : Nat) | raise (c : Nat) | nev
structure Fn where
  np : Nat
  n : Nat
  body : IS
/-- the functions' run, the constant dicts -/
structure Kp where
  f : Nat → List A → M R
  g : Nat → List D × List D

def lookD : List D → List D → D → Option D
  | k :: ks, v :: vs, x => if eqD k x then some v else lookD ks vs x
  | _, _, _ => none
-- names stored
mutual
def setT : Tg → D → List Slot → Option (List Slot)
  | .nm i, d, env => some (env.set i (.val d))
  | .tup t, .tup xs, env => setTs t xs env
  | _, _, _ => none
def setTs : Tg → List D → List Slot → Option (List Slot)
  | .nil, [], env => some env
  | .cons t r, x :: xs, env => (setT t x env).bind (setTs r xs)
  | _, _, _ => none
end
def wipeE (env : List Slot) : List Nat → List Slot
  | [] => env
  | v :: vs => (wipeE env vs).set v .no
def lcGo (f : D → M (List D)) : List D → M (List D)
  | [] => M.pure []
  | x :: xs => M.bind (f x) fun r => M.bind (lcGo f xs) fun rs => M.pure (r ++ rs)
/-- an argument handed on -/
def R.arg : R → M A
  | .val d => M.pure (.val d)
  | .bx n => M.pure (.bx n)
  | .fr d => M.pure (.val d)
  | .own _ => M.bad
def enumD (xs : List D) : List D := xs.zipIdx.map fun p => .tup [.int p.2, p.1]
def zipD (xs ys : List D) : List D := (xs.zip ys).map fun p => .tup [p.1, p.2]
def rngD (lo hi : Int) : List D := (List.range (hi - lo).toNat).map fun (i : Nat) => .int (lo + (i : Int))
def big (i : Int) : Bool := decide (-1000000 ≤ i) && decide (i ≤ 1000000)

def isBlT : R → M Bool
  | .val (.bl b) => M.pure b
  | _ => M.bad
def gets : List R → M (List D)
  | [] => M.pure []
  | x :: r => M.bind x.get fun d => M.bind (gets r) fun ds => M.pure (d :: ds)
/-- items kept; arguments handed on -/
def keeps : List R → M (List D)
  | [] => M.pure []
  | x :: r => M.bind x.keep fun d => M.bind (keeps r) fun ds => M.pure (d :: ds)
def argsOf : List R → M (List A)
  | [] => M.pure []
  | x :: r => M.bind x.arg fun d => M.bind (argsOf r) fun ds => M.pure (d :: ds)
/-- nothing may be raised within -/
def M.nox {α : Type} (m : M α) : M α := fun b => match m b with
  | .ok a b' => .ok a b'
  | _ => .bad
/-- what an expression is: a value; a test; a row of values; a slice's part; what a loop walks -/
structure Pk where
  v : List Slot → M R
  t : List Slot → M Bool
  r : List Slot → M (List R)
  p : List Slot → M (Option Int)
  i : List Slot → M (List D)
def Pk.tru (v : List Slot → M R) (env : List Slot) : M Bool := M.bind (v env) fun x => M.bind x.get fun d => M.opt (truD d)
def toI : R → M Int
  | .val (.int i) => M.pure i
  | _ => M.bad
def Pk.prt (v : List Slot → M R) (env : List Slot) : M (Option Int) := M.bind (v env) fun x => M.bind (toI x) fun i => M.pure (some i)
def Pk.itr (v : List Slot → M R) (env : List Slot) : M (List D) := M.bind (v env) fun x => M.bind x.keep fun d => M.opt (itD d)
def Pk.ofV (v : List Slot → M R) : Pk := ⟨v, Pk.tru v, fun _ => M.bad, Pk.prt v, Pk.itr v⟩
def Pk.ofT (v : List Slot → M R) (t : List Slot → M Bool) : Pk := ⟨v, t, fun _ => M.bad, Pk.prt v, Pk.itr v⟩
def Pk.ofI (i : List Slot → M (List D)) : Pk := ⟨fun _ => M.bad, fun _ => M.bad, fun _ => M.bad, fun _ => M.bad, i⟩
/-- one turn of a comprehension: the store, the test, the item -/
def lcT (g : D → Option (List Slot)) (c : List Slot → M Bool) (e : List Slot → M (List D)) (x : D) : M (List D) := M.bind (M.opt (g x)) fun env1 => M.bind (c env1) fun k => if k then e env1 else M.pure []
def keep1 (v : List Slot → M R) (env : List Slot) : M (List D) := M.bind (v env) fun y => M.bind y.keep fun d => M.pure [d]
def fits (zs : List D) : M R := if zs.length ≤ LIM then M.pure (.fr (.lst zs)) else M.bad
def blR (k : Bool) : M R := M.pure (.val (.bl k))
def gvalR (ks vs : List D) (y : R) : M R := M.bind y.get fun dy => M.bind (M.opt (lookD ks vs dy)) fun d => M.pure (.val d)
def ginR (ks vs : List D) (n : Bool) : R → M R
  | .val (.str s) => blR (n != (lookD ks vs (.str s)).isSome)
  | _ => M.bad
def rngR (i j : Int) : M (List D) := if big i && big j then M.pure (rngD i j) else M.bad
def rngV (t : Bool) (i j : Int) : M R := if big i && big j then M.pure (if t then .val (.tup (rngD i j)) else .fr (.lst (rngD i j))) else M.bad
def mmI (mx : Bool) (i j : Int) : Int := if mx then (if j > i then j else i) else (if j < i then j else i)
def den (κ : Kp) : IE → Pk
  | .non => .ofV fun _ => M.pure (.val .non)
  | .bl b => .ofT (fun _ => blR b) (fun _ => M.pure b)
  | .int i => .ofV fun _ => M.pure (.val (.int i))
  | .str s => .ofV fun _ => M.pure (.val (.str s))
  | .var i => .ofV fun env => M.bind (M.opt env[i]?) Slot.read
  | .bin o a b => .ofV fun env => M.bind ((den κ a).v env) fun x => M.bind ((den κ b).v env) fun y => M.bind x.get fun dx => M.bind y.get fun dy => M.opt (binD o dx dy)
  | .neg a => .ofV fun env => M.bind ((den κ a).v env) fun x => M.bind (toI x) fun i => M.pure (.val (.int (-i)))
  | .not a => .ofT (fun env => M.bind ((den κ a).v env) fun x => M.bind (isBlT x) fun b => blR (!b)) (fun env => M.bind ((den κ a).t env) fun b => M.pure (!b))
  | .cmp o a b => .ofV fun env => M.bind ((den κ a).v env) fun x => M.bind ((den κ b).v env) fun y => M.bind x.get fun dx => M.bind y.get fun dy => M.bind (M.opt (cmpD o dx dy)) fun k => blR k
  | .cmp3 o p a b c => .ofV fun env => M.bind ((den κ a).v env) fun x => M.bind ((den κ b).v env) fun y => M.bind x.get fun dx => M.bind y.get fun dy => M.bind (M.opt (cmpD o dx dy)) fun k =>
    if k then M.bind ((den κ c).v env) fun z => M.bind y.get fun dy => M.bind z.get fun dz => M.bind (M.opt (cmpD p dy dz)) fun k => blR k else blR false
  | .and a b => .ofT (fun env => M.bind ((den κ a).v env) fun x => M.bind (isBlT x) fun k => if k then (den κ b).v env else blR false) (fun env => M.bind ((den κ a).t env) fun k => if k then (den κ b).t env else M.pure false)
  | .or a b => .ofT (fun env => M.bind ((den κ a).v env) fun x => M.bind (isBlT x) fun k => if k then blR true else (den κ b).v env) (fun env => M.bind ((den κ a).t env) fun k => if k then M.pure true else (den κ b).t env)
  | .ite c a b => .ofV fun env => M.bind ((den κ c).t env) fun k => if k then (den κ a).v env else (den κ b).v env
  | .nil => ⟨fun _ => M.bad, fun _ => M.bad, fun _ => M.pure [], fun _ => M.pure none, fun _ => M.bad⟩
  | .cons a r => ⟨fun _ => M.bad, fun _ => M.bad, fun env => M.bind ((den κ a).v env) fun x => M.bind ((den κ r).r env) fun xs => M.pure (x :: xs), fun _ => M.bad, fun _ => M.bad⟩
  | .tup as => .ofV fun env => M.bind ((den κ as).r env) fun rs => M.bind (keeps rs) fun xs => M.pure (.val (.tup xs))
  | .lst as => .ofV fun env => M.bind ((den κ as).r env) fun rs => M.bind (keeps rs) fun xs => M.pure (.fr (.lst xs))
  | .idx a i => .ofV fun env => M.bind ((den κ a).v env) fun x => M.bind ((den κ i).v env) fun y => M.bind x.get fun dx => M.bind y.get fun dy => M.bind (M.opt (idxD dx dy)) fun d => M.pure (.val d)
  | .slc a lo hi => .ofV fun env => M.bind ((den κ a).v env) fun x => M.bind ((den κ lo).p env) fun l => M.bind ((den κ hi).p env) fun h => M.bind x.get fun dx => M.opt (slcD dx l h)
  | .gix g k => .ofV fun env => M.bind ((den κ k).v env) fun y => gvalR (κ.g g).1 (κ.g g).2 y
  | .gin g n k => .ofV fun env => M.bind ((den κ k).v env) fun y => ginR (κ.g g).1 (κ.g g).2 n y
  | .dix ks vs k => .ofV fun env => M.bind ((den κ k).v env) fun y => gvalR ks vs y
  | .call f as => .ofV fun env => M.bind ((den κ as).r env) fun rs => M.bind (argsOf rs) fun xs => κ.f f xs
  | .bi f as => .ofV fun env => M.bind ((den κ as).r env) fun rs => M.bind (gets rs) fun xs => M.opt (biD f xs)
  | .me m o as => .ofV fun env => M.bind ((den κ o).v env) fun x => M.bind x.get fun d0 => if meOk m d0 then M.bind ((den κ as).r env) fun rs => M.bind x.get fun dx => M.bind (gets rs) fun xs => M.opt (meD m dx xs) else M.bad
  | .lc own t s c e => .ofV fun env => M.bind ((den κ s).i env) fun xs => M.bind (M.nox (lcGo (lcT (fun x => setT t x (wipeE env own)) (den κ c).t (keep1 (den κ e).v)) xs)) fun ys => M.pure (.fr (.lst ys))
  | .lc2 own own2 t s c t2 s2 c2 e => .ofV fun env => M.bind ((den κ s).i env) fun xs => M.bind (M.nox (lcGo (lcT (fun x => setT t x (wipeE env own)) (den κ c).t fun env1 =>
      M.bind ((den κ s2).i env1) fun ys => lcGo (lcT (fun y => setT t2 y (wipeE env1 own2)) (den κ c2).t (keep1 (den κ e).v)) ys) xs)) fits
  | .lr1 t a => .ofV fun env => M.bind ((den κ a).v env) fun x => M.bind (toI x) fun i => rngV t 0 i
  | .lr2 t a b => .ofV fun env => M.bind ((den κ a).v env) fun x => M.bind ((den κ b).v env) fun y => M.bind (toI x) fun i => M.bind (toI y) fun j => rngV t i j
  | .mm mx a b => .ofV fun env => M.bind ((den κ a).v env) fun x => M.bind ((den κ b).v env) fun y => M.bind (toI x) fun i => M.bind (toI y) fun j => M.pure (.val (.int (mmI mx i j)))
  | .sset a => .ofV fun env => M.bind ((den κ a).v env) fun x => M.bind x.get fun d => M.bind (M.opt (setD d)) fun z => M.pure (ssetD z)
  | .lset a => .ofV fun env => M.bind ((den κ a).v env) fun x => M.bind x.get fun d => M.bind (M.opt (setD d)) fun z => M.pure (lsetD z)
  | .rng1 a => .ofI fun env => M.bind ((den κ a).v env) fun x => M.bind (toI x) fun i => rngR 0 i
  | .rng2 a b => .ofI fun env => M.bind ((den κ a).v env) fun x => M.bind ((den κ b).v env) fun y => M.bind (toI x) fun i => M.bind (toI y) fun j => rngR i j
  | .zip a b => .ofI fun env => M.bind ((den κ a).v env) fun x => M.bind ((den κ b).v env) fun y => M.bind x.keep fun dx => M.bind y.keep fun dy => M.bind (M.opt (itD dx)) fun xs => M.bind (M.opt (itD dy)) fun ys => M.pure (zipD xs ys)
  | .enum a => .ofI fun env => M.bind ((den κ a).v env) fun x => M.bind x.keep fun dx => M.bind (M.opt (itD dx)) fun xs => M.pure (enumD xs)

inductive Fl where
  | nx (env : List Slot) | rt (r : R)
/-- one list or dict changed, in its slot or box -/
def modify (env : List Slot) (i : Nat) (f : D → Option (D × D)) : M (D × List Slot) := match env[i]? with
  | some (.own d) => (match f d with
    | some (r, d') => M.pure (r, env.set i (.own d'))
    | none => M.bad)
  | some (.bx n) => fun b => (match b[n]? with
    | some d => (match f d with
      | some (r, d') => .ok (r, env) (b.set n d')
      | none => .bad)
    | none => .bad)
  | _ => M.bad
/-- a list's slot -/
def peek (env : List Slot) (i : Nat) : M Unit := fun b => match env[i]? with
  | some (.own (.lst _)) => .ok () b
  | some (.bx n) => (match b[n]? with
    | some (.lst _) => .ok () b
    | _ => .bad)
  | _ => .bad
def appD (x : D) : D → Option (D × D)
  | .lst xs => if xs.length < LIM then some (.non, .lst (xs ++ [x])) else none
  | _ => none
def extD (x : D) : D → Option (D × D)
  | .lst xs => (match x with
    | .lst ys => if xs.length + ys.length ≤ LIM then some (.non, .lst (xs ++ ys)) else none
    | _ => none)
  | _ => none
def popD : D → Option (D × D)
  | .lst xs => (match xs.getLast? with
    | some y => some (y, .lst xs.dropLast)
    | none => none)
  | _ => none
def popAtD (k : D) : D → Option (D × D)
  | .lst xs => (match k with
    | .int i => if xs.length ≤ LIM then (ixI xs.length i).bind fun j => (xs[j]?).map fun y => (y, .lst (xs.eraseIdx j)) else none
    | _ => none)
  | _ => none
def subD (k x : D) : D → Option (D × D)
  | .lst xs => (match k with
    | .int i => (ixI xs.length i).map fun j => (.non, .lst (xs.set j x))
    | _ => none)
  | _ => none
def forGo (f : D → List Slot → M Fl) : List D → List Slot → M Fl
  | [], env => M.pure (.nx env)
  | x :: xs, env => M.bind (f x env) fun r => match r with
    | .nx env' => forGo f xs env'
    | .rt r => M.pure (.rt r)
def whlGo (c : List Slot → M Bool) (f : List Slot → M Fl) : Nat → List Slot → M Fl
  | 0, _ => M.bad
  | n + 1, env => M.bind (c env) fun k => if k then M.bind (f env) fun r => match r with
      | .nx env' => whlGo c f n env'
      | .rt r => M.pure (.rt r)
    else M.pure (.nx env)
def toSlot : Bool → R → M Slot
  | true, .fr d => M.pure (.own d)
  | true, _ => M.bad
  | false, x => M.bind x.keep fun d => M.pure (.val d)
def parM (κ : Kp) : List Bool → List IE → List Slot → M (List Slot)
  | o :: os, e :: es, env => M.bind ((den κ e).v env) fun x => M.bind (toSlot o x) fun sl => M.bind (parM κ os es env) fun r => M.pure (sl :: r)
  | [], [], _ => M.pure []
  | _, _, _ => M.bad
def setSs : List Nat → List Slot → List Slot → List Slot
  | i :: is, sl :: sls, env => setSs is sls (env.set i sl)
  | _, _, env => env
def evS (κ : Kp) : IS → List Slot → M Fl
  | .nil, env => M.pure (.nx env)
  | .cons s r, env => M.bind (evS κ s env) fun f => match f with
    | .nx env' => evS κ r env'
    | .rt x => M.pure (.rt x)
  | .asg t e, env => M.bind ((den κ e).v env) fun x => M.bind x.keep fun d => M.bind (M.opt (setT t d env)) fun env' => M.pure (.nx env')
  | .asgo i e, env => M.bind ((den κ e).v env) fun x => match x with
    | .fr d => M.pure (.nx (env.set i (.own d)))
    | _ => M.bad
  | .asgb i e, env => M.bind ((den κ e).v env) fun x => match x with
    | .fr d => fun b => .ok (.nx (env.set i (.bx b.length))) (b ++ [d])
    | _ => M.bad
  | .par os is es, env => M.bind (parM κ os es env) fun sls => M.pure (.nx (setSs is sls env))
  | .popApp i j k, env => M.bind (peek env i) fun _ => M.bind (peek env j) fun _ => M.bind ((den κ k).v env) fun y => M.bind y.keep fun dk => M.bind (modify env j (popAtD dk)) fun p => M.bind (modify p.2 i (appD p.1)) fun q => M.pure (.nx q.2)
  | .pop t i, env => M.bind (peek env i) fun _ => M.bind (modify env i popD) fun p => M.bind (M.opt (setT t p.1 p.2)) fun env' => M.pure (.nx env')
  | .app i e, env => M.bind (peek env i) fun _ => M.bind ((den κ e).v env) fun x => M.bind x.keep fun d => M.bind (modify env i (appD d)) fun p => M.pure (.nx p.2)
  | .ext i e, env => M.bind (peek env i) fun _ => M.bind ((den κ e).v env) fun x => M.bind x.keep fun d => M.bind (modify env i (extD d)) fun p => M.pure (.nx p.2)
  | .sub i k e, env => M.bind (peek env i) fun _ => M.bind ((den κ e).v env) fun x => M.bind x.keep fun d => M.bind ((den κ k).v env) fun y => M.bind y.keep fun dk => M.bind (modify env i (subD dk d)) fun p => M.pure (.nx p.2)
  | .ex e, env => M.bind ((den κ e).v env) fun _ => M.pure (.nx env)
  | .ite c a b, env => M.bind ((den κ c).t env) fun k => if k then evS κ a env else evS κ b env
  | .for_ t s b, env => M.bind ((den κ s).i env) fun xs => forGo (fun x env => M.bind (M.opt (setT t x env)) fun env1 => evS κ b env1) xs env
  | .whl c b, env => whlGo (den κ c).t (evS κ b) 1000000 env
  | .ret e, env => M.bind ((den κ e).v env) fun x => match x with
    | .val d => M.pure (.rt (.val d))
    | .fr d => M.pure (.rt (.fr d))
    | _ => M.bad
  | .retn, _ => M.pure (.rt (.val .non))
  | .pas, env => M.pure (.nx env)
  | .frz i, env => (match env[i]? with
    | some (.own d) => M.pure (.nx (env.set i (.val d)))
    | _ => M.pure (.nx env))
  | .raise c, _ => fun b => .exn c b
  | .nev, _ => M.bad

def runF (κ : Kp) (fn : Fn) (as : List A) : M R := fun b =>
  if as.length = fn.np then
    (match evS κ fn.body (as.map A.slot ++ List.replicate (fn.n - fn.np) .no) b with
    | .ok (.nx _) b' => .ok (.val .non) (b'.take b.length)
    | .ok (.rt r) b' => .ok r (b'.take b.length)
    | .exn c b' => .exn c (b'.take b.length)
    | .bad => .bad)
  else .bad
def kap (p : List Fn) (g : Nat → List D × List D) : Nat → Kp
  | 0 => ⟨fun _ _ => M.bad, g⟩
  | k + 1 => ⟨fun f as => match p[f]? with
    | some fn => runF (kap p g k) fn as
    | none => M.bad, g⟩
end Sg

-- SgRep
/-! SgRep: how data lie in the abstract heap; the readings of the small language's parts. -/
namespace Sg
open PySem PySem.Spec PyProof.Rows L2
abbrev St := L2.St

def strOf (s : List Char) : Str := ⟨(s.map Char.toNat).toArray⟩

/-- at a (not among E) a thing that every heap that keeps what is not in E holds, too -/
def ScrAt (K : PySem.W.Frag) (H : Hp) (E : Addr → Prop) (a : Addr) (ns : List Int) : Prop :=
  ∀ H' : Hp, (∀ b o, ¬ E b → H b = some o → H' b = some o) → SqL K H' a (ns.map V.int)

/-- a tuple, its object without a dict -/
def TupAt (H : Hp) (a : Addr) (xs : List V) : Prop := ∃ o : Obj, o.dict = none ∧ H a = some (.frz o (.tup xs))
theorem TupAt.sq {K : PySem.W.Frag} {H : Hp} {a : Addr} {xs : List V} (h : TupAt H a xs) : SqT K H a xs := by
  obtain ⟨o, _, e⟩ := h
  exact .inl (.inr ⟨o, e⟩)
theorem TupAt.up {H H' : Hp} {a : Addr} {xs : List V} (h : TupAt H a xs) (k : ∀ o, H a = some o → H' a = some o) : TupAt H' a xs := by
  obtain ⟨o, d, e⟩ := h
  exact ⟨o, d, k _ e⟩
theorem TupAt.has {H : Hp} {a : Addr} {xs : List V} (h : TupAt H a xs) : ∃ o, H a = some o := by
  obtain ⟨o, _, e⟩ := h
  exact ⟨_, e⟩
mutual
inductive VR (K : PySem.W.Frag) (H : Hp) (E : Addr → Prop) : V → D → Prop
  | non : VR K H E .non .non
  | bl (b : Bool) : VR K H E (.bl b) (.bl b)
  | int (i : Int) : VR K H E (.int i) (.int i)
  | str (s : List Char) : VR K H E (.str (strOf s)) (.str s)
  | tup {a : Addr} {xs : List V} {ds : List D} : ¬ E a → TupAt H a xs → VRs K H E xs ds → VR K H E (.ref a) (.tup ds)
  | lst {a : Addr} {xs : List V} {ds : List D} : ¬ E a → H a = some (.lst xs) → VRs K H E xs ds → VR K H E (.ref a) (.lst ds)
  | scr {a : Addr} {ns : List Int} : ScrAt K H E a ns → VR K H E (.ref a) (.scr ns)
inductive VRs (K : PySem.W.Frag) (H : Hp) (E : Addr → Prop) : List V → List D → Prop
  | nil : VRs K H E [] []
  | cons {v : V} {vs : List V} {d : D} {ds : List D} : VR K H E v d → VRs K H E vs ds → VRs K H E (v :: vs) (d :: ds)
end
section
variable {K : PySem.W.Frag} {H H' : Hp} {E E' : Addr → Prop}
mutual
theorem VR.mono (h : ∀ b o, ¬ E b → H b = some o → ¬ E' b ∧ H' b = some o) : ∀ {v : V} {d : D}, VR K H E v d → VR K H' E' v d
  | _, _, .non => .non
  | _, _, .bl b => .bl b
  | _, _, .int i => .int i
  | _, _, .str s => .str s
  | _, _, .tup n ⟨o, d, e⟩ r => .tup (h _ _ n e).1 ⟨o, d, (h _ _ n e).2⟩ (VRs.mono h r)
  | _, _, .lst n e r => .lst (h _ _ n e).1 (h _ _ n e).2 (VRs.mono h r)
  | _, _, .scr q => .scr fun H2 k => q H2 fun b o n e => k b o (h b o n e).1 (h b o n e).2
theorem VRs.mono (h : ∀ b o, ¬ E b → H b = some o → ¬ E' b ∧ H' b = some o) : ∀ {vs : List V} {ds : List D}, VRs K H E vs ds → VRs K H' E' vs ds
  | _, _, .nil => .nil
  | _, _, .cons a r => .cons (VR.mono h a) (VRs.mono h r)
end
theorem VRs.length : ∀ {vs : List V} {ds : List D}, VRs K H E vs ds → vs.length = ds.length
  | _, _, .nil => rfl
  | _, _, .cons _ r => by simp [VRs.length r]
theorem VRs.get : ∀ {vs : List V} {ds : List D} {i : Nat} {v : V}, VRs K H E vs ds → vs[i]? = some v → ∃ d, ds[i]? = some d ∧ VR K H E v d
  | _, _, _, _, .nil, e => by simp at e
  | _, _, 0, _, .cons a r, e => by simp at e; subst e; exact ⟨_, rfl, a⟩
  | _, _, i + 1, v, .cons a r, e => by
    obtain ⟨d, h1, h2⟩ := VRs.get (i := i) r (by simpa using e)
    exact ⟨d, by simpa using h1, h2⟩
theorem VRs.get' : ∀ {vs : List V} {ds : List D} {i : Nat} {d : D}, VRs K H E vs ds → ds[i]? = some d → ∃ v, vs[i]? = some v ∧ VR K H E v d
  | _, _, _, _, .nil, e => by simp at e
  | _, _, 0, _, .cons a r, e => by simp at e; subst e; exact ⟨_, rfl, a⟩
  | _, _, i + 1, v, .cons a r, e => by
    obtain ⟨d, h1, h2⟩ := VRs.get' (i := i) r (by simpa using e)
    exact ⟨d, by simpa using h1, h2⟩
theorem VRs.append : ∀ {vs ws : List V} {ds es : List D}, VRs K H E vs ds → VRs K H E ws es → VRs K H E (vs ++ ws) (ds ++ es)
  | _, _, _, _, .nil, s => s
  | _, _, _, _, .cons a r, s => .cons a (VRs.append r s)
theorem VRs.take : ∀ {vs : List V} {ds : List D} (n : Nat), VRs K H E vs ds → VRs K H E (vs.take n) (ds.take n)
  | _, _, 0, _ => .nil
  | _, _, _ + 1, .nil => .nil
  | _, _, n + 1, .cons a r => .cons a (VRs.take n r)
theorem VRs.drop : ∀ {vs : List V} {ds : List D} (n : Nat), VRs K H E vs ds → VRs K H E (vs.drop n) (ds.drop n)
  | _, _, 0, r => r
  | _, _, _ + 1, .nil => .nil
  | _, _, n + 1, .cons _ r => VRs.drop n r
theorem VRs.set : ∀ {vs : List V} {ds : List D} {v : V} {d : D} (i : Nat), VR K H E v d → VRs K H E vs ds → VRs K H E (vs.set i v) (ds.set i d)
  | _, _, _, _, _, _, .nil => .nil
  | _, _, _, _, 0, a, .cons _ r => .cons a r
  | _, _, _, _, i + 1, a, .cons b r => .cons b (VRs.set i a r)
theorem VRs.rep {vs : List V} {ds : List D} (r : VRs K H E vs ds) : ∀ n : Nat, VRs K H E (List.replicate n vs).flatten (rep n ds)
  | 0 => .nil
  | n + 1 => by
    unfold Sg.rep
    rw [List.replicate_succ, List.replicate_succ, List.flatten_cons, List.flatten_cons]
    exact r.append (VRs.rep r n)
theorem VRs.ints : ∀ ns : List Int, VRs K H E (ns.map V.int) (ns.map D.int)
  | [] => .nil
  | n :: r => .cons (.int n) (VRs.ints r)
theorem VRs.strs : ∀ ss : List (List Char), VRs K H E (ss.map fun s => V.str (strOf s)) (ss.map D.str)
  | [] => .nil
  | n :: r => .cons (.str n) (VRs.strs r)
end

/-- at a stands the changing thing d: its items are kept ones -/
def Cell (K : PySem.W.Frag) (H : Hp) (E : Addr → Prop) (a : Addr) : D → Prop
  | .lst ds => ∃ xs, H a = some (.lst xs) ∧ VRs K H E xs ds
  | _ => False
theorem Cell.mono {K : PySem.W.Frag} {H H' : Hp} {E E' : Addr → Prop} {a : Addr} {d : D} (c : Cell K H E a d) (ha : ∀ o, H a = some o → H' a = some o) (h : ∀ b o, ¬ E b → H b = some o → ¬ E' b ∧ H' b = some o) : Cell K H' E' a d := by
  cases d with
  | lst ds => obtain ⟨xs, e, r⟩ := c; exact ⟨xs, ha _ e, r.mono h⟩
  | _ => exact c.elim
theorem Cell.has {K : PySem.W.Frag} {H : Hp} {E : Addr → Prop} {a : Addr} {d : D} (c : Cell K H E a d) : ∃ o, H a = some o := by
  cases d with
  | lst ds => obtain ⟨xs, e, r⟩ := c; exact ⟨_, e⟩
  | _ => exact c.elim

/-- the boxes -/
structure Bxs (K : PySem.W.Frag) (β : List Addr) (E : Addr → Prop) (b : List D) (H : Hp) : Prop where
  inE : ∀ a ∈ β, E a
  has : ∀ a, E a → ∃ o, H a = some o
  len : β.length = b.length
  nd : β.Nodup
  box : ∀ (n : Nat) (a : Addr) (d : D), β[n]? = some a → b[n]? = some d → Cell K H E a d

def SlotR (K : PySem.W.Frag) (β : List Addr) (E : Addr → Prop) (σ : St) (H : Hp) (i : Nat) : Slot → Prop
  | .no => True
  | .val d => ∃ v, σ[i]? = some (some v) ∧ VR K H E v d
  | .own d => ∃ a, σ[i]? = some (some (V.ref a)) ∧ E a ∧ Cell K H E a d ∧ a ∉ β
  | .bx n => ∃ a, β[n]? = some a ∧ σ[i]? = some (some (V.ref a))
/-- the state -/
structure SR (K : PySem.W.Frag) (β : List Addr) (E : Addr → Prop) (env : List Slot) (b : List D) (σ : St) (H : Hp) : Prop where
  bx : Bxs K β E b H
  len : env.length = σ.length
  slots : ∀ (i : Nat) (s : Slot), env[i]? = some s → SlotR K β E σ H i s
  apart : ∀ (i j : Nat) (d e : D) (a : Addr), env[i]? = some (Slot.own d) → env[j]? = some (Slot.own e) → σ[i]? = some (some (V.ref a)) → σ[j]? = some (some (V.ref a)) → i = j

/-- what stands and is not a box stays -/
def Stab (β : List Addr) (H H' : Hp) : Prop := ∀ a o, a ∉ β → H a = some o → H' a = some o
theorem Stab.refl {β : List Addr} {H : Hp} : Stab β H H := fun _ _ _ e => e
theorem Stab.trans {β : List Addr} {H H1 H2 : Hp} (h : Stab β H H1) (k : Stab β H1 H2) : Stab β H H2 := fun a o n e => k a o n (h a o n e)
theorem Stab.upd {β : List Addr} {H : Hp} {p : Addr} {o : HO} (n : H p = none) : Stab β H (upd H p o) := fun a u _ e => by rw [upd_ne (ne_of_none e n)]; exact e

/-- E and the address of a fresh result -/
def plus (E : Addr → Prop) (v : V) : R → Addr → Prop
  | .fr _ => fun a => E a ∨ v = .ref a
  | _ => E
/-- a result -/
def RV (K : PySem.W.Frag) (β : List Addr) (E : Addr → Prop) (env : List Slot) (σ : St) (H0 H : Hp) (v : V) : R → Prop
  | .val d => VR K H E v d
  | .fr d => ∃ a, v = .ref a ∧ H0 a = none ∧ Cell K H (fun b => E b ∨ V.ref a = .ref b) a d
  | .own d => ∃ (i : Nat) (a : Addr), env[i]? = some (Slot.own d) ∧ σ[i]? = some (some (V.ref a)) ∧ v = V.ref a
  | .bx n => ∃ a : Addr, β[n]? = some a ∧ v = V.ref a
/-- behind an expression -/
structure Post (K : PySem.W.Frag) (β : List Addr) (E : Addr → Prop) (env : List Slot) (σ : St) (H : Hp) (r : R) (b' : List D) (v : V) (H' : Hp) : Prop where
  stab : Stab β H H'
  bx : Bxs K β (plus E v r) b' H'
  rv : RV K β E env σ H H' v r
/-- behind an exception -/
structure XPost (K : PySem.W.Frag) (β : List Addr) (E : Addr → Prop) (H : Hp) (b' : List D) (H' : Hp) : Prop where
  stab : Stab β H H'
  bx : Bxs K β E b' H'

section
variable {K : PySem.W.Frag} {β : List Addr} {E E' : Addr → Prop} {env : List Slot} {b b' : List D} {σ : St} {H H' : Hp} {v : V} {r : R}
theorem Bxs.weak (x : Bxs K β E' b H) (hE : ∀ a, E a → E' a) (hi : ∀ a ∈ β, E a) : Bxs K β E b H :=
  ⟨hi, fun a e => x.has a (hE a e), x.len, x.nd, fun n a d h1 h2 => (x.box n a d h1 h2).mono (fun _ e => e) fun c o n e => ⟨fun z => n (hE c z), e⟩⟩
theorem plus_of {a : Addr} (h : E a) : plus E v r a := by
  cases r <;> first | exact h | exact .inl h
theorem Stab.vr (h : Stab β H H') (hi : ∀ a ∈ β, E a) : ∀ b o, ¬ E b → H b = some o → ¬ E b ∧ H' b = some o := fun b o n e => ⟨n, h b o (fun z => n (hi b z)) e⟩
theorem SR.noE (s : SR K β E env b σ H) {a : Addr} (n : H a = none) : ¬ E a := fun z => by
  obtain ⟨o, e⟩ := s.bx.has a z
  rw [n] at e; cases e
/-- the state goes on over a heap that keeps all but the boxes; E' may grow by what was not there -/
theorem SR.next (s : SR K β E env b σ H) (h : Stab β H H') (x : Bxs K β E' b' H') (hE : ∀ a, E a → E' a) (hn : ∀ a o, ¬ E a → H a = some o → ¬ E' a) : SR K β E' env b' σ H' := by
  have m : ∀ c o, ¬ E c → H c = some o → ¬ E' c ∧ H' c = some o := fun c o n e => ⟨hn c o n e, h c o (fun z => n (s.bx.inE c z)) e⟩
  refine ⟨x, s.len, fun i sl e => ?_, s.apart⟩
  have q := s.slots i sl e
  cases sl with
  | no => trivial
  | val d => obtain ⟨v, e1, r⟩ := q; exact ⟨v, e1, r.mono m⟩
  | own d => obtain ⟨a, e1, ea, c, nb⟩ := q; exact ⟨a, e1, hE a ea, c.mono (fun o e => h a o nb e) m, nb⟩
  | bx n => exact q
theorem Post.sr (s : SR K β E env b σ H) (p : Post K β E env σ H r b' v H') : SR K β (plus E v r) env b' σ H' := by
  refine s.next p.stab p.bx (fun a h => plus_of h) fun a o n e => ?_
  have q := p.rv
  cases r with
  | fr d =>
    obtain ⟨c, e1, e2, _⟩ := q
    subst e1
    rintro (z | z)
    · exact n z
    · cases z; rw [e2] at e; cases e
  | _ => exact n
theorem Post.sr0 (s : SR K β E env b σ H) (p : Post K β E env σ H r b' v H') : SR K β E env b' σ H' :=
  s.next p.stab (p.bx.weak (fun a h => plus_of h) s.bx.inE) (fun a h => h) fun a o n e => n
end

/-! ### the readings -/
section
variable (K : PySem.W.Frag) (xc : Nat → V → Prop) (xk : XK)
/-- what is wanted of a result -/
def Out (β : List Addr) (E : Addr → Prop) (H : Hp) {α : Type} (Q : α → List D → Prop) : Res α → Prop
  | .ok a b' => Q a b'
  | .exn c b' => ∀ cls H', XPost K β E H b' H' → xc c cls → ∃ u, RelV cls u ∧ xk u none H'
  | .bad => False
/-- an expression -/
def TI (m : List Slot → M R) : TE := fun σ H Q => ∃ β E env b, SR K β E env b σ H ∧
  Out K xc xk β E H (fun r b' => ∀ v H', Post K β E env σ H r b' v H' → Q v H') (m env b)
/-- a test -/
def TIt (m : List Slot → M Bool) : TT := fun σ H Q => ∃ β E env b, SR K β E env b σ H ∧
  Out K xc xk β E H (fun k b' => ∀ H', XPost K β E H b' H' → Q k H') (m env b)
end
theorem XPost.sr {K : PySem.W.Frag} {β : List Addr} {E : Addr → Prop} {env : List Slot} {b b' : List D} {σ : St} {H H' : Hp} (s : SR K β E env b σ H) (p : XPost K β E H b' H') : SR K β E env b' σ H' :=
  s.next p.stab p.bx (fun a h => h) fun a o n e => n
theorem _root_.L2.PE.imp {X : Cx} {e : Expr} {t u : TE} (h : PE X e t) (k : ∀ pins σ H Q s, Inv X pins σ H s → u σ H Q → t σ H Q) : PE X e u := ⟨fun pins s σ H Q I q => h.run pins s σ H Q I (k pins σ H Q s I q)⟩
theorem _root_.L2.PT.imp {X : Cx} {e : Expr} {t u : TT} (h : PT X e t) (k : ∀ pins σ H Q s, Inv X pins σ H s → u σ H Q → t σ H Q) : PT X e u := ⟨fun pins s σ H Q I q => h.run pins s σ H Q I (k pins σ H Q s I q)⟩

/-! ### what is known of a result later on -/
/-- a result, read: the thing itself, of kept items -/
def PV (K : PySem.W.Frag) (H : Hp) (E : Addr → Prop) (v : V) : D → Prop
  | .lst ds => ∃ a xs, v = .ref a ∧ H a = some (.lst xs) ∧ VRs K H E xs ds
  | .scr ns => ∃ a, v = .ref a ∧ SqL K H a (ns.map V.int)
  | d => VR K H E v d
theorem VR.pv {K : PySem.W.Frag} {H : Hp} {E : Addr → Prop} {v : V} {d : D} (h : VR K H E v d) : PV K H E v d := by
  cases h with
  | non => exact .non
  | bl b => exact .bl b
  | int i => exact .int i
  | str s => exact .str s
  | tup n e r => exact .tup n e r
  | lst n e r => exact ⟨_, _, rfl, e, r⟩
  | scr q => exact ⟨_, rfl, q H fun _ _ _ e => e⟩
def RW (K : PySem.W.Frag) (β : List Addr) (E : Addr → Prop) (env : List Slot) (σ : St) (H : Hp) (v : V) : R → Prop
  | .val d => VR K H E v d
  | .fr d => VR K H E v d
  | .own d => ∃ (i : Nat) (a : Addr), env[i]? = some (Slot.own d) ∧ σ[i]? = some (some (V.ref a)) ∧ v = V.ref a
  | .bx n => ∃ a : Addr, β[n]? = some a ∧ v = V.ref a
section
variable {K : PySem.W.Frag} {β : List Addr} {E E' : Addr → Prop} {env : List Slot} {b b' : List D} {σ : St} {H H' H2 : Hp} {v : V} {r : R}
theorem Cell.vr {a : Addr} {d : D} (c : Cell K H (fun b => E b ∨ V.ref a = .ref b) a d) (n : ¬ E a) : VR K H E (.ref a) d := by
  cases d with
  | lst ds => obtain ⟨xs, e, q⟩ := c; exact .lst n e (q.mono fun b o z e => ⟨fun y => z (.inl y), e⟩)
  | _ => exact c.elim
theorem RV.weak (s : SR K β E env b σ H) (h : RV K β E env σ H H' v r) : RW K β E env σ H' v r := by
  cases r with
  | val d => exact h
  | fr d => obtain ⟨a, rfl, n, c⟩ := h; exact c.vr (s.noE n)
  | own d => exact h
  | bx n => exact h
theorem RW.mono (h : RW K β E env σ H v r) (m : ∀ b o, ¬ E b → H b = some o → ¬ E b ∧ H' b = some o) : RW K β E env σ H' v r := by
  cases r with
  | val d => exact VR.mono m h
  | fr d => exact VR.mono m h
  | own d => exact h
  | bx n => exact h
theorem RW.get (s : SR K β E env b σ H) (h : RW K β E env σ H v r) {d : D} {b' : List D} (e : r.get b = .ok d b') : b' = b ∧ PV K H E v d := by
  cases r with
  | val d => cases e; exact ⟨rfl, VR.pv h⟩
  | fr d => cases e; exact ⟨rfl, VR.pv h⟩
  | own d =>
    cases e
    obtain ⟨i, a, e1, e2, rfl⟩ := h
    obtain ⟨a', e3, _, c, _⟩ := s.slots i _ e1
    rw [e2] at e3; cases e3
    cases d with
    | lst ds => obtain ⟨xs, e, q⟩ := c; exact ⟨rfl, _, _, rfl, e, q⟩
    | _ => exact c.elim
  | bx n =>
    obtain ⟨a, e1, rfl⟩ := h
    simp only [R.get] at e
    cases q : b[n]? with
    | none => rw [q] at e; cases e
    | some d' =>
      rw [q] at e; cases e
      have c := s.bx.box n a d e1 q
      cases d with
      | lst ds => obtain ⟨xs, e, q⟩ := c; exact ⟨rfl, _, _, rfl, e, q⟩
      | _ => exact c.elim
theorem RW.keep (h : RW K β E env σ H v r) {d : D} {b' : List D} (e : r.keep b = .ok d b') : b' = b ∧ VR K H E v d := by
  cases r with
  | val d => cases e; exact ⟨rfl, h⟩
  | fr d => cases e; exact ⟨rfl, h⟩
  | own d => cases e
  | bx n => cases e

/-! ### ends -/
theorem new_of (s : SR K β E env b σ H) (t : Stab β H H2) (x : Bxs K β E b' H2) {p : Addr} (n : H2 p = none) : H p = none := by
  by_cases hp : p ∈ β
  · obtain ⟨o, e⟩ := x.has p (x.inE p hp)
    rw [n] at e; cases e
  · cases q : H p with
    | none => rfl
    | some o => rw [t p o hp q] at n; cases n
theorem post_val {d : D} (t : Stab β H H2) (x : Bxs K β E b' H2) (h : VR K H2 E v d) : Post K β E env σ H (.val d) b' v H2 := ⟨t, x, h⟩
theorem Bxs.new {p : Addr} {o : HO} (x : Bxs K β E b' H2) (n : H2 p = none) : Bxs K β E b' (upd H2 p o) :=
  ⟨x.inE, fun a e => by
    by_cases h : a = p
    · exact ⟨o, by rw [h]; exact upd_same⟩
    · rw [upd_ne h]; exact x.has a e, x.len, x.nd, fun i a d h1 h2 => (x.box i a d h1 h2).mono (fun u e => by rw [upd_ne (ne_of_none e n)]; exact e) fun c u nc e => ⟨nc, by rw [upd_ne (ne_of_none e n)]; exact e⟩⟩
theorem plus_new {p : Addr} {o : HO} (n : H2 p = none) (c : Addr) (u : HO) (nc : ¬ E c) (e : H2 c = some u) : ¬ (E c ∨ V.ref p = V.ref c) ∧ upd H2 p o c = some u := by
  have hc : c ≠ p := ne_of_none e n
  refine ⟨fun z => ?_, by rw [upd_ne hc]; exact e⟩
  rcases z with z | z
  · exact nc z
  · exact hc (V.ref.inj z).symm
theorem Bxs.newP {p : Addr} {o : HO} (x : Bxs K β E b' H2) (n : H2 p = none) : Bxs K β (fun a => E a ∨ V.ref p = V.ref a) b' (upd H2 p o) := by
  refine ⟨fun a h => .inl (x.inE a h), fun a e => ?_, x.len, x.nd, fun i a d h1 h2 => (x.box i a d h1 h2).mono (fun u e => by rw [upd_ne (ne_of_none e n)]; exact e) (plus_new n)⟩
  by_cases h : a = p
  · exact ⟨o, by rw [h]; exact upd_same⟩
  · rw [upd_ne h]
    rcases e with e | e
    · exact x.has a e
    · exact absurd (V.ref.inj e).symm h
theorem Bxs.noE (x : Bxs K β E b' H2) {p : Addr} (n : H2 p = none) : ¬ E p := fun z => by
  obtain ⟨o, e⟩ := x.has p z
  rw [n] at e; cases e
theorem post_fr {p : Addr} {xs : List V} {ds : List D} (s : SR K β E env b σ H) (t : Stab β H H2) (x : Bxs K β E b' H2) (n : H2 p = none) (h : VRs K H2 E xs ds) : Post K β E env σ H (.fr (.lst ds)) b' (.ref p) (upd H2 p (.lst xs)) :=
  ⟨t.trans (Stab.upd n), x.newP n, p, rfl, new_of s t x n, xs, upd_same, h.mono (plus_new n)⟩
theorem post_tup {p : Addr} {o : Obj} {xs : List V} {ds : List D} (t : Stab β H H2) (x : Bxs K β E b' H2) (hd : o.dict = none) (n : H2 p = none) (h : VRs K H2 E xs ds) : Post K β E env σ H (.val (.tup ds)) b' (.ref p) (upd H2 p (.frz o (.tup xs))) :=
  ⟨t.trans (Stab.upd n), x.new n, .tup (x.noE n) ⟨o, hd, upd_same⟩ (h.mono fun c u nc e => ⟨nc, by rw [upd_ne (ne_of_none e n)]; exact e⟩)⟩
end

/-! ### chains -/
section
variable {K : PySem.W.Frag} {xc : Nat → V → Prop} {xk : XK} {β : List Addr} {E : Addr → Prop} {env : List Slot} {b : List D} {σ : St} {H : Hp}
theorem Out.mono {α : Type} {Q Q' : α → List D → Prop} {r : Res α} (h : Out K xc xk β E H Q r) (k : ∀ a b, Q a b → Q' a b) : Out K xc xk β E H Q' r := by
  cases r with
  | ok a b => exact k _ _ h
  | exn c b => exact h
  | bad => exact h
theorem Out.stab {α : Type} {Q : α → List D → Prop} {r : Res α} {H1 : Hp} (t : Stab β H H1) (h : Out K xc xk β E H Q r) : Out K xc xk β E H1 Q r := by
  cases r with
  | ok a b => exact h
  | exn c b => exact fun cls H' p q => h cls H' ⟨t.trans p.stab, p.bx⟩ q
  | bad => exact h
/-- one step of a chain -/
theorem out_bind {α α' : Type} {m : M α} {k : α → M α'} {Q : α' → List D → Prop} {b : List D} (h : Out K xc xk β E H Q (M.bind m k b)) : Out K xc xk β E H (fun a b1 => Out K xc xk β E H Q (k a b1)) (m b) := by
  unfold M.bind at h
  cases q : m b with
  | ok a b1 => rw [q] at h; exact h
  | exn c b1 => rw [q] at h; exact h
  | bad => rw [q] at h; exact h
theorem out_opt {α α' : Type} {o : Option α} {k : α → M α'} {Q : α' → List D → Prop} {b : List D} (h : Out K xc xk β E H Q (M.bind (M.opt o) k b)) : ∃ a, o = some a ∧ Out K xc xk β E H Q (k a b) := by
  cases o with
  | some a => exact ⟨a, rfl, h⟩
  | none => exact False.elim h
theorem out_get {α : Type} {r : R} {k : D → M α} {Q : α → List D → Prop} {b : List D} {v : V} {H2 : Hp} (s : SR K β E env b σ H2) (w : RW K β E env σ H2 v r) (h : Out K xc xk β E H Q (M.bind r.get k b)) : ∃ d, PV K H2 E v d ∧ Out K xc xk β E H Q (k d b) := by
  have h2 := out_bind h
  cases q : r.get b with
  | ok d b' =>
    rw [q] at h2
    obtain ⟨rfl, p⟩ := w.get s q
    exact ⟨d, p, h2⟩
  | exn c b' => cases r <;> first | (cases q; done) | (simp only [R.get] at q; split at q <;> cases q)
  | bad => rw [q] at h2; exact False.elim h2
theorem out_keep {α : Type} {r : R} {k : D → M α} {Q : α → List D → Prop} {b : List D} {v : V} {H2 : Hp} (w : RW K β E env σ H2 v r) (h : Out K xc xk β E H Q (M.bind r.keep k b)) : ∃ d, VR K H2 E v d ∧ Out K xc xk β E H Q (k d b) := by
  have h2 := out_bind h
  cases q : r.keep b with
  | ok d b' =>
    rw [q] at h2
    obtain ⟨rfl, p⟩ := w.keep q
    exact ⟨d, p, h2⟩
  | exn c b' => cases r <;> cases q
  | bad => rw [q] at h2; exact False.elim h2
/-- the first part of a chain is an expression -/
theorem ti_step {α : Type} {m : List Slot → M R} {k : R → M α} {Q : α → List D → Prop} {P : V → Hp → Prop} (s : SR K β E env b σ H) (h : Out K xc xk β E H Q (M.bind (m env) k b))
    (hk : ∀ r b1 v H1, SR K β E env b1 σ H1 → Stab β H H1 → RW K β E env σ H1 v r → Out K xc xk β E H1 Q (k r b1) → P v H1) : TI K xc xk m σ H P :=
  ⟨β, E, env, b, s, (out_bind h).mono fun r b1 q v H1 p => hk r b1 v H1 (p.sr0 s) p.stab ((p.rv.weak s).mono fun c o n e => ⟨n, e⟩) (q.stab p.stab)⟩
/-- .. a test -/
theorem tt_step {α : Type} {m : List Slot → M Bool} {k : Bool → M α} {Q : α → List D → Prop} {P : Bool → Hp → Prop} (s : SR K β E env b σ H) (h : Out K xc xk β E H Q (M.bind (m env) k b))
    (hk : ∀ r b1 H1, SR K β E env b1 σ H1 → Stab β H H1 → Out K xc xk β E H1 Q (k r b1) → P r H1) : TIt K xc xk m σ H P :=
  ⟨β, E, env, b, s, (out_bind h).mono fun r b1 q H1 p => hk r b1 H1 (p.sr s) p.stab (q.stab p.stab)⟩
end
end Sg

-- SgOps
/-! SgOps: operators, comparisons, subscripts, builtins: what the small language's functions give is what the rules ask. -/
namespace Sg
open PySem PySem.Spec PyProof.Rows L2

section
variable {K : PySem.W.Frag} {H : Hp} {E : Addr → Prop} {v : V}
theorem PV.intE {i : Int} (h : PV K H E v (.int i)) : v = .int i := by cases h; rfl
theorem PV.strE {s : List Char} (h : PV K H E v (.str s)) : v = .str (strOf s) := by cases h; rfl
theorem PV.blE {b : Bool} (h : PV K H E v (.bl b)) : v = .bl b := by cases h; rfl
theorem PV.nonE (h : PV K H E v .non) : v = .non := by cases h; rfl
theorem VR.intE {i : Int} (h : VR K H E v (.int i)) : v = .int i := by cases h; rfl
theorem VR.blE {b : Bool} (h : VR K H E v (.bl b)) : v = .bl b := by cases h; rfl
theorem VR.strE {s : List Char} (h : VR K H E v (.str s)) : v = .str (strOf s) := by cases h; rfl
end
theorem strOf_len (s : List Char) : (strOf s).length = s.length := by
  show (s.map Char.toNat).toArray.size = s.length
  simp
theorem strOf_append (x y : List Char) : strOf x ++ strOf y = strOf (x ++ y) := by
  show Str.append (strOf x) (strOf y) = _
  unfold Str.append strOf
  simp
theorem LIM_line : LIM ≤ sizeLine := by rw [sizeLine_eq]; decide

section
variable {X : Cx}
/-! ### further rules -/
theorem op_mulStr : OpR X (binaryOp .Mult) (fun x y H Q => ∃ (z : Str) (j : Int), x = .str z ∧ y = .int j ∧ z.length ≤ 1000 ∧ -1000 ≤ j ∧ j ≤ 1000 ∧ Q (.str ⟨(List.replicate j.toNat z.cps.toList).flatten.toArray⟩) H) := by
  intro pins s σ H x y v u Q I rx ry h
  obtain ⟨z, j, rfl, rfl, hz, h1, h2, q⟩ := h
  obtain ⟨t, rfl⟩ := rx
  obtain ⟨t', rfl⟩ := ry
  have flat : ∀ (n : Nat) (a : Array Nat), (List.replicate n a).foldl (· ++ ·) #[] = (List.replicate n a.toList).flatten.toArray := fun n a => by
    have key : ∀ (n : Nat) (b : Array Nat), (List.replicate n a).foldl (· ++ ·) b = b ++ (List.replicate n a.toList).flatten.toArray := by
      intro n
      induction n with
      | zero => intro b; simp
      | succ n ih => intro b; rw [List.replicate_succ, List.foldl_cons, ih, List.replicate_succ, List.flatten_cons]; apply Array.ext'; simp
    rw [key]; simp
  refine P.mul_str (by rw [decide_eq_false (by omega), decide_eq_false (by omega)]; rfl) (fun g1 g2 => ?_) (fun g1 g2 => ?_) ?_
  · have : (2 ^ 63 - 1) / j ≥ (2 ^ 63 - 1) / 1000 := by
      apply Int.le_ediv_of_mul_le (by omega)
      have : (2 ^ 63 - 1 : Int) / 1000 * j ≤ (2 ^ 63 - 1) / 1000 * 1000 := Int.mul_le_mul_of_nonneg_left h2 (by decide)
      have h3 : ((2 ^ 63 - 1 : Int) / 1000 * 1000) ≤ 2 ^ 63 - 1 := by decide
      omega
    have h3 : ((2 ^ 63 - 1 : Int)) / 1000 ≥ 1000 := by decide
    omega
  · unfold Builtin.Str.tooLong
    have : z.length * j.toNat ≤ 1000 * 1000 := Nat.mul_le_mul hz (by omega)
    rw [decide_eq_false (by rw [sizeLine_eq]; omega)]
  · by_cases c1 : j < 1
    · rw [if_pos c1]
      have e : j.toNat = 0 := by omega
      rw [e] at q
      exact ⟨by decide, .str _, H, I.tok _, ⟨_, rfl⟩, q⟩
    · rw [if_neg c1]
      by_cases c2 : (j == 1 || z.length == 0) = true
      · rw [if_pos c2]
        refine ⟨.str z, H, I, ⟨_, rfl⟩, ?_⟩
        have e : (⟨(List.replicate j.toNat z.cps.toList).flatten.toArray⟩ : Str) = z := by
          rcases Bool.or_eq_true_iff.mp c2 with c | c
          · have : j = 1 := eq_of_beq c
            subst this
            show (⟨(List.replicate 1 z.cps.toList).flatten.toArray⟩ : Str) = z
            simp
          · have : z.length = 0 := eq_of_beq c
            have h0 : z.cps = #[] := Array.eq_empty_of_size_eq_zero this
            obtain ⟨zc⟩ := z
            simp only at h0
            subst h0
            simp
        rw [e] at q; exact q
      · rw [if_neg c2]
        refine ⟨?_, .str _, H, I.tok _, ⟨_, rfl⟩, ?_⟩
        · show _ ≤ _
          rw [flat]
          have e2 : ((⟨(List.replicate j.toNat z.cps.toList).flatten.toArray⟩ : Str)).length = j.toNat * z.length := by
            show ((List.replicate j.toNat z.cps.toList).flatten.toArray).size = j.toNat * z.cps.size
            rw [List.size_toArray, PyProof.Rows.lm_len_rep_flat]; simp
          have : j.toNat * z.length ≤ 1000 * 1000 := Nat.mul_le_mul (by omega) hz
          rw [e2, sizeLine_eq]; omega
        · rw [flat]; exact q

theorem op_fdivG : OpR X (binaryOp .FloorDiv) (rI (fun i j => j ≠ 0 ∧ j.natAbs.log2 < 9000) fun i j => .int (i.fdiv j)) := opI fun i j _ _ _ _ _ hc q =>
  floordiv_int hc.1 q (.inl (PyProof.noPylong_of_log2 hc.2))
theorem tuple_mul1 (l : Addr) (items : Array Value) (n : Nat) (dd : Option Addr) (sl : Array (Option Value)) (u : Tok) :
    Meets (Builtin.«tuple.__mul__» ⟨[.ref l, .int 1 u], []⟩) (fun _ R s => s.heap.get? l = some { cls := .type "tuple", dict := dd, data := .seq items n, slots := sl } ∧
      R (.ok (.ret (Value.ref l))) s) :=
  .of_wp fun prog w A R s h => by
    obtain ⟨hp, g, d, tk, os⟩ := s
    obtain ⟨hl, h⟩ := h
    have f1 := AutoSeq1.idx_int
    wp_walk using wpAny_loadPart' hl
    repeat (first
      | (refine wpAny_ite_false (decide_eq_false (by decide)) ?_; wp_walk using wpAny_loadPart' hl)
      | (refine wpAny_ite_true (decide_eq_true (by simp)) ?_; wp_walk using wpAny_loadPart' hl))
    exact ⟨_, rfl, h⟩
theorem op_repT1 : OpR X (binaryOp .Mult) (fun x y H Q => ∃ l xs, x = .ref l ∧ y = .int 1 ∧ SqT X.K H l xs ∧ Q (.ref l) H) := by
  intro pins s σ H x y v u Q I rx ry h
  obtain ⟨l, xs, rfl, rfl, hT, q⟩ := h
  cases rx
  obtain ⟨t, rfl⟩ := ry
  obtain ⟨its, r, ⟨⟨cls, dd, data, sl⟩, ho, hc, n, hd⟩, hs⟩ := I.tuple hT
  simp only at hc hd
  subst hc hd
  refine wpAny_binaryOp_repeat_ref (T := "tuple") (U := "int") (by decide) ⟨_, ho, rfl⟩ (fun s' => typeIs_int s' 1 t) noFill_tuple_mul F.fills_int_mul F.slot_int_rmul repeat_tuple F.slot_int_index.lookup
    (call_meets F.slot_int_rmul (typeIs_int s 1 t) F.entry_int_rmul (F.args_int_rmul_2 _ _) (int_rmul_tuple 1 t l its.toArray n dd sl)
      ⟨ho, rfl, ⟨_, ho, rfl⟩, call_meets F.slot_tuple_mul ⟨_, ho, rfl⟩ F.entry_tuple_mul (F.args_tuple_mul_2 _ _) (tuple_mul1 l its.toArray n dd sl t) ⟨ho, ?_⟩⟩)
  exact ⟨.ref l, H, I, rfl, q⟩
end
section
variable {X : Cx}
def rInT (K : PySem.W.Frag) : R2 := fun x y H Q => ∃ d ds, Dp K H x d ∧ Dp K H y (.tuple ds) ∧ SeqAt.shaped d = true ∧ SeqAt.shaped (.tuple ds) = true ∧ Q (.bl (ds.any fun z => PyData.eqv z d)) H
def rNotInT (K : PySem.W.Frag) : R2 := fun x y H Q => ∃ d ds, Dp K H x d ∧ Dp K H y (.tuple ds) ∧ SeqAt.shaped d = true ∧ SeqAt.shaped (.tuple ds) = true ∧ Q (.bl (!ds.any fun z => PyData.eqv z d)) H
theorem op_inT (hu : X.A.units + 65 < cLine) : OpR X (compareOp .In) (rInT X.K) := by
  intro pins s σ H x y v u Q I rx ry h
  obtain ⟨d, ds, hd, he, sd, se, q⟩ := h
  obtain ⟨as, r1⟩ := Dp.reads I d x v hd rx
  obtain ⟨bs, r2⟩ := Dp.reads I (.tuple ds) y u he ry
  exact SeqAt.in_tuple_reads r2 r1 (SeqAt.canLay_of_shaped se) (SeqAt.canLay_of_shaped sd) (room_in_shaped sd hu) ⟨.bl _, H, I, rfl, q⟩
theorem op_notInT (hu : X.A.units + 65 < cLine) : OpR X (compareOp .NotIn) (rNotInT X.K) := by
  intro pins s σ H x y v u Q I rx ry h
  obtain ⟨d, ds, hd, he, sd, se, q⟩ := h
  obtain ⟨as, r1⟩ := Dp.reads I d x v hd rx
  obtain ⟨bs, r2⟩ := Dp.reads I (.tuple ds) y u he ry
  exact SeqAt.notIn_tuple_reads r2 r1 (SeqAt.canLay_of_shaped se) (SeqAt.canLay_of_shaped sd) (room_in_shaped sd hu) ⟨.bl _, H, I, rfl, q⟩
end

/-! ### data as the library has them -/
mutual
def toPy : D → PyData
  | .non => .none
  | .bl b => .bool b
  | .int i => .int i
  | .str s => .str (strOf s)
  | .tup xs => .tuple (toPys xs)
  | .lst xs => .list (toPys xs)
  | _ => .none
def toPys : List D → List PyData
  | [] => []
  | x :: xs => toPy x :: toPys xs
end
theorem toPys_map : ∀ xs : List D, toPys xs = xs.map toPy
  | [] => rfl
  | x :: xs => by simp [toPys, toPys_map xs]
theorem strOk_of (s : List Char) : PyData.strOk (strOf s) = true := by
  unfold PyData.strOk strOf
  simp only [Array.all_eq_true', Array.mem_def, List.mem_map, List.toList_toArray]
  rintro x ⟨c, _, rfl⟩
  have := c.valid
  rw [decide_eq_true_eq]
  show c.val.toNat < 0x110000
  rcases this with h | h
  · exact Nat.lt_trans h (by decide)
  · exact h.2
theorem strOf_inj {a b : List Char} (h : strOf a = strOf b) : a = b := by
  unfold strOf at h
  have h1 : a.map Char.toNat = b.map Char.toNat := by
    have := congrArg Str.cps h
    simpa using this
  have inj : Function.Injective Char.toNat := fun x y e => by
    apply Char.ext
    exact UInt32.toNat_inj.mp e
  exact (List.map_inj_right (fun x y e => inj e)).mp h1
mutual
theorem lay_of : ∀ d : D, d.plain = true → (toPy d).canLay0 = true ∧ (toPy d).depth = d.dep
  | .non, _ => by simp [toPy, PyData.canLay0, PyData.depth, D.dep]
  | .bl _, _ => by simp [toPy, PyData.canLay0, PyData.depth, D.dep]
  | .int _, _ => by simp [toPy, PyData.canLay0, PyData.depth, D.dep]
  | .str s, _ => by simp [toPy, PyData.canLay0, PyData.depth, D.dep, strOk_of]
  | .tup xs, h => by
    have q := lays_of xs (by simpa [D.plain] using h)
    simp only [toPy, PyData.canLay0, PyData.depth, D.dep]
    exact ⟨q.1, by rw [q.2]⟩
  | .lst xs, h => by
    have q := lays_of xs (by simpa [D.plain] using h)
    simp only [toPy, PyData.canLay0, PyData.depth, D.dep]
    exact ⟨q.1, by rw [q.2]⟩
  | .scr _, h => by simp [D.plain] at h
  | .dic _ _, h => by simp [D.plain] at h
  | .exc _, h => by simp [D.plain] at h
theorem lays_of : ∀ ds : List D, plainL ds = true → PyData.canLayAll0 (toPys ds) = true ∧ PyData.depthAll (toPys ds) = depL ds
  | [], _ => by simp [toPys, PyData.canLayAll0, PyData.depthAll, depL]
  | d :: ds, h => by
    simp only [plainL, Bool.and_eq_true] at h
    have q1 := lay_of d h.1
    have q2 := lays_of ds h.2
    simp only [toPys, PyData.canLayAll0, PyData.depthAll, depL, Bool.and_eq_true]
    exact ⟨⟨q1.1, q2.1⟩, by rw [q1.2, q2.2]⟩
end
theorem shaped_of {d : D} (h : d.okc = true) : SeqAt.shaped (toPy d) = true := by
  unfold D.okc at h
  simp only [Bool.and_eq_true, decide_eq_true_eq] at h
  obtain ⟨q1, q2⟩ := lay_of d h.1
  show ((toPy d).canLay0 && decide ((toPy d).depth ≤ 64)) = true
  rw [q1, q2, Bool.true_and, decide_eq_true_eq]
  omega
mutual
theorem eqv_of : ∀ d e : D, d.plain = true → e.plain = true → PyData.eqv (toPy d) (toPy e) = eqD d e
  | .non, e, _, h => by cases e <;> first | (simp [D.plain] at h; done) | simp [toPy, PyData.eqv, eqD]
  | .bl _, e, _, h => by cases e <;> first | (simp [D.plain] at h; done) | simp [toPy, PyData.eqv, eqD]
  | .int _, e, _, h => by cases e <;> first | (simp [D.plain] at h; done) | simp [toPy, PyData.eqv, eqD]
  | .str s, e, _, h => by
    cases e with
    | str t =>
      simp only [toPy, PyData.eqv, eqD]
      by_cases q : s = t
      · subst q; simp
      · rw [beq_eq_false_iff_ne.mpr q, beq_eq_false_iff_ne.mpr fun z => q (strOf_inj z)]
    | scr _ => simp [D.plain] at h
    | dic _ _ => simp [D.plain] at h
    | exc _ => simp [D.plain] at h
    | _ => simp [toPy, PyData.eqv, eqD]
  | .tup xs, e, g, h => by
    cases e with
    | tup ys => simp only [toPy, PyData.eqv, eqD]; exact eqvs_of xs ys (by simpa [D.plain] using g) (by simpa [D.plain] using h)
    | scr _ => simp [D.plain] at h
    | dic _ _ => simp [D.plain] at h
    | exc _ => simp [D.plain] at h
    | _ => simp [toPy, PyData.eqv, eqD]
  | .lst xs, e, g, h => by
    cases e with
    | lst ys => simp only [toPy, PyData.eqv, eqD]; exact eqvs_of xs ys (by simpa [D.plain] using g) (by simpa [D.plain] using h)
    | scr _ => simp [D.plain] at h
    | dic _ _ => simp [D.plain] at h
    | exc _ => simp [D.plain] at h
    | _ => simp [toPy, PyData.eqv, eqD]
  | .scr _, _, h, _ => by simp [D.plain] at h
  | .dic _ _, _, h, _ => by simp [D.plain] at h
  | .exc _, _, h, _ => by simp [D.plain] at h
theorem eqvs_of : ∀ ds es : List D, plainL ds = true → plainL es = true → PyData.eqvAll (toPys ds) (toPys es) = eqL ds es
  | [], [], _, _ => by simp [toPys, PyData.eqvAll, eqL]
  | [], _ :: _, _, _ => by simp [toPys, PyData.eqvAll, eqL]
  | _ :: _, [], _, _ => by simp [toPys, PyData.eqvAll, eqL]
  | d :: ds, e :: es, g, h => by
    simp only [plainL, Bool.and_eq_true] at g h
    simp only [toPys, PyData.eqvAll, eqL]
    rw [eqv_of d e g.1 h.1, eqvs_of ds es g.2 h.2]
end
section
variable {K : PySem.W.Frag} {H : Hp} {E : Addr → Prop}
mutual
theorem VR.dp : ∀ {v : V} {d : D}, VR K H E v d → d.plain = true → Dp K H v (toPy d)
  | _, _, .non, _ => .non
  | _, _, .bl b, _ => .bl b
  | _, _, .int i, _ => .int i
  | _, _, .str s, _ => .str _
  | _, _, .tup n e r, h => .tup e.sq (VRs.dp r (by simpa [D.plain] using h))
  | _, _, .lst n e r, h => .lst (SqL.of e) (VRs.dp r (by simpa [D.plain] using h))
  | _, _, .scr q, h => by simp [D.plain] at h
theorem VRs.dp : ∀ {vs : List V} {ds : List D}, VRs K H E vs ds → plainL ds = true → DpAll K H vs (toPys ds)
  | _, _, .nil, _ => .nil
  | _, _, .cons a r, h => by
    simp only [plainL, Bool.and_eq_true] at h
    exact .cons (VR.dp a h.1) (VRs.dp r h.2)
end
theorem PV.dp {v : V} {d : D} (p : PV K H E v d) (h : d.plain = true) : Dp K H v (toPy d) := by
  cases d with
  | lst ds => obtain ⟨a, xs, rfl, e, r⟩ := p; exact .lst (SqL.of e) (r.dp (by simpa [D.plain] using h))
  | tup ds => exact VR.dp p h
  | scr ns => simp [D.plain] at h
  | dic _ _ => simp [D.plain] at h
  | exc _ => simp [D.plain] at h
  | non => exact VR.dp p h
  | bl _ => exact VR.dp p h
  | int _ => exact VR.dp p h
  | str _ => exact VR.dp p h
end
theorem okc_plain {d : D} (h : d.okc = true) : d.plain = true := by
  unfold D.okc at h
  simp only [Bool.and_eq_true] at h
  exact h.1
theorem any_eqv {ys : List D} {x : D} (hy : plainL ys = true) (hx : x.plain = true) : ((toPys ys).any fun z => PyData.eqv z (toPy x)) = inD x ys := by
  unfold inD
  induction ys with
  | nil => rfl
  | cons y r ih =>
    simp only [plainL, Bool.and_eq_true] at hy
    simp only [toPys, List.any_cons]
    rw [eqv_of y x hy.1 hx, ih hy.2]
end Sg

-- SgLt
/-! SgLt: the order of data. -/
namespace Sg
open PySem PySem.Spec PyProof.Rows L2
mutual
theorem alike_of : ∀ x y : D, x.plain = true → y.plain = true → PySem.W.alike (toPy x) (toPy y) = likD x y
  | .non, y, _, h => by cases y <;> first | rfl | (simp [D.plain] at h; done)
  | .bl _, y, _, h => by cases y <;> first | rfl | (simp [D.plain] at h; done)
  | .int _, y, _, h => by cases y <;> first | rfl | (simp [D.plain] at h; done)
  | .str _, y, _, h => by cases y <;> first | rfl | (simp [D.plain] at h; done)
  | .tup xs, y, g, h => by
    cases y with
    | tup ys => exact alikes_of xs ys (by simpa [D.plain] using g) (by simpa [D.plain] using h)
    | dic _ _ => simp [D.plain] at h
    | exc _ => simp [D.plain] at h
    | scr _ => simp [D.plain] at h
    | _ => rfl
  | .lst xs, y, g, h => by
    cases y with
    | lst ys => exact alikes_of xs ys (by simpa [D.plain] using g) (by simpa [D.plain] using h)
    | dic _ _ => simp [D.plain] at h
    | exc _ => simp [D.plain] at h
    | scr _ => simp [D.plain] at h
    | _ => rfl
  | .dic _ _, _, g, _ => by simp [D.plain] at g
  | .exc _, _, g, _ => by simp [D.plain] at g
  | .scr _, _, g, _ => by simp [D.plain] at g
theorem alikes_of : ∀ xs ys : List D, plainL xs = true → plainL ys = true → PySem.W.alikeAll (toPys xs) (toPys ys) = likL xs ys
  | [], ys, _, _ => by cases ys <;> rfl
  | _ :: _, [], _, _ => rfl
  | x :: xs, y :: ys, g, h => by
    simp only [plainL, Bool.and_eq_true] at g h
    show (PySem.W.alike (toPy x) (toPy y) && PySem.W.alikeAll (toPys xs) (toPys ys)) = (likD x y && likL xs ys)
    rw [alike_of x y g.1 h.1, alikes_of xs ys g.2 h.2]
end
theorem lex_nil_cons {p : Int ⊕ List Nat} : PyProof.Rows.lexLt itemOrd [] [] = false := rfl
theorem cps_strOf (s : List Char) : (strOf s).cps.toList = s.map Char.toNat := by unfold strOf; simp
mutual
theorem lt_of_data : ∀ x y : D, x.plain = true → y.plain = true → likD x y = true → PySem.W.dataLt (toPy x) (toPy y) = ltb x y
  | .non, y, _, _, l => by cases y <;> first | rfl | cases l
  | .bl a, y, _, _, l => by
    cases y with
    | bl b =>
      show PySem.W.dataLt (.bool a) (.bool b) = _
      rw [PySem.W.dataLt_bool]
      cases a <;> cases b <;> rfl
    | _ => cases l
  | .int a, y, _, _, l => by
    cases y <;> first | (cases l; done) | skip
    exact PySem.W.dataLt_int _ _
  | .str a, y, _, _, l => by
    cases y with
    | str b =>
      show PySem.W.dataLt (.str (strOf a)) (.str (strOf b)) = ltS a b
      rw [PySem.W.dataLt_str, cps_strOf, cps_strOf]; rfl
    | _ => cases l
  | .tup xs, y, g, h, l => by
    cases y with
    | tup ys =>
      show PySem.W.dataLt (.tuple (toPys xs)) (.tuple (toPys ys)) = ltbL xs ys
      rw [PySem.W.dataLt_tuple]
      exact lt_of_datas xs ys (by simpa [D.plain] using g) (by simpa [D.plain] using h) l
    | _ => cases l
  | .lst xs, y, g, h, l => by
    cases y with
    | lst ys =>
      show PySem.W.dataLt (.list (toPys xs)) (.list (toPys ys)) = ltbL xs ys
      rw [PySem.W.dataLt_list]
      exact lt_of_datas xs ys (by simpa [D.plain] using g) (by simpa [D.plain] using h) l
    | _ => cases l
  | .dic _ _, _, g, _, _ => by simp [D.plain] at g
  | .exc _, _, g, _, _ => by simp [D.plain] at g
  | .scr _, _, g, _, _ => by simp [D.plain] at g
theorem lt_of_datas : ∀ xs ys : List D, plainL xs = true → plainL ys = true → likL xs ys = true → PyProof.Rows.lexLt itemOrd (PySem.W.keyToksAll (toPys xs)) (PySem.W.keyToksAll (toPys ys)) = ltbL xs ys
  | [], [], _, _, _ => by decide +kernel
  | [], y :: ys, _, _, _ => by
    show PyProof.Rows.lexLt itemOrd [.inl 0] (.inl 1 :: _) = true
    rw [PySem.W.lex_atom (by simp)]
    decide +kernel
  | x :: xs, [], _, _, _ => by
    show PyProof.Rows.lexLt itemOrd (.inl 1 :: _) [.inl 0] = false
    rw [PySem.W.lex_atom (by simp)]
    decide +kernel
  | x :: xs, y :: ys, g, h, l => by
    simp only [plainL, Bool.and_eq_true] at g h
    simp only [likL, Bool.and_eq_true] at l
    show PyProof.Rows.lexLt itemOrd (PySem.W.keyToksAll (toPy x :: toPys xs)) (PySem.W.keyToksAll (toPy y :: toPys ys)) = _
    rw [PySem.W.dataLt_cons (by rw [alike_of x y g.1 h.1]; exact l.1), eqv_of x y g.1 h.1]
    show _ = if eqD x y then ltbL xs ys else ltb x y
    rw [lt_of_datas xs ys g.2 h.2 l.2, lt_of_data x y g.1 h.1 l.1]
end
mutual
theorem eq_lik : ∀ x y : D, likD x y = true → x.plain = true → eqD x y = true → x = y
  | .non, y, l, _, _ => by cases y <;> first | rfl | cases l
  | .bl a, y, l, _, e => by cases y <;> first | (cases l; done) | (simp [eqD] at e; rw [e])
  | .int a, y, l, _, e => by cases y <;> first | (cases l; done) | (simp [eqD] at e; rw [e])
  | .str a, y, l, _, e => by cases y <;> first | (cases l; done) | (simp [eqD] at e; rw [e])
  | .tup xs, y, l, p, e => by
    cases y <;> first | (cases l; done) | skip
    exact congrArg D.tup (eq_liks xs _ l (by simpa [D.plain] using p) e)
  | .lst xs, y, l, p, e => by
    cases y <;> first | (cases l; done) | skip
    exact congrArg D.lst (eq_liks xs _ l (by simpa [D.plain] using p) e)
  | .dic _ _, _, _, p, _ => by simp [D.plain] at p
  | .exc _, _, _, p, _ => by simp [D.plain] at p
  | .scr _, _, _, p, _ => by simp [D.plain] at p
theorem eq_liks : ∀ xs ys : List D, likL xs ys = true → plainL xs = true → eqL xs ys = true → xs = ys
  | [], [], _, _, _ => rfl
  | [], _ :: _, _, _, e => by cases e
  | _ :: _, [], _, _, e => by cases e
  | x :: xs, y :: ys, l, p, e => by
    simp only [likL, plainL, eqL, Bool.and_eq_true] at l p e
    rw [eq_lik x y l.1 p.1 e.1, eq_liks xs ys l.2 p.2 e.2]
end
mutual
theorem eq_refl : ∀ x : D, x.plain = true → eqD x x = true
  | .non, _ => rfl
  | .bl a, _ => by simp [eqD]
  | .int a, _ => by simp [eqD]
  | .str a, _ => by simp [eqD]
  | .tup xs, p => eq_refls xs (by simpa [D.plain] using p)
  | .lst xs, p => eq_refls xs (by simpa [D.plain] using p)
  | .dic _ _, p => by simp [D.plain] at p
  | .exc _, p => by simp [D.plain] at p
  | .scr _, p => by simp [D.plain] at p
theorem eq_refls : ∀ xs : List D, plainL xs = true → eqL xs xs = true
  | [], _ => rfl
  | x :: xs, p => by
    simp only [plainL, Bool.and_eq_true] at p
    simp only [eqL, Bool.and_eq_true]
    exact ⟨eq_refl x p.1, eq_refls xs p.2⟩
end
mutual
theorem lik_comm : ∀ x y : D, likD x y = likD y x
  | .non, y => by cases y <;> rfl
  | .bl _, y => by cases y <;> rfl
  | .int _, y => by cases y <;> rfl
  | .str _, y => by cases y <;> rfl
  | .tup xs, y => by
    cases y with
    | tup ys => exact liks_comm xs ys
    | _ => rfl
  | .lst xs, y => by
    cases y with
    | lst ys => exact liks_comm xs ys
    | _ => rfl
  | .dic _ _, y => by cases y <;> rfl
  | .exc _, y => by cases y <;> rfl
  | .scr _, y => by cases y <;> rfl
theorem liks_comm : ∀ xs ys : List D, likL xs ys = likL ys xs
  | [], ys => by cases ys <;> rfl
  | _ :: _, [] => rfl
  | x :: xs, y :: ys => by
    show (likD x y && likL xs ys) = (likD y x && likL ys xs)
    rw [lik_comm x y, liks_comm xs ys]
end
theorem ltS_tri {x y : List Char} (h1 : ltS x y = false) (h2 : ltS y x = false) : x = y := by
  unfold ltS at h1 h2
  have a := of_decide_eq_false h1
  have b := of_decide_eq_false h2
  have e : x.map Char.toNat = y.map Char.toNat := List.le_antisymm (List.not_lt.mp b) (List.not_lt.mp a)
  exact strOf_inj (by unfold strOf; rw [e])
mutual
theorem lt_tot : ∀ x y : D, likD x y = true → x.plain = true → y.plain = true → ltb x y = false → ltb y x = false → x = y
  | .non, y, l, _, _, _, _ => by cases y <;> first | rfl | cases l
  | .bl a, y, l, _, _, e, f => by
    cases y with
    | bl b => cases a <;> cases b <;> first | rfl | (simp [ltb] at e f)
    | _ => cases l
  | .int a, y, l, _, _, e, f => by
    cases y <;> first | (cases l; done) | skip
    simp only [ltb, decide_eq_false_iff_not] at e f
    congr 1; omega
  | .str a, y, l, _, _, e, f => by
    cases y <;> first | (cases l; done) | skip
    exact congrArg D.str (ltS_tri e f)
  | .tup xs, y, l, p, q, e, f => by
    cases y <;> first | (cases l; done) | skip
    exact congrArg D.tup (lt_tots xs _ l (by simpa [D.plain] using p) (by simpa [D.plain] using q) e f)
  | .lst xs, y, l, p, q, e, f => by
    cases y <;> first | (cases l; done) | skip
    exact congrArg D.lst (lt_tots xs _ l (by simpa [D.plain] using p) (by simpa [D.plain] using q) e f)
  | .dic _ _, _, _, p, _, _, _ => by simp [D.plain] at p
  | .exc _, _, _, p, _, _, _ => by simp [D.plain] at p
  | .scr _, _, _, p, _, _, _ => by simp [D.plain] at p
theorem lt_tots : ∀ xs ys : List D, likL xs ys = true → plainL xs = true → plainL ys = true → ltbL xs ys = false → ltbL ys xs = false → xs = ys
  | [], [], _, _, _, _, _ => rfl
  | [], _ :: _, _, _, _, e, _ => by cases e
  | _ :: _, [], _, _, _, _, f => by cases f
  | x :: xs, y :: ys, l, p, q, e, f => by
    simp only [likL, plainL, Bool.and_eq_true] at l p q
    by_cases h : eqD x y = true
    · have hxy := eq_lik x y l.1 p.1 h
      subst hxy
      simp only [ltbL, h, if_true] at e f
      rw [lt_tots xs ys l.2 p.2 q.2 e f]
    · have h2 : ¬ eqD y x = true := fun z => by
        have l' : likD y x = true := by
          rw [lik_comm]; exact l.1
        have := eq_lik y x l' q.1 z
        subst this
        exact h (eq_refl _ p.1)
      simp only [ltbL, if_neg h, if_neg h2] at e f
      have := lt_tot x y l.1 p.1 q.1 e f
      subst this
      exact absurd (eq_refl _ p.1) h
end
/-! tuples in order -/
section
variable {X : Cx}
def rOrdD (K : PySem.W.Frag) (f : PyData → PyData → Bool) : R2 := fun x y H Q => ∃ dx dy, Dp K H x dx ∧ Dp K H y dy ∧ PySem.W.alike dx dy = true ∧ dx ≠ .none ∧ dx.depth ≤ 60 ∧ Q (.bl (f dx dy)) H
theorem op_ltD (hu : X.A.units + 65 < cLine) : OpR X (compareOp .Lt) (rOrdD X.K PySem.W.dataLt) := by
  intro pins s σ H x y v u Q I rx ry h
  obtain ⟨dx, dy, hx, hy, al, nn, dp, q⟩ := h
  obtain ⟨as, r1⟩ := Dp.reads I dx x v hx rx
  obtain ⟨bs, r2⟩ := Dp.reads I dy y u hy ry
  exact PySem.W.lt_data r1 r2 al nn (by omega) ⟨.bl _, H, I, rfl, q⟩
theorem op_gtD (hu : X.A.units + 65 < cLine) : OpR X (compareOp .Gt) (rOrdD X.K fun x y => PySem.W.dataLt y x) := by
  intro pins s σ H x y v u Q I rx ry h
  obtain ⟨dx, dy, hx, hy, al, nn, dp, q⟩ := h
  obtain ⟨as, r1⟩ := Dp.reads I dx x v hx rx
  obtain ⟨bs, r2⟩ := Dp.reads I dy y u hy ry
  exact PySem.W.gt_data r1 r2 al nn (by omega) ⟨.bl _, H, I, rfl, q⟩
theorem op_leD (hu : X.A.units + 65 < cLine) : OpR X (compareOp .LtE) (rOrdD X.K fun x y => !PySem.W.dataLt y x) := by
  intro pins s σ H x y v u Q I rx ry h
  obtain ⟨dx, dy, hx, hy, al, nn, dp, q⟩ := h
  obtain ⟨as, r1⟩ := Dp.reads I dx x v hx rx
  obtain ⟨bs, r2⟩ := Dp.reads I dy y u hy ry
  exact PySem.W.le_data r1 r2 al nn (by omega) ⟨.bl _, H, I, rfl, q⟩
theorem op_geD (hu : X.A.units + 65 < cLine) : OpR X (compareOp .GtE) (rOrdD X.K fun x y => !PySem.W.dataLt x y) := by
  intro pins s σ H x y v u Q I rx ry h
  obtain ⟨dx, dy, hx, hy, al, nn, dp, q⟩ := h
  obtain ⟨as, r1⟩ := Dp.reads I dx x v hx rx
  obtain ⟨bs, r2⟩ := Dp.reads I dy y u hy ry
  exact PySem.W.ge_data r1 r2 al nn (by omega) ⟨.bl _, H, I, rfl, q⟩
end
end Sg

-- SgOps2
/-! SgOps2: the small language's operators are the rules'. -/
namespace Sg
open PySem PySem.Spec PyProof.Rows L2

def bopOf : Bop → Operator
  | .add => .Add | .sub => .Sub | .mul => .Mult | .fdiv => .FloorDiv | .mod => .Mod | .pow => .Pow
def copOf : Cop → CmpOp
  | .eq => .Eq | .ne => .NotEq | .lt => .Lt | .le => .LtE | .gt => .Gt | .ge => .GtE | .isin => .In | .notin => .NotIn | .is => .Is | .isnot => .IsNot
/-- behind the operands -/
structure At2 (K : PySem.W.Frag) (β : List Addr) (E : Addr → Prop) (env : List Slot) (b b2 : List D) (σ : St) (H H2 : Hp) : Prop where
  s : SR K β E env b σ H
  t : Stab β H H2
  x : Bxs K β E b2 H2
theorem small_iff {i : Int} (h : small i = true) : -(2 ^ 64) < i ∧ i < 2 ^ 64 := by
  unfold small at h
  simpa using h
theorem bnd_log {i : Int} (h : bnd i = true) : i.natAbs.log2 < 8000 := by
  unfold bnd at h
  have h := of_decide_eq_true h
  by_cases z : i.natAbs = 0
  · rw [z]; decide
  · exact (Nat.log2_lt z).mpr h
section
variable {X : Cx} {β : List Addr} {E : Addr → Prop} {env : List Slot} {b b2 : List D} {σ : St} {H H2 : Hp}
def R2Ok (X : Cx) (f : Value → Value → Sem Value) (g : D → D → Option R) : Prop :=
  ∃ r2 : R2, OpR X f r2 ∧ ∀ (β : List Addr) (E : Addr → Prop) (env : List Slot) (b b2 : List D) (σ : St) (H H2 : Hp) (x y : V) (dx dy : D) (r : R) (Q : VK),
    At2 X.K β E env b b2 σ H H2 → PV X.K H2 E x dx → PV X.K H2 E y dy → g dx dy = some r → (∀ v H', Post X.K β E env σ H r b2 v H' → Q v H') → r2 x y H2 Q
theorem At2.val (a : At2 X.K β E env b b2 σ H H2) {v : V} {d : D} (h : VR X.K H2 E v d) {Q : VK} (q : ∀ v H', Post X.K β E env σ H (.val d) b2 v H' → Q v H') : Q v H2 := q _ _ (post_val a.t a.x h)
theorem At2.int (a : At2 X.K β E env b b2 σ H H2) {i : Int} {Q : VK} (q : ∀ v H', Post X.K β E env σ H (.val (.int i)) b2 v H' → Q v H') : Q (.int i) H2 := a.val (.int i) q
theorem At2.str (a : At2 X.K β E env b b2 σ H H2) {i : List Char} {Q : VK} (q : ∀ v H', Post X.K β E env σ H (.val (.str i)) b2 v H' → Q v H') : Q (.str (strOf i)) H2 := a.val (.str i) q
theorem At2.bl (a : At2 X.K β E env b b2 σ H H2) {i : Bool} {Q : VK} (q : ∀ v H', Post X.K β E env σ H (.val (.bl i)) b2 v H' → Q v H') : Q (.bl i) H2 := a.val (.bl i) q
theorem At2.lst (a : At2 X.K β E env b b2 σ H H2) {xs : List V} {ds : List D} (h : VRs X.K H2 E xs ds) {Q : VK} (q : ∀ v H', Post X.K β E env σ H (.fr (.lst ds)) b2 v H' → Q v H') : ∀ p, H2 p = none → Q (.ref p) (upd H2 p (.lst xs)) := fun p n => q _ _ (post_fr a.s a.t a.x n h)
theorem At2.tup (a : At2 X.K β E env b b2 σ H H2) {xs : List V} {ds : List D} (h : VRs X.K H2 E xs ds) {Q : VK} (q : ∀ v H', Post X.K β E env σ H (.val (.tup ds)) b2 v H' → Q v H') : NewT H2 xs Q := fun p o d n => q _ _ (post_tup a.t a.x d n h)
end
section
variable {X : Cx}
theorem PV.lstE {K : PySem.W.Frag} {H : Hp} {E : Addr → Prop} {v : V} {ds : List D} (h : PV K H E v (.lst ds)) : ∃ a xs, v = .ref a ∧ H a = some (.lst xs) ∧ VRs K H E xs ds := h
theorem PV.tupE {K : PySem.W.Frag} {H : Hp} {E : Addr → Prop} {v : V} {ds : List D} (h : PV K H E v (.tup ds)) : ∃ a xs, v = .ref a ∧ ¬ E a ∧ TupAt H a xs ∧ VRs K H E xs ds := by
  cases h with
  | tup n e r => exact ⟨_, _, rfl, n, e, r⟩

theorem bin_add : R2Ok X (binaryOp .Add) (binD .add) := by
  refine ⟨_, (op_add.or (op_add_str.or (op_cat.or op_catF))), ?_⟩
  intro β E env b b2 σ H H2 x y dx dy r Q a px py e q
  cases dx <;> cases dy <;> try (simp [binD] at e; done)
  · cases px.intE; cases py.intE
    simp only [binD, Option.some.injEq] at e; subst e
    exact .inl ⟨_, _, rfl, rfl, a.int q⟩
  · rename_i s1 s2
    cases px.strE; cases py.strE
    simp only [binD] at e
    split at e
    · simp only [Option.some.injEq] at e; subst e
      rename_i hz
      refine .inr (.inl ⟨_, _, rfl, rfl, ?_, ?_⟩)
      · rw [strOf_len, strOf_len]; exact Nat.le_trans hz LIM_line
      · rw [strOf_append]; exact a.str q
    · cases e
  · rename_i s1 s2
    obtain ⟨p1, xs1, rfl, n1, e1, r1⟩ := px.tupE
    obtain ⟨p2, xs2, rfl, n2, e2, r2⟩ := py.tupE
    simp only [binD] at e
    split at e
    · simp only [Option.some.injEq] at e; subst e
      rename_i hz
      refine .inr (.inr (.inr ⟨_, _, _, _, rfl, rfl, e1.sq, e2.sq, by rw [r1.length, r2.length]; exact Nat.le_trans hz LIM_line, fun z => ?_, fun z1 z2 => ?_, fun z1 z2 => a.tup (r1.append r2) q⟩))
      · subst z
        cases r1
        exact a.val (.tup n2 e2 r2) q
      · subst z2
        cases r2
        exact a.val (.tup n1 e1 (by rw [List.append_nil]; exact r1)) q
    · cases e
  · rename_i s1 s2
    obtain ⟨p1, xs1, rfl, e1, r1⟩ := px.lstE
    obtain ⟨p2, xs2, rfl, e2, r2⟩ := py.lstE
    simp only [binD] at e
    split at e
    · simp only [Option.some.injEq] at e; subst e
      rename_i hz
      exact .inr (.inr (.inl ⟨_, _, _, _, rfl, rfl, e1, e2, by rw [r1.length, r2.length]; exact Nat.le_trans hz LIM_line, a.lst (r1.append r2) q⟩))
    · cases e

theorem bin_sub : R2Ok X (binaryOp .Sub) (binD .sub) := by
  refine ⟨_, op_sub, ?_⟩
  intro β E env b b2 σ H H2 x y dx dy r Q a px py e q
  cases dx <;> cases dy <;> try (simp [binD] at e; done)
  cases px.intE; cases py.intE
  simp only [binD, Option.some.injEq] at e; subst e
  exact ⟨_, _, rfl, rfl, a.int q⟩
theorem strOf_rep (n : Nat) (s : List Char) : (⟨(List.replicate n (strOf s).cps.toList).flatten.toArray⟩ : Str) = strOf (rep n s) := by
  unfold strOf rep
  simp [List.map_flatten, List.map_replicate]
theorem bin_mul : R2Ok X (binaryOp .Mult) (binD .mul) := by
  refine ⟨_, (op_mul.or (op_mulW.or (op_mulStr.or (op_rep.or (op_repT1.or op_repF))))), ?_⟩
  intro β E env b b2 σ H H2 x y dx dy r Q a px py e q
  cases dx <;> cases dy <;> try (simp [binD] at e; done)
  · rename_i i j
    cases px.intE; cases py.intE
    simp only [binD] at e
    split at e
    · simp only [Option.some.injEq] at e; subst e
      rename_i hz
      simp only [Bool.or_eq_true, Bool.and_eq_true] at hz
      rcases hz with (hz | hz) | ⟨h1, h2⟩
      · exact .inl ⟨_, _, rfl, rfl, .inl (small_iff hz), a.int q⟩
      · exact .inl ⟨_, _, rfl, rfl, .inr (small_iff hz), a.int q⟩
      · refine .inr (.inl ⟨_, _, rfl, rfl, ?_, a.int q⟩)
        have := bnd_log h1
        have := bnd_log h2
        unfold CMulW
        omega
    · cases e
  · rename_i i j
    cases px.strE; cases py.intE
    simp only [binD] at e
    split at e
    · simp only [Option.some.injEq] at e; subst e
      rename_i hz
      refine .inr (.inr (.inl ⟨_, _, rfl, rfl, by rw [strOf_len]; exact hz.1, hz.2.1, hz.2.2, ?_⟩))
      rw [strOf_rep]
      exact a.str q
    · cases e
  · rename_i i j
    obtain ⟨p1, xs1, rfl, n1, e1, r1⟩ := px.tupE
    cases py.intE
    simp only [binD] at e
    split at e
    · simp only [Option.some.injEq] at e; subst e
      rename_i hz
      obtain ⟨h1, h2, h3, h4⟩ := hz
      by_cases hj : j = 1
      · subst hj
        refine .inr (.inr (.inr (.inr (.inl ⟨_, _, rfl, rfl, e1.sq, ?_⟩))))
        refine a.val (d := .tup (rep (Int.toNat 1) i)) ?_ q
        have e5 : rep (Int.toNat 1) i = i := by simp [rep]
        rw [e5]
        exact .tup n1 e1 r1
      · refine .inr (.inr (.inr (.inr (.inr ⟨_, _, _, rfl, rfl, e1.sq, ?_, by omega, h4, by rw [r1.length]; exact h1, a.tup (r1.rep _) q⟩))))
        rintro rfl
        cases r1
        simp at h2
    · cases e
  · rename_i i j
    obtain ⟨p1, xs1, rfl, e1, r1⟩ := px.lstE
    cases py.intE
    simp only [binD] at e
    split at e
    · simp only [Option.some.injEq] at e; subst e
      rename_i hz
      obtain ⟨h1, h2, h3⟩ := hz
      refine .inr (.inr (.inr (.inl ⟨_, _, _, rfl, rfl, e1, by omega, by omega, ?_, a.lst (r1.rep _) q⟩)))
      rw [r1.length]
      have : i.length * j.toNat ≤ 1000 * 1000 := Nat.mul_le_mul h1 (by omega)
      rw [sizeLine_eq]; omega
    · cases e
theorem bin_fdiv : R2Ok X (binaryOp .FloorDiv) (binD .fdiv) := by
  refine ⟨_, op_fdivG, ?_⟩
  intro β E env b b2 σ H H2 x y dx dy r Q a px py e q
  cases dx <;> cases dy <;> try (simp [binD] at e; done)
  cases px.intE; cases py.intE
  simp only [binD] at e
  split at e
  · simp only [Option.some.injEq] at e; subst e
    rename_i hz
    exact ⟨_, _, rfl, rfl, ⟨hz.1, by have := bnd_log hz.2; omega⟩, a.int q⟩
  · cases e
theorem bin_mod : R2Ok X (binaryOp .Mod) (binD .mod) := by
  refine ⟨_, op_modN, ?_⟩
  intro β E env b b2 σ H H2 x y dx dy r Q a px py e q
  cases dx <;> cases dy <;> try (simp [binD] at e; done)
  cases px.intE; cases py.intE
  simp only [binD] at e
  split at e
  · simp only [Option.some.injEq] at e; subst e
    rename_i hz
    exact ⟨_, _, rfl, rfl, hz, a.int q⟩
  · cases e
theorem bin_pow : R2Ok X (binaryOp .Pow) (binD .pow) := by
  refine ⟨_, op_pow, ?_⟩
  intro β E env b b2 σ H H2 x y dx dy r Q a px py e q
  cases dx <;> cases dy <;> try (simp [binD] at e; done)
  cases px.intE; cases py.intE
  simp only [binD] at e
  split at e
  · simp only [Option.some.injEq] at e; subst e
    rename_i hz
    refine ⟨_, _, rfl, rfl, ⟨hz.1, hz.2.1, ?_⟩, a.int q⟩
    have := small_iff hz.2.2
    omega
  · cases e
theorem bin_ok (o : Bop) : R2Ok X (binaryOp (bopOf o)) (binD o) := by
  cases o
  · exact bin_add
  · exact bin_sub
  · exact bin_mul
  · exact bin_fdiv
  · exact bin_mod
  · exact bin_pow

/-! ### comparisons -/
def cmpR (o : Cop) (x y : D) : Option R := (cmpD o x y).map fun k => .val (.bl k)
theorem cmpR_eq {o : Cop} {x y : D} {r : R} (e : cmpR o x y = some r) : ∃ k, cmpD o x y = some k ∧ r = .val (.bl k) := by
  unfold cmpR at e
  cases q : cmpD o x y with
  | none => rw [q] at e; cases e
  | some k => rw [q] at e; exact ⟨k, rfl, (Option.some.inj e).symm⟩
/-- == [] of the script -/
theorem op_eqScr (hu : X.A.units + 64 < cLine) : OpR X (compareOp .Eq) (fun x y H Q => ∃ (a c : Addr) (ns : List Int), x = .ref a ∧ y = .ref c ∧ SqL X.K H a (ns.map V.int) ∧ H c = some (.lst []) ∧ Q (.bl ns.isEmpty) H) := by
  intro pins s σ H x y v u Q I rx ry h
  obtain ⟨a, c, ns, rfl, rfl, hs, hc, q⟩ := h
  have dp : ∀ ns : List Int, DpAll X.K H (ns.map V.int) (ns.map PyData.int) := fun ns => by
    induction ns with
    | nil => exact .nil
    | cons n r ih => exact .cons (.int n) ih
  have lay : ∀ ns : List Int, PyData.canLayAll0 (ns.map PyData.int) = true ∧ PyData.depthAll (ns.map PyData.int) = 0 := fun ns => by
    induction ns with
    | nil => simp [PyData.canLayAll0, PyData.depthAll]
    | cons n r ih => simp [PyData.canLayAll0, PyData.depthAll, PyData.canLay0, PyData.depth, ih]
  have sh : ∀ ns : List Int, SeqAt.shaped (.list (ns.map PyData.int)) = true := fun ns => by
    show ((PyData.canLay0 (.list (ns.map PyData.int))) && decide (PyData.depth (.list (ns.map PyData.int)) ≤ 64)) = true
    simp [PyData.canLay0, PyData.depth, lay ns]
  refine op_eqD hu pins s σ H _ _ v u Q I rx ry ⟨.list (ns.map .int), .list [], .lst hs (dp ns), .lst (SqL.of hc) .nil, sh ns, sh [], ?_⟩
  have e : PyData.eqv (.list (ns.map .int)) (.list []) = ns.isEmpty := by cases ns <;> simp [PyData.eqv, PyData.eqvAll]
  rw [e]; exact q
theorem cmp_eq (hu : X.A.units + 64 < cLine) : R2Ok X (compareOp .Eq) (cmpR .eq) := by
  refine ⟨_, ((op_eqD hu).or (op_eqScr hu)), ?_⟩
  intro β E env b b2 σ H H2 x y dx dy r Q a px py e q
  obtain ⟨k, e', rfl⟩ := cmpR_eq e
  clear e
  have e := e'
  clear e'
  by_cases hc : (dx.okc && dy.okc) = true
  · have hk : k = eqD dx dy := by
      unfold cmpD at e
      split at e <;> first | (simp_all; done) | (cases e; done) | skip
      all_goals (first | (simp [D.okc, D.plain] at hc; done) | (rw [if_pos hc] at e; exact (Option.some.inj e).symm))
    subst hk
    simp only [Bool.and_eq_true] at hc
    refine .inl ⟨toPy dx, toPy dy, px.dp (okc_plain hc.1), py.dp (okc_plain hc.2), shaped_of hc.1, shaped_of hc.2, ?_⟩
    rw [eqv_of _ _ (okc_plain hc.1) (okc_plain hc.2)]
    exact a.bl q
  · have : ∃ ns, dx = .scr ns ∧ dy = .lst [] ∧ k = ns.isEmpty := by
      unfold cmpD at e
      split at e <;> first | (exact ⟨_, rfl, rfl, (Option.some.inj e).symm⟩) | (rw [if_neg hc] at e; cases e) | (simp_all; done)
    obtain ⟨ns, rfl, rfl, rfl⟩ := this
    obtain ⟨p, rfl, hs⟩ := px
    obtain ⟨c, xs, rfl, hc2, r2⟩ := py.lstE
    cases r2
    exact .inr ⟨p, c, ns, rfl, rfl, hs, hc2, a.bl q⟩
theorem cmp_ne (hu : X.A.units + 64 < cLine) : R2Ok X (compareOp .NotEq) (cmpR .ne) := by
  refine ⟨_, op_neD hu, ?_⟩
  intro β E env b b2 σ H H2 x y dx dy r Q a px py e q
  obtain ⟨k, e', rfl⟩ := cmpR_eq e
  clear e
  have e := e'
  clear e'
  by_cases hc : (dx.okc && dy.okc) = true
  · have hk : k = !eqD dx dy := by
      simp only [cmpD] at e
      rw [if_pos hc] at e; exact (Option.some.inj e).symm
    subst hk
    simp only [Bool.and_eq_true] at hc
    refine ⟨toPy dx, toPy dy, px.dp (okc_plain hc.1), py.dp (okc_plain hc.2), shaped_of hc.1, shaped_of hc.2, ?_⟩
    rw [eqv_of _ _ (okc_plain hc.1) (okc_plain hc.2)]
    exact a.bl q
  · simp only [cmpD] at e
    rw [if_neg hc] at e; cases e
theorem ord_go {K : PySem.W.Frag} {H : Hp} {E : Addr → Prop} {x y : V} {xs ys : List D} {k k' : Bool} {f : PyData → PyData → Bool} {Q : VK} (px : PV K H E x (.tup xs)) (py : PV K H E y (.tup ys)) (h : ordT k xs ys = some k')
    (hf : (D.tup xs).plain = true → (D.tup ys).plain = true → likD (.tup xs) (.tup ys) = true → likD (.tup ys) (.tup xs) = true → f (toPy (.tup xs)) (toPy (.tup ys)) = k) (q : Q (.bl k') H) : rOrdD K f x y H Q := by
  unfold ordT at h
  split at h
  · rename_i hc
    simp only [Bool.and_eq_true] at hc
    cases h
    have p1 := okc_plain hc.1.1
    have p2 := okc_plain hc.1.2
    have l1 : likD (.tup xs) (.tup ys) = true := hc.2
    have l2 : likD (.tup ys) (.tup xs) = true := by rw [lik_comm]; exact l1
    refine ⟨_, _, px.dp p1, py.dp p2, by rw [alike_of _ _ p1 p2]; exact l1, by simp [toPy], ?_, by rw [hf p1 p2 l1 l2]; exact q⟩
    rw [(lay_of _ p1).2]
    have := hc.1.1
    unfold D.okc at this
    simp only [Bool.and_eq_true, decide_eq_true_eq] at this
    exact this.2
  · cases h
theorem cmp_le (hu : X.A.units + 65 < cLine) : R2Ok X (compareOp .LtE) (cmpR .le) := by
  refine ⟨_, op_le.or (op_leD hu), ?_⟩
  intro β E env b b2 σ H H2 x y dx dy r Q a px py e q
  obtain ⟨k, e', rfl⟩ := cmpR_eq e
  clear e
  have e := e'
  clear e'
  cases dx <;> cases dy <;> try (simp [cmpD] at e; done)
  · cases px.intE; cases py.intE
    simp only [cmpD, Option.some.injEq] at e; subst e
    exact .inl ⟨_, _, rfl, rfl, a.bl q⟩
  · exact .inr (ord_go px py e (fun p1 p2 l1 l2 => by rw [lt_of_data _ _ p2 p1 l2]; rfl) (a.bl q))
theorem cmp_gt (hu : X.A.units + 65 < cLine) : R2Ok X (compareOp .Gt) (cmpR .gt) := by
  refine ⟨_, op_gt.or (op_gtD hu), ?_⟩
  intro β E env b b2 σ H H2 x y dx dy r Q a px py e q
  obtain ⟨k, e', rfl⟩ := cmpR_eq e
  clear e
  have e := e'
  clear e'
  cases dx <;> cases dy <;> try (simp [cmpD] at e; done)
  · cases px.intE; cases py.intE
    simp only [cmpD, Option.some.injEq] at e; subst e
    exact .inl ⟨_, _, rfl, rfl, a.bl q⟩
  · exact .inr (ord_go px py e (fun p1 p2 l1 l2 => by rw [lt_of_data _ _ p2 p1 l2]; rfl) (a.bl q))
theorem cmp_ge (hu : X.A.units + 65 < cLine) : R2Ok X (compareOp .GtE) (cmpR .ge) := by
  refine ⟨_, op_ge.or (op_geD hu), ?_⟩
  intro β E env b b2 σ H H2 x y dx dy r Q a px py e q
  obtain ⟨k, e', rfl⟩ := cmpR_eq e
  clear e
  have e := e'
  clear e'
  cases dx <;> cases dy <;> try (simp [cmpD] at e; done)
  · cases px.intE; cases py.intE
    simp only [cmpD, Option.some.injEq] at e; subst e
    exact .inl ⟨_, _, rfl, rfl, a.bl q⟩
  · exact .inr (ord_go px py e (fun p1 p2 l1 l2 => by rw [lt_of_data _ _ p1 p2 l1]; rfl) (a.bl q))
theorem cmp_lt (hu : X.A.units + 65 < cLine) : R2Ok X (compareOp .Lt) (cmpR .lt) := by
  refine ⟨_, op_lt.or (op_lt_str.or (op_ltD hu)), ?_⟩
  intro β E env b b2 σ H H2 x y dx dy r Q a px py e q
  obtain ⟨k, e', rfl⟩ := cmpR_eq e
  clear e
  have e := e'
  clear e'
  cases dx <;> cases dy <;> try (simp [cmpD] at e; done)
  · cases px.intE; cases py.intE
    simp only [cmpD, Option.some.injEq] at e; subst e
    exact .inl ⟨_, _, rfl, rfl, a.bl q⟩
  · cases px.strE; cases py.strE
    simp only [cmpD, Option.some.injEq] at e; subst e
    refine .inr (.inl ⟨_, _, rfl, rfl, ?_⟩)
    show Q (.bl (decide ((strOf _).cps.toList < (strOf _).cps.toList))) H2
    unfold strOf
    simp only [List.toList_toArray]
    exact a.bl q
  · exact .inr (.inr (ord_go px py e (fun p1 p2 l1 l2 => lt_of_data _ _ p1 p2 l1) (a.bl q)))
theorem mem_nat {c : Char} {s : List Char} : decide (c.toNat ∈ (strOf s).cps.toList) = decide (c ∈ s) := by
  have h : c.toNat ∈ (strOf s).cps.toList ↔ c ∈ s := by
    unfold strOf
    simp only [List.toList_toArray, List.mem_map]
    constructor
    · rintro ⟨x, hx, e⟩
      have : x = c := Char.ext (UInt32.toNat_inj.mp e)
      exact this ▸ hx
    · exact fun h => ⟨c, h, rfl⟩
  exact decide_eq_decide.mpr h
theorem cmp_in (hu : X.A.units + 65 < cLine) : R2Ok X (compareOp .In) (cmpR .isin) := by
  refine ⟨_, op_in_sign.or ((op_inD hu).or (op_inT hu)), ?_⟩
  intro β E env b b2 σ H H2 x y dx dy r Q a px py e q
  obtain ⟨k, e', rfl⟩ := cmpR_eq e
  clear e
  have e := e'
  clear e'
  cases dy with
  | str s =>
    cases dx <;> try (simp [cmpD] at e; done)
    rename_i t
    rcases t with _ | ⟨c, _ | ⟨c2, t⟩⟩ <;> try (simp [cmpD] at e; done)
    simp only [cmpD, Option.some.injEq] at e
    cases px.strE; cases py.strE
    refine .inl ⟨_, _, rfl, rfl, ?_⟩
    rw [mem_nat, e]; exact a.bl q
  | lst ys =>
    simp only [cmpD] at e
    by_cases hc : (dx.okc && (D.lst ys).okc) = true
    · rw [if_pos hc] at e
      have e := (Option.some.inj e).symm
      subst e
      simp only [Bool.and_eq_true] at hc
      refine .inr (.inl ⟨toPy dx, toPys ys, px.dp (okc_plain hc.1), py.dp (okc_plain hc.2), shaped_of hc.1, shaped_of hc.2, ?_⟩)
      rw [any_eqv (by simpa [D.plain] using okc_plain hc.2) (okc_plain hc.1)]
      exact a.bl q
    · rw [if_neg hc] at e; cases e
  | tup ys =>
    simp only [cmpD] at e
    by_cases hc : (dx.okc && (D.tup ys).okc) = true
    · rw [if_pos hc] at e
      have e := (Option.some.inj e).symm
      subst e
      simp only [Bool.and_eq_true] at hc
      refine .inr (.inr ⟨toPy dx, toPys ys, px.dp (okc_plain hc.1), py.dp (okc_plain hc.2), shaped_of hc.1, shaped_of hc.2, ?_⟩)
      rw [any_eqv (by simpa [D.plain] using okc_plain hc.2) (okc_plain hc.1)]
      exact a.bl q
    · rw [if_neg hc] at e; cases e
  | _ => cases dx <;> simp [cmpD] at e
theorem cmp_notin (hu : X.A.units + 65 < cLine) : R2Ok X (compareOp .NotIn) (cmpR .notin) := by
  refine ⟨_, op_notIn_sign.or ((op_notInD hu).or (op_notInT hu)), ?_⟩
  intro β E env b b2 σ H H2 x y dx dy r Q a px py e q
  obtain ⟨k, e', rfl⟩ := cmpR_eq e
  clear e
  have e := e'
  clear e'
  cases dy with
  | str s =>
    cases dx <;> try (simp [cmpD] at e; done)
    rename_i t
    rcases t with _ | ⟨c, _ | ⟨c2, t⟩⟩ <;> try (simp [cmpD] at e; done)
    simp only [cmpD, Option.some.injEq] at e
    cases px.strE; cases py.strE
    refine .inl ⟨_, _, rfl, rfl, ?_⟩
    rw [mem_nat, e]; exact a.bl q
  | lst ys =>
    simp only [cmpD] at e
    by_cases hc : (dx.okc && (D.lst ys).okc) = true
    · rw [if_pos hc] at e
      have e := (Option.some.inj e).symm
      subst e
      simp only [Bool.and_eq_true] at hc
      refine .inr (.inl ⟨toPy dx, toPys ys, px.dp (okc_plain hc.1), py.dp (okc_plain hc.2), shaped_of hc.1, shaped_of hc.2, ?_⟩)
      rw [any_eqv (by simpa [D.plain] using okc_plain hc.2) (okc_plain hc.1)]
      exact a.bl q
    · rw [if_neg hc] at e; cases e
  | tup ys =>
    simp only [cmpD] at e
    by_cases hc : (dx.okc && (D.tup ys).okc) = true
    · rw [if_pos hc] at e
      have e := (Option.some.inj e).symm
      subst e
      simp only [Bool.and_eq_true] at hc
      refine .inr (.inr ⟨toPy dx, toPys ys, px.dp (okc_plain hc.1), py.dp (okc_plain hc.2), shaped_of hc.1, shaped_of hc.2, ?_⟩)
      rw [any_eqv (by simpa [D.plain] using okc_plain hc.2) (okc_plain hc.1)]
      exact a.bl q
    · rw [if_neg hc] at e; cases e
  | _ => cases dx <;> simp [cmpD] at e
theorem PV.isNon {K : PySem.W.Frag} {H : Hp} {E : Addr → Prop} {v : V} {d : D} (h : PV K H E v d) : decide (v = .non) = d.isNon := by
  cases d with
  | lst ds => obtain ⟨a, xs, rfl, _⟩ := h; rfl
  | scr ns => obtain ⟨a, rfl, _⟩ := h; rfl
  | non => cases h; rfl
  | bl _ => cases h; rfl
  | int _ => cases h; rfl
  | str _ => cases h; rfl
  | tup _ => cases h; rfl
  | dic _ _ => cases h
  | exc _ => cases h
theorem cmp_is : R2Ok X (compareOp .Is) (cmpR .is) := by
  refine ⟨_, op_isN.or op_isBl, ?_⟩
  intro β E env b b2 σ H H2 x y dx dy r Q a px py e q
  obtain ⟨k, e', rfl⟩ := cmpR_eq e
  clear e
  have e := e'
  clear e'
  cases dy with
  | non =>
    cases py.nonE
    simp only [cmpD, Option.some.injEq] at e
    refine .inl ⟨rfl, ?_⟩
    rw [px.isNon, e]; exact a.bl q
  | bl c =>
    cases dx <;> try (simp [cmpD] at e; done)
    cases px.blE; cases py.blE
    simp only [cmpD, Option.some.injEq] at e
    refine .inr ⟨_, _, rfl, rfl, ?_⟩
    rw [← Bool.beq_eq_decide_eq, e]; exact a.bl q
  | _ => cases dx <;> simp [cmpD] at e
theorem cmp_isnot : R2Ok X (compareOp .IsNot) (cmpR .isnot) := by
  refine ⟨_, op_notN.or op_notBl, ?_⟩
  intro β E env b b2 σ H H2 x y dx dy r Q a px py e q
  obtain ⟨k, e', rfl⟩ := cmpR_eq e
  clear e
  have e := e'
  clear e'
  cases dy with
  | non =>
    cases py.nonE
    simp only [cmpD, Option.some.injEq] at e
    refine .inl ⟨rfl, ?_⟩
    rw [px.isNon, e]; exact a.bl q
  | bl c =>
    cases dx <;> try (simp [cmpD] at e; done)
    cases px.blE; cases py.blE
    simp only [cmpD, Option.some.injEq] at e
    refine .inr ⟨_, _, rfl, rfl, ?_⟩
    rw [← Bool.beq_eq_decide_eq, e]; exact a.bl q
  | _ => cases dx <;> simp [cmpD] at e
theorem cmp_ok (hu : X.A.units + 65 < cLine) (o : Cop) : R2Ok X (compareOp (copOf o)) (cmpR o) := by
  cases o
  · exact cmp_eq (by omega)
  · exact cmp_ne (by omega)
  · exact (cmp_lt hu)
  · exact (cmp_le hu)
  · exact (cmp_gt hu)
  · exact (cmp_ge hu)
  · exact cmp_in hu
  · exact cmp_notin hu
  · exact cmp_is
  · exact cmp_isnot
end
end Sg

-- SgOps3
/-! SgOps3: subscripts, slices, truth, builtins. -/
namespace Sg
open PySem PySem.Spec PyProof.Rows L2

theorem atD_eq {α : Type} (xs : List α) (i : Int) : atD xs i = L2.atI xs i := rfl
section
variable {K : PySem.W.Frag} {H : Hp} {E : Addr → Prop}
theorem VRs.at {vs : List V} {ds : List D} {i : Int} {d : D} (r : VRs K H E vs ds) (e : atD ds i = some d) : ∃ v, L2.atI vs i = some v ∧ VR K H E v d := by
  unfold atD at e
  unfold L2.atI
  have hl : L2.ixN vs.length i = ixI ds.length i := by rw [r.length]; rfl
  rw [hl]
  cases q : ixI ds.length i with
  | none => rw [q] at e; cases e
  | some j =>
    rw [q] at e
    exact r.get' e
theorem at_map {α β : Type} (f : α → β) (xs : List α) (i : Int) : L2.atI (xs.map f) i = (atD xs i).map f := by
  unfold atD L2.atI
  rw [List.length_map]
  show (ixI xs.length i).bind _ = _
  cases ixI xs.length i with
  | none => rfl
  | some j => simp
end
section
variable {X : Cx}
theorem idx_ok : ∃ r2 : R2, IxR X r2 ∧ ∀ (β : List Addr) (E : Addr → Prop) (env : List Slot) (b b2 : List D) (σ : St) (H H2 : Hp) (x y : V) (dx dy d : D) (Q : VK),
    At2 X.K β E env b b2 σ H H2 → PV X.K H2 E x dx → PV X.K H2 E y dy → idxD dx dy = some d → (∀ v H', Post X.K β E env σ H (.val d) b2 v H' → Q v H') → r2 x y H2 Q := by
  refine ⟨_, ix_seq, ?_⟩
  intro β E env b b2 σ H H2 x y dx dy d Q a px py e q
  cases dx <;> cases dy <;> try (simp [idxD] at e; done)
  · rename_i s i
    cases px.strE; cases py.intE
    simp only [idxD] at e
    split at e
    · rename_i hz
      cases w : atD s i with
      | none => rw [w] at e; cases e
      | some c =>
        rw [w] at e
        cases e
        refine .inr (.inr ⟨_, _, c.toNat, rfl, rfl, by rw [strOf_len]; exact Nat.le_trans hz LIM_line, ?_, a.str (i := [c]) q⟩)
        unfold strOf
        simp only [List.toList_toArray]
        rw [at_map, w]; rfl
    · cases e
  · rename_i ds i
    obtain ⟨p1, xs1, rfl, n1, e1, r1⟩ := px.tupE
    cases py.intE
    obtain ⟨v, e2, r2⟩ := r1.at e
    exact .inr (.inl ⟨_, _, _, _, rfl, rfl, e1.sq, e2, a.val r2 q⟩)
  · rename_i ds i
    obtain ⟨p1, xs1, rfl, e1, r1⟩ := px.lstE
    cases py.intE
    obtain ⟨v, e2, r2⟩ := r1.at e
    exact .inl ⟨_, _, _, _, rfl, rfl, SqL.of e1, e2, a.val r2 q⟩
  · rename_i ns i
    obtain ⟨p, rfl, hs⟩ := px
    cases py.intE
    simp only [idxD] at e
    cases w : atD ns i with
    | none => rw [w] at e; cases e
    | some c =>
      rw [w] at e
      cases e
      exact .inl ⟨_, _, _, _, rfl, rfl, hs, by rw [at_map, w]; rfl, a.int q⟩
theorem VRs.cut {K : PySem.W.Frag} {H : Hp} {E : Addr → Prop} {vs : List V} {ds : List D} (r : VRs K H E vs ds) (lo hi : Option Int) : VRs K H E (cutV vs lo hi) (cutL ds lo hi) := by
  unfold cutV cutL
  rw [r.length]
  exact (r.drop _).take _
theorem cutS_strOf (s : List Char) (lo hi : Option Int) : cutS (strOf s) lo hi = strOf (cutL s lo hi) := by
  unfold cutS cutL
  rw [strOf_len]
  unfold strOf
  simp only [List.toList_toArray, List.map_take, List.map_drop]
  rfl
theorem slc_ok : ∃ r2 : V → Option Int → Option Int → Hp → VK → Prop, SlR X r2 ∧ ∀ (β : List Addr) (E : Addr → Prop) (env : List Slot) (b b2 : List D) (σ : St) (H H2 : Hp) (x : V) (dx : D) (lo hi : Option Int) (r : R) (Q : VK),
    At2 X.K β E env b b2 σ H H2 → PV X.K H2 E x dx → slcD dx lo hi = some r → (∀ v H', Post X.K β E env σ H r b2 v H' → Q v H') → r2 x lo hi H2 Q := by
  refine ⟨_, sl_list.or (sl_tupF.or sl_str), ?_⟩
  intro β E env b b2 σ H H2 x dx lo hi r Q a px e q
  cases dx <;> try (simp [slcD] at e; done)
  · cases px.strE
    simp only [slcD] at e
    split at e
    · rename_i hz
      cases e
      refine .inr (.inr ⟨_, rfl, by rw [strOf_len]; exact Nat.le_trans hz LIM_line, ?_⟩)
      rw [cutS_strOf]
      exact a.str q
    · cases e
  · rename_i ds
    obtain ⟨p1, xs1, rfl, n1, e1, r1⟩ := px.tupE
    cases e
    refine .inr (.inl ⟨_, _, rfl, e1.sq, fun z => ?_, fun z => a.tup (r1.cut lo hi) q⟩)
    have e5 : cutL ds lo hi = ds := by
      rw [r1.length] at z
      unfold cutL
      have z1 : sIx ds.length 0 lo = 0 := z.1
      have z2 : sIx ds.length ds.length hi = ds.length := z.2
      rw [z1, z2]; simp
    refine a.val (d := .tup (cutL ds lo hi)) ?_ q
    rw [e5]
    exact .tup n1 e1 r1
  · rename_i ds
    obtain ⟨p1, xs1, rfl, e1, r1⟩ := px.lstE
    cases e
    exact .inl ⟨_, _, rfl, SqL.of e1, a.lst (r1.cut lo hi) q⟩
theorem tru_of {K : PySem.W.Frag} {H : Hp} {E : Addr → Prop} {v : V} {d : D} {k : Bool} (p : PV K H E v d) (e : truD d = some k) : TruV K v H k := by
  cases d <;> try (simp [truD] at e; done)
  · cases p.nonE; cases e; rfl
  · cases p.blE; cases e; rfl
  · cases p.intE; cases e; rfl
  · rename_i s
    cases p.strE
    simp only [truD] at e
    split at e
    · rename_i hz
      cases e
      refine ⟨by rw [strOf_len]; exact Nat.le_trans hz LIM_line, ?_⟩
      rw [strOf_len]
      cases s <;> simp <;> omega
    · cases e
  · obtain ⟨p1, xs1, rfl, n1, e1, r1⟩ := p.tupE
    cases e
    refine .inr (.inl ⟨_, e1.sq, ?_⟩)
    cases r1 <;> rfl
  · obtain ⟨p1, xs1, rfl, e1, r1⟩ := p.lstE
    cases e
    refine .inl ⟨_, SqL.of e1, ?_⟩
    cases r1 <;> rfl
  · rename_i ns
    obtain ⟨p, rfl, hs⟩ := p
    cases e
    refine .inl ⟨_, hs, ?_⟩
    cases ns <;> rfl
end

/-! ### builtins -/
inductive PVs (K : PySem.W.Frag) (H : Hp) (E : Addr → Prop) : List V → List D → Prop where
  | nil : PVs K H E [] []
  | cons {v : V} {vs : List V} {d : D} {ds : List D} : PV K H E v d → PVs K H E vs ds → PVs K H E (v :: vs) (d :: ds)
section
variable {X : Cx}
def CallOk (X : Cx) (f : Value) (g : List D → Option R) : Prop :=
  ∃ rr : List V → Hp → VK → Prop, CallR X f rr ∧ ∀ (β : List Addr) (E : Addr → Prop) (env : List Slot) (b b2 : List D) (σ : St) (H H2 : Hp) (vs : List V) (ds : List D) (r : R) (Q : VK),
    At2 X.K β E env b b2 σ H H2 → PVs X.K H2 E vs ds → g ds = some r → (∀ v H', Post X.K β E env σ H r b2 v H' → Q v H') → rr vs H2 Q
theorem CallR.or {f : Value} {r r' : List V → Hp → VK → Prop} (h : CallR X f r) (h' : CallR X f r') : CallR X f (fun vs H Q => r vs H Q ∨ r' vs H Q) := by
  intro pins s σ H vs us Q I rv q
  rcases q with q | q
  · exact h pins s σ H vs us Q I rv q
  · exact h' pins s σ H vs us Q I rv q
theorem ints_of : ∀ {ds : List D} {ns : List Int}, intsOf ds = some ns → ds = ns.map .int
  | [], _, e => by cases e; rfl
  | .int i :: r, ns, e => by
    simp only [intsOf] at e
    cases q : intsOf r with
    | none => rw [q] at e; cases e
    | some ms => rw [q] at e; cases e; rw [ints_of q]; rfl
  | .non :: _, _, e => by simp [intsOf] at e
  | .bl _ :: _, _, e => by simp [intsOf] at e
  | .str _ :: _, _, e => by simp [intsOf] at e
  | .tup _ :: _, _, e => by simp [intsOf] at e
  | .lst _ :: _, _, e => by simp [intsOf] at e
  | .scr _ :: _, _, e => by simp [intsOf] at e
  | .dic _ _ :: _, _, e => by simp [intsOf] at e
  | .exc _ :: _, _, e => by simp [intsOf] at e
theorem bools_of : ∀ {ds : List D} {ns : List Bool}, boolsOf ds = some ns → ds = ns.map .bl
  | [], _, e => by cases e; rfl
  | .bl i :: r, ns, e => by
    simp only [boolsOf] at e
    cases q : boolsOf r with
    | none => rw [q] at e; cases e
    | some ms => rw [q] at e; cases e; rw [bools_of q]; rfl
  | .non :: _, _, e => by simp [boolsOf] at e
  | .int _ :: _, _, e => by simp [boolsOf] at e
  | .str _ :: _, _, e => by simp [boolsOf] at e
  | .tup _ :: _, _, e => by simp [boolsOf] at e
  | .lst _ :: _, _, e => by simp [boolsOf] at e
  | .scr _ :: _, _, e => by simp [boolsOf] at e
  | .dic _ _ :: _, _, e => by simp [boolsOf] at e
  | .exc _ :: _, _, e => by simp [boolsOf] at e
theorem strs_of : ∀ {ds : List D} {ns : List (List Char)}, strsOf ds = some ns → ds = ns.map .str
  | [], _, e => by cases e; rfl
  | .str i :: r, ns, e => by
    simp only [strsOf] at e
    cases q : strsOf r with
    | none => rw [q] at e; cases e
    | some ms => rw [q] at e; cases e; rw [strs_of q]; rfl
  | .non :: _, _, e => by simp [strsOf] at e
  | .int _ :: _, _, e => by simp [strsOf] at e
  | .bl _ :: _, _, e => by simp [strsOf] at e
  | .tup _ :: _, _, e => by simp [strsOf] at e
  | .lst _ :: _, _, e => by simp [strsOf] at e
  | .scr _ :: _, _, e => by simp [strsOf] at e
  | .dic _ _ :: _, _, e => by simp [strsOf] at e
  | .exc _ :: _, _, e => by simp [strsOf] at e
section
variable {K : PySem.W.Frag} {H : Hp} {E : Addr → Prop}
theorem VRs.intsE : ∀ {vs : List V} {ns : List Int}, VRs K H E vs (ns.map .int) → vs = ns.map V.int
  | _, [], h => by cases h; rfl
  | _, n :: r, h => by
    cases h with
    | cons a b => cases a.intE; rw [VRs.intsE b]; rfl
theorem VRs.boolsE : ∀ {vs : List V} {ns : List Bool}, VRs K H E vs (ns.map .bl) → vs = ns.map V.bl
  | _, [], h => by cases h; rfl
  | _, n :: r, h => by
    cases h with
    | cons a b => cases a.blE; rw [VRs.boolsE b]; rfl
theorem VRs.strsE : ∀ {vs : List V} {ns : List (List Char)}, VRs K H E vs (ns.map .str) → vs = (ns.map strOf).map V.str
  | _, [], h => by cases h; rfl
  | _, n :: r, h => by
    cases h with
    | cons a b => cases a.strE; rw [VRs.strsE b]; rfl
theorem PVs.one {vs : List V} {d : D} (h : PVs K H E vs [d]) : ∃ v, vs = [v] ∧ PV K H E v d := by
  cases h with
  | cons a b => cases b; exact ⟨_, rfl, a⟩
end
/-- one argument -/
theorem one_arg {g : List D → Option R} (hg : ∀ ds r, g ds = some r → ∃ d, ds = [d]) {f : Value} {rr : List V → Hp → VK → Prop} (hr : CallR X f rr)
    (h : ∀ (β : List Addr) (E : Addr → Prop) (env : List Slot) (b b2 : List D) (σ : St) (H H2 : Hp) (v : V) (d : D) (r : R) (Q : VK),
      At2 X.K β E env b b2 σ H H2 → PV X.K H2 E v d → g [d] = some r → (∀ v H', Post X.K β E env σ H r b2 v H' → Q v H') → rr [v] H2 Q) : CallOk X f g := by
  refine ⟨rr, hr, ?_⟩
  intro β E env b b2 σ H H2 vs ds r Q a ps e q
  obtain ⟨d, rfl⟩ := hg ds r e
  obtain ⟨v, rfl, p⟩ := ps.one
  exact h β E env b b2 σ H H2 v d r Q a p e q
theorem bi_len : CallOk X (.builtin "len") (biD .len) := by
  refine one_arg (fun ds r e => ?_) call_len ?_
  · unfold biD at e; split at e <;> first | exact ⟨_, rfl⟩ | cases e | simp_all
  intro β E env b b2 σ H H2 v d r Q a p e q
  simp only [biD] at e
  cases d <;> try (simp [lenD] at e; done)
  · cases p.strE
    simp only [lenD] at e
    split at e
    · rename_i hz
      cases e
      exact ⟨_, _, rfl, ⟨by rw [strOf_len]; exact Nat.le_trans hz LIM_line, (strOf_len _).symm⟩, a.int q⟩
    · cases e
  · obtain ⟨p1, xs1, rfl, n1, e1, r1⟩ := p.tupE
    cases e
    exact ⟨_, _, rfl, .inr ⟨_, e1.sq, r1.length.symm⟩, a.int q⟩
  · obtain ⟨p1, xs1, rfl, e1, r1⟩ := p.lstE
    cases e
    exact ⟨_, _, rfl, .inl ⟨_, SqL.of e1, r1.length.symm⟩, a.int q⟩
  · obtain ⟨p, rfl, hs⟩ := p
    cases e
    exact ⟨_, _, rfl, .inl ⟨_, hs, by simp⟩, a.int q⟩
theorem bi_tuple : CallOk X (.type "tuple") (biD .tuple) := by
  refine one_arg (fun ds r e => ?_) call_tupleF ?_
  · unfold biD at e; split at e <;> first | exact ⟨_, rfl⟩ | cases e | simp_all
  intro β E env b b2 σ H H2 v d r Q a p e q
  cases d <;> try (simp [biD] at e; done)
  · obtain ⟨p1, xs1, rfl, n1, e1, r1⟩ := p.tupE
    cases e
    exact ⟨_, _, rfl, .inr ⟨e1.sq, a.val (.tup n1 e1 r1) q⟩⟩
  · obtain ⟨p1, xs1, rfl, e1, r1⟩ := p.lstE
    cases e
    exact ⟨_, _, rfl, .inl ⟨SqL.of e1, a.tup r1 q⟩⟩
/-- list(text) -/
theorem call_listStr (hc : X.calm = true) : CallR X (.type "list") (fun xs H Q => ∃ z : Str, xs = [.str z] ∧ z.length ≤ sizeLine ∧ ∀ p, H p = none → Q (.ref p) (upd H p (.lst (z.cps.toList.map fun c => V.str ⟨#[c]⟩)))) := by
  intro pins s σ H xs us Q I r h
  obtain ⟨z, rfl, hz, q⟩ := h
  obtain ⟨u, rfl, ru⟩ := vals1 r
  obtain ⟨t, rfl⟩ := ru
  refine PySem.call_list_str (I.ok.hd hc) z t (hn := hz) fun h' tk acc' c' hk hS hi => ?_
  have hf : H s.heap.objs.size = none := I.hok.fresh (Nat.le_refl _)
  have rv : Vals (z.cps.toList.map fun c => V.str ⟨#[c]⟩) acc'.toList := by
    have key : ∀ (cs : List Nat) (us : List Value), us.length = cs.length → (∀ (j : Nat) (c : Nat) (u : Value), cs[j]? = some c → us[j]? = some u → ∃ t, u = Value.str ⟨#[c]⟩ t) → Vals (cs.map fun c => V.str ⟨#[c]⟩) us := by
      intro cs
      induction cs with
      | nil => intro us hl _; cases us with
        | nil => exact .nil
        | cons _ _ => simp at hl
      | cons c cs ih =>
        intro us hl hj
        cases us with
        | nil => simp at hl
        | cons u us =>
          refine .cons (hj 0 c u rfl rfl) (ih us (by simpa using hl) fun j c u h1 h2 => hj (j + 1) c u (by simpa using h1) (by simpa using h2))
    refine key _ _ (by simp [hi.1]) fun j c u h1 h2 => ?_
    obtain ⟨c', t', hc', rfl⟩ := hi.2 j u (by simpa using h2)
    have : c = c' := by
      have h1' : z.cps[j]? = some c := by simpa using h1
      rw [h1'] at hc'; exact Option.some.inj hc'
    exact ⟨t', by rw [this]⟩
  refine ⟨.ref s.heap.objs.size, _, I.laid (t' := tk) (o := .lst (z.cps.toList.map fun c => V.str ⟨#[c]⟩)) hk (Nat.le_refl _) ?_, rfl, q _ hf⟩
  exact ⟨by rw [List.length_map]; exact hz, acc'.toList, c', rv, by rw [hS]⟩
theorem bi_list (hc : X.calm = true) : CallOk X (.type "list") (biD .list) := by
  refine one_arg (fun ds r e => ?_) (call_list_of.or (call_listStr hc)) ?_
  · unfold biD at e; split at e <;> first | exact ⟨_, rfl⟩ | cases e | simp_all
  intro β E env b b2 σ H H2 v d r Q a p e q
  cases d <;> try (simp [biD] at e; done)
  · rename_i s
    cases p.strE
    simp only [biD] at e
    split at e
    · rename_i hz
      cases e
      refine .inr ⟨_, rfl, by rw [strOf_len]; exact Nat.le_trans hz LIM_line, a.lst ?_ q⟩
      have e5 : ((strOf s).cps.toList.map fun c => V.str ⟨#[c]⟩) = (s.map fun c => [c]).map fun s => V.str (strOf s) := by
        unfold strOf
        simp [List.map_map, Function.comp_def]
      have e6 : (s.map fun c => D.str [c]) = (s.map fun c => [c]).map D.str := by simp [List.map_map, Function.comp_def]
      rw [e5, e6]
      exact VRs.strs _
    · cases e
  · obtain ⟨p1, xs1, rfl, n1, e1, r1⟩ := p.tupE
    cases e
    exact .inl ⟨_, _, rfl, .inr (e1.sq), a.lst r1 q⟩
  · obtain ⟨p1, xs1, rfl, e1, r1⟩ := p.lstE
    cases e
    exact .inl ⟨_, _, rfl, .inl (SqL.of e1), a.lst r1 q⟩
  · obtain ⟨p, rfl, hs⟩ := p
    cases e
    exact .inl ⟨_, _, rfl, .inl hs, a.lst (VRs.ints _) q⟩
theorem bi_all (hc : X.calm = true) : CallOk X (.builtin "all") (biD .all) := by
  refine one_arg (fun ds r e => ?_) (cr_all hc) ?_
  · unfold biD at e; split at e <;> first | exact ⟨_, rfl⟩ | cases e | simp_all
  intro β E env b b2 σ H H2 v d r Q a p e q
  cases d <;> try (simp [biD] at e; done)
  obtain ⟨p1, xs1, rfl, e1, r1⟩ := p.lstE
  simp only [biD] at e
  cases w : boolsOf _ with
  | none => rw [w] at e; cases e
  | some bs =>
    rw [w] at e
    cases e
    rw [bools_of w] at r1
    cases r1.boolsE
    exact ⟨_, _, rfl, SqL.of e1, a.bl q⟩
theorem bi_any (hc : X.calm = true) : CallOk X (.builtin "any") (biD .any) := by
  refine one_arg (fun ds r e => ?_) (cr_any hc) ?_
  · unfold biD at e; split at e <;> first | exact ⟨_, rfl⟩ | cases e | simp_all
  intro β E env b b2 σ H H2 v d r Q a p e q
  cases d <;> try (simp [biD] at e; done)
  obtain ⟨p1, xs1, rfl, e1, r1⟩ := p.lstE
  simp only [biD] at e
  cases w : boolsOf _ with
  | none => rw [w] at e; cases e
  | some bs =>
    rw [w] at e
    cases e
    rw [bools_of w] at r1
    cases r1.boolsE
    exact ⟨_, _, rfl, SqL.of e1, a.bl q⟩
theorem bi_sum (hc : X.calm = true) : CallOk X (.builtin "sum") (biD .sum) := by
  refine one_arg (fun ds r e => ?_) (cr_sum hc) ?_
  · unfold biD at e; split at e <;> first | exact ⟨_, rfl⟩ | cases e | simp_all
  intro β E env b b2 σ H H2 v d r Q a p e q
  cases d <;> try (simp [biD] at e; done)
  obtain ⟨p1, xs1, rfl, e1, r1⟩ := p.lstE
  simp only [biD] at e
  cases w : intsOf _ with
  | none => rw [w] at e; cases e
  | some bs =>
    rw [w] at e
    cases e
    rw [ints_of w] at r1
    cases r1.intsE
    exact ⟨_, _, rfl, SqL.of e1, a.int q⟩
theorem bi_abs : CallOk X (.builtin "abs") (biD .abs) := by
  refine one_arg (fun ds r e => ?_) call_abs ?_
  · unfold biD at e; split at e <;> first | exact ⟨_, rfl⟩ | cases e | simp_all
  intro β E env b b2 σ H H2 v d r Q a p e q
  cases d <;> try (simp [biD] at e; done)
  cases p.intE
  cases e
  exact ⟨_, rfl, a.int q⟩
theorem bi_int : CallOk X (.type "int") (biD .int) := by
  refine one_arg (fun ds r e => ?_) call_int1 ?_
  · unfold biD at e; split at e <;> first | exact ⟨_, rfl⟩ | cases e | simp_all
  intro β E env b b2 σ H H2 v d r Q a p e q
  cases d <;> try (simp [biD] at e; done)
  · cases p.blE
    cases e
    exact .inr ⟨_, rfl, a.int q⟩
  · cases p.intE
    cases e
    exact .inl ⟨_, rfl, a.int q⟩
end
end Sg

-- SgSrtE
/-! SgSrtE: sorted of alike tuples, some of them perhaps empty. -/
namespace PySem.W
open PySem PySem.Calls PySem.SeqAt PyProof.Rows
section
variable {A : Around} {s : Shared} {prog : Program} {w : World} {E : Value → Shared → Prop}
theorem sgCallTupleLt {Q : Value → Shared → Prop} {l b : Addr} {items items2 : Array Value} {e r : Nat → Bool} (hl : s.heap.IsTuple l items) (hb : s.heap.IsTuple b items2)
    (he : ∀ j (h1 : j < items.size) (h2 : j < items2.size), EqAt A.in1 s items[j] items2[j] (e j)) (hr : ∀ j (h1 : j < items.size) (h2 : j < items2.size), e j = false → RcLt A.in1 s items[j] items2[j] (r j))
    (h : Q (.bool (firstLt e r (decide (items.size < items2.size)) (List.range (min items.size items2.size)))) s) : wpAny (model prog w) A (call (.builtin "tuple.__lt__") [.ref l, .ref b]) Q E s := by
  obtain ⟨⟨cls, dd, data, sl⟩, ho, hc, n, hd⟩ := id hl
  obtain ⟨⟨cls2, dd2, data2, sl2⟩, ho2, hc2, n2, hd2⟩ := id hb
  simp only at hc hd hc2 hd2
  subst hc hd hc2 hd2
  exact call_meets F.slot_tuple_lt ⟨_, ho, rfl⟩ F.entry_tuple_lt (F.args_tuple_lt_2 _ _) (tuple_ltAt l b items items2 n n2 dd dd2 sl sl2 e r) ⟨ho, ho2, he, hr, h⟩
/-- one key against another, any kind of comparing -/
theorem sgOneLt {f : Bool} {xs ys : List PyData} {a b : Value} {as bs : List Addr} {Q : Bool → Shared → Prop} (ra : Reads s.heap a (.tuple xs) as) (rb : Reads s.heap b (.tuple ys) bs) (h : alike (.tuple xs) (.tuple ys) = true)
    (hu : A.units + min (PyData.tuple xs).depth (PyData.tuple ys).depth < cLine) (hq : Q (dataLt (.tuple xs) (.tuple ys)) s) : wpAny (model prog w) A (oneLt' f a b) Q E s := by
  cases f with
  | false =>
    rw [oneLt'_eq]
    simp only [Bool.false_eq_true, if_false]
    exact wpAny_bind (rcLt_alike _ _ A s a b as bs ra rb h (fun z => nomatch z) hu prog w E _ (wpAny_truthy_bool hq))
  | true =>
    have hal : alikeAll xs ys = true := by simpa [alike] using h
    cases ra with
    | @tuple l o vs n _ as₁ h1 h2 h3 h4 =>
      cases rb with
      | @tuple l' o' vs' n' _ bs₁ k1 k2 k3 k4 =>
        have n1 : vs.size = xs.length := by simpa using ReadsAll.length _ _ _ h4
        have n2 : vs'.size = ys.length := by simpa using ReadsAll.length _ _ _ k4
        rw [dataLt_tuple, ← firstLt_toks xs ys hal, ← n1, ← n2] at hq
        rw [oneLt'_eq]
        simp only [if_true]
        refine wpAny_bind (wpAny_cRoomFor (room_here hu) ?_)
        refine wpAny_bind (wpAny_callSpecialIfBound?_slot (T := "tuple") ⟨_, h1, h2⟩ F.slot_tuple_lt (sgCallTupleLt (e := pairEq xs ys) (r := fun j => dataLt (xs.getD j .none) (ys.getD j .none)) ⟨_, h1, h2, _, h3⟩ ⟨_, k1, k2, _, k3⟩ (fun j j1 j2 => ?_) (fun j j1 j2 hj => ?_) ?_))
        · have := eqAt_alikeAll xs ys A.in1 s vs.toList vs'.toList _ _ h4 k4 hal (room_in hu) j (by simpa using j1) (by simpa using j2)
          simpa using this
        · have := rcLt_alikeAll xs ys A.in1 s vs.toList vs'.toList _ _ h4 k4 hal (room_in hu) j (by simpa using j1) (by simpa using j2) hj
          simpa using this
        · exact wpAny_truthy_bool hq
/-- the first items of tuples, of some perhaps none -/
theorem sgFirsts : ∀ {vs : List Value} {ds : List PyData}, EachIs (fun v d => ∃ as, Reads s.heap v d as) vs ds → (∀ d, d ∈ ds → ∃ r, d = .tuple r) →
    ∃ fs : List (Option Value), fs.length = ds.length ∧ (∀ i, (h : i < ds.length) → (fs[i]? = some none ↔ ds[i] = .tuple [])) ∧ ∀ {Q : List (Option Value) → Shared → Prop}, Q fs s → wpAny (model prog w) A (vs.mapM firstOfTuple') Q E s
  | _, _, .nil, _ => ⟨[], rfl, fun i h => absurd h (by simp), fun h => by rw [List.mapM_nil]; exact wpAny_pure h⟩
  | _, _, .cons (b := d) (as := vs) (bs := ds) ⟨as, r⟩ t, ht => by
    obtain ⟨fs, h1, h2, h3⟩ := sgFirsts t fun d hd => ht d (List.mem_cons_of_mem _ hd)
    obtain ⟨rest, rfl⟩ := ht d (List.mem_cons_self ..)
    cases r with
    | @tuple a o xs n _ _ ho hc hd hr =>
      refine ⟨xs[0]? :: fs, by simp [h1], fun i hi => ?_, fun {Q} h => ?_⟩
      · cases i with
        | zero =>
          have n1 : xs.size = rest.length := by simpa using ReadsAll.length _ _ _ hr
          simp only [List.getElem?_cons_zero, List.getElem_cons_zero, Option.some.injEq, PyData.tuple.injEq]
          rw [Array.getElem?_eq_none_iff, n1]
          constructor
          · intro z; exact List.eq_nil_of_length_eq_zero (by omega)
          · intro z; rw [z]; simp
        | succ i =>
          simp only [List.getElem?_cons_succ, List.getElem_cons_succ]
          exact h2 i (by simpa using hi)
      · rw [List.mapM_cons]
        refine wpAny_bind ?_
        rw [kas_first_eq]
        refine wpAny_bind (Looks.here (show Looks (model prog w) s.heap (typeOf (.ref a)) o.cls from (Looks.ld ho).andThen .now) ?_)
        rw [hc, if_neg (by first | decide | simp)]
        refine wpAny_bind (listItems_at ho hd (wpAny_pure ?_))
        exact wpAny_bind (h3 (Q := fun bs s' => wpAny (model prog w) A (pure (xs[0]? :: bs)) Q E s') (wpAny_pure h))
end
section
variable {prog : Program} {w : World} {A : Around} {s : Shared}
theorem SortsAt.sgTuples {vs : List Value} {ds : List PyData} (e : EachIs (fun v d => ∃ as, Reads s.heap v d as) vs ds) (hal : AllAlike ds) (ht : ∀ d, d ∈ ds → ∃ r, d = .tuple r) (hu : ∀ d, d ∈ ds → A.units + d.depth < cLine) : SortsAt prog w A s (dataKind s.heap ds) vs := by
  by_cases hne : ∀ d, d ∈ ds → ∃ x r, d = .tuple (x :: r)
  · exact SortsAt.data e hal (.inl hne) hu
  have hempty : ∃ i, ∃ h : i < ds.length, ds[i] = .tuple [] := by
    have h2 : ∃ d, d ∈ ds ∧ ¬ ∃ x r, d = .tuple (x :: r) := by
      apply Classical.byContradiction
      intro z
      exact hne fun d hd => Classical.byContradiction fun q => z ⟨d, hd, q⟩
    obtain ⟨d, hd, q⟩ := h2
    obtain ⟨r, rfl⟩ := ht d hd
    obtain ⟨i, hi, e1⟩ := List.getElem_of_mem hd
    refine ⟨i, hi, ?_⟩
    cases r with
    | nil => exact e1
    | cons x r => exact absurd ⟨x, r, rfl⟩ q
  have room : ∀ {d d' : PyData}, d ∈ ds → A.units + min d.depth d'.depth < cLine := fun {d d'} hd => Nat.lt_of_le_of_lt (Nat.add_le_add_left (Nat.min_le_left _ _) _) (hu d hd)
  have lt : ∀ (f : Bool) (E : Value → Shared → Prop) (x y : Value) (a b : (dataKind s.heap ds).α) (Q : Bool → Shared → Prop), (dataKind s.heap ds).keyOf x = some a → (dataKind s.heap ds).keyOf y = some b → Q ((dataKind s.heap ds).blt a b) s → wpAny (model prog w) A (oneLt' f x y) Q E s := by
    intro f E x y a b Q ha hb hq
    obtain ⟨d, as, hd, ra, rfl⟩ := dataKind_inv ha
    obtain ⟨d', as', hd', rb, rfl⟩ := dataKind_inv hb
    obtain ⟨r, rfl⟩ := ht d hd
    obtain ⟨r', rfl⟩ := ht d' hd'
    exact sgOneLt ra rb (hal _ hd _ hd') (room hd) hq
  refine ⟨fun v hv => ?_, ?_⟩
  · obtain ⟨d, hd, as, r⟩ := e.left v hv
    exact ⟨_, dataKind_some hal hd r⟩
  · have fsx := fun (E : Value → Shared → Prop) => sgFirsts (prog := prog) (w := w) (A := A) (E := E) e ht
    by_cases h0 : ds[0]? = some (.tuple [])
    · refine ⟨oneType', fun E x y a b Q ha hb hq => ?_, fun h2 E Q hq => ?_⟩
      · rw [keyLt'_oneType]
        exact lt true E x y a b Q ha hb hq
      · obtain ⟨fs, f1, f2, f3⟩ := fsx E
        rw [kat_kind_eq, List.mapM_toArray, map_eq_pure_bind]
        refine wpAny_bind (wpAny_bind (f3 (wpAny_pure ?_)))
        obtain ⟨i, hi, ei⟩ := hempty
        have hi2 := (f2 i hi).mpr ei
        have hall : (fs.toArray.all fun x => x.isSome) = false := by
          rw [Bool.eq_false_iff]
          intro z
          simp only [List.all_toArray, List.all_eq_true] at z
          have := z none (List.mem_of_getElem? hi2)
          cases this
        rw [hall]
        simp only [Bool.false_eq_true, if_false]
        have hd0 : 0 < ds.length := (List.getElem?_eq_some_iff.mp h0).1
        have e0 : fs.toArray[0]? = some none := by
          rw [List.getElem?_toArray]
          exact (f2 0 hd0).mpr (List.getElem?_eq_some_iff.mp h0).2
        rw [e0]
        simp only [Option.bind_some, id, Option.isSome_none, Bool.false_eq_true, if_false]
        obtain ⟨v₁, v₂, rest, rfl⟩ : ∃ v₁ v₂ rest, vs = v₁ :: v₂ :: rest := by
          match vs, h2 with
          | [], h2 => simp at h2
          | [_], h2 => simp at h2
          | v₁ :: v₂ :: rest, _ => exact ⟨v₁, v₂, rest, rfl⟩
        rw [oneTypeOnly'_eq, List.mapM_toArray, map_eq_pure_bind]
        refine wpAny_bind (wpAny_bind (wpAny_bind (kas_mapM (r := Value.type "tuple") _ (fun v hv Q' hq => ?_) (wpAny_pure ?_))))
        · obtain ⟨d, hd, as, r⟩ := e.left v hv
          obtain ⟨r2, rfl⟩ := ht d hd
          exact (looks_reads r).here hq
        · have hall : ((List.map (fun _ => Value.type "tuple") (v₁ :: v₂ :: rest)).toArray.all fun x => x == Value.type "tuple") = true := by
            simp only [List.all_toArray, List.all_map, List.all_eq_true]
            intro _ _
            rfl
          have h0 : (List.map (fun _ => Value.type "tuple") (v₁ :: v₂ :: rest)).toArray[0]? = some (Value.type "tuple") := by simp
          rw [h0]
          simp only [hall, if_true]
          exact wpAny_pure (wpAny_pure hq)
    · refine ⟨general', fun E x y a b Q ha hb hq => ?_, fun h2 E Q hq => ?_⟩
      · exact lt false E x y a b Q ha hb hq
      · obtain ⟨fs, f1, f2, f3⟩ := fsx E
        rw [kat_kind_eq, List.mapM_toArray, map_eq_pure_bind]
        refine wpAny_bind (wpAny_bind (f3 (wpAny_pure ?_)))
        obtain ⟨i, hi, ei⟩ := hempty
        have hi2 := (f2 i hi).mpr ei
        have hall : (fs.toArray.all fun x => x.isSome) = false := by
          rw [Bool.eq_false_iff]
          intro z
          simp only [List.all_toArray, List.all_eq_true] at z
          have := z none (List.mem_of_getElem? hi2)
          cases this
        rw [hall]
        simp only [Bool.false_eq_true, if_false]
        have hd0 : 0 < ds.length := by omega
        obtain ⟨f, e0⟩ : ∃ f, fs[0]? = some (some f) := by
          have hf : 0 < fs.length := by omega
          have q := (f2 0 hd0)
          rw [List.getElem?_eq_getElem hf] at q ⊢
          cases w : fs[0] with
          | none => 
            rw [w] at q
            exact absurd (by rw [List.getElem?_eq_getElem hd0, q.mp rfl]) h0
          | some f => exact ⟨f, rfl⟩
        rw [show fs.toArray[0]? = some (some f) by rw [List.getElem?_toArray]; exact e0]
        simp only [Option.bind_some, id, Option.isSome_some, if_true]
        exact wpAny_pure hq
variable {E : Value → Shared → Prop} {β : Type} {R : Value → β → Prop} {enc : β → PyData} {bs : List β} {vs : List Value}
theorem sgSorted_tuples {l : Addr} {Q : Value → Shared → Prop} (hl : s.heap.IsList l vs.toArray) (e : EachIs R vs bs) (er : EachIs (fun v b => ∃ as, Reads s.heap v (enc b) as) vs bs) (hal : AllAlike (bs.map enc)) (hk : ∀ d, d ∈ bs.map enc → ∃ r, d = .tuple r) (hL : bs.length ≤ sizeLine)
    (hu : ∀ b, b ∈ bs → A.units + 2 + (enc b).depth < cLine) (h : ∀ out, out.length = bs.length → EachIs R out (bs.mergeSort (dataLe false enc)) → Q (.ref (s.heap.objs.size + 1)) { s with heap := sortedAll s.heap vs (List.toArray out) }) :
    wpAny (model prog w) A (call (.builtin "sorted") [.ref l]) Q E s := by
  have er' : EachIs (fun v b => ∃ as, Reads (sortingHeap (copyHeap s.heap vs) (s.heap.objs.size + 1) vs) v (enc b) as) vs bs := er.mono fun _ _ ⟨as, r⟩ => ⟨as, PyProof.Rows.Reads.keeps (fun _ _ => sorting_copy_old) r⟩
  exact sorted_vals hl (SortsAt.sgTuples (s := { s with heap := sortingHeap (copyHeap s.heap vs) (s.heap.objs.size + 1) vs }) (each_map (R := fun v d => ∃ as, Reads (sortingHeap (copyHeap s.heap vs) (s.heap.objs.size + 1) vs) v d as) enc er') hal hk (bound_map hu)) (by rw [e.length]; exact hL)
    (h _ (by rw [sortVals_length false rfl]; exact e.length) (sortVals_data false e er' hal))
end
end PySem.W

-- SgX
/-! SgX: further rules of the hand layer: sorted, min, max over data of any kind, tuple.index, tuple.count. -/
namespace Sg
open PySem PySem.Spec PyProof.Rows L2
section
variable {X : Cx}
theorem dpAll_len {K : PySem.W.Frag} {H : Hp} : ∀ {xs : List V} {ds : List PyData}, DpAll K H xs ds → xs.length = ds.length
  | _, _, .nil => rfl
  | _, _, .cons _ r => by simp [dpAll_len r]
theorem zip_snd {α β : Type} : ∀ {xs : List α} {ys : List β}, xs.length = ys.length → (xs.zip ys).map Prod.snd = ys
  | [], [], _ => rfl
  | x :: xs, y :: ys, h => by simp [zip_snd (Nat.succ.inj h)]
theorem each_zip {s : Shared} : ∀ {xs : List V} {ds : List PyData} {its : List Value} {as : List Addr}, xs.length = ds.length → Vals xs its → ReadsAll s.heap its ds as →
    PySem.W.EachIs (fun u (p : V × PyData) => RelV p.1 u) its (xs.zip ds) ∧ PySem.W.EachIs (fun u (p : V × PyData) => ∃ as, Reads s.heap u p.2 as) its (xs.zip ds)
  | [], [], _, _, _, .nil, _ => ⟨.nil, .nil⟩
  | x :: xs, d :: ds, _, _, h, .cons r rs, .cons h1 h2 => by
    obtain ⟨e1, e2⟩ := each_zip (Nat.succ.inj h) rs h2
    exact ⟨.cons r e1, .cons ⟨_, h1⟩ e2⟩
theorem each_vals : ∀ {out : List Value} {bs : List (V × PyData)}, PySem.W.EachIs (fun u (p : V × PyData) => RelV p.1 u) out bs → Vals (bs.map Prod.fst) out
  | _, _, .nil => .nil
  | _, _, .cons h t => .cons h (each_vals t)
def SrtAny (ds : List PyData) : Prop := (∀ d ∈ ds, ∃ r, d = .tuple r) ∨ ∀ d ∈ ds, d ≠ .none ∧ ∀ xs, d ≠ .tuple xs
/-- sorted(xs), data of one kind, any length -/
def rSortedD (K : PySem.W.Frag) : List V → Hp → VK → Prop := fun vs H Q => ∃ (a : Addr) (xs : List V) (ds : List PyData), vs = [V.ref a] ∧ SqL K H a xs ∧ DpAll K H xs ds ∧ PySem.W.AllAlike ds ∧ SrtAny ds ∧ (∀ d ∈ ds, d.depth ≤ 60) ∧
  ∀ p, H p = none → Q (.ref p) (upd H p (.lst (((xs.zip ds).mergeSort (PySem.W.dataLe false Prod.snd)).map Prod.fst)))
theorem cr_sortedD (hu : X.A.units + 65 < cLine) : CallR X (.builtin "sorted") (rSortedD X.K) := by
  intro pins s σ H vs us Q I r h
  obtain ⟨a, xs, ds, rfl, hs, hd, hal, hso, hdep, q⟩ := h
  obtain ⟨its, rv, hl, hz⟩ := I.list hs
  rw [Vals.ref1 r]
  obtain ⟨as, hr⟩ := Dp.readsAll I ds xs its hd rv
  have hlen := dpAll_len hd
  obtain ⟨e1, e2⟩ := each_zip hlen rv hr
  have hsnd : (xs.zip ds).map Prod.snd = ds := zip_snd hlen
  have hzl : (xs.zip ds).length = xs.length := by rw [List.length_zip, hlen, Nat.min_self]
  have hb2 : ∀ b, b ∈ xs.zip ds → X.A.units + 2 + (Prod.snd b).depth < cLine := fun b hb => by
    have := hdep b.2 (by rw [← hsnd]; exact List.mem_map.mpr ⟨b, hb, rfl⟩)
    omega
  have go : ∀ (Q : Value → Shared → Prop), (∀ out, out.length = (xs.zip ds).length → PySem.W.EachIs (fun u (p : V × PyData) => RelV p.1 u) out ((xs.zip ds).mergeSort (PySem.W.dataLe false Prod.snd)) → Q (.ref (s.heap.objs.size + 1)) { s with heap := PyProof.Rows.sortedAll s.heap its (List.toArray out) }) →
      wpAny (model X.prog X.w) X.A (call (.builtin "sorted") [.ref a]) Q X.xe s := fun Q hQ => by
    rcases hso with h | h
    · exact PySem.W.sgSorted_tuples (enc := Prod.snd) hl.isList e1 e2 (by rw [hsnd]; exact hal) (by rw [hsnd]; exact h) (by rw [hzl]; exact hz) hb2 hQ
    · exact PySem.W.sorted_data (enc := Prod.snd) hl.isList e1 e2 (by rw [hsnd]; exact hal) (by rw [hsnd]; exact .inr h) (by rw [hzl]; exact hz) hb2 hQ
  refine go _ fun out ho eo => ?_
  · obtain ⟨ep, he'⟩ := PyProof.Rows.sortedAll_at s.heap its out.toArray
    have hl2 : (((xs.zip ds).mergeSort (PySem.W.dataLe false Prod.snd)).map Prod.fst).length ≤ sizeLine := by
      rw [List.length_map, List.length_mergeSort, hzl]; exact hz
    exact ⟨.ref _, upd H (s.heap.objs.size + 1) (.lst (((xs.zip ds).mergeSort (PySem.W.dataLe false Prod.snd)).map Prod.fst)), I.laid (t' := s.toks) (fun _ _ => PyProof.Rows.sortedAll_old) (Nat.le_succ _) ⟨hl2, out, ep, each_vals eo, he'⟩, rfl, q _ (I.hok.fresh (Nat.le_succ _))⟩
theorem minD_mem : ∀ (ds : List PyData) (d : PyData), PySem.W.minD d ds ∈ d :: ds := by
  intro ds
  unfold PySem.W.minD
  induction ds with
  | nil => intro d; simp
  | cons e r ih =>
    intro d
    rw [List.foldl_cons]
    split
    · exact List.mem_cons_of_mem _ (ih e)
    · rcases List.mem_cons.mp (ih d) with h | h
      · rw [h]; exact List.mem_cons_self
      · exact List.mem_cons_of_mem _ (List.mem_cons_of_mem _ h)
theorem maxD_mem : ∀ (ds : List PyData) (d : PyData), PySem.W.maxD d ds ∈ d :: ds := by
  intro ds
  unfold PySem.W.maxD
  induction ds with
  | nil => intro d; simp
  | cons e r ih =>
    intro d
    rw [List.foldl_cons]
    split
    · exact List.mem_cons_of_mem _ (ih e)
    · rcases List.mem_cons.mp (ih d) with h | h
      · rw [h]; exact List.mem_cons_self
      · exact List.mem_cons_of_mem _ (List.mem_cons_of_mem _ h)
theorem vals_at {xs : List V} {its : List Value} (r : Vals xs its) {i : Nat} {v : Value} (h : its[i]? = some v) : ∃ x, xs[i]? = some x ∧ RelV x v := by
  induction r generalizing i with
  | nil => simp at h
  | cons a t ih =>
    cases i with
    | zero => simp at h; subst h; exact ⟨_, rfl, a⟩
    | succ i => simpa using ih (by simpa using h)
theorem reads_at {h : Heap} : ∀ {its : List Value} {ds : List PyData} {as : List Addr} {i : Nat} {v : Value}, ReadsAll h its ds as → its[i]? = some v → ∃ d as, ds[i]? = some d ∧ Reads h v d as
  | _, _, _, i, v, .nil, e => by simp at e
  | _, _, _, 0, v, .cons h1 h2, e => by simp at e; subst e; exact ⟨_, _, rfl, h1⟩
  | _, _, _, i + 1, v, .cons h1 h2, e => by
    obtain ⟨d, as, k1, k2⟩ := reads_at h2 (i := i) (by simpa using e)
    exact ⟨d, as, by simpa using k1, k2⟩
/-- min or max of data of one kind -/
def rBestD (K : PySem.W.Frag) (f : PyData → List PyData → PyData) : List V → Hp → VK → Prop := fun vs H Q => ∃ (a : Addr) (xs : List V) (d : PyData) (ds : List PyData), vs = [V.ref a] ∧ (SqL K H a xs ∨ SqT K H a xs) ∧ DpAll K H xs (d :: ds) ∧ PySem.W.AlikeAll (d :: ds) ∧ PyData.depthAll (d :: ds) ≤ 60 ∧
  ∀ (i : Nat) (x : V), xs[i]? = some x → (d :: ds)[i]? = some (f d ds) → Q x H
theorem best_end {pins : List (Addr × Obj)} {σ : St} {H : Hp} {s : Shared} {xs : List V} {its : List Value} {d m : PyData} {ds : List PyData} {as : List Addr} {Q : VK} (I : Inv X pins σ H s) (rv : Vals xs its) (hr : ReadsAll s.heap its (d :: ds) as) (ha : PySem.W.AlikeAll (d :: ds)) (hm : m ∈ d :: ds)
    (q : ∀ (i : Nat) (x : V), xs[i]? = some x → (d :: ds)[i]? = some m → Q x H) (i : Nat) (v : Value) (h' : Heap) (tk : Nat) (bs : List Addr) (e : its[i]? = some v) (hv : Reads h' v m bs) (hk : ∀ b o, s.heap.get? b = some o → h'.get? b = some o) : ∃ x H', Inv X pins σ H' { s with heap := h', toks := tk } ∧ RelV x v ∧ Q x H' := by
  obtain ⟨x, hx, rx⟩ := vals_at rv e
  obtain ⟨d', as', hd', r'⟩ := reads_at hr e
  have hmem : d' ∈ d :: ds := List.mem_of_getElem? hd'
  have := PySem.W.alike_unique d' m v as' bs (ha.1 _ hmem _ hm) (PySem.W.reads_keeps hk r') hv
  subst this
  exact ⟨x, H, I.kept hk, rx, q i x hx hd'⟩
theorem cr_minD (hc : X.calm = true) (hu : X.A.units + 65 < cLine) : CallR X (.builtin "min") (rBestD X.K PySem.W.minD) := by
  intro pins s σ H vs us Q I r h
  obtain ⟨a, xs, d, ds, rfl, hs, hd, hal, hdep, q⟩ := h
  rw [Vals.ref1 r]
  rcases hs with hs | hs
  · obtain ⟨its, rv, hl, hz⟩ := I.list hs
    obtain ⟨as, hr⟩ := Dp.readsAll I (d :: ds) xs its hd rv
    exact PySem.W.min_list_data (I.ok.hd hc) hl.isList (by simpa using hr) hal (by omega) fun i v h' tk bs e hv hk => best_end I rv hr hal (minD_mem ds d) q i v h' tk bs (by simpa using e) hv hk
  · obtain ⟨its, rv, hl, hz⟩ := I.tuple hs
    obtain ⟨as, hr⟩ := Dp.readsAll I (d :: ds) xs its hd rv
    exact PySem.W.min_tuple_data (I.ok.hd hc) hl (by simpa using hr) hal (by omega) fun i v h' tk bs e hv hk => best_end I rv hr hal (minD_mem ds d) q i v h' tk bs (by simpa using e) hv hk
theorem cr_maxD (hc : X.calm = true) (hu : X.A.units + 65 < cLine) : CallR X (.builtin "max") (rBestD X.K PySem.W.maxD) := by
  intro pins s σ H vs us Q I r h
  obtain ⟨a, xs, d, ds, rfl, hs, hd, hal, hdep, q⟩ := h
  rw [Vals.ref1 r]
  rcases hs with hs | hs
  · obtain ⟨its, rv, hl, hz⟩ := I.list hs
    obtain ⟨as, hr⟩ := Dp.readsAll I (d :: ds) xs its hd rv
    exact PySem.W.max_list_data (I.ok.hd hc) hl.isList (by simpa using hr) hal (by omega) fun i v h' tk bs e hv hk => best_end I rv hr hal (maxD_mem ds d) q i v h' tk bs (by simpa using e) hv hk
  · obtain ⟨its, rv, hl, hz⟩ := I.tuple hs
    obtain ⟨as, hr⟩ := Dp.readsAll I (d :: ds) xs its hd rv
    exact PySem.W.max_tuple_data (I.ok.hd hc) hl (by simpa using hr) hal (by omega) fun i v h' tk bs e hv hk => best_end I rv hr hal (maxD_mem ds d) q i v h' tk bs (by simpa using e) hv hk
end
end Sg

-- SgSet
/-! SgSet: sets of keys of one kind, made of a list or a tuple; their sorted members, their number. -/
namespace Sg
open PySem PySem.Spec PyProof.Rows L2
section
variable {P : Program} {w : World} {T : Type} [DecidableEq T]
/-- at a: the set of the keys that S tells, its table rising -/
def KSet (κ : PySem.KeyKind P w T) (h : Heap) (a : Addr) (S : T → Prop) (n : Nat) : Prop :=
  ∃ (o : Obj) (es : Array (Int × Value)) (ep : Nat) (t : SetTable) (ks : List T), h.get? a = some o ∧ o.ExactSet ∧ o.data = .set es ep t ∧ ElemsOf κ es.toList ∧ PySem.W.EachIs (fun (e : Int × Value) k => κ.is k e.2 = true) es.toList ks ∧ ks.Nodup ∧ (∀ k, S k ↔ k ∈ ks) ∧
    es.size < scanBound ∧ t.fits es.size = true ∧ ks.length = n ∧ Ris t.place.toList ∧ (w.params.followText "set-order" = true ∨ t.led = true)
variable {κ : PySem.KeyKind P w T}
theorem KSet.at {h h' : Heap} {a : Addr} {S : T → Prop} {n : Nat} (R : KSet κ h a S n) (k : ∀ o, h.get? a = some o → h'.get? a = some o) : KSet κ h' a S n := by
  obtain ⟨o, es, ep, t, ks, ho, r⟩ := R
  exact ⟨o, es, ep, t, ks, k o ho, r⟩
theorem KSet.congr {h : Heap} {a : Addr} {S S' : T → Prop} {n : Nat} (R : KSet κ h a S n) (e : ∀ k, S' k ↔ S k) : KSet κ h a S' n := by
  obtain ⟨o, es, ep, t, ks, h1, h2, h3, h4, h5, h6, h7, r⟩ := R
  exact ⟨o, es, ep, t, ks, h1, h2, h3, h4, h5, h6, fun k => (e k).trans (h7 k), r⟩
theorem eachIs_perm {α β : Type} {R : α → β → Prop} {xs ys : List α} (p : xs.Perm ys) : ∀ {ks : List β}, PySem.W.EachIs R ys ks → ∃ ks', PySem.W.EachIs R xs ks' ∧ ks'.Perm ks := by
  induction p with
  | nil => intro ks e; cases e; exact ⟨[], .nil, List.Perm.refl _⟩
  | cons x p ih =>
    intro ks e
    cases e with
    | cons h t =>
      obtain ⟨k, e1, e2⟩ := ih t
      exact ⟨_ :: k, .cons h e1, e2.cons _⟩
  | swap x y l =>
    intro ks e
    cases e with
    | cons h t =>
      cases t with
      | cons h2 t2 => exact ⟨_, .cons h2 (.cons h t2), List.Perm.swap _ _ _⟩
  | trans p q ih1 ih2 =>
    intro ks e
    obtain ⟨k1, e1, p1⟩ := ih2 e
    obtain ⟨k2, e2, p2⟩ := ih1 e1
    exact ⟨k2, e2, p2.trans p1⟩
theorem eachIs_len {α β : Type} {R : α → β → Prop} : ∀ {xs : List α} {ks : List β}, PySem.W.EachIs R xs ks → xs.length = ks.length
  | _, _, .nil => rfl
  | _, _, .cons _ t => by simp [eachIs_len t]
theorem eachIs_mem {α β : Type} {R : α → β → Prop} : ∀ {xs : List α} {ks : List β}, PySem.W.EachIs R xs ks → ∀ k ∈ ks, ∃ x ∈ xs, R x k
  | _, _, .nil, k, hk => by simp at hk
  | _, _, .cons h t, k, hk => by
    rcases List.mem_cons.mp hk with e | e
    · exact ⟨_, List.mem_cons_self, e ▸ h⟩
    · obtain ⟨x, h1, h2⟩ := eachIs_mem t k e
      exact ⟨x, List.mem_cons_of_mem _ h1, h2⟩
theorem eachIs_mem' {α β : Type} {R : α → β → Prop} : ∀ {xs : List α} {ks : List β}, PySem.W.EachIs R xs ks → ∀ x ∈ xs, ∃ k ∈ ks, R x k
  | _, _, .nil, k, hk => by simp at hk
  | _, _, .cons h t, k, hk => by
    rcases List.mem_cons.mp hk with e | e
    · exact ⟨_, List.mem_cons_self, e ▸ h⟩
    · obtain ⟨x, h1, h2⟩ := eachIs_mem' t k e
      exact ⟨x, List.mem_cons_of_mem _ h1, h2⟩
theorem eachIs_mapL {α α' β : Type} {R : α → β → Prop} {R' : α' → β → Prop} {f : α → α'} (k : ∀ a b, R a b → R' (f a) b) : ∀ {xs : List α} {ks : List β}, PySem.W.EachIs R xs ks → PySem.W.EachIs R' (xs.map f) ks
  | _, _, .nil => .nil
  | _, _, .cons h t => .cons (k _ _ h) (eachIs_mapL k t)
variable {A : Around} {E : Value → Shared → Prop} {s : Shared}
/-- the two stores behind a new key -/
theorem kset_tail {g : Bool → Sem Unit} (hg : ∀ (b : Bool) (s₁ : Shared) (Q' : Unit → Shared → Prop), Q' () s₁ → wpAny (model P w) A (g b) Q' E s₁)
    {a : Addr} {o : Obj} {es : Array (Int × Value)} {ep : Nat} {t : SetTable} (ho : s.heap.get? a = some o) (hex : o.ExactSet) (hd : o.data = .set es ep t)
    {es1 : Array (Int × Value)} {t2 : SetTable} {S' : T → Prop} {ks1 : List T} (g1 : ElemsOf κ es1.toList) (e1 : PySem.W.EachIs (fun (e : Int × Value) k => κ.is k e.2 = true) es1.toList ks1) (nd1 : ks1.Nodup) (m1 : ∀ k, S' k ↔ k ∈ ks1)
    (hb1 : es1.size < scanBound) (hf2 : t2.fits es1.size = true) (hr : Ris t2.place.toList) (hl : w.params.followText "set-order" = true ∨ t2.led = true) {wasDummy : Bool} {R : Option Bool → Shared → Prop}
    (hR : ∀ h', Heap.SameBut a s.heap h' → KSet κ h' a S' ks1.length → R (some true) { s with heap := h' }) :
    wpAny (model P w) A (do
        storeSet a es1 t2
        if (!wasDummy && t2.tooFull) = true then do
            g (relayAll t2 es1 (SetTable.grown es1.size)).2.2
            storeSet a (relayAll t2 es1 (SetTable.grown es1.size)).1 (relayAll t2 es1 (SetTable.grown es1.size)).2.1
            pure (some true)
          else pure (some true)) R E s := by
  refine wpAny_bind (wpAny_storeSet_of ho hd ?_ (fits_of_scanBound hb1))
  have st1 := store_at (es' := es1) (t' := t2) ho hd
  have same1 := Heap.SameBut.update s.heap a (Obj.putSet es1 t2)
  split
  · have pm := relayAll_perm t2 es1 (SetTable.grown es1.size)
    have ft := relayAll_fits t2 es1 (SetTable.grown es1.size)
    have rs := relayAll_ris t2 es1 (SetTable.grown es1.size)
    have ld := relayAll_led t2 es1 (SetTable.grown es1.size)
    generalize relayAll t2 es1 (SetTable.grown es1.size) = Z at pm ft rs ld ⊢
    obtain ⟨es2, t3, gave⟩ := Z
    dsimp only at pm ft rs ld ⊢
    have size2 : es2.size = es1.size := by rw [← Array.length_toList, pm.length_eq, Array.length_toList]
    have bound2 : es2.size < scanBound := by rw [size2]; exact hb1
    refine wpAny_bind (hg _ _ _ ?_)
    refine wpAny_bind (wpAny_storeSet_of st1 rfl ?_ (fits_of_scanBound bound2))
    have st2 := store_at (es' := es2) (t' := t3) st1 rfl
    obtain ⟨ks2, e2, p2⟩ := eachIs_perm pm e1
    refine wpAny_pure (hR _ (same1.trans (Heap.SameBut.update _ a _)) ?_)
    exact ⟨_, es2, _, t3, ks2, st2, hex, rfl, g1.perm pm, e2, p2.nodup_iff.mpr nd1, fun k => (m1 k).trans p2.mem_iff.symm, bound2, ft, p2.length_eq, rs, hl.imp id fun z => by rw [ld]; exact z⟩
  · exact wpAny_pure (hR _ same1 ⟨_, es1, _, t2, ks1, st1, hex, rfl, g1, e1, nd1, m1, hb1, hf2, rfl, hr, hl⟩)
/-- one key more -/
theorem kset_add {a : Addr} {S : T → Prop} {n : Nat} {k : T} {v : Value} {Q : Bool → Shared → Prop} (hkey : κ.is k v = true) (hsc : v.scannable = true) (R : KSet κ s.heap a S n) (room : n + 1 < scanBound)
    (hQ : ∀ h' m b, Heap.SameBut a s.heap h' → m ≤ n + 1 → KSet κ h' a (fun j => S j ∨ j = k) m → Q b { s with heap := h' }) :
    wpAny (model P w) A (setAddHashed a v (κ.hash k)) Q E s := by
  obtain ⟨o, es, ep, t, ks, ho, hex, hd, hel, hea, nd, hm, hb, hf, hn, hr, hl⟩ := R
  unfold setAddHashed setAddHashedIn
  refine wpAny_holding (wpAny_bind (wpAny_setState_of ho hd hf ?_))
  dsimp only
  rw [byScan_of hsc hb hel]
  simp only [↓reduceIte]
  unfold setAddByScan
  refine wpAny_bind ?_
  refine wpAny_bind (wpAny_rule ?_)
  refine wpAny_bind (wpAny_setScan_of hkey ho hd hf hel ?_)
  cases hfi : List.findIdx? (fun e => κ.is k e.2) es.toList with
  | some j =>
    dsimp only
    obtain ⟨hj, pj, _⟩ := List.findIdx?_eq_some_iff_getElem.mp hfi
    have inS : S k := by
      obtain ⟨k', hk', r'⟩ := eachIs_mem' hea _ (List.getElem_mem hj)
      rw [κ.inj _ _ _ pj r']
      exact (hm k').mpr hk'
    refine wpAny_pure (wpAny_pure ?_)
    exact hQ s.heap n _ (Heap.SameBut.refl a s.heap) (Nat.le_succ n) ⟨o, es, ep, t, ks, ho, hex, hd, hel, hea, nd, fun i => ⟨fun z => (hm i).mp (z.elim id fun e => e ▸ inS), fun z => .inl ((hm i).mpr z)⟩, hb, hf, hn, hr, hl⟩
  | none =>
    dsimp only
    have notin : k ∉ ks := fun z => by
      obtain ⟨e, he, q⟩ := eachIs_mem hea k z
      have c := List.findIdx?_eq_none_iff.mp hfi e he
      rw [q] at c
      cases c
    have gw : ∀ (b : Bool) {s₁ : Shared} {Q' : Unit → Shared → Prop}, Q' () s₁ → wpAny (model P w) A (match b with | true => rule "set.scan.the-table-gave-way" | false => pure ()) Q' E s₁ :=
      fun b s₁ Q' q => by cases b <;> first | exact wpAny_pure q | exact wpAny_rule q
    have pm := layNew_perm t es (κ.hash k) v
    have ft := layNew_fits t es (κ.hash k) v
    have rs := layNew_ris t es (κ.hash k) v hr
    have ld := layNew_led t es (κ.hash k) v
    generalize layNew t es (κ.hash k) v = Z at pm ft rs ld ⊢
    obtain ⟨es1, t1, wasDummy, gave⟩ := Z
    dsimp only at pm ft rs ld ⊢
    rw [Array.toList_push] at pm
    have pc : es1.toList.Perm ((κ.hash k, v) :: es.toList) := pm.trans (List.perm_append_singleton _ _)
    obtain ⟨ks1, ea1, pk⟩ := eachIs_perm pc (PySem.W.EachIs.cons (R := fun (e : Int × Value) k => κ.is k e.2 = true) hkey hea)
    have el1 : ElemsOf κ es1.toList := fun e he => by
      rcases List.mem_cons.mp (pc.mem_iff.mp he) with z | z
      · rw [z]; exact ⟨⟨k, hkey, rfl⟩, hsc⟩
      · exact hel e z
    have nd1 : ks1.Nodup := pk.nodup_iff.mpr (List.nodup_cons.mpr ⟨notin, nd⟩)
    have mem1 : ∀ i, (S i ∨ i = k) ↔ i ∈ ks1 := fun i => by
      rw [hm i, pk.mem_iff, List.mem_cons]
      exact Or.comm
    have len1 : ks1.length = n + 1 := by rw [pk.length_eq, List.length_cons, hn]
    have bound1 : es1.size < scanBound := by rw [← Array.length_toList, eachIs_len ea1, len1]; exact room
    have led1 : w.params.followText "set-order" = true ∨ t1.led = true := hl.imp id fun z => by rw [ld]; exact z
    refine wpAny_bind (gw _ ?_)
    split
    · refine wpAny_bind ?_
      rw [hashByValue_scannable 8 hsc]
      refine wpAny_pure ?_
      refine kset_tail ?_ ho hex hd el1 ea1 nd1 mem1 bound1 ?_ ?_ ?_ ?_
      · intro b s₁ Q' q; cases b <;> first | exact wpAny_pure q | exact wpAny_rule q
      · first | (split <;> first | exact ft | exact SetTable.fits_plain_off ft) | exact ft
      · first | (split <;> exact rs) | exact rs
      · first | (split <;> exact led1) | exact led1
      · intro h' sb r; dsimp only; exact wpAny_pure (hQ h' _ _ sb (by omega) r)
    · refine wpAny_bind (wpAny_pure ?_)
      simp only [↓reduceIte]
      refine kset_tail ?_ ho hex hd el1 ea1 nd1 mem1 bound1 ft rs led1 ?_
      · intro b s₁ Q' q; cases b <;> first | exact wpAny_pure q | exact wpAny_rule q
      · intro h' sb r; dsimp only; exact wpAny_pure (hQ h' _ _ sb (by omega) r)
/-- the set of all that is walked -/
theorem kset_fill {I : Addr} {fp wr : List Addr} {G : Array GenState → Array GenState → Prop} {n : Nat} {Pv : Nat → Value → Prop} {St : Nat → Shared → Prop} {R : Result → Shared → Prop}
    (W : WalksS P w A.in1 I fp wr G n Pv St) (S : Addr) (hSf : S ∉ fp) (ns : List T) (hn : n = ns.length) (hb : ns.length + 1 < scanBound) (hval : ∀ i v, Pv i v → ∃ k, ns[i]? = some k ∧ κ.is k v = true ∧ v.scannable = true) :
    ∀ (k i : Nat) (s : Shared), n - i = k → i ≤ n → St i s → (∃ c, c ≤ i ∧ KSet κ s.heap S (fun j => j ∈ ns.take i) c) →
      (∀ s' c, Moved (S :: wr) G s s' → c ≤ n → KSet κ s'.heap S (fun j => j ∈ ns) c → R (.ok (.ret .none)) s') →
      codeAny (model P w) A (.builtin "set.update.loop" ⟨[.ref S, .ref I], []⟩) R s := by
  have hSw : S ∉ wr := fun h => hSf (W.sub _ h)
  have up : ∀ b ∈ wr, b ∈ S :: wr := fun b hb => List.mem_cons_of_mem _ hb
  intro k
  induction k with
  | zero =>
    intro i s hk' hi hst ⟨c, hc, hS⟩ hR
    have hin : i = n := by omega
    subst hin
    refine codeAny_builtin F.entry_set_update_loop ?_
    rw [Around.under_plainId F.plain_set_update_loop _]
    show wpAny _ A.in1 (pyNext (.ref I) >>= _) _ _ s
    refine wpAny_bind (W.done s _ _ hst fun s' hm => ?_)
    show wpAny _ A.in1 (ret Value.none) _ _ s'
    have e : ns.take i = ns := List.take_of_length_le (by omega)
    rw [e] at hS
    exact wpAny_pure (hR s' c (hm.mono up) hc (hS.at fun o e => hm.heap S o hSw e))
  | succ k ih =>
    intro i s hk' hi hst ⟨c, hc, hS⟩ hR
    have hlt : i < n := by omega
    refine codeAny_builtin F.entry_set_update_loop ?_
    rw [Around.under_plainId F.plain_set_update_loop _]
    show wpAny _ A.in1 (pyNext (.ref I) >>= _) _ _ s
    refine wpAny_bind (W.item i s _ _ hlt hst fun v s' hP hst' hm => ?_)
    obtain ⟨z, hz, hkz, hsz⟩ := hval i v hP
    have now : KSet κ s'.heap S (fun j => j ∈ ns.take i) c := hS.at fun o e => hm.heap S o hSw e
    show wpAny _ A.in1 (holding [v] (setAdd S v) >>= _) _ _ s'
    refine wpAny_bind (wpAny_holding ?_)
    unfold setAdd
    refine wpAny_holding ?_
    refine wpAny_bind (κ.pyHash (k := z) hkz ?_)
    refine kset_add (s := { s' with toks := s'.toks + 1 }) hkz hsz now (by omega) fun h' m b hsb hm2 hS2 => ?_
    have next : KSet κ h' S (fun j => j ∈ ns.take (i + 1)) m := hS2.congr fun j => by
      rw [List.take_add_one, hz]
      simp [List.mem_append]
    refine wpAny_pure ⟨plainId_quiet F.plain_set_update_loop _, ih (i + 1) _ (by omega) hlt (W.frame _ s' _ _ hst' (Nat.le_succ _) fun b hb o e => ?_) ⟨_, by omega, next⟩ fun s'' c2 hm'' hc'' hS'' => ?_⟩
    · rw [hsb.2 b (fun h : b = S => hSf (by rw [← h]; exact hb))]; exact e
    · refine hR s'' c2 (Moved.trans W.gtrans ((hm.mono up).then_heap (Nat.le_succ _) fun b o hb e => ?_) hm'') hc'' hS''
      rw [hsb.2 b (fun h : b = S => hb (by rw [h]; exact List.mem_cons_self))]; exact e
abbrev emptySet (w : World) : Obj := { cls := .type "set", dict := none, data := .set #[] 0 (.fresh 0 0 (!w.params.followText "set-order")) }
theorem kset_empty {h : Heap} {a : Addr} {ns : List T} (ho : h.get? a = some (emptySet w)) : KSet κ h a (fun j => j ∈ ns.take 0) 0 :=
  ⟨_, #[], 0, _, [], ho, ⟨rfl, rfl, rfl⟩, rfl, (fun e he => by simp at he), .nil, List.nodup_nil, (fun k => by simp), (by decide), (by rfl), rfl, List.Pairwise.nil, by
    show _ ∨ (!w.params.followText "set-order") = true
    cases w.params.followText "set-order"
    · exact .inr rfl
    · exact .inl rfl⟩
/-- what is behind a set made of keys -/
def MadeSet (κ : PySem.KeyKind P w T) (s : Shared) (ns : List T) (Q : Value → Shared → Prop) : Prop :=
  ∀ (h' : Heap) (tk c : Nat), KSet κ h' s.heap.objs.size (fun j => j ∈ ns) c → c ≤ ns.length → (∀ b o, s.heap.get? b = some o → h'.get? b = some o) → Q (.ref s.heap.objs.size) { s with heap := h', toks := tk }
theorem set_of {U : String} {l : Addr} {ob it : Obj} (ns : List T) {Q : Value → Shared → Prop} (hh : A.handled = none) (hol : s.heap.get? l = some ob) (hcl : ob.cls = .type U) (sub1 : isSubtype (.type U) (.type "set") = pure false) (sub2 : isSubtype (.type U) (.type "frozenset") = pure false) (nodict : (Value.type U == Value.type "dict") = false)
    (fresh : ∀ h : Heap, (h.push it).get? h.objs.size = some it)
    (hiter : ∀ (A1 : Around) (E1 : Value → Shared → Prop) (s1 : Shared) (Q1 : Value → Shared → Prop), s1.heap.get? l = some ob → Q1 (.ref s1.heap.objs.size) { s1 with heap := s1.heap.push it } → wpAny (model P w) A1 (pyIter (.ref l)) Q1 E1 s1)
    (hwalk : ∀ (A1 : Around) (I : Addr), A1.handled = none → l ≠ I → ∃ (Pv : Nat → Value → Prop) (St : Nat → Shared → Prop), WalksS P w A1 I [I, l] [I] (fun a b => b = a) ns.length Pv St ∧ (∀ i v, Pv i v → ∃ k, ns[i]? = some k ∧ κ.is k v = true ∧ v.scannable = true) ∧ ∀ s1 : Shared, s1.heap.get? I = some it → s1.heap.get? l = some ob → St 0 s1)
    (hb : ns.length + 1 < scanBound)
    (h : MadeSet κ s ns Q) : wpAny (model P w) A (call (.type "set") [.ref l]) Q E s := by
  obtain ⟨c, tl, hmro⟩ := F.called_set.mro
  have made := F.called_set.made
  have sub := F.called_set.sub
  refine wpAny_call (codeAny_of_tree ?_)
  show wpAny _ _ (callAny (.type "set") _) _ _ _
  refine wpAny_pure ⟨Code.quiet_builtin _ (by decide +kernel), codeAny_builtin F.entry_type_call ?_⟩
  rw [Around.under_plain (weight_type_call_type "set" [.ref l] []) rfl]
  have notTy := F.called_set.notType
  have canC := F.called_set.canCreate
  have tyCall := F.typeCall_set_1 (.ref l)
  repeat (any_goals (first | assumption | wp_step))
  refine codeAny_mono (code_set_led1 (.ref l) (E := E) (Q₁ := fun obj s₁ => obj = .ref s.heap.objs.size ∧ s₁ = { s with heap := s.heap.push (emptySet w) }) ⟨rfl, rfl⟩) fun r s₁ hr => ?_
  cases r with
  | error e => exact hr
  | ok fl =>
    cases fl with
    | ret obj =>
      obtain ⟨rfl, rfl⟩ := hr
      have hS : (s.heap.push (emptySet w)).get? s.heap.objs.size = some (emptySet w) := Heap.get?_push_size _ rfl
      have hT : Shared.TypeIs { s with heap := s.heap.push (emptySet w) } (.ref s.heap.objs.size) "set" := ⟨_, hS, rfl⟩
      have ilook := F.called_set.init.lookup
      have ibind := F.called_set.init.bind (.ref s.heap.objs.size)
      repeat (any_goals (first | assumption | wp_step))
      refine codeAny_mono (codeAny_call_builtin (R := wants (fun r s₂ => r = .none ∧ ∃ h' tk c, s₂ = { s with heap := h', toks := tk } ∧ KSet κ h' s.heap.objs.size (fun j => j ∈ ns) c ∧ c ≤ ns.length ∧
          (∀ b o, s.heap.get? b = some o → h'.get? b = some o)) E) F.called_set.init.plain F.entry_set_init (check_set_init_1 hT ?_)) fun r₂ s₂ hr₂ => ?_
      · obtain ⟨ocls, odict, odata, oslots⟩ := ob
        simp only at hcl
        subst hcl
        have hol' : (s.heap.push (emptySet w)).get? l = some { cls := .type U, dict := odict, data := odata, slots := oslots } := Heap.get?_push_of_some _ hol
        unfold Builtin.«set.__init__» noKeywords Builtin.Frozenset.updateFrom
        generalize hPI : pyIter = PI
        wp_walk
        subst hPI
        refine hiter _ _ _ _ hol' ?_
        refine wpAny_bind (wpAny_runValue ?_)
        have hlS : l < s.heap.objs.size := Heap.lt_size hol
        have hh3 : A.in1.in1.in1.handled = none := by simp [hh]
        have neI : l ≠ (s.heap.push (emptySet w)).objs.size := by
          rw [Heap.size_push]; exact Nat.ne_of_lt (Nat.lt_succ_of_lt hlS)
        have hSf : s.heap.objs.size ∉ [(s.heap.push (emptySet w)).objs.size, l] := by
          rw [Heap.size_push]; simp only [List.mem_cons, List.mem_singleton, List.not_mem_nil, or_false, not_or]
          exact ⟨Nat.ne_of_lt (Nat.lt_succ_self _), Nat.ne_of_gt hlS⟩
        obtain ⟨Pv, St, W, hval, hst⟩ := hwalk A.in1.in1.in1 (s.heap.push (emptySet w)).objs.size hh3 neI
        have got : ((s.heap.push (emptySet w)).push it).get? s.heap.objs.size = some (emptySet w) := Heap.get?_push_of_some _ hS
        refine kset_fill (κ := κ) W s.heap.objs.size hSf ns rfl hb hval (ns.length - 0) 0 _ (by omega) (Nat.zero_le _) (hst _ (fresh _) (Heap.get?_push_of_some _ hol')) ⟨0, Nat.le_refl 0, kset_empty got⟩ ?hR
        case hR =>
          intro s' c' hm hc' hS'
          obtain ⟨h', g2, d', tk', os'⟩ := s'
          have eg : g2 = s.gens := hm.gens
          have ed : d' = s.drawn := hm.drawn
          have eo : os' = s.os := hm.os
          subst eg; subst ed; subst eo
          show wpAny _ _ _ _ _ _
          refine wpAny_pure ?_
          show wpAny _ _ (ret Value.none) _ _ _
          refine wpAny_pure ⟨rfl, h', tk', c', rfl, hS', hc', fun b o e => ?_⟩
          have hb0 : b < s.heap.objs.size := Heap.lt_size e
          have hb2 : b ≠ (s.heap.push (emptySet w)).objs.size := by
            rw [Heap.size_push]; exact Nat.ne_of_lt (Nat.lt_succ_of_lt hb0)
          exact hm.heap b o (by simp only [List.mem_cons, List.mem_singleton, List.not_mem_nil, or_false, not_or]; exact ⟨Nat.ne_of_lt hb0, hb2⟩) (Heap.get?_push_of_some _ (Heap.get?_push_of_some _ e))
      · cases r₂ with
        | error e => exact hr₂
        | ok fl₂ =>
          cases fl₂ with
          | ret r =>
            obtain ⟨rfl, h', tk, c', rfl, hS', hc', hk'⟩ := hr₂
            repeat (any_goals (first | assumption | wp_step))
            exact h _ _ _ hS' hc' hk'
          | _ => exact hr₂.elim
    | _ => exact hr.elim
theorem set_of_tuple {l : Addr} {items : Array Value} (ns : List T) {Q : Value → Shared → Prop} (hh : A.handled = none) (hl : s.heap.IsTuple l items) (hisz : items.size = ns.length) (hit : ∀ (i : Nat) (v : Value), items[i]? = some v → ∃ k, ns[i]? = some k ∧ κ.is k v = true ∧ v.scannable = true) (hb : ns.length + 1 < scanBound)
    (h : MadeSet κ s ns Q) : wpAny (model P w) A (call (.type "set") [.ref l]) Q E s := by
  obtain ⟨ol, hol, hcl, nl, hdl⟩ := hl
  refine set_of (it := { cls := .type "tuple_iterator", data := .fields #[.ref l, .int 0 0] }) ns hh hol hcl F.sub_tuple_set F.sub_tuple_frozenset (by decide) (fun h => Heap.get?_push_size _ rfl) (fun A1 E1 s1 Q1 e q => wpAny_pyIter_tuple ⟨ol, e, hcl, nl, hdl⟩ q) (fun A1 I h1 ne => ?_) hb h
  rw [← hisz]
  exact ⟨_, _, (Walks.tuple h1 I l ne items).toS, hit, fun s1 e1 e2 => ⟨⟨_, e1, rfl, rfl⟩, ⟨ol, e2, hcl, nl, hdl⟩⟩⟩
theorem set_of_list {l : Addr} {items : Array Value} (ns : List T) {Q : Value → Shared → Prop} (hh : A.handled = none) (hl : s.heap.IsList l items) (hisz : items.size = ns.length) (hit : ∀ (i : Nat) (v : Value), items[i]? = some v → ∃ k, ns[i]? = some k ∧ κ.is k v = true ∧ v.scannable = true) (hb : ns.length + 1 < scanBound)
    (h : MadeSet κ s ns Q) : wpAny (model P w) A (call (.type "set") [.ref l]) Q E s := by
  obtain ⟨ol, hol, hcl, nl, hdl⟩ := hl
  refine set_of (it := { cls := .type "list_iterator", data := .fields #[.ref l, .int 0 0] }) ns hh hol hcl F.sub_list_set F.sub_list_frozenset (by decide) (fun h => Heap.get?_push_size _ rfl) (fun A1 E1 s1 Q1 e q => wpAny_pyIter_list ⟨ol, e, hcl, nl, hdl⟩ q) (fun A1 I h1 ne => ?_) hb h
  rw [← hisz]
  exact ⟨_, _, (Walks.list h1 I l ne items).toS, hit, fun s1 e1 e2 => ⟨⟨_, e1, rfl, rfl⟩, ⟨ol, e2, hcl, nl, hdl⟩⟩⟩
end
end Sg

-- SgSet2
/-! SgSet2: sorted(set(x)), len(set(x)): whole numbers or texts, of a list or a tuple. -/
namespace Sg
open PySem PySem.Spec PyProof.Rows L2
/-- a kind of keys -/
structure Kd (P : Program) (w : World) (T : Type) [DecidableEq T] where
  κ : PySem.KeyKind P w T
  enc : T → PyData
  tv : T → V
  rel : ∀ {k v}, κ.is k v = true → RelV (tv k) v
  back : ∀ {k v}, RelV (tv k) v → κ.is k v = true ∧ v.scannable = true
  rd : ∀ {k v} (h : Heap), κ.is k v = true → Reads h v (enc k) []
  al : ∀ a b, PySem.W.alike (enc a) (enc b) = true
  dep : ∀ a, (enc a).depth = 0
  so : ∀ a, enc a ≠ .none ∧ ∀ xs, enc a ≠ .tuple xs
def kdI (P : Program) (w : World) : Kd P w Int where
  κ := intKind P w
  enc := .int
  tv := V.int
  rel := fun h => by obtain ⟨t, rfl⟩ := Value.isInt_shape h; exact ⟨t, rfl⟩
  back := fun {k v} h => by obtain ⟨t, rfl⟩ := h; exact ⟨intKind_is P w k t, rfl⟩
  rd := fun h q => by obtain ⟨t, rfl⟩ := Value.isInt_shape q; exact .int _ _
  al := fun _ _ => rfl
  dep := fun _ => rfl
  so := fun _ => ⟨(nomatch ·), fun _ => (nomatch ·)⟩
def kdS (P : Program) (w : World) : Kd P w Str where
  κ := PySem.strKind P w
  enc := .str
  tv := V.str
  rel := fun h => by obtain ⟨t, rfl⟩ := Value.isStrOf_shape h; exact ⟨t, rfl⟩
  back := fun {k v} h => by obtain ⟨t, rfl⟩ := h; exact ⟨by show Value.isStrOf k (.str k t) = true; simp [Value.isStrOf], rfl⟩
  rd := fun h q => by obtain ⟨t, rfl⟩ := Value.isStrOf_shape q; exact .str _ _
  al := fun _ _ => rfl
  dep := fun _ => rfl
  so := fun _ => ⟨(nomatch ·), fun _ => (nomatch ·)⟩
section
variable {P : Program} {w : World} {T : Type} [DecidableEq T] {A : Around} {E : Value → Shared → Prop} {s : Shared}
theorem reads_of (κ : Kd P w T) (h : Heap) (c : Addr) : ∀ {vs : List Value} {ks : List T}, PySem.W.EachIs (fun v k => κ.κ.is k v = true) vs ks → PySem.W.EachIs (fun v k => ∃ as, Reads h v (κ.enc k) as ∧ c ∉ as) vs ks
  | _, _, .nil => .nil
  | _, _, .cons a t => .cons ⟨[], κ.rd h a, by simp⟩ (reads_of κ h c t)
theorem sorted_kset (κ : Kd P w T) {a : Addr} {S : T → Prop} {n : Nat} {Q : Value → Shared → Prop} (R : KSet κ.κ s.heap a S n) (hh : A.handled = none) (hu : A.units + 4 < cLine)
    (hQ : ∀ s' p (out : List Value) (c : Nat) (L : List T), (∀ b o, s.heap.get? b = some o → s'.heap.get? b = some o) → s'.gens = s.gens → s'.os = s.os → s.heap.objs.size ≤ p →
      s'.heap.get? p = some (seqObj "list" out.toArray c) → L.Nodup → (∀ k, k ∈ L ↔ S k) → PySem.W.EachIs (fun v k => κ.κ.is k v = true) out (L.mergeSort (PySem.W.dataLe false κ.enc)) → L.length < scanBound → Q (.ref p) s') :
    wpAny (model P w) A (call (.builtin "sorted") [.ref a]) Q E s := by
  obtain ⟨o, es, ep, t, ks, ho, hex, hd, hel, hea, nd, hm, hb, hf, hn, hr, hl⟩ := R
  refine Calls.call_function_entry kind_sorted plain_sorted entry_sorted (args_sorted1 _) ?_
  unfold Builtin.«sorted»
  refine wpAny_bind (m := checkCount "sorted" 1 1 _) (wpAny_pure ?_)
  refine wpAny_bind (collect_set (A := A.in1) hh ⟨o, ho, hex.1, hd⟩ hf hb hr hl fun s1 vs k1 hz g1 o1 pm => ?_)
  obtain ⟨L, hL, pL⟩ := eachIs_perm pm (eachIs_mapL (R' := fun v k => κ.κ.is k v = true) (f := fun e : Int × Value => e.2) (fun _ _ h => h) hea)
  have lenL : L.length < scanBound := by rw [pL.length_eq, ← eachIs_len hea, Array.length_toList]; exact hb
  have lenv : vs.length = L.length := eachIs_len hL
  have big : (4096 : Nat) ≤ sizeLine := by decide
  have lenS : L.length ≤ sizeLine := by unfold scanBound at lenL; omega
  refine wpAny_bind (wpAny_newList ?_ (by rw [lenv]; exact lenS))
  have hoL : (s1.heap.push (seqObj "list" vs.toArray 0)).get? s1.heap.objs.size = some (seqObj "list" vs.toArray 0) := Heap.get?_push_size _ rfl
  refine wpAny_bind (wpAny_holding (PySem.W.list_sort_data (s := { s1 with heap := s1.heap.push (seqObj "list" vs.toArray 0) }) (enc := κ.enc) hoL hL (reads_of κ _ _ hL) (PySem.W.AllAlike.of κ.al) (PySem.W.Sortable.others κ.so) lenS (fun b _ => ?_) fun out lo eo => ?_))
  · rw [κ.dep b]; simp; omega
  · obtain ⟨c, hc⟩ := sortedHeap_at (vs := vs) (out := out.toArray) hoL
    refine wpAny_pure ⟨_, rfl, hQ _ s1.heap.objs.size out c L (fun b u e => ?_) g1 o1 hz hc (pL.nodup_iff.mpr nd) (fun k => pL.mem_iff.trans (hm k).symm) eo lenL⟩
    have q := k1 b u e
    have hlt := Heap.lt_size q
    show (sortedHeap (s1.heap.push (seqObj "list" vs.toArray 0)) s1.heap.objs.size vs out.toArray).get? b = some u
    rw [sortedHeap_old (Nat.ne_of_lt hlt) (by rw [size_push']; exact Nat.lt_succ_of_lt hlt)]
    exact Heap.get?_push_of_some _ q
end
section
variable {X : Cx} {T : Type} [DecidableEq T]
theorem vals_keys (κ : Kd X.prog X.w T) : ∀ {ns : List T} {us : List Value}, Vals (ns.map κ.tv) us → ∀ (i : Nat) (v : Value), us[i]? = some v → ∃ k, ns[i]? = some k ∧ κ.κ.is k v = true ∧ v.scannable = true
  | [], _, .nil, i, v, h => by simp at h
  | n :: ns, _, .cons r t, 0, v, h => by
    simp at h; subst h
    exact ⟨n, rfl, (κ.back r).1, (κ.back r).2⟩
  | n :: ns, _, .cons r t, i + 1, v, h => by
    obtain ⟨k, h1, h2⟩ := vals_keys κ t i v (by simpa using h)
    exact ⟨k, by simpa using h1, h2⟩
theorem keys_vals (κ : Kd X.prog X.w T) : ∀ {us : List Value} {ks : List T}, PySem.W.EachIs (fun v k => κ.κ.is k v = true) us ks → Vals (ks.map κ.tv) us
  | _, _, .nil => .nil
  | _, _, .cons h t => .cons (κ.rel h) (keys_vals κ t)
variable {a : Expr} {ta : TE} {p p2 q pos : Pos}
/-- the set is made -/
theorem set_made (κ : Kd X.prog X.w T) (hc : X.calm = true) {pins : List (Addr × Obj)} {σ : St} {H1 : Hp} {s1 : Shared} (I1 : Inv X pins σ H1 s1) {A : Around} (hA : A.handled = none) {E : Value → Shared → Prop} {l : Addr} {ns : List T} (hq : SqL X.K H1 l (ns.map κ.tv) ∨ SqT X.K H1 l (ns.map κ.tv)) (hl : ns.length ≤ 4000) {Q : Value → Shared → Prop} (h : MadeSet κ.κ s1 ns Q) :
    wpAny (model X.prog X.w) A (call (.type "set") [.ref l]) Q E s1 := by
  have hb : ns.length + 1 < scanBound := by unfold scanBound; omega
  rcases hq with hq | hq
  · obtain ⟨its, r, pl, hz⟩ := I1.list hq
    have hlen : its.toArray.size = ns.length := by rw [List.size_toArray, ← r.length, List.length_map]
    exact set_of_list ns hA pl.isList hlen (fun i v e => vals_keys κ r i v (by simpa using e)) hb h
  · obtain ⟨its, r, pl, hz⟩ := I1.tuple hq
    have hlen : its.toArray.size = ns.length := by rw [List.size_toArray, ← r.length, List.length_map]
    exact set_of_tuple ns hA pl hlen (fun i v e => vals_keys κ r i v (by simpa using e)) hb h
def tLenK (X : Cx) (ta : TE) : TE := fun σ H Q => ta σ H fun x H1 => ∃ (T : Type) (dec : DecidableEq T) (κ : Kd X.prog X.w T) (l : Addr) (ns : List T), x = V.ref l ∧ (SqL X.K H1 l (ns.map κ.tv) ∨ SqT X.K H1 l (ns.map κ.tv)) ∧ ns.length ≤ 4000 ∧ ∀ L : List T, L.Nodup → (∀ k, k ∈ L ↔ k ∈ ns) → Q (.int (L.length : Nat)) H1
theorem pe_lenK (hc : X.calm = true) (hg : Gl X "len") (hm : X.mg "len" = none) (hg2 : Gl X "set") (hm2 : X.mg "set" = none) (ha : PE X a ta)
    (na : starEach [a] X.env = (false, eval a X.env) :: starEach [] X.env) : PE X (.Call (.Name "len" p) [.Call (.Name "set" p2) [a] [] q] [] pos) (tLenK X ta) := by
  refine ⟨fun pins s σ H Q I h => ?_⟩
  refine Call_ (ld_blt I hg hm boot_len ?_)
  refine PyProof.Rows.callWith_builtin1 (PyProof.Rows.args_cons ?_ rfl) rfl rfl
  refine Call_ (ld_blt I hg2 hm2 boot_set ?_)
  refine PyProof.Rows.callWith_type1 (PyProof.Rows.args_cons (thn (ha.run pins s σ H _ I h) fun v s1 ⟨x, H1, I1, r1, q1⟩ => PyProof.Rows.args_nil ?_) na) na rfl
  obtain ⟨T, dec, κ, l, ns, rfl, hq, hl, q1⟩ := q1
  cases r1
  refine set_made κ hc I1 (I1.ok.hd hc) hq hl fun h' tk c R hcn hk => ?_
  refine PyProof.Rows.args_nil ?_
  obtain ⟨o, es, ep, t, ks, ho, hex, hd, hel, hea, nd, hmem, hb, hf, hn, hr, hled⟩ := R
  have I2 : Inv X pins σ H1 { s1 with heap := h', toks := tk } := I1.kept fun b o e => hk b o e
  have sz : es.size = ks.length := by rw [← eachIs_len hea, Array.length_toList]
  exact call_len_set ho hex hd hf (by rw [sz]; unfold scanBound at hb; omega) ⟨.int ks.length, H1, I2.tok _, ⟨_, by rw [sz]⟩, q1 ks nd fun k => (hmem k).symm⟩
def tSortK (X : Cx) (ta : TE) : TE := fun σ H Q => ta σ H fun x H1 => ∃ (T : Type) (dec : DecidableEq T) (κ : Kd X.prog X.w T) (l : Addr) (ns : List T), x = V.ref l ∧ (SqL X.K H1 l (ns.map κ.tv) ∨ SqT X.K H1 l (ns.map κ.tv)) ∧ ns.length ≤ 4000 ∧
  ∀ (L : List T) (c : Addr), L.Nodup → (∀ k, k ∈ L ↔ k ∈ ns) → H1 c = none → Q (.ref c) (upd H1 c (.lst ((L.mergeSort (PySem.W.dataLe false κ.enc)).map κ.tv)))
theorem pe_sortK (hc : X.calm = true) (hu : X.A.units + 65 < cLine) (hg : Gl X "sorted") (hm : X.mg "sorted" = none) (hg2 : Gl X "set") (hm2 : X.mg "set" = none) (hbs : bootBuiltins ("sorted" : Str) = some (.builtin "sorted")) (ha : PE X a ta)
    (na : starEach [a] X.env = (false, eval a X.env) :: starEach [] X.env) : PE X (.Call (.Name "sorted" p) [.Call (.Name "set" p2) [a] [] q] [] pos) (tSortK X ta) := by
  refine ⟨fun pins s σ H Q I h => ?_⟩
  refine Call_ (ld_blt I hg hm hbs ?_)
  refine PyProof.Rows.callWith_builtin1 (PyProof.Rows.args_cons ?_ rfl) rfl rfl
  refine Call_ (ld_blt I hg2 hm2 boot_set ?_)
  refine PyProof.Rows.callWith_type1 (PyProof.Rows.args_cons (thn (ha.run pins s σ H _ I h) fun v s1 ⟨x, H1, I1, r1, q1⟩ => PyProof.Rows.args_nil ?_) na) na rfl
  obtain ⟨T, dec, κ, l, ns, rfl, hq, hl, q1⟩ := q1
  cases r1
  refine set_made κ hc I1 (I1.ok.hd hc) hq hl fun h' tk c R hcn hk => ?_
  refine PyProof.Rows.args_nil ?_
  have I2 : Inv X pins σ H1 { s1 with heap := h', toks := tk } := I1.kept fun b o e => hk b o e
  refine sorted_kset κ R (I1.ok.hd hc) (by omega) fun s' c2 out n L k g o hp hg' nd hm' hout hlen => ?_
  have hn : H1 c2 = none := I2.hok.fresh hp
  have big : (4096 : Nat) ≤ sizeLine := by decide
  have hlen2 : ((L.mergeSort (PySem.W.dataLe false κ.enc)).map κ.tv).length ≤ sizeLine := by rw [List.length_map, List.length_mergeSort]; unfold scanBound at hlen; omega
  have k3 : ∀ b u, s1.heap.get? b = some u → s'.heap.get? b = some u := fun b u e => k b u (hk b u e)
  have hp3 : s1.heap.objs.size ≤ c2 := by
    obtain ⟨o', _, _, _, _, ho', _⟩ := R
    exact Nat.le_trans (Nat.le_of_lt (Heap.lt_size ho')) hp
  have J : Inv X pins σ (upd H1 c2 (.lst ((L.mergeSort (PySem.W.dataLe false κ.enc)).map κ.tv))) { s1 with heap := s'.heap, gens := s'.gens, drawn := s'.drawn, toks := s'.toks } :=
    I1.call (ch := []) (Un.laid k3 hp3 hn) (I1.hok.laid k3 hp3 ⟨hlen2, out, n, keys_vals κ hout, hg'⟩) (by rw [g]; exact I1.bare) (fun _ z => nomatch z)
  have e : s' = { s1 with heap := s'.heap, gens := s'.gens, drawn := s'.drawn, toks := s'.toks } := by
    cases s'
    cases s1
    cases o
    rfl
  rw [e]
  exact ⟨.ref c2, _, J, rfl, q1 L c2 nd hm' hn⟩
end
end Sg

-- SgSort
/-! SgSort: sorted, min, max. -/
namespace Sg
open PySem PySem.Spec PyProof.Rows L2
/-! sorting -/
section
variable {α : Type} {lt : α → α → Bool}
theorem insW_perm (x : α) : ∀ r : List α, (insW lt x r).Perm (x :: r)
  | [] => List.Perm.refl _
  | y :: r => by
    unfold insW
    split
    · exact ((insW_perm x r).cons y).trans (List.Perm.swap x y r)
    · exact List.Perm.refl _
theorem sortW_perm : ∀ r : List α, (sortW lt r).Perm r
  | [] => List.Perm.refl _
  | x :: r => (insW_perm x _).trans ((sortW_perm r).cons x)
theorem insW_mem {x z : α} {r : List α} : z ∈ insW lt x r ↔ z = x ∨ z ∈ r := by
  rw [(insW_perm x r).mem_iff, List.mem_cons]
/-- an order on what P tells -/
structure Ord (lt : α → α → Bool) (P : α → Prop) : Prop where
  tr : ∀ x y z, P x → P y → P z → lt y x = false → lt z y = false → lt z x = false
  asy : ∀ x y, P x → P y → lt y x = true → lt x y = false
  tot : ∀ x y, P x → P y → lt x y = false → lt y x = false → x = y
variable {P : α → Prop}
theorem insW_sorted (o : Ord lt P) {x : α} (px : P x) : ∀ r : List α, (∀ z ∈ r, P z) → r.Pairwise (fun a b => lt b a = false) → (insW lt x r).Pairwise (fun a b => lt b a = false)
  | [], _, _ => by simp [insW]
  | y :: r, pr, h => by
    rw [List.pairwise_cons] at h
    have py := pr y List.mem_cons_self
    unfold insW
    split
    · rename_i hxy
      refine List.pairwise_cons.mpr ⟨fun z hz => ?_, insW_sorted o px r (fun z hz => pr z (List.mem_cons_of_mem _ hz)) h.2⟩
      rcases insW_mem.mp hz with e | hz
      · rw [e]; exact o.asy x y px py hxy
      · exact h.1 z hz
    · rename_i hxy
      have hxy : lt y x = false := Bool.eq_false_iff.mpr hxy
      exact List.pairwise_cons.mpr ⟨fun z hz => by
        rcases List.mem_cons.mp hz with e | hz
        · rw [e]; exact hxy
        · exact o.tr x y z px py (pr z (List.mem_cons_of_mem _ hz)) hxy (h.1 z hz), List.pairwise_cons.mpr h⟩
theorem sortW_sorted (o : Ord lt P) : ∀ r : List α, (∀ z ∈ r, P z) → (sortW lt r).Pairwise (fun a b => lt b a = false)
  | [], _ => List.Pairwise.nil
  | x :: r, pr => insW_sorted o (pr x List.mem_cons_self) _ (fun z hz => pr z (List.mem_cons_of_mem _ ((sortW_perm r).mem_iff.mp hz))) (sortW_sorted o r fun z hz => pr z (List.mem_cons_of_mem _ hz))
theorem sortW_uniq (o : Ord lt P) {a b : List α} (p : a.Perm b) (pb : ∀ z ∈ b, P z) (s : a.Pairwise (fun a b => lt b a = false)) : a = sortW lt b :=
  List.Perm.eq_of_pairwise (fun x y hx hy h1 h2 => o.tot x y (pb x (p.mem_iff.mp hx)) (pb y ((sortW_perm b).mem_iff.mp hy)) h2 h1) s (sortW_sorted o b pb) (p.trans (sortW_perm b).symm)
end
/-- items of one kind that may be compared -/
def AlkP (xs : List D) (x : D) : Prop := x ∈ xs
theorem alk_iff {xs : List D} (h : alkL xs = true) : (∀ x ∈ xs, x.okc = true) ∧ ∀ x ∈ xs, ∀ y ∈ xs, likD x y = true := by
  unfold alkL at h
  rw [List.all_eq_true] at h
  refine ⟨fun x hx => ?_, fun x hx y hy => ?_⟩
  · have := h x hx; simp only [Bool.and_eq_true] at this; exact this.1
  · have := h x hx; simp only [Bool.and_eq_true] at this; exact List.all_eq_true.mp this.2 y hy
theorem blt_asymm (O : KeyOrd) {a b : O.α} (h : O.blt a b = true) : O.blt b a = false := by
  cases q : O.blt b a with
  | false => rfl
  | true => exact (O.irrefl a ▸ O.trans a b a h q : false = true) ▸ rfl
theorem ord_D {xs : List D} (h : alkL xs = true) : Ord ltb (· ∈ xs) := by
  obtain ⟨h1, h2⟩ := alk_iff h
  have e : ∀ x ∈ xs, ∀ y ∈ xs, ltb x y = PySem.W.dataLt (toPy x) (toPy y) := fun x hx y hy => (lt_of_data x y (okc_plain (h1 x hx)) (okc_plain (h1 y hy)) (h2 x hx y hy)).symm
  refine ⟨fun x y z hx hy hz a b => ?_, fun x y hx hy a => ?_, fun x y hx hy a b => lt_tot x y (h2 x hx y hy) (okc_plain (h1 x hx)) (okc_plain (h1 y hy)) a b⟩
  · rw [e y hy x hx] at a; rw [e z hz y hy] at b; rw [e z hz x hx]
    cases q : PySem.W.dataLt (toPy z) (toPy x) with
    | false => rfl
    | true =>
      rcases (listOrd itemOrd).negTrans _ (PySem.W.keyToks (toPy y)) _ q with w | w
      · exact absurd (b.symm.trans w) (by decide)
      · exact absurd (a.symm.trans w) (by decide)
  · rw [e y hy x hx] at a; rw [e x hx y hy]
    exact blt_asymm (listOrd itemOrd) a
theorem ord_S : Ord ltS (fun _ => True) := by
  refine ⟨fun x y z _ _ _ a b => ?_, fun x y _ _ a => ?_, fun x y _ _ a b => ltS_tri a b⟩
  · have a := of_decide_eq_false a
    have b := of_decide_eq_false b
    exact decide_eq_false (List.not_lt.mpr (List.le_trans (List.not_lt.mp a) (List.not_lt.mp b)))
  · have a := of_decide_eq_true a
    exact decide_eq_false fun c => List.lt_irrefl _ (List.lt_trans a c)
theorem ord_I : Ord ltI (fun _ => True) := by
  refine ⟨fun x y z _ _ _ a b => ?_, fun x y _ _ a => ?_, fun x y _ _ a b => ?_⟩ <;> simp only [ltI, decide_eq_false_iff_not, decide_eq_true_eq] at * <;> omega
section
variable {X : Cx}
theorem each_zipD {K : PySem.W.Frag} {H : Hp} {E : Addr → Prop} : ∀ {xs : List V} {ys : List D}, VRs K H E xs ys → PySem.W.EachIs (fun (p : V × PyData) (d : D) => VR K H E p.1 d ∧ p.2 = toPy d) (xs.zip (toPys ys)) ys
  | _, _, .nil => .nil
  | _, _, .cons a r => .cons ⟨a, rfl⟩ (each_zipD r)
theorem each_vrs {K : PySem.W.Frag} {H : Hp} {E : Addr → Prop} : ∀ {L : List (V × PyData)} {ys : List D}, PySem.W.EachIs (fun (p : V × PyData) (d : D) => VR K H E p.1 d ∧ p.2 = toPy d) L ys → VRs K H E (L.map Prod.fst) ys
  | _, _, .nil => .nil
  | _, _, .cons a r => .cons a.1 (each_vrs r)
theorem each_pair {α β : Type} {R : α → β → Prop} {le : α → α → Prop} {le' : β → β → Prop} : ∀ {xs : List α} {ys : List β}, PySem.W.EachIs R xs ys → xs.Pairwise le → (∀ a b a' b', b ∈ ys → b' ∈ ys → R a b → R a' b' → le a a' → le' b b') → ys.Pairwise le'
  | _, _, .nil, _, _ => List.Pairwise.nil
  | _, _, .cons h t, p, k => by
    rw [List.pairwise_cons] at p
    refine List.pairwise_cons.mpr ⟨fun b' hb' => ?_, each_pair t p.2 fun a b a' b' h1 h2 => k a b a' b' (List.mem_cons_of_mem _ h1) (List.mem_cons_of_mem _ h2)⟩
    obtain ⟨a', ha', r'⟩ := eachIs_mem t b' hb'
    exact k _ _ a' b' List.mem_cons_self (List.mem_cons_of_mem _ hb') h r' (p.1 a' ha')
theorem mem_toPys {d : PyData} : ∀ {ys : List D}, d ∈ toPys ys → ∃ y ∈ ys, d = toPy y
  | [], h => by simp [toPys] at h
  | y :: r, h => by
    simp only [toPys, List.mem_cons] at h
    rcases h with h | h
    · exact ⟨y, List.mem_cons_self, h⟩
    · obtain ⟨z, h1, h2⟩ := mem_toPys h
      exact ⟨z, List.mem_cons_of_mem _ h1, h2⟩
theorem alk_plain {ys : List D} (h : ∀ y ∈ ys, y.okc = true) : plainL ys = true := by
  induction ys with
  | nil => rfl
  | cons y r ih =>
    simp only [plainL, Bool.and_eq_true]
    exact ⟨okc_plain (h y List.mem_cons_self), ih fun z hz => h z (List.mem_cons_of_mem _ hz)⟩
theorem okc_dep {d : D} (h : d.okc = true) : d.dep ≤ 60 := by
  unfold D.okc at h
  simp only [Bool.and_eq_true, decide_eq_true_eq] at h
  exact h.2
theorem alike_list {ys : List D} (h : alkL ys = true) : ∀ d ∈ toPys ys, ∀ d' ∈ toPys ys, PySem.W.alike d d' = true := by
  obtain ⟨h1, h2⟩ := alk_iff h
  intro d hd d' hd'
  obtain ⟨y, hy, rfl⟩ := mem_toPys hd
  obtain ⟨y', hy', rfl⟩ := mem_toPys hd'
  rw [alike_of _ _ (okc_plain (h1 y hy)) (okc_plain (h1 y' hy'))]
  exact h2 y hy y' hy'
theorem sort_vrs {K : PySem.W.Frag} {H : Hp} {E : Addr → Prop} {xs : List V} {ys : List D} (r : VRs K H E xs ys) (h : alkL ys = true) : VRs K H E (((xs.zip (toPys ys)).mergeSort (PySem.W.dataLe false Prod.snd)).map Prod.fst) (sortW ltb ys) := by
  obtain ⟨h1, h2⟩ := alk_iff h
  obtain ⟨zs, e1, p1⟩ := eachIs_perm (List.mergeSort_perm (xs.zip (toPys ys)) (PySem.W.dataLe false Prod.snd)) (each_zipD r)
  have tl := PySem.W.sortLe_total (listOrd itemOrd) false (fun b : V × PyData => PySem.W.keyToks b.2)
  have so : ((xs.zip (toPys ys)).mergeSort (PySem.W.dataLe false Prod.snd)).Pairwise (fun a b => PySem.W.dataLe false Prod.snd a b = true) := List.pairwise_mergeSort tl.trans (fun a b => by have := tl.total a b; simpa using this) _
  have pz : ∀ z ∈ zs, z ∈ ys := fun z hz => p1.mem_iff.mp hz
  have := sortW_uniq (ord_D h) p1 (fun z hz => hz) (each_pair e1 so fun a b a' b' hb hb' ra rb le => by
    have le : (!PySem.W.dataLt a'.2 a.2) = true := le
    rw [ra.2, rb.2, lt_of_data b' b (okc_plain (h1 _ (pz _ hb'))) (okc_plain (h1 _ (pz _ hb))) (h2 _ (pz _ hb') _ (pz _ hb))] at le
    simpa using le)
  rw [← this]
  exact each_vrs e1
theorem bi_sorted (hu : X.A.units + 65 < cLine) : CallOk X (.builtin "sorted") (biD .sorted) := by
  refine one_arg (fun ds r e => ?_) (cr_sortedD hu) ?_
  · unfold biD at e; split at e <;> first | exact ⟨_, rfl⟩ | cases e | simp_all
  intro β E env b b2 σ H H2 v d r Q a p e q
  cases d <;> try (simp [biD] at e; done)
  rename_i ys
  obtain ⟨p1, xs1, rfl, e1, r1⟩ := p.lstE
  simp only [biD] at e
  split at e
  · rename_i hs
    cases e
    unfold srtOk at hs
    simp only [Bool.and_eq_true, Bool.or_eq_true] at hs
    obtain ⟨h1, h2⟩ := alk_iff hs.1
    refine ⟨_, _, toPys ys, rfl, SqL.of e1, r1.dp (alk_plain h1), fun d hd d' hd' => alike_list hs.1 d hd d' hd', ?_, fun d hd => ?_, fun p n => a.lst (sort_vrs r1 hs.1) q p n⟩
    · rcases hs.2 with h | h
      · refine .inl fun d hd => ?_
        obtain ⟨y, hy, rfl⟩ := mem_toPys hd
        have := List.all_eq_true.mp h y hy
        cases y with
        | tup zs => exact ⟨toPys zs, rfl⟩
        | _ => cases this
      · refine .inr fun d hd => ?_
        obtain ⟨y, hy, rfl⟩ := mem_toPys hd
        have := List.all_eq_true.mp h y hy
        have pl := okc_plain (h1 _ hy)
        cases y <;> first | (cases this; done) | (simp [D.plain] at pl; done) | simp [toPy]
    · obtain ⟨y, hy, rfl⟩ := mem_toPys hd
      rw [(lay_of y (okc_plain (h1 y hy))).2]
      exact okc_dep (h1 y hy)
  · cases e
theorem fold_min {ys : List D} {d : D} (h : alkL (d :: ys) = true) : PySem.W.minD (toPy d) (toPys ys) = toPy (minW ltb d ys) ∧ minW ltb d ys ∈ d :: ys := by
  obtain ⟨h1, h2⟩ := alk_iff h
  have : ∀ (zs : List D) (x : D), x ∈ d :: ys → (∀ z ∈ zs, z ∈ d :: ys) → PySem.W.minD (toPy x) (toPys zs) = toPy (minW ltb x zs) ∧ minW ltb x zs ∈ d :: ys := by
    intro zs
    induction zs with
    | nil => exact fun x hx _ => ⟨rfl, hx⟩
    | cons z r ih =>
      intro x hx hz
      have hz0 := hz z List.mem_cons_self
      show PySem.W.minD (if PySem.W.dataLt (toPy z) (toPy x) then toPy z else toPy x) (toPys r) = toPy (minW ltb (if ltb z x then z else x) r) ∧ _ ∈ _
      rw [lt_of_data z x (okc_plain (h1 z hz0)) (okc_plain (h1 x hx)) (h2 z hz0 x hx)]
      cases q : ltb z x
      · exact ⟨(ih x hx fun z hz' => hz z (List.mem_cons_of_mem _ hz')).1, by show minW ltb (if ltb z x then z else x) r ∈ _; rw [q]; exact (ih x hx fun z hz' => hz z (List.mem_cons_of_mem _ hz')).2⟩
      · exact ⟨(ih z hz0 fun z hz' => hz z (List.mem_cons_of_mem _ hz')).1, by show minW ltb (if ltb z x then z else x) r ∈ _; rw [q]; exact (ih z hz0 fun z hz' => hz z (List.mem_cons_of_mem _ hz')).2⟩
  exact this ys d List.mem_cons_self fun z hz => List.mem_cons_of_mem _ hz
theorem fold_max {ys : List D} {d : D} (h : alkL (d :: ys) = true) : PySem.W.maxD (toPy d) (toPys ys) = toPy (maxW ltb d ys) ∧ maxW ltb d ys ∈ d :: ys := by
  obtain ⟨h1, h2⟩ := alk_iff h
  have : ∀ (zs : List D) (x : D), x ∈ d :: ys → (∀ z ∈ zs, z ∈ d :: ys) → PySem.W.maxD (toPy x) (toPys zs) = toPy (maxW ltb x zs) ∧ maxW ltb x zs ∈ d :: ys := by
    intro zs
    induction zs with
    | nil => exact fun x hx _ => ⟨rfl, hx⟩
    | cons z r ih =>
      intro x hx hz
      have hz0 := hz z List.mem_cons_self
      show PySem.W.maxD (if PySem.W.dataLt (toPy x) (toPy z) then toPy z else toPy x) (toPys r) = toPy (maxW ltb (if ltb x z then z else x) r) ∧ _ ∈ _
      rw [lt_of_data x z (okc_plain (h1 x hx)) (okc_plain (h1 z hz0)) (h2 x hx z hz0)]
      cases q : ltb x z
      · exact ⟨(ih x hx fun z hz' => hz z (List.mem_cons_of_mem _ hz')).1, by show maxW ltb (if ltb x z then z else x) r ∈ _; rw [q]; exact (ih x hx fun z hz' => hz z (List.mem_cons_of_mem _ hz')).2⟩
      · exact ⟨(ih z hz0 fun z hz' => hz z (List.mem_cons_of_mem _ hz')).1, by show maxW ltb (if ltb x z then z else x) r ∈ _; rw [q]; exact (ih z hz0 fun z hz' => hz z (List.mem_cons_of_mem _ hz')).2⟩
  exact this ys d List.mem_cons_self fun z hz => List.mem_cons_of_mem _ hz
mutual
theorem toPy_inj : ∀ x y : D, x.plain = true → y.plain = true → toPy x = toPy y → x = y
  | x, .dic _ _, _, h, _ => by simp [D.plain] at h
  | x, .exc _, _, h, _ => by simp [D.plain] at h
  | x, .scr _, _, h, _ => by simp [D.plain] at h
  | .dic _ _, _, g, _, _ => by simp [D.plain] at g
  | .exc _, _, g, _, _ => by simp [D.plain] at g
  | .scr _, _, g, _, _ => by simp [D.plain] at g
  | .non, .non, _, _, _ => rfl
  | .bl _, .bl _, _, _, e => by simp only [toPy, PyData.bool.injEq] at e; rw [e]
  | .int _, .int _, _, _, e => by simp only [toPy, PyData.int.injEq] at e; rw [e]
  | .str _, .str _, _, _, e => by simp only [toPy, PyData.str.injEq] at e; rw [strOf_inj e]
  | .tup xs, .tup ys, g, h, e => by
    simp only [toPy, PyData.tuple.injEq] at e
    rw [toPys_inj xs ys (by simpa [D.plain] using g) (by simpa [D.plain] using h) e]
  | .lst xs, .lst ys, g, h, e => by
    simp only [toPy, PyData.list.injEq] at e
    rw [toPys_inj xs ys (by simpa [D.plain] using g) (by simpa [D.plain] using h) e]
  | .non, .bl _, _, _, e => by simp [toPy] at e
  | .non, .int _, _, _, e => by simp [toPy] at e
  | .non, .str _, _, _, e => by simp [toPy] at e
  | .non, .tup _, _, _, e => by simp [toPy] at e
  | .non, .lst _, _, _, e => by simp [toPy] at e
  | .bl _, .non, _, _, e => by simp [toPy] at e
  | .bl _, .int _, _, _, e => by simp [toPy] at e
  | .bl _, .str _, _, _, e => by simp [toPy] at e
  | .bl _, .tup _, _, _, e => by simp [toPy] at e
  | .bl _, .lst _, _, _, e => by simp [toPy] at e
  | .int _, .non, _, _, e => by simp [toPy] at e
  | .int _, .bl _, _, _, e => by simp [toPy] at e
  | .int _, .str _, _, _, e => by simp [toPy] at e
  | .int _, .tup _, _, _, e => by simp [toPy] at e
  | .int _, .lst _, _, _, e => by simp [toPy] at e
  | .str _, .non, _, _, e => by simp [toPy] at e
  | .str _, .bl _, _, _, e => by simp [toPy] at e
  | .str _, .int _, _, _, e => by simp [toPy] at e
  | .str _, .tup _, _, _, e => by simp [toPy] at e
  | .str _, .lst _, _, _, e => by simp [toPy] at e
  | .tup _, .non, _, _, e => by simp [toPy] at e
  | .tup _, .bl _, _, _, e => by simp [toPy] at e
  | .tup _, .int _, _, _, e => by simp [toPy] at e
  | .tup _, .str _, _, _, e => by simp [toPy] at e
  | .tup _, .lst _, _, _, e => by simp [toPy] at e
  | .lst _, .non, _, _, e => by simp [toPy] at e
  | .lst _, .bl _, _, _, e => by simp [toPy] at e
  | .lst _, .int _, _, _, e => by simp [toPy] at e
  | .lst _, .str _, _, _, e => by simp [toPy] at e
  | .lst _, .tup _, _, _, e => by simp [toPy] at e
theorem toPys_inj : ∀ xs ys : List D, plainL xs = true → plainL ys = true → toPys xs = toPys ys → xs = ys
  | [], [], _, _, _ => rfl
  | [], _ :: _, _, _, e => by simp [toPys] at e
  | _ :: _, [], _, _, e => by simp [toPys] at e
  | x :: xs, y :: ys, g, h, e => by
    simp only [plainL, Bool.and_eq_true] at g h
    simp only [toPys, List.cons.injEq] at e
    rw [toPy_inj x y g.1 h.1 e.1, toPys_inj xs ys g.2 h.2 e.2]
end
theorem toPys_get {ys : List D} {i : Nat} {d : PyData} (h : (toPys ys)[i]? = some d) : ∃ y, ys[i]? = some y ∧ d = toPy y := by
  rw [toPys_map, List.getElem?_map] at h
  cases q : ys[i]? with
  | none => rw [q] at h; cases h
  | some y => rw [q] at h; exact ⟨y, rfl, (Option.some.inj h).symm⟩
theorem best_ok {name : String} {bi : Bi} {fD : PyData → List PyData → PyData} {f : D → List D → D} (hr : CallR X (.builtin name) (rBestD X.K fD)) (hone : ∀ ds r, biD bi ds = some r → ∃ d, ds = [d]) (hl : ∀ xs, biD bi [.lst xs] = bestD f xs) (ht : ∀ xs, biD bi [.tup xs] = bestD f xs) (hn : ∀ d r, biD bi [d] = some r → (∃ xs, d = .lst xs) ∨ ∃ xs, d = .tup xs)
    (hf : ∀ {ys : List D} {d : D}, alkL (d :: ys) = true → fD (toPy d) (toPys ys) = toPy (f d ys) ∧ f d ys ∈ d :: ys) : CallOk X (.builtin name) (biD bi) := by
  refine one_arg hone hr ?_
  intro β E env b b2 σ H H2 v d r Q a p e q
  have key : ∀ (zs : List D) (c : Addr) (xs : List V), (SqL X.K H2 c xs ∨ SqT X.K H2 c xs) → VRs X.K H2 E xs zs → bestD f zs = some r → rBestD X.K fD [V.ref c] H2 Q := by
    intro zs c xs hs rv e
    cases zs with
    | nil => cases e
    | cons d ys =>
      simp only [bestD] at e
      split at e
      · rename_i hc
        cases e
        simp only [Bool.and_eq_true] at hc
        obtain ⟨h1, h2⟩ := alk_iff hc.1
        obtain ⟨ef, mf⟩ := hf hc.1
        refine ⟨c, xs, toPy d, toPys ys, rfl, hs, rv.dp (alk_plain h1), ⟨fun x hx y hy => alike_list hc.1 x hx y hy, fun x hx => ?_⟩, ?_, fun i x hx hi => ?_⟩
        · obtain ⟨y, hy, rfl⟩ := mem_toPys (ys := d :: ys) hx
          have := List.all_eq_true.mp hc.2 y hy
          have pl := okc_plain (h1 y hy)
          cases y <;> first | (cases this; done) | (simp [D.plain] at pl; done) | exact (nomatch ·)
        · have := (lays_of (d :: ys) (alk_plain h1)).2
          show PyData.depthAll (toPys (d :: ys)) ≤ 60
          rw [this]
          have : ∀ zs : List D, (∀ z ∈ zs, z.dep ≤ 60) → depL zs ≤ 60 := fun zs => by
            induction zs with
            | nil => exact fun _ => Nat.zero_le _
            | cons z r ih => exact fun h => Nat.max_le.mpr ⟨h z List.mem_cons_self, ih fun w hw => h w (List.mem_cons_of_mem _ hw)⟩
          exact this _ fun z hz => okc_dep (h1 z hz)
        · rw [ef] at hi
          obtain ⟨y, hy, e2⟩ := toPys_get (ys := d :: ys) hi
          have := toPy_inj _ _ (okc_plain (h1 _ mf)) (okc_plain (h1 _ (List.mem_of_getElem? hy))) e2
          subst this
          obtain ⟨d', hd', r'⟩ := rv.get hx
          rw [hy] at hd'
          cases hd'
          exact a.val r' q
      · cases e
  rcases hn d r e with ⟨zs, rfl⟩ | ⟨zs, rfl⟩
  · obtain ⟨p1, xs1, rfl, e1, r1⟩ := p.lstE
    exact key zs p1 xs1 (.inl (SqL.of e1)) r1 (by rw [← hl]; exact e)
  · obtain ⟨p1, xs1, rfl, n1, e1, r1⟩ := p.tupE
    exact key zs p1 xs1 (.inr e1.sq) r1 (by rw [← ht]; exact e)
theorem bi_min (hc : X.calm = true) (hu : X.A.units + 65 < cLine) : CallOk X (.builtin "min") (biD .min) :=
  best_ok (cr_minD hc hu) (fun ds r e => by unfold biD at e; split at e <;> first | exact ⟨_, rfl⟩ | cases e | simp_all) (fun _ => rfl) (fun _ => rfl) (fun d r e => by cases d <;> first | exact .inl ⟨_, rfl⟩ | exact .inr ⟨_, rfl⟩ | (simp [biD] at e; done)) fold_min
theorem bi_max (hc : X.calm = true) (hu : X.A.units + 65 < cLine) : CallOk X (.builtin "max") (biD .max) :=
  best_ok (cr_maxD hc hu) (fun ds r e => by unfold biD at e; split at e <;> first | exact ⟨_, rfl⟩ | cases e | simp_all) (fun _ => rfl) (fun _ => rfl) (fun d r e => by cases d <;> first | exact .inl ⟨_, rfl⟩ | exact .inr ⟨_, rfl⟩ | (simp [biD] at e; done)) fold_max
end
end Sg

-- SgOps4
/-! SgOps4: sorted, isinstance, join, index, count. -/
namespace Sg
open PySem PySem.Spec PyProof.Rows L2

section
variable {X : Cx}
/-! ### isinstance -/
theorem tyx_of {K : PySem.W.Frag} {H : Hp} {E : Addr → Prop} {v : V} {d : D} {n : String} (p : PV K H E v d) (e : tyN d = some n) : TyX K H v (.type n) ∧ (n = "NoneType" ∨ n = "bool" ∨ n = "int" ∨ n = "str" ∨ n = "tuple" ∨ n = "list") := by
  cases d <;> try (simp [tyN] at e; done)
  · cases p.nonE; cases e; exact ⟨.base .non, by simp⟩
  · cases p.blE; cases e; exact ⟨.base (.bl _), by simp⟩
  · cases p.intE; cases e; exact ⟨.base (.int _), by simp⟩
  · cases p.strE; cases e; exact ⟨.base (.str _), by simp⟩
  · obtain ⟨p1, xs1, rfl, n1, e1, r1⟩ := p.tupE
    cases e; obtain ⟨o1, _, e1⟩ := e1; exact ⟨.fTuple e1, by simp⟩
  · obtain ⟨p1, xs1, rfl, e1, r1⟩ := p.lstE
    cases e; exact ⟨.base (.lst e1), by simp⟩
/-- isinstance(x, T): the class as a second value -/
def IsiOk (X : Cx) (T : String) (g : List D → Option R) : Prop :=
  ∃ rr : List V → Hp → VK → Prop, CallR X (.builtin "isinstance") rr ∧ ∀ (β : List Addr) (E : Addr → Prop) (env : List Slot) (b b2 : List D) (σ : St) (H H2 : Hp) (v : V) (d : D) (r : R) (Q : VK),
    At2 X.K β E env b b2 σ H H2 → PV X.K H2 E v d → g [d] = some r → (∀ v H', Post X.K β E env σ H r b2 v H' → Q v H') → rr [v, .ty T] H2 Q
theorem isi_ok {T : String} {f : String → Bool} {g : List D → Option R} (hg : ∀ d, g [d] = (tyN d).map fun n => .val (.bl (f n)))
    (h1 : kitB "NoneType" T = some (f "NoneType")) (h2 : kitB "bool" T = some (f "bool")) (h3 : kitB "int" T = some (f "int")) (h4 : kitB "str" T = some (f "str")) (h5 : kitB "tuple" T = some (f "tuple")) (h6 : kitB "list" T = some (f "list")) : IsiOk X T g := by
  refine ⟨_, call_isi, ?_⟩
  intro β E env b b2 σ H H2 v d r Q a p e q
  rw [hg] at e
  cases w : tyN d with
  | none => rw [w] at e; cases e
  | some n =>
    rw [w] at e
    cases e
    obtain ⟨ty, hn⟩ := tyx_of p w
    refine ⟨_, _, _, _, f n, rfl, .ty T, ty, ?_, a.bl q⟩
    refine kit_ty ?_
    rcases hn with rfl | rfl | rfl | rfl | rfl | rfl <;> assumption
theorem isi_int : IsiOk X "int" (biD .isint) := isi_ok (f := fun n => n == "int" || n == "bool") (fun d => rfl) (by decide +kernel) (by decide +kernel) (by decide +kernel) (by decide +kernel) (by decide +kernel) (by decide +kernel)
theorem isi_bool : IsiOk X "bool" (biD .isbool) := isi_ok (f := fun n => n == "bool") (fun d => rfl) (by decide +kernel) (by decide +kernel) (by decide +kernel) (by decide +kernel) (by decide +kernel) (by decide +kernel)
theorem isi_str : IsiOk X "str" (biD .isstr) := isi_ok (f := fun n => n == "str") (fun d => rfl) (by decide +kernel) (by decide +kernel) (by decide +kernel) (by decide +kernel) (by decide +kernel) (by decide +kernel)
theorem isi_tuple : IsiOk X "tuple" (biD .istuple) := isi_ok (f := fun n => n == "tuple") (fun d => rfl) (by decide +kernel) (by decide +kernel) (by decide +kernel) (by decide +kernel) (by decide +kernel) (by decide +kernel)

/-! ### methods -/
def MeOk (X : Cx) (id : String) (T : String) (g : D → List D → Option R) : Prop :=
  ∃ rr : V → List V → Hp → VK → Prop, MtR X id rr ∧ ∀ (β : List Addr) (E : Addr → Prop) (env : List Slot) (b b2 : List D) (σ : St) (H H2 : Hp) (v : V) (vs : List V) (d : D) (ds : List D) (r : R) (Q : VK),
    At2 X.K β E env b b2 σ H H2 → PV X.K H2 E v d → PVs X.K H2 E vs ds → tyN d = some T → g d ds = some r → (∀ v H', Post X.K β E env σ H r b2 v H' → Q v H') → rr v vs H2 Q
theorem MtR.or {id : String} {r r' : V → List V → Hp → VK → Prop} (h : MtR X id r) (h' : MtR X id r') : MtR X id (fun v vs H Q => r v vs H Q ∨ r' v vs H Q) := by
  intro pins s σ H x xs v us Q I rx rv q
  rcases q with q | q
  · exact h pins s σ H x xs v us Q I rx rv q
  · exact h' pins s σ H x xs v us Q I rx rv q
end
end Sg

-- SgOps5
/-! SgOps5: join, index, count. -/
namespace Sg
open PySem PySem.Spec PyProof.Rows L2
section
variable {X : Cx}
theorem readsAll_len {h : Heap} {ds : List PyData} {us : List Value} {as : List Addr} (r : ReadsAll h us ds as) : us.length = ds.length := SeqAt.ReadsAll.length ds us as r
/-- t.index(x), data of any depth, the first place -/
theorem mt_indexT (hu : X.A.units + 65 < cLine) : MtR X "tuple.index" (fun x xs H Q => ∃ (a : Addr) (y : V) (d : PyData) (ds : List PyData) (j : Nat) (z : PyData), x = V.ref a ∧ xs = [y] ∧ Dp X.K H (V.ref a) (.tuple ds) ∧ Dp X.K H y d ∧
  SeqAt.shaped (.tuple ds) = true ∧ SeqAt.shaped d = true ∧ ds[j]? = some z ∧ PyData.eqv z d = true ∧ (∀ (m : Nat) (z' : PyData), m < j → ds[m]? = some z' → PyData.eqv z' d = false) ∧ Q (.int (j : Nat)) H) := by
  intro pins s σ H x xs v us Q I rx rxs h
  obtain ⟨a, y, d, ds, j, z, rfl, rfl, hl, hy, sl, sd, hz, hzj, hno, q⟩ := h
  cases rx
  cases rxs with
  | cons ry rt =>
    rename_i uy ut
    cases rt
    obtain ⟨bs, r1⟩ := Dp.reads I d y uy hy ry
    have hxs : PyData.canLayAll0 ds = true := SeqAt.canLay_of_shaped sl
    have hroom : X.A.units + 1 + min (PyData.depthAll ds) d.depth < cLine := room_in_shaped sd hu
    cases hl with
    | tup hs ha =>
      obtain ⟨its, rv, ⟨⟨cls, dd, data, sls⟩, ho, hc, n, hdt⟩, hlen⟩ := I.tuple hs
      simp only at hc hdt
      subst hc hdt
      obtain ⟨as, h4⟩ := Dp.readsAll I ds _ its ha rv
      have hn : its.length = ds.length := SeqAt.ReadsAll.length ds its as h4
      have hmap : its.map (SeqAt.readOf s.heap) = ds := SeqAt.readsAll_map ds its as hxs h4
      obtain ⟨hjd, _⟩ := List.getElem?_eq_some_iff.mp hz
      have hjl : j < its.length := by omega
      have hj : j < its.toArray.size := by simpa using hjl
      have at_ : ∀ (m : Nat) (hm : m < its.toArray.size) (z' : PyData), ds[m]? = some z' → SeqAt.readOf s.heap its.toArray[m] = z' := by
        intro m hm z' hz'
        have hml : m < its.length := by simpa using hm
        rw [← hmap, List.getElem?_map, List.getElem?_eq_getElem hml] at hz'
        have e1 : SeqAt.readOf s.heap its[m] = z' := Option.some.inj (show some (SeqAt.readOf s.heap its[m]) = some z' from hz')
        simpa using e1
      refine call_meets PySem.F.slot_tuple_index ⟨_, ho, rfl⟩ PySem.F.entry_tuple_index (PySem.F.args_tuple_index_2 _ _)
        (TI.tuple_indexAt a its.toArray n dd sls uy (fun u => PyData.eqv (SeqAt.readOf s.heap u) d) j hj ?_ ?_) ⟨ho, SeqAt.items_eqAt (vs := its.toArray) (show ReadsAll s.heap its.toArray.toList ds as from h4) r1 hxs (SeqAt.canLay_of_shaped sd) hroom, ?_⟩
      · show PyData.eqv (SeqAt.readOf s.heap its.toArray[j]) d = true
        rw [at_ j hj z hz]
        exact hzj
      · intro m hm hmj
        have hmd : m < ds.length := by omega
        have hz' : ds[m]? = some ds[m] := List.getElem?_eq_getElem hmd
        show PyData.eqv (SeqAt.readOf s.heap its.toArray[m]) d = false
        rw [at_ m hm _ hz']
        exact hno m _ hmj hz'
      · exact ⟨.int (j : Nat), H, I.tok _, ⟨_, rfl⟩, q⟩
theorem countP_read {h : Heap} {us : List Value} {ds : List PyData} {d : PyData} (hmap : us.map (SeqAt.readOf h) = ds) : us.countP (fun u => PyData.eqv (SeqAt.readOf h u) d) = ds.countP (fun z => PyData.eqv z d) := by
  subst hmap
  rw [List.countP_map]
  rfl
theorem mt_countL (hu : X.A.units + 65 < cLine) : MtR X "list.count" (fun x xs H Q => ∃ (a : Addr) (y : V) (d : PyData) (ds : List PyData), x = V.ref a ∧ xs = [y] ∧ Dp X.K H (V.ref a) (.list ds) ∧ Dp X.K H y d ∧
  SeqAt.shaped (.list ds) = true ∧ SeqAt.shaped d = true ∧ Q (.int (ds.countP fun z => PyData.eqv z d : Nat)) H) := by
  intro pins s σ H x xs v us Q I rx rxs h
  obtain ⟨a, y, d, ds, rfl, rfl, hl, hy, sl, sd, q⟩ := h
  cases rx
  cases rxs with
  | cons ry rt =>
    rename_i uy ut
    cases rt
    obtain ⟨bs, r1⟩ := Dp.reads I d y uy hy ry
    have hxs : PyData.canLayAll0 ds = true := SeqAt.canLay_of_shaped sl
    have hroom : X.A.units + 1 + min (PyData.depthAll ds) d.depth < cLine := room_in_shaped sd hu
    cases hl with
    | lst hs ha =>
      obtain ⟨its, rv, ⟨⟨cls, dd, data, sls⟩, n, ho, hc, hdn, hdt⟩, hlen⟩ := I.list hs
      simp only at hc hdt
      subst hc hdt
      obtain ⟨as, h4⟩ := Dp.readsAll I ds _ its ha rv
      have hmap : its.map (SeqAt.readOf s.heap) = ds := SeqAt.readsAll_map ds its as hxs h4
      refine call_meets PySem.F.slot_list_count ⟨_, ho, rfl⟩ PySem.F.entry_list_count (PySem.F.args_list_count_2 _ _)
        (SeqAt.list_countAt a its.toArray n dd sls uy (fun u => PyData.eqv (SeqAt.readOf s.heap u) d)) ⟨ho, SeqAt.items_eqAt (vs := its.toArray) (show ReadsAll s.heap its.toArray.toList ds as from h4) r1 hxs (SeqAt.canLay_of_shaped sd) hroom, ?_⟩
      have e : its.toArray.toList.countP (fun u => PyData.eqv (SeqAt.readOf s.heap u) d) = ds.countP (fun z => PyData.eqv z d) := countP_read hmap
      refine ⟨.int (ds.countP fun z => PyData.eqv z d : Nat), H, I.tok _, ⟨s.toks, ?_⟩, q⟩
      rw [e]
theorem mt_countT (hu : X.A.units + 65 < cLine) : MtR X "tuple.count" (fun x xs H Q => ∃ (a : Addr) (y : V) (d : PyData) (ds : List PyData), x = V.ref a ∧ xs = [y] ∧ Dp X.K H (V.ref a) (.tuple ds) ∧ Dp X.K H y d ∧
  SeqAt.shaped (.tuple ds) = true ∧ SeqAt.shaped d = true ∧ Q (.int (ds.countP fun z => PyData.eqv z d : Nat)) H) := by
  intro pins s σ H x xs v us Q I rx rxs h
  obtain ⟨a, y, d, ds, rfl, rfl, hl, hy, sl, sd, q⟩ := h
  cases rx
  cases rxs with
  | cons ry rt =>
    rename_i uy ut
    cases rt
    obtain ⟨bs, r1⟩ := Dp.reads I d y uy hy ry
    have hxs : PyData.canLayAll0 ds = true := SeqAt.canLay_of_shaped sl
    have hroom : X.A.units + 1 + min (PyData.depthAll ds) d.depth < cLine := room_in_shaped sd hu
    cases hl with
    | tup hs ha =>
      obtain ⟨its, rv, ⟨⟨cls, dd, data, sls⟩, ho, hc, n, hdt⟩, hlen⟩ := I.tuple hs
      simp only at hc hdt
      subst hc hdt
      obtain ⟨as, h4⟩ := Dp.readsAll I ds _ its ha rv
      have hmap : its.map (SeqAt.readOf s.heap) = ds := SeqAt.readsAll_map ds its as hxs h4
      refine call_meets PySem.F.slot_tuple_count ⟨_, ho, rfl⟩ PySem.F.entry_tuple_count (PySem.F.args_tuple_count_2 _ _)
        (SeqAt.tuple_countAt a its.toArray n dd sls uy (fun u => PyData.eqv (SeqAt.readOf s.heap u) d)) ⟨ho, SeqAt.items_eqAt (vs := its.toArray) (show ReadsAll s.heap its.toArray.toList ds as from h4) r1 hxs (SeqAt.canLay_of_shaped sd) hroom, ?_⟩
      have e : its.toArray.toList.countP (fun u => PyData.eqv (SeqAt.readOf s.heap u) d) = ds.countP (fun z => PyData.eqv z d) := countP_read hmap
      refine ⟨.int (ds.countP fun z => PyData.eqv z d : Nat), H, I.tok _, ⟨s.toks, ?_⟩, q⟩
      rw [e]
theorem countP_eqv {ys : List D} {x : D} (hy : plainL ys = true) (hx : x.plain = true) : ((toPys ys).countP fun z => PyData.eqv z (toPy x)) = ys.countP fun y => eqD y x := by
  induction ys with
  | nil => rfl
  | cons y r ih =>
    simp only [plainL, Bool.and_eq_true] at hy
    simp only [toPys, List.countP_cons]
    rw [eqv_of y x hy.1 hx, ih hy.2]
theorem index_eqv {x : D} (hx : x.plain = true) : ∀ {ys : List D} {j : Nat}, plainL ys = true → indexD x ys = some j →
    ∃ z, (toPys ys)[j]? = some z ∧ PyData.eqv z (toPy x) = true ∧ ∀ (m : Nat) (z' : PyData), m < j → (toPys ys)[m]? = some z' → PyData.eqv z' (toPy x) = false
  | [], _, _, e => by simp [indexD] at e
  | y :: r, j, hy, e => by
    simp only [plainL, Bool.and_eq_true] at hy
    simp only [indexD] at e
    by_cases h : eqD y x = true
    · rw [if_pos h] at e
      cases e
      exact ⟨toPy y, rfl, by rw [eqv_of y x hy.1 hx]; exact h, fun m z' hm => absurd hm (Nat.not_lt_zero _)⟩
    · rw [if_neg h] at e
      cases w : indexD x r with
      | none => rw [w] at e; cases e
      | some i =>
        rw [w] at e
        cases e
        obtain ⟨z, h1, h2, h3⟩ := index_eqv hx hy.2 w
        refine ⟨z, h1, h2, fun m z' hm hz => ?_⟩
        cases m with
        | zero =>
          have : toPy y = z' := Option.some.inj hz
          rw [← this, eqv_of y x hy.1 hx]
          exact Bool.eq_false_iff.mpr h
        | succ m => exact h3 m z' (Nat.lt_of_succ_lt_succ hm) hz
theorem PVs.two {K : PySem.W.Frag} {H : Hp} {E : Addr → Prop} {vs : List V} {d : D} (h : PVs K H E vs [d]) : ∃ v, vs = [v] ∧ PV K H E v d := h.one
theorem me_indexL (hu : X.A.units + 65 < cLine) : MeOk X "list.index" "list" (meD .index) := by
  refine ⟨_, mt_indexD hu, ?_⟩
  intro β E env b b2 σ H H2 v vs d ds r Q a p ps ty e q
  cases d <;> simp [tyN] at ty
  rename_i ys
  cases ds with
  | nil => simp [meD] at e
  | cons x t =>
    cases t with
    | cons _ _ => simp [meD] at e
    | nil =>
      obtain ⟨v2, rfl, p2⟩ := ps.one
      simp only [meD] at e
      by_cases hc : ((D.lst ys).okc && x.okc) = true
      · rw [if_pos hc] at e
        simp only [Bool.and_eq_true] at hc
        cases w : indexD x ys with
        | none => rw [w] at e; cases e
        | some j =>
          rw [w] at e
          cases e
          obtain ⟨z, h1, h2, h3⟩ := index_eqv (okc_plain hc.2) (by simpa [D.plain] using okc_plain hc.1) w
          have dp := p.dp (okc_plain hc.1)
          obtain ⟨p1, xs1, rfl, e1, r1⟩ := p.lstE
          exact ⟨_, _, _, _, _, _, rfl, rfl, dp, p2.dp (okc_plain hc.2), shaped_of hc.1, shaped_of hc.2, h1, h2, h3, a.int q⟩
      · rw [if_neg hc] at e; cases e
theorem me_countL (hu : X.A.units + 65 < cLine) : MeOk X "list.count" "list" (meD .count) := by
  refine ⟨_, mt_countL hu, ?_⟩
  intro β E env b b2 σ H H2 v vs d ds r Q a p ps ty e q
  cases d <;> simp [tyN] at ty
  rename_i ys
  cases ds with
  | nil => simp [meD] at e
  | cons x t =>
    cases t with
    | cons _ _ => simp [meD] at e
    | nil =>
      obtain ⟨v2, rfl, p2⟩ := ps.one
      simp only [meD] at e
      by_cases hc : ((D.lst ys).okc && x.okc) = true
      · rw [if_pos hc] at e
        simp only [Bool.and_eq_true] at hc
        cases e
        have dp := p.dp (okc_plain hc.1)
        obtain ⟨p1, xs1, rfl, e1, r1⟩ := p.lstE
        refine ⟨_, _, _, _, rfl, rfl, dp, p2.dp (okc_plain hc.2), shaped_of hc.1, shaped_of hc.2, ?_⟩
        rw [countP_eqv (by simpa [D.plain] using okc_plain hc.1) (okc_plain hc.2)]
        exact a.int q
      · rw [if_neg hc] at e; cases e
theorem me_indexT (hu : X.A.units + 65 < cLine) : MeOk X "tuple.index" "tuple" (meD .index) := by
  refine ⟨_, mt_indexT hu, ?_⟩
  intro β E env b b2 σ H H2 v vs d ds r Q a p ps ty e q
  cases d <;> simp [tyN] at ty
  rename_i ys
  cases ds with
  | nil => simp [meD] at e
  | cons x t =>
    cases t with
    | cons _ _ => simp [meD] at e
    | nil =>
      obtain ⟨v2, rfl, p2⟩ := ps.one
      simp only [meD] at e
      by_cases hc : ((D.tup ys).okc && x.okc) = true
      · rw [if_pos hc] at e
        simp only [Bool.and_eq_true] at hc
        cases w : indexD x ys with
        | none => rw [w] at e; cases e
        | some j =>
          rw [w] at e
          cases e
          obtain ⟨z, h1, h2, h3⟩ := index_eqv (okc_plain hc.2) (by simpa [D.plain] using okc_plain hc.1) w
          have dp := p.dp (okc_plain hc.1)
          obtain ⟨p1, xs1, rfl, n1, e1, r1⟩ := p.tupE
          exact ⟨_, _, _, _, _, _, rfl, rfl, dp, p2.dp (okc_plain hc.2), shaped_of hc.1, shaped_of hc.2, h1, h2, h3, a.int q⟩
      · rw [if_neg hc] at e; cases e
theorem me_countT (hu : X.A.units + 65 < cLine) : MeOk X "tuple.count" "tuple" (meD .count) := by
  refine ⟨_, mt_countT hu, ?_⟩
  intro β E env b b2 σ H H2 v vs d ds r Q a p ps ty e q
  cases d <;> simp [tyN] at ty
  rename_i ys
  cases ds with
  | nil => simp [meD] at e
  | cons x t =>
    cases t with
    | cons _ _ => simp [meD] at e
    | nil =>
      obtain ⟨v2, rfl, p2⟩ := ps.one
      simp only [meD] at e
      by_cases hc : ((D.tup ys).okc && x.okc) = true
      · rw [if_pos hc] at e
        simp only [Bool.and_eq_true] at hc
        cases e
        have dp := p.dp (okc_plain hc.1)
        obtain ⟨p1, xs1, rfl, n1, e1, r1⟩ := p.tupE
        refine ⟨_, _, _, _, rfl, rfl, dp, p2.dp (okc_plain hc.2), shaped_of hc.1, shaped_of hc.2, ?_⟩
        rw [countP_eqv (by simpa [D.plain] using okc_plain hc.1) (okc_plain hc.2)]
        exact a.int q
      · rw [if_neg hc] at e; cases e
theorem same_one (a b : Nat) : PySem.Spec.same (.str ⟨#[a]⟩) (.str ⟨#[b]⟩) = decide (a = b) := by
  unfold PySem.Spec.same
  by_cases h : a = b
  · subst h; simp
  · have : (⟨#[a]⟩ : Str) ≠ ⟨#[b]⟩ := fun e => h (by injection e with e; simpa using e)
    simp [h, this]
theorem count_one (s : List Char) (c : Char) : Txt.count (strOf s) (strOf [c]) = (s.count c : Nat) := by
  have e : strOf [c] = ⟨#[c.toNat]⟩ := rfl
  rw [e, PyProof.Rows.count_is]
  have : (strOf s).cps.toList = s.map Char.toNat := cps_strOf s
  rw [this, List.map_map]
  induction s with
  | nil => rfl
  | cons x r ih =>
    show (if PySem.Spec.same (.str ⟨#[x.toNat]⟩) (.str ⟨#[c.toNat]⟩) = true then 1 else 0) + PySem.Spec.countIn _ _ = _
    rw [ih (cps_strOf r), same_one, List.count_cons]
    by_cases h : x = c
    · subst h; simp; omega
    · have h2 : ¬ x.toNat = c.toNat := fun z => h (Char.toNat_inj.mp z)
      have h3 : ¬ (x == c) = true := by simpa using h
      rw [decide_eq_false h2, if_neg (by simp), if_neg h3]; omega
theorem me_countS : MeOk X "str.count" "str" (meD .count) := by
  refine ⟨_, mt_count, ?_⟩
  intro β E env b b2 σ H H2 v vs d ds r Q a p ps ty e q
  cases d <;> simp [tyN] at ty
  rename_i s
  cases p.strE
  cases ds with
  | nil => simp [meD] at e
  | cons x t =>
    cases x with
    | str z =>
      match z, t, e with
      | [], _, e => simp [meD] at e
      | [c], [], e =>
        obtain ⟨v2, rfl, p2⟩ := ps.one
        cases p2.strE
        simp only [meD] at e
        split at e
        · cases e
          refine ⟨_, _, rfl, rfl, ?_⟩
          rw [count_one]
          exact a.int q
        · cases e
      | [c], _ :: _, e => simp [meD] at e
      | _ :: _ :: _, _, e => simp [meD] at e
    | _ => simp [meD] at e
theorem joinS_eq (s : List Char) : ∀ ys : List (List Char), Str.join (strOf s) (ys.map strOf) = strOf (joinS s ys)
  | [] => rfl
  | [x] => rfl
  | x :: y :: r => by
    show strOf x ++ strOf s ++ Str.join (strOf s) ((y :: r).map strOf) = _
    rw [joinS_eq s (y :: r), strOf_append, strOf_append]
    rfl
theorem me_join : MeOk X "str.join" "str" (meD .join) := by
  refine ⟨_, mt_join, ?_⟩
  intro β E env b b2 σ H H2 v vs d ds r Q a p ps ty e q
  cases d <;> simp [tyN] at ty
  rename_i s
  cases p.strE
  cases ds with
  | nil => simp [meD] at e
  | cons x t =>
    cases t with
    | cons _ _ => cases x <;> simp [meD] at e
    | nil =>
      obtain ⟨v2, rfl, p2⟩ := ps.one
      have fin : ∀ (ys : List (List Char)), sumLen ys + ys.length * s.length ≤ LIM → (((ys.map strOf).map (·.length)).sum + (ys.map strOf).length * (strOf s).length ≤ 16777216) := fun ys h => by
        have e1 : (ys.map strOf).map (·.length) = ys.map (·.length) := by
          rw [List.map_map]
          exact List.map_congr_left fun z _ => strOf_len z
        rw [e1, List.length_map, strOf_len]
        exact Nat.le_trans h (by decide)
      cases x <;> try (simp [meD] at e; done)
      · obtain ⟨p1, xs1, rfl, n1, e1, r1⟩ := p2.tupE
        simp only [meD] at e
        cases w : strsOf _ with
        | none => rw [w] at e; cases e
        | some ys =>
          rw [w] at e
          simp only [Option.bind_some] at e
          split at e
          · rename_i hz
            cases e
            rw [strs_of w] at r1
            cases r1.strsE
            refine ⟨_, _, _, rfl, rfl, .inr e1.sq, fin ys hz, ?_⟩
            rw [TL.join_eq, joinS_eq]
            exact a.str q
          · cases e
      · obtain ⟨p1, xs1, rfl, e1, r1⟩ := p2.lstE
        simp only [meD] at e
        cases w : strsOf _ with
        | none => rw [w] at e; cases e
        | some ys =>
          rw [w] at e
          simp only [Option.bind_some] at e
          split at e
          · rename_i hz
            cases e
            rw [strs_of w] at r1
            cases r1.strsE
            refine ⟨_, _, _, rfl, rfl, .inl (SqL.of e1), fin ys hz, ?_⟩
            rw [TL.join_eq, joinS_eq]
            exact a.str q
          · cases e
end
end Sg

-- SgChk
/-! SgChk: the checker (the small language's text against the program's), the readings of rows, tests, walks; the context. -/
namespace Sg
open PySem PySem.Spec PyProof.Rows L2

/-! ### forms of the text -/
def nstar : Expr → Bool
  | .Starred _ _ => false
  | _ => true
def plainT : Expr → Bool
  | .UnaryOp .Not _ _ => false
  | .BoolOp _ _ _ => false
  | .IfExp _ _ _ _ => false
  | .Compare _ _ _ _ => false
  | _ => true
def nslice : Expr → Bool
  | .Slice _ _ _ _ => false
  | _ => true
def nset : Expr → Bool
  | .Set _ _ _ => false
  | _ => true
def ncall0 : Expr → Bool
  | .Call (.Name _ _) [] [] _ => false
  | _ => true
theorem starEach_ns {e : Expr} {es : List Expr} {env : Env} (h : nstar e = true) : starEach (e :: es) env = (false, eval e env) :: starEach es env := by
  cases e <;> first | rfl | cases h
theorem any_ns {pos : Pos} {env : Env} : ∀ {es : List Expr}, es.all nstar = true → (backTo pos (starEach es env)).any (·.1) = false
  | [], _ => rfl
  | e :: es, h => by
    simp only [List.all_cons, Bool.and_eq_true] at h
    rw [starEach_ns h.1]
    show ((false, _) :: backTo pos (starEach es env)).any (·.1) = false
    simp [any_ns h.2]
theorem isTrue_plainT {e : Expr} {env : Env} (h : plainT e = true) : ∀ whole, isTrue e env whole = (do let v ← whole; standAt e.pos; holding [v] (truthy v)) := by
  intro whole
  cases e <;> first | rfl | (cases h; done) | skip
  rename_i op x p
  cases op <;> first | rfl | cases h
theorem plainIx_of {e : Expr} (h : nslice e = true) : PlainIx e := by
  intro o i
  cases e <;> first | rfl | cases h
theorem nset_fold {e : Expr} {env : Env} (h : nset e = true) : ∀ x, foldedSetIterable e env x = pure x := by
  intro x
  cases e <;> first | rfl | cases h
theorem nset_mark {op : CmpOp} {e : Expr} (h : nset e = true) : behindInMarks op e = false := by
  cases e <;> first | rfl | cases h
theorem base_of {o : Expr} {nm : Str} {env : Env} {w : Sem Value} (h : ncall0 o = true) : attributeBase o nm env w = w := by
  unfold attributeBase
  split
  · cases h
  · rfl

/-- the scope that a text is read in; the scope whose own cells may be stored (none: all) -/
structure SC where
  sc : Scope
  st : Option Scope
def dbgB (x : Str) : Bool := !(x == ("__debug__" : Str)) && !(x == ("__classdict__" : Str)) && !(x == ("__name__" : Str))
def visB (S : SC) (x : Str) : Bool := (match S.sc.names.lookup x with | some .local => true | some .cell => true | some .free => true | _ => false) && dbgB x
def glB (S : SC) (x : Str) : Bool := (match S.sc.names.lookup x with | some .globalImplicit => true | _ => false) && dbgB x
def tgB (S : SC) (x : Str) : Bool := match S.sc.names.lookup x with
  | some .local => true
  | some .cell => (match S.st with
    | none => true
    | some o => o.names.lookup x == some .cell)
  | _ => false
structure Cfg where
  N : List Str
  fns : List Str
  gls : List Str
structure Ck where
  v : SC → Expr → Bool
  t : SC → Expr → Bool
  r : SC → List Expr → Bool
  p : SC → Option Expr → Bool
  i : SC → Expr → Expr → Bool
  h : SC → Expr → Bool
def bopB : Bop → Operator → Bool
  | .add, .Add => true | .sub, .Sub => true | .mul, .Mult => true | .fdiv, .FloorDiv => true | .mod, .Mod => true | .pow, .Pow => true
  | _, _ => false
theorem bopB_eq {o : Bop} {op : Operator} (h : bopB o op = true) : op = bopOf o := by
  cases o <;> cases op <;> first | rfl | cases h
def copB : Cop → CmpOp → Bool
  | .eq, .Eq => true | .ne, .NotEq => true | .lt, .Lt => true | .le, .LtE => true | .gt, .Gt => true | .ge, .GtE => true | .isin, .In => true | .notin, .NotIn => true | .is, .Is => true | .isnot, .IsNot => true
  | _, _ => false
theorem copB_eq {o : Cop} {op : CmpOp} (h : copB o op = true) : op = copOf o := by
  cases o <;> cases op <;> first | rfl | cases h
/-- a built-in's name; its second argument, a class -/
def biName : Bi → String × Option String
  | .len => ("len", none) | .tuple => ("tuple", none) | .list => ("list", none) | .all => ("all", none) | .any => ("any", none) | .sum => ("sum", none) | .abs => ("abs", none) | .int => ("int", none) | .sorted => ("sorted", none) | .min => ("min", none) | .max => ("max", none)
  | .isint => ("isinstance", some "int") | .isbool => ("isinstance", some "bool") | .isstr => ("isinstance", some "str") | .istuple => ("isinstance", some "tuple")
def meName : Me → String
  | .join => "join" | .count => "count" | .index => "index"
def constB : D → Expr → Bool
  | .non, .Constant .none _ _ => true
  | .bl b, .Constant (.bool c) _ _ => b == c
  | .int i, .Constant (.int j) _ _ => decide (i = j)
  | .str s, .Constant (.str z) _ _ => decide (z = strOf s)
  | .int i, .UnaryOp .USub (.Constant (.int j) _ _) _ => decide (i = -j)
  | _, _ => false
def constsB : List D → List Expr → Bool
  | [], [] => true
  | d :: ds, e :: es => constB d e && constsB ds es
  | _, _ => false
/-- all texts, no two the same -/
def ndS : List D → Bool
  | [] => true
  | .str s :: r => (r.all fun d => match d with | .str t => decide (s ≠ t) | _ => false) && ndS r
  | _ => false
def keysB : List D → List (Option Expr) → Bool
  | [], [] => true
  | .str s :: ds, some e :: es => constB (.str s) e && keysB ds es
  | _, _ => false
/-- a target -/
structure Tk where
  v : SC → Expr → Bool
  r : SC → List Expr → Bool
def ckT (N : List Str) : Tg → Tk
  | .nm i => ⟨fun S e => (match e with
    | .Name x _ => decide (N[i]? = some x) && tgB S x
    | _ => false), fun _ _ => false⟩
  | .tup t => ⟨fun S e => (match e with
    | .Tuple es _ _ => (ckT N t).r S es
    | _ => false), fun _ _ => false⟩
  | .nil => ⟨fun _ _ => false, fun _ es => es.isEmpty⟩
  | .cons t r => ⟨fun _ _ => false, fun S es => (match es with
    | e :: es => (ckT N t).v S e && (ckT N r).r S es
    | [] => false)⟩
/-- the slots that a target stores -/
def Tg.vars : Tg → List Nat
  | .nm i => [i]
  | .tup t => t.vars
  | .nil => []
  | .cons t r => t.vars ++ r.vars
def isTupE : Expr → Bool
  | .Tuple _ _ _ => true
  | _ => false
/-- the items of a row -/
def IE.len : IE → Nat
  | .cons _ r => r.len + 1
  | _ => 0
def blkB (N : List Str) (sc scope : Scope) (own : List Nat) : Option (List (Str × Nat)) :=
  let o := own.filterMap fun i => (N[i]?).map fun x => (x, i)
  if o.length = own.length ∧ blkC N sc scope o = true then some o else none
def relC (S : SC) (scope : Scope) : SC := ⟨relS scope S.sc, some scope⟩
def Ck.ofV (v : SC → Expr → Bool) : Ck := ⟨v, fun S e => plainT e && v S e, fun _ _ => false, fun S o => (match o with | some e => v S e | none => false), fun S _ e => nset e && v S e, fun _ _ => false⟩
def Ck.ofT (v t : SC → Expr → Bool) : Ck := ⟨v, t, fun _ _ => false, fun S o => (match o with | some e => v S e | none => false), fun S _ e => nset e && v S e, fun _ _ => false⟩
def Ck.ofI (i : SC → Expr → Expr → Bool) : Ck := ⟨fun _ _ => false, fun _ _ => false, fun _ _ => false, fun _ _ => false, i, fun _ _ => false⟩
def ifsB (c : IE) (ck : SC → Expr → Bool) (S : SC) : List Expr → Bool
  | [] => (match c with | .bl true => true | _ => false)
  | [e] => ck S e
  | _ => false
def ck (C : Cfg) : IE → Ck
  | .non => .ofV fun _ e => constB .non e
  | .bl b => .ofT (fun _ e => constB (.bl b) e) (fun _ e => constB (.bl b) e)
  | .int i => .ofV fun _ e => (match e with | .Constant (.int j) _ _ => decide (i = j) | _ => false)
  | .str s => .ofV fun _ e => constB (.str s) e
  | .var i => .ofV fun S e => (match e with
    | .Name x _ => decide (C.N[i]? = some x) && visB S x
    | _ => false)
  | .bin o a b => .ofV fun S e => (match e with
    | .BinOp l op r _ => bopB o op && (ck C a).v S l && (ck C b).v S r
    | _ => false)
  | .neg a => .ofV fun S e => (match e with
    | .UnaryOp .USub x _ => (ck C a).v S x
    | _ => false)
  | .not a => .ofT (fun S e => (match e with
    | .UnaryOp .Not x _ => (ck C a).v S x
    | _ => false)) (fun S e => (match e with
    | .UnaryOp .Not x _ => (ck C a).t S x
    | _ => false))
  | .cmp o a b => .ofT (fun S e => (match e with
    | .Compare l [op] [r] _ => copB o op && nset r && (ck C a).v S l && (ck C b).v S r
    | _ => false)) (fun S e => (match e with
    | .Compare l [op] [r] _ => copB o op && nset r && (ck C a).v S l && (ck C b).v S r
    | _ => false))
  | .cmp3 o p a b c => .ofT (fun S e => (match e with
    | .Compare l [op, op'] [r, q] _ => copB o op && copB p op' && nset q && (ck C a).v S l && (ck C b).v S r && (ck C c).v S q
    | _ => false)) (fun S e => (match e with
    | .Compare l [op, op'] [r, q] _ => copB o op && copB p op' && nset q && (ck C a).v S l && (ck C b).v S r && (ck C c).v S q
    | _ => false))
  | .and a b => .ofT (fun S e => (match e with
    | .BoolOp .And [x, y] _ => (ck C a).v S x && (ck C b).v S y
    | .BoolOp .And (x :: y :: z :: r) p => (ck C a).v S x && (ck C b).v S (.BoolOp .And (y :: z :: r) p)
    | _ => false)) (fun S e => (match e with
    | .BoolOp .And [x, y] _ => (ck C a).t S x && (ck C b).t S y
    | .BoolOp .And (x :: y :: z :: r) p => (ck C a).t S x && (ck C b).t S (.BoolOp .And (y :: z :: r) p)
    | _ => false))
  | .or a b => .ofT (fun S e => (match e with
    | .BoolOp .Or [x, y] _ => (ck C a).v S x && (ck C b).v S y
    | .BoolOp .Or (x :: y :: z :: r) p => (ck C a).v S x && (ck C b).v S (.BoolOp .Or (y :: z :: r) p)
    | _ => false)) (fun S e => (match e with
    | .BoolOp .Or [x, y] _ => (ck C a).t S x && (ck C b).t S y
    | .BoolOp .Or (x :: y :: z :: r) p => (ck C a).t S x && (ck C b).t S (.BoolOp .Or (y :: z :: r) p)
    | _ => false))
  | .ite c a b => .ofV fun S e => (match e with
    | .IfExp x y z _ => (ck C c).t S x && (ck C a).v S y && (ck C b).v S z
    | _ => false)
  | .nil => ⟨fun _ _ => false, fun _ _ => false, fun _ es => es.isEmpty, fun _ o => o.isNone, fun _ _ _ => false, fun _ _ => false⟩
  | .cons a r => ⟨fun _ _ => false, fun _ _ => false, fun S es => (match es with
    | e :: es => nstar e && (ck C a).v S e && (ck C r).r S es
    | [] => false), fun _ _ => false, fun _ _ _ => false, fun S e => (ck C a).v S e && (match r with | .nil => true | _ => false)⟩
  | .tup as => .ofV fun S e => (match e with
    | .Tuple es _ _ => decide (as.len ≤ 1000) && (ck C as).r S es
    | _ => false)
  | .lst as => .ofV fun S e => (match e with
    | .List es _ => decide (as.len ≤ 1000) && (ck C as).r S es
    | _ => false)
  | .idx a i => .ofV fun S e => (match e with
    | .Subscript x y _ => nslice y && (ck C a).v S x && (ck C i).v S y
    | _ => false)
  | .slc a lo hi => .ofV fun S e => (match e with
    | .Subscript x (.Slice l h none _) _ => (ck C a).v S x && (ck C lo).p S l && (ck C hi).p S h
    | _ => false)
  | .gix g k => .ofV fun S e => (match e with
    | .Subscript (.Name x _) y _ => nslice y && decide (C.gls[g]? = some x) && glB S x && (ck C k).v S y
    | _ => false)
  | .gin g n k => .ofT (fun S e => (match e with
    | .Compare y [op] [.Name x _] _ => copB (if n then .notin else .isin) op && decide (C.gls[g]? = some x) && glB S x && (ck C k).v S y
    | _ => false)) (fun S e => (match e with
    | .Compare y [op] [.Name x _] _ => copB (if n then .notin else .isin) op && decide (C.gls[g]? = some x) && glB S x && (ck C k).v S y
    | _ => false))
  | .dix ks vs k => .ofV fun S e => (match e with
    | .Subscript (.Dict es fs _) y _ => nslice y && ndS ks && keysB ks es && constsB vs fs && decide (es.length = fs.length) && decide (es.length ≤ 15) && !es.isEmpty && (ck C k).v S y
    | _ => false)
  | .call f as => .ofV fun S e => (match e with
    | .Call (.Name x _) es [] _ => decide (C.fns[f]? = some x) && glB S x && !es.isEmpty && (ck C as).r S es
    | _ => false)
  | .bi b as => .ofV fun S e => (match e, (biName b).2 with
    | .Call (.Name x _) [y] [] _, none => decide (x = ((biName b).1 : Str)) && glB S x && nstar y && (ck C as).r S [y]
    | .Call (.Name x _) [y, .Name T _] [] _, some t => decide (x = ((biName b).1 : Str)) && glB S x && nstar y && decide (T = (t : Str)) && glB S T && (ck C as).h S y
    | _, _ => false)
  | .me m o as => .ofV fun S e => (match e with
    | .Call (.Attribute x nm apos) [y] [] cpos => decide (nm = (meName m : Str)) && ncall0 x && nstar y && (apos.endLine == cpos.line) && (ck C o).v S x && (ck C as).r S [y]
    | _ => false)
  | .lc own t s c e => .ofV fun S x => (match x with
    | .ListComp el [⟨tg, it, ifs, 0⟩] scope _ => (match blkB C.N S.sc scope own with
      | some _ => nset it && t.vars.all (fun i => decide (i ∈ own)) && (ck C s).i S tg it && (ckT C.N t).v (relC S scope) tg && ifsB c (ck C c).t (relC S scope) ifs && (ck C e).v (relC S scope) el
      | none => false)
    | _ => false)
  | .lc2 own own2 t s c t2 s2 c2 e => .ofV fun S x => (match x with
    | .ListComp el [⟨tg, it, ifs, 0⟩, ⟨tg2, it2, ifs2, 0⟩] scope _ => (match blkB C.N S.sc scope own with
      | some _ => nset it && nset it2 && t.vars.all (fun i => decide (i ∈ own)) && t2.vars.all (fun i => decide (i ∈ own2)) && own2.all (fun i => decide (i ∈ own)) && (ck C s).i S tg it && (ckT C.N t).v (relC S scope) tg && ifsB c (ck C c).t (relC S scope) ifs
          && (ck C s2).i (relC S scope) tg2 it2 && (ckT C.N t2).v (relC S scope) tg2 && ifsB c2 (ck C c2).t (relC S scope) ifs2 && (ck C e).v (relC S scope) el
      | none => false)
    | _ => false)
  | .lr1 t a => .ofV fun S e => (match e with
    | .Call (.Name x _) [.Call (.Name z _) [y] [] _] [] _ => decide (x = ((if t then "tuple" else "list" : String) : Str)) && decide (z = ("range" : Str)) && glB S x && glB S z && nstar y && (ck C a).v S y
    | _ => false)
  | .lr2 t a b => .ofV fun S e => (match e with
    | .Call (.Name x _) [.Call (.Name z _) [y, u] [] _] [] _ => decide (x = ((if t then "tuple" else "list" : String) : Str)) && decide (z = ("range" : Str)) && glB S x && glB S z && nstar y && nstar u && (ck C a).v S y && (ck C b).v S u
    | _ => false)
  | .mm mx a b => .ofV fun S e => (match e with
    | .Call (.Name x _) [y, z] [] _ => decide (x = ((if mx then "max" else "min" : String) : Str)) && glB S x && nstar y && nstar z && (ck C a).v S y && (ck C b).v S z
    | _ => false)
  | .sset a => .ofV fun S e => (match e with
    | .Call (.Name x _) [.Call (.Name z _) [y] [] _] [] _ => decide (x = ("sorted" : Str)) && decide (z = ("set" : Str)) && glB S x && glB S z && nstar y && (ck C a).v S y
    | _ => false)
  | .lset a => .ofV fun S e => (match e with
    | .Call (.Name x _) [.Call (.Name z _) [y] [] _] [] _ => decide (x = ("len" : Str)) && decide (z = ("set" : Str)) && glB S x && glB S z && nstar y && (ck C a).v S y
    | _ => false)
  | .rng1 a => .ofI fun S _ e => (match e with
    | .Call (.Name x _) [y] [] _ => decide (x = ("range" : Str)) && glB S x && nstar y && (ck C a).v S y
    | _ => false)
  | .rng2 a b => .ofI fun S _ e => (match e with
    | .Call (.Name x _) [y, z] [] _ => decide (x = ("range" : Str)) && glB S x && nstar y && nstar z && (ck C a).v S y && (ck C b).v S z
    | _ => false)
  | .zip a b => .ofI fun S tg e => (match e with
    | .Call (.Name x _) [y, z] [] _ => decide (x = ("zip" : Str)) && glB S x && nstar y && nstar z && isTupE tg && (ck C a).v S y && (ck C b).v S z
    | _ => false)
  | .enum a => .ofI fun S tg e => (match e with
    | .Call (.Name x _) [y] [] _ => decide (x = ("enumerate" : Str)) && glB S x && nstar y && isTupE tg && (ck C a).v S y
    | _ => false)

/-! ### readings of rows, parts, walks, targets -/
inductive RWs (K : PySem.W.Frag) (β : List Addr) (E : Addr → Prop) (env : List Slot) (σ : St) (H : Hp) : List V → List R → Prop where
  | nil : RWs K β E env σ H [] []
  | cons {v : V} {vs : List V} {r : R} {rs : List R} : RW K β E env σ H v r → RWs K β E env σ H vs rs → RWs K β E env σ H (v :: vs) (r :: rs)
/-- E may change, what is not in it stays -/
def Grow (H : Hp) (E : Addr → Prop) (H2 : Hp) (E2 : Addr → Prop) : Prop := ∀ c o, ¬ E c → H c = some o → ¬ E2 c ∧ H2 c = some o
theorem Grow.refl {H : Hp} {E : Addr → Prop} : Grow H E H E := fun _ _ n e => ⟨n, e⟩
theorem Grow.trans {H H1 H2 : Hp} {E E1 E2 : Addr → Prop} (g : Grow H E H1 E1) (k : Grow H1 E1 H2 E2) : Grow H E H2 E2 := fun c o n e => k c o (g c o n e).1 (g c o n e).2
def Alloc (H H2 : Hp) : Prop := H2 = H ∨ ∃ T u, H T = none ∧ H2 = upd H T u
structure Walks (K : PySem.W.Frag) (J : It) (xs : List D) (H0 : Hp) (E0 : Addr → Prop) : Prop where
  ex : ∃ P : Hp → (Addr → Prop) → Prop, P H0 E0 ∧ (∀ H E H2 E2, P H E → Grow H E H2 E2 → P H2 E2) ∧ (∀ i H E, i < xs.length → P H E → J.go i H) ∧ (∀ H E, P H E → J.stop xs.length H) ∧
    ∀ i H E x H2, i < xs.length → P H E → J.yld i H x H2 → Alloc H H2 ∧ ∃ d, xs[i]? = some d ∧ ((∀ c, E c → ∃ o, H c = some o) → VR K H2 E x d)
/-- the own lists are as before -/
def OwnK (env : List Slot) (σ : St) (env' : List Slot) (σ' : St) : Prop := ∀ (i : Nat) (d : D), env'[i]? = some (Slot.own d) → env[i]? = some (Slot.own d) ∧ σ'[i]? = σ[i]?
theorem OwnK.refl {env : List Slot} {σ : St} : OwnK env σ env σ := fun _ _ e => ⟨e, rfl⟩
theorem OwnK.trans {env env1 env2 : List Slot} {σ σ1 σ2 : St} (h : OwnK env σ env1 σ1) (k : OwnK env1 σ1 env2 σ2) : OwnK env σ env2 σ2 := fun i d e => ⟨(h i d (k i d e).1).1, (k i d e).2.trans (h i d (k i d e).1).2⟩
section
variable (K : PySem.W.Frag) (xc : Nat → V → Prop) (xk : XK)
def TIr (m : List Slot → M (List R)) : TA := fun σ H Q => ∃ β E env b, SR K β E env b σ H ∧
  Out K xc xk β E H (fun rs b' => ∀ vs H', XPost K β E H b' H' → RWs K β E env σ H' vs rs → Q vs H') (m env b)
def TI1 (m : List Slot → M (List R)) : TE := fun σ H Q => ∃ β E env b, SR K β E env b σ H ∧
  Out K xc xk β E H (fun rs b' => ∀ v H' r, XPost K β E H b' H' → rs = [r] → RW K β E env σ H' v r → Q v H') (m env b)
def TIp (m : List Slot → M (Option Int)) : TO := fun σ H Q => ∃ β E env b, SR K β E env b σ H ∧
  Out K xc xk β E H (fun o b' => ∀ H', XPost K β E H b' H' → Q o H') (m env b)
def TIi (m : List Slot → M (List D)) : L2.TI := fun σ H R => ∃ β E env b, SR K β E env b σ H ∧
  Out K xc xk β E H (fun xs b' => ∀ J H', XPost K β E H b' H' → xs.length ≤ sizeLine → Walks K J xs H' E → R J H') (m env b)
def TIg (t : Tg) : TG := fun v σ H Q => ∃ β E env b d env', SR K β E env b σ H ∧ VR K H E v d ∧ setT t d env = some env' ∧
  ∀ σ', SR K β E env' b σ' H → (∀ vs : List Nat, (∀ i ∈ t.vars, i ∈ vs) → wipe σ' vs = wipe σ vs) → OwnK env σ env' σ' → Q σ' H
def TIgs (t : Tg) : TGs := fun vs σ H Q => ∃ β E env b ds env', SR K β E env b σ H ∧ VRs K H E vs ds ∧ setTs t ds env = some env' ∧
  ∀ σ', SR K β E env' b σ' H → (∀ vs : List Nat, (∀ i ∈ t.vars, i ∈ vs) → wipe σ' vs = wipe σ vs) → OwnK env σ env' σ' → Q σ' H
end

/-! ### functions, globals, the context -/
def AR (K : PySem.W.Frag) (β : List Addr) (E : Addr → Prop) (H : Hp) (v : V) : A → Prop
  | .val d => VR K H E v d
  | .bx n => ∃ a : Addr, β[n]? = some a ∧ v = V.ref a
inductive ARs (K : PySem.W.Frag) (β : List Addr) (E : Addr → Prop) (H : Hp) : List V → List A → Prop where
  | nil : ARs K β E H [] []
  | cons {v : V} {vs : List V} {a : A} {as : List A} : AR K β E H v a → ARs K β E H vs as → ARs K β E H (v :: vs) (a :: as)
/-- what a function promises -/
def spF (K : PySem.W.Frag) (xc : Nat → V → Prop) (np : Nat) (m : List A → M R) : Sp := fun vs H Q xk => vs.length = np ∧ ∃ β E b as, Bxs K β E b H ∧ ARs K β E H vs as ∧
  Out K xc xk β E H (fun r b' => ∀ v H', Post K β E [] [] H r b' v H' → Q v H') (m as b)
abbrev XF : XK := fun _ _ _ => False
structure FOk (κ : Kp) (xc : Nat → V → Prop) (CX : CXT) (lv : Nat) (X : Cx) (f : Nat) (x : Str) : Prop where
  ex : ∃ a fd ps, X.mg x = some (.ref a) ∧ PySem.W.keepIn X.K (.ref a) = true ∧ Binds X.K fd ps [] ∧ FnOk X.prog X.w X.K X.mg X.base CX lv a fd ps (spF X.K xc ps.length (κ.f f)) ∧ Room lv X.A ∧ ∀ as b, κ.f f as b ≠ .bad → as.length = ps.length
structure GOk (κ : Kp) (X : Cx) (g : Nat) (x : Str) : Prop where
  ex : ∃ a es n, X.mg x = some (.ref a) ∧ KDict X.K X.w a es n ∧ (∀ s d, lookD (κ.g g).1 (κ.g g).2 (.str s) = some d → ∃ u v, PySem.W.nsIn X.K a (strOf s) = some (some u) ∧ RelV v u ∧ ∀ H E, VR X.K H E v d) ∧
    (∀ s, lookD (κ.g g).1 (κ.g g).2 (.str s) = none → PySem.W.nsIn X.K a (strOf s) = some none) ∧ ∀ y, (∀ s, y ≠ .str s) → lookD (κ.g g).1 (κ.g g).2 y = none
def biNames : List Str := ["len", "tuple", "list", "all", "any", "sum", "abs", "int", "sorted", "isinstance", "bool", "str", "range", "zip", "enumerate", "min", "max", "set", "dict"]
structure Gd (C : Cfg) (κ : Kp) (xc : Nat → V → Prop) (CX : CXT) (lv : Nat) (X : Cx) (xk : XK) (S : SC) : Prop where
  calm : X.calm = true
  nd : X.N.Nodup
  N : X.N = C.N
  sc : X.env.scope = S.sc
  tg : ∀ x, tgB S x = true → Loc X.env.scope x ∧ (X.fn x = true ∨ X.env.scope.names.lookup x = some .local)
  un : X.A.units + 65 < cLine
  pass : Passes CX X xk
  never : ∀ st H s e s', CX st H s XF e s' → False
  bn : ∀ x ∈ biNames, X.mg x = none
  fns : ∀ (f : Nat) (x : Str), C.fns[f]? = some x → FOk κ xc CX lv X f x
  gls : ∀ (g : Nat) (x : Str), C.gls[g]? = some x → GOk κ X g x
section
variable {C : Cfg} {κ : Kp} {xc : Nat → V → Prop} {CX : CXT} {lv : Nat} {X : Cx} {xk : XK} {S : SC}
theorem Gd.blk (G : Gd C κ xc CX lv X xk S) (s : Shared) (H : Hp) (scope : Scope) (cl : List (Str × Addr)) (c : Addr) (fp : List Addr) : Gd C κ xc CX lv (X.blk s H scope (compEnvC scope cl c X.env) fp) XF (relC S scope) where
  calm := G.calm
  nd := G.nd
  N := G.N
  sc := by
    show relabel scope X.env = relS scope S.sc
    rw [← G.sc]; rfl
  tg := fun x h => by
    have e : (compEnvC scope cl c X.env).scope = relS scope S.sc := by
      show relabel scope X.env = relS scope S.sc
      rw [← G.sc]; rfl
    show Loc (compEnvC scope cl c X.env).scope x ∧ ((scope.names.lookup x == some .cell) = true ∨ (compEnvC scope cl c X.env).scope.names.lookup x = some .local)
    rw [e]
    unfold tgB at h
    simp only [relC] at h
    split at h
    · rename_i h1; exact ⟨.inl h1, .inr h1⟩
    · rename_i h1; exact ⟨.inr h1, .inl h⟩
    · cases h
  un := G.un
  pass := fun pins σ H s e s' _ q => (G.never _ _ _ _ _ q).elim
  never := G.never
  bn := G.bn
  fns := fun f x e => ⟨(G.fns f x e).ex⟩
  gls := fun g x e => ⟨(G.gls g x e).ex⟩
theorem Gd.gl (G : Gd C κ xc CX lv X xk S) {x : Str} (h : glB S x = true) : Gl X x ∧ (x == ("__debug__" : Str)) = false ∧ x ≠ "__name__" := by
  unfold glB dbgB at h
  simp only [Bool.and_eq_true, Bool.not_eq_true', beq_eq_false_iff_ne] at h
  obtain ⟨h1, ⟨h2, h3⟩, h4⟩ := h
  refine ⟨?_, beq_eq_false_iff_ne.mpr h2, h4⟩
  show X.env.scope.names.lookup x = some .globalImplicit
  rw [G.sc]
  split at h1
  · assumption
  · cases h1
theorem Gd.vis (G : Gd C κ xc CX lv X xk S) {x : Str} (h : visB S x = true) : Vis X.env.scope x ∧ (x == ("__debug__" : Str)) = false ∧ (x == ("__classdict__" : Str)) = false := by
  unfold visB dbgB at h
  simp only [Bool.and_eq_true, Bool.not_eq_true', beq_eq_false_iff_ne] at h
  obtain ⟨h1, ⟨h2, h3⟩, h4⟩ := h
  refine ⟨?_, beq_eq_false_iff_ne.mpr h2, beq_eq_false_iff_ne.mpr h3⟩
  unfold Vis
  rw [G.sc]
  split at h1
  · exact .inl (by assumption)
  · exact .inr (.inl (by assumption))
  · exact .inr (.inr (by assumption))
  · cases h1
end
end Sg

-- SgSnd
/-! SgSnd: expressions: what the checker passes runs as the small language says. -/
namespace Sg
open PySem PySem.Spec PyProof.Rows L2

section
variable {X : Cx} {tg : Expr} {pins : List (Addr × Obj)} {σ : St} {H1 : Hp} {s1 : Shared} {R : It → Hp → Prop}
theorem it_list {a : Addr} {xs : List V} (I1 : Inv X pins σ H1 s1) (hq : SqL X.K H1 a xs) (q : R (Itl X.K a) H1) : wpAny (model X.prog X.w) X.A (pyIter (.ref a)) (PIE X pins σ tg R) X.xe s1 := by
  obtain ⟨its, rv, p, hz⟩ := I1.list hq
  refine wpAny_pyIter_list p.isList ?_
  refine ⟨s1.heap.objs.size, [s1.heap.objs.size], _, _, H1, rfl, I1.kept (t' := s1.toks) fun b o e => Heap.get?_push_of_some _ e, turn_list a _, ⟨_, Heap.get?_push_size _ rfl, rfl, rfl⟩, fun b hb => ?_, q⟩
  have e : b = s1.heap.objs.size := by simpa using hb
  subst e
  exact I1.fpOk (Nat.le_refl _) (I1.hok.fresh (Nat.le_refl _))
theorem it_tup {a : Addr} {xs : List V} (I1 : Inv X pins σ H1 s1) (hq : SqT X.K H1 a xs) (q : R (Itt X.K a) H1) : wpAny (model X.prog X.w) X.A (pyIter (.ref a)) (PIE X pins σ tg R) X.xe s1 := by
  obtain ⟨its, rv, p, hz⟩ := I1.tuple hq
  refine wpAny_pyIter_tuple (show s1.heap.IsTuple a its.toArray from p) ?_
  refine ⟨s1.heap.objs.size, [s1.heap.objs.size], _, _, H1, rfl, I1.kept (t' := s1.toks) fun b o e => Heap.get?_push_of_some _ e, turn_tuple a _, ⟨_, Heap.get?_push_size _ rfl, rfl, rfl⟩, fun b hb => ?_, q⟩
  have e : b = s1.heap.objs.size := by simpa using hb
  subst e
  exact I1.fpOk (Nat.le_refl _) (I1.hok.fresh (Nat.le_refl _))
theorem it_str {x : Str} {t : Tok} (I1 : Inv X pins σ H1 s1) (q : R (Its x) H1) : wpAny (model X.prog X.w) X.A (pyIter (.str x t)) (PIE X pins σ tg R) X.xe s1 := by
  cases ha : x.cps.all (· < 128)
  · exact wpAny_pyIter_wide ha (pi_one (tk := s1.toks) I1 _ (turn_str _ x t "str_iterator" (.inr rfl)) ⟨_, Heap.get?_push_size _ rfl, rfl, rfl⟩ q)
  · exact wpAny_pyIter_ascii ha (pi_one (tk := s1.toks) I1 _ (turn_str _ x t "str_ascii_iterator" (.inl rfl)) ⟨_, Heap.get?_push_size _ rfl, rfl, rfl⟩ q)
end

/-! ### walks of data -/
section
variable {K : PySem.W.Frag} {H : Hp} {E : Addr → Prop}
theorem walks_list {a : Addr} {ws : List V} {xs : List D} (n : ¬ E a) (e : H a = some (.lst ws)) (r : VRs K H E ws xs) : Walks K (Itl K a) xs H E := by
  have hl := r.length
  refine ⟨fun H E => ¬ E a ∧ H a = some (.lst ws) ∧ VRs K H E ws xs, ⟨n, e, r⟩, fun H E H2 E2 ⟨n, e, r⟩ g => ⟨(g _ _ n e).1, (g _ _ n e).2, r.mono g⟩, fun i H E hi ⟨n, e, r⟩ => ?_, fun H E ⟨n, e, r⟩ => ?_, fun i H E x H2 hi ⟨n, e, r⟩ y => ?_⟩
  · exact walk_list.goes i H (by omega) (SqL.of e)
  · rw [← hl]; exact walk_list.stops H (SqL.of e)
  · obtain ⟨rfl, h2⟩ := walk_list.yields i H x H2 (by omega) (SqL.of e) y
    obtain ⟨d, h3, h4⟩ := r.get h2
    exact ⟨.inl rfl, d, h3, fun _ => h4⟩
theorem walks_tup {a : Addr} {ws : List V} {xs : List D} (n : ¬ E a) (e : TupAt H a ws) (r : VRs K H E ws xs) : Walks K (Itt K a) xs H E := by
  have hl := r.length
  refine ⟨fun H E => ¬ E a ∧ TupAt H a ws ∧ VRs K H E ws xs, ⟨n, e, r⟩, fun H E H2 E2 ⟨n, e, r⟩ g => ⟨let ⟨_, u⟩ := e.has; (g _ _ n u).1, e.up fun _ u => (g _ _ n u).2, r.mono g⟩, fun i H E hi ⟨n, e, r⟩ => ?_, fun H E ⟨n, e, r⟩ => ?_, fun i H E x H2 hi ⟨n, e, r⟩ y => ?_⟩
  · exact walk_tup.goes i H (by omega) (e.sq)
  · rw [← hl]; exact walk_tup.stops H (e.sq)
  · obtain ⟨rfl, h2⟩ := walk_tup.yields i H x H2 (by omega) (e.sq) y
    obtain ⟨d, h3, h4⟩ := r.get h2
    exact ⟨.inl rfl, d, h3, fun _ => h4⟩
theorem walks_scr {a : Addr} {ns : List Int} (h : ScrAt K H E a ns) : Walks K (Itl K a) (ns.map D.int) H E := by
  refine ⟨fun H E => ScrAt K H E a ns, h, fun H E H2 E2 h g H3 k => h H3 fun b o n e => k b o (g b o n e).1 (g b o n e).2, fun i H E hi h => ?_, fun H E h => ?_, fun i H E x H2 hi h y => ?_⟩
  · exact walk_list.goes i H (by simpa using hi) (h H fun _ _ _ e => e)
  · have := walk_list.stops H (h H fun _ _ _ e => e)
    simpa using this
  · obtain ⟨rfl, h2⟩ := walk_list.yields i H x H2 (by simpa using hi) (h H fun _ _ _ e => e) y
    rw [List.getElem?_map] at h2
    cases q : ns[i]? with
    | none => rw [q] at h2; cases h2
    | some n =>
      rw [q] at h2; cases h2
      exact ⟨.inl rfl, .int n, by rw [List.getElem?_map, q]; rfl, fun _ => .int n⟩
theorem walks_str {s : List Char} : Walks K (Its (strOf s)) (s.map fun c => D.str [c]) H E := by
  have hz : (strOf s).cps.size = s.length := strOf_len s
  refine ⟨fun _ _ => True, trivial, fun _ _ _ _ _ _ => trivial, fun i H E hi _ => ?_, fun H E _ => ?_, fun i H E x H2 hi _ y => ?_⟩
  · exact walk_str.goes i H (by rw [hz]; simpa using hi) trivial
  · have := (walk_str (z := strOf s)).stops H trivial
    rw [hz] at this
    simpa using this
  · obtain ⟨rfl, c, hc, rfl⟩ := (walk_str (z := strOf s)).yields i H x H2 (by rw [hz]; simpa using hi) trivial y
    have hc' : (s.map Char.toNat)[i]? = some c := by
      unfold strOf at hc
      simpa using hc
    rw [List.getElem?_map] at hc'
    cases q : s[i]? with
    | none => rw [q] at hc'; cases hc'
    | some ch =>
      rw [q] at hc'; cases hc'
      exact ⟨.inl rfl, .str [ch], by rw [List.getElem?_map, q]; rfl, fun _ => .str [ch]⟩
theorem walks_rng {lo hi : Int} : Walks K (Itr lo (hi - lo).toNat) (rngD lo hi) H E := by
  have hz : (rngD lo hi).length = (hi - lo).toNat := by simp [rngD]
  refine ⟨fun _ _ => True, trivial, fun _ _ _ _ _ _ => trivial, fun i H E hi _ => ?_, fun H E _ => ?_, fun i H E x H2 hi _ y => ?_⟩
  · exact walk_range.goes i H (by rw [← hz]; exact hi) trivial
  · rw [hz]; exact walk_range.stops H trivial
  · obtain ⟨rfl, rfl⟩ := walk_range.yields i H x H2 (by rw [← hz]; exact hi) trivial y
    refine ⟨.inl rfl, .int (lo + (i : Int)), ?_, fun _ => .int _⟩
    unfold rngD
    rw [List.getElem?_map, List.getElem?_range (by rw [← hz]; exact hi)]
    rfl
end

section
variable {X : Cx} {xc : Nat → V → Prop} {xk : XK} {e : Expr} {m : List Slot → M R}
/-! ### other uses of a value -/
theorem use_t (h : PE X e (TI X.K xc xk m)) (hp : plainT e = true) : PT X e (TIt X.K xc xk (Pk.tru m)) := by
  refine (pt_truth h (isTrue_plainT hp)).imp fun pins σ H Q s0 I ⟨β, E, env, b, s, h⟩ => ?_
  refine ti_step s h fun r b1 v H1 s1 t1 w h => ?_
  obtain ⟨d, p, h⟩ := out_get s1 w h
  cases q : truD d with
  | none => rw [q] at h; exact False.elim h
  | some k =>
    rw [q] at h
    exact ⟨k, tru_of p q, h H1 ⟨t1, s1.bx⟩⟩
theorem toI_of {α : Type} {K : PySem.W.Frag} {β : List Addr} {E : Addr → Prop} {env : List Slot} {σ : St} {H1 H : Hp} {v : V} {r : R} {k : Int → M α} {Q : α → List D → Prop} {b : List D} (w : RW K β E env σ H1 v r) (h : Out K xc xk β E H Q (M.bind (toI r) k b)) :
    ∃ i, v = .int i ∧ Out K xc xk β E H Q (k i b) := by
  cases r with
  | val d =>
    cases d <;> try (exact False.elim h)
    exact ⟨_, VR.intE w, h⟩
  | _ => exact False.elim h
theorem use_p (h : PE X e (TI X.K xc xk m)) : PO X (some e) (TIp X.K xc xk (Pk.prt m)) := by
  refine ⟨fun pins s0 σ H Q I ⟨β, E, env, b, s, hw⟩ => (po_some h).run pins s0 σ H Q I ?_⟩
  refine ti_step s hw fun r b1 v H1 s1 t1 w h => ?_
  obtain ⟨i, rfl, h⟩ := toI_of w h
  exact ⟨i, rfl, h H1 ⟨t1, s1.bx⟩⟩
theorem len_line {K : PySem.W.Frag} {X : Cx} {pins : List (Addr × Obj)} {σ : St} {H : Hp} {s : Shared} (I : Inv X pins σ H s) {a : Addr} {xs : List V} (h : SqL X.K H a xs) : xs.length ≤ sizeLine := by
  obtain ⟨_, _, _, z⟩ := I.list h
  exact z
theorem lenT_line {X : Cx} {pins : List (Addr × Obj)} {σ : St} {H : Hp} {s : Shared} (I : Inv X pins σ H s) {a : Addr} {xs : List V} (h : SqT X.K H a xs) : xs.length ≤ sizeLine := by
  obtain ⟨_, _, _, z⟩ := I.tuple h
  exact z
theorem use_i {tg : Expr} (h : PE X e (TI X.K xc xk m)) : PI X tg e (TIi X.K xc xk (Pk.itr m)) := by
  refine ⟨fun pins s0 σ H Rr I ⟨β, E, env, b, s, hw⟩ => ?_⟩
  have step : TI X.K xc xk m σ H fun v H1 => ∃ β E b1 d xs, SR X.K β E env b1 σ H1 ∧ VR X.K H1 E v d ∧ itD d = some xs ∧ ∀ J, xs.length ≤ sizeLine → Walks X.K J xs H1 E → Rr J H1 := by
    refine ti_step s hw fun r b1 v H1 s1 t1 w h => ?_
    obtain ⟨d, p, h⟩ := out_keep w h
    cases q : itD d with
    | none => rw [q] at h; exact False.elim h
    | some xs =>
      rw [q] at h
      exact ⟨β, E, b1, d, xs, s1, p, q, fun J => h J H1 ⟨t1, s1.bx⟩⟩
  refine thn (h.run pins s0 σ H _ I step) fun u s1 ⟨v, H1, I1, ru, β1, E1, b1, d, xs, sr, p, q, hR⟩ => ?_
  cases p with
  | str z =>
    obtain ⟨t, rfl⟩ := ru
    simp only [itD] at q
    split at q
    · rename_i hz
      cases q
      exact it_str I1 (hR _ (by rw [List.length_map]; exact Nat.le_trans hz LIM_line) walks_str)
    · cases q
  | tup n e r =>
    cases ru; cases q
    exact it_tup I1 e.sq (hR _ (by rw [← r.length]; exact lenT_line I1 e.sq) (walks_tup n e r))
  | lst n e r =>
    cases ru; cases q
    exact it_list I1 (SqL.of e) (hR _ (by rw [← r.length]; exact len_line (K := X.K) I1 (SqL.of e)) (walks_list n e r))
  | scr hs =>
    cases ru; cases q
    have e := hs H1 fun _ _ _ e => e
    exact it_list I1 e (hR _ (by have := len_line (K := X.K) I1 e; simpa using this) (walks_scr hs))
  | _ => cases q
end

/-! ### the induction's claim -/
section
variable {C : Cfg} {κ : Kp} {xc : Nat → V → Prop} {CX : CXT} {lv : Nat}
structure Snd1 (C : Cfg) (κ : Kp) (xc : Nat → V → Prop) (X : Cx) (xk : XK) (S : SC) (k : Ck) (pk : Pk) : Prop where
  v : ∀ e, k.v S e = true → PE X e (TI X.K xc xk pk.v)
  t : ∀ e, k.t S e = true → PT X e (TIt X.K xc xk pk.t)
  r : ∀ es, k.r S es = true → es.all nstar = true ∧ PA X es (TIr X.K xc xk pk.r)
  p : ∀ o, k.p S o = true → PO X o (TIp X.K xc xk pk.p)
  i : ∀ tg e, k.i S tg e = true → (∀ x, foldedSetIterable e X.env x = pure x) ∧ PI X tg e (TIi X.K xc xk pk.i)
  h : ∀ e, k.h S e = true → PE X e (TI1 X.K xc xk pk.r)
def Snd (C : Cfg) (κ : Kp) (xc : Nat → V → Prop) (CX : CXT) (lv : Nat) (ie : IE) : Prop := ∀ X xk S, Gd C κ xc CX lv X xk S → Snd1 C κ xc X xk S (ck C ie) (den κ ie)
theorem snd_ofV {X : Cx} {xk : XK} {S : SC} {kv : SC → Expr → Bool} {m : List Slot → M R} (h : ∀ e, kv S e = true → PE X e (TI X.K xc xk m)) : Snd1 C κ xc X xk S (Ck.ofV kv) (Pk.ofV m) where
  v := h
  t := fun e q => by
    simp only [Ck.ofV, Bool.and_eq_true] at q
    exact use_t (h e q.2) q.1
  r := fun es q => by cases q
  p := fun o q => by
    cases o with
    | none => cases q
    | some e => exact use_p (h e q)
  i := fun tg e q => by
    simp only [Ck.ofV, Bool.and_eq_true] at q
    exact ⟨nset_fold q.1, use_i (h e q.2)⟩
  h := fun e q => by cases q
theorem snd_ofT {X : Cx} {xk : XK} {S : SC} {kv kt : SC → Expr → Bool} {m : List Slot → M R} {t : List Slot → M Bool} (h : ∀ e, kv S e = true → PE X e (TI X.K xc xk m)) (ht : ∀ e, kt S e = true → PT X e (TIt X.K xc xk t)) : Snd1 C κ xc X xk S (Ck.ofT kv kt) (Pk.ofT m t) where
  v := h
  t := ht
  r := fun es q => by cases q
  p := fun o q => by
    cases o with
    | none => cases q
    | some e => exact use_p (h e q)
  i := fun tg e q => by
    simp only [Ck.ofT, Bool.and_eq_true] at q
    exact ⟨nset_fold q.1, use_i (h e q.2)⟩
  h := fun e q => by cases q
theorem snd_ofI {X : Cx} {xk : XK} {S : SC} {ki : SC → Expr → Expr → Bool} {m : List Slot → M (List D)} (h : ∀ tg e, ki S tg e = true → (∀ x, foldedSetIterable e X.env x = pure x) ∧ PI X tg e (TIi X.K xc xk m)) : Snd1 C κ xc X xk S (Ck.ofI ki) (Pk.ofI m) where
  v := fun e q => by cases q
  t := fun e q => by cases q
  r := fun es q => by cases q
  p := fun o q => by cases q
  i := h
  h := fun e q => by cases q

/-! ### constants and names -/
section
variable {X : Cx} {xk : XK} {S : SC}
theorem ti_const {v : V} {d : D} {σ : St} {H : Hp} {Q : VK} (hv : ∀ H E, VR X.K H E v d) (h : TI X.K xc xk (fun _ => M.pure (.val d)) σ H Q) : tC v σ H Q := by
  obtain ⟨β, E, env, b, s, h⟩ := h
  exact h v H (post_val Stab.refl s.bx (hv H E))
theorem const_ok {d : D} {e : Expr} (h : constB d e = true) : PE X e (TI X.K xc xk fun _ => M.pure (.val d)) := by
  unfold constB at h
  split at h
  · exact pe_non.imp fun _ _ _ _ _ _ => ti_const fun _ _ => .non
  · obtain rfl := eq_of_beq h
    exact pe_bl.imp fun _ _ _ _ _ _ => ti_const fun _ _ => .bl _
  · obtain rfl := of_decide_eq_true h
    exact pe_int.imp fun _ _ _ _ _ _ => ti_const fun _ _ => .int _
  · obtain rfl := of_decide_eq_true h
    exact pe_str.imp fun _ _ _ _ _ _ => ti_const fun _ _ => .str _
  · obtain rfl := of_decide_eq_true h
    refine (pe_un un_neg pe_int).imp fun _ σ H Q _ _ h => ?_
    exact ⟨_, rfl, ti_const (fun _ _ => .int _) h⟩
  · cases h
theorem snd_var (i : Nat) : Snd C κ xc CX lv (.var i) := fun X xk S G => snd_ofV fun e h => by
  split at h
  · rename_i x p
    simp only [Bool.and_eq_true, decide_eq_true_eq] at h
    obtain ⟨h1, h2⟩ := h
    obtain ⟨v1, v2, v3⟩ := G.vis h2
    refine (pe_var (i := i) (by rw [G.N]; exact h1) v1 v2 v3).imp fun _ σ H Q _ _ ⟨β, E, env, b, s, h⟩ => ?_
    obtain ⟨sl, e1, h⟩ := out_opt h
    have q := s.slots i sl e1
    cases sl with
    | no => exact False.elim h
    | val d =>
      obtain ⟨v, e2, r⟩ := q
      exact ⟨v, e2, h v H ⟨Stab.refl, s.bx, r⟩⟩
    | own d =>
      obtain ⟨a, e2, _⟩ := q
      exact ⟨.ref a, e2, h _ H ⟨Stab.refl, s.bx, i, a, e1, e2, rfl⟩⟩
    | bx n =>
      obtain ⟨a, e2, e3⟩ := q
      exact ⟨.ref a, e3, h _ H ⟨Stab.refl, s.bx, a, e2, rfl⟩⟩
  · cases h
/-! ### operators -/
/-- two operands, then a rule by values -/
theorem two_ok {ma mb : List Slot → M R} {g : D → D → Option R} {r2 : R2} {σ : St} {H : Hp} {Q : VK}
    (h2 : ∀ (β : List Addr) (E : Addr → Prop) (env : List Slot) (b b2 : List D) (σ : St) (H H2 : Hp) (x y : V) (dx dy : D) (r : R) (Q : VK),
      At2 X.K β E env b b2 σ H H2 → PV X.K H2 E x dx → PV X.K H2 E y dy → g dx dy = some r → (∀ v H', Post X.K β E env σ H r b2 v H' → Q v H') → r2 x y H2 Q)
    (h : TI X.K xc xk (fun env => M.bind (ma env) fun x => M.bind (mb env) fun y => M.bind x.get fun dx => M.bind y.get fun dy => M.opt (g dx dy)) σ H Q) : tOp r2 (TI X.K xc xk ma) (TI X.K xc xk mb) σ H Q := by
  obtain ⟨β, E, env, b, s, h⟩ := h
  refine ti_step s h fun rx b1 x H1 s1 t1 wx h => ?_
  refine ti_step s1 h fun ry b2 y H2 s2 t2 wy h => ?_
  have wx2 : RW X.K β E env σ H2 x rx := wx.mono (t2.vr s1.bx.inE)
  obtain ⟨dx, px, h⟩ := out_get s2 wx2 h
  obtain ⟨dy, py, h⟩ := out_get s2 wy h
  cases q : g dx dy with
  | none => rw [q] at h; exact False.elim h
  | some r =>
    rw [q] at h
    exact h2 β E env b b2 σ H H2 x y dx dy r Q ⟨s, t1.trans t2, s2.bx⟩ px py q h
theorem snd_bin {o : Bop} {a b : IE} (ha : Snd C κ xc CX lv a) (hb : Snd C κ xc CX lv b) : Snd C κ xc CX lv (.bin o a b) := fun X xk S G => snd_ofV fun e h => by
  split at h
  · simp only [Bool.and_eq_true] at h
    obtain ⟨⟨h1, h2⟩, h3⟩ := h
    obtain rfl := bopB_eq h1
    obtain ⟨r2, ho, hk⟩ := bin_ok (X := X) o
    exact (pe_op ho ((ha X xk S G).v _ h2) ((hb X xk S G).v _ h3)).imp fun _ σ H Q _ _ h => two_ok hk h
  · cases h
theorem snd_neg {a : IE} (ha : Snd C κ xc CX lv a) : Snd C κ xc CX lv (.neg a) := fun X xk S G => snd_ofV fun e h => by
  split at h
  · refine (pe_un un_neg ((ha X xk S G).v _ h)).imp fun _ σ H Q _ _ ⟨β, E, env, b, s, h⟩ => ?_
    refine ti_step s h fun r b1 v H1 s1 t1 w h => ?_
    obtain ⟨i, rfl, h⟩ := toI_of w h
    exact ⟨i, rfl, h _ H1 (post_val t1 s1.bx (.int _))⟩
  · cases h
theorem isBl_of {α : Type} {K : PySem.W.Frag} {β : List Addr} {E : Addr → Prop} {env : List Slot} {σ : St} {H1 H : Hp} {v : V} {r : R} {k : Bool → M α} {Q : α → List D → Prop} {b : List D} (w : RW K β E env σ H1 v r) (h : Out K xc xk β E H Q (M.bind (isBlT r) k b)) :
    ∃ i, v = .bl i ∧ Out K xc xk β E H Q (k i b) := by
  cases r with
  | val d =>
    cases d <;> try (exact False.elim h)
    exact ⟨_, VR.blE w, h⟩
  | _ => exact False.elim h
theorem snd_not {a : IE} (ha : Snd C κ xc CX lv a) : Snd C κ xc CX lv (.not a) := fun X xk S G => snd_ofT (fun e h => by
  split at h
  · refine (pe_not ((ha X xk S G).v _ h)).imp fun _ σ H Q _ _ ⟨β, E, env, b, s, h⟩ => ?_
    refine ti_step s h fun r b1 v H1 s1 t1 w h => ?_
    obtain ⟨i, rfl, h⟩ := isBl_of w h
    exact ⟨i, rfl, h _ H1 (post_val t1 s1.bx (.bl _))⟩
  · cases h) (fun e h => by
  split at h
  · refine (pt_not ((ha X xk S G).t _ h)).imp fun _ σ H Q _ _ ⟨β, E, env, b, s, h⟩ => ?_
    exact tt_step s h fun r b1 H1 s1 t1 h => h H1 ⟨t1, s1.bx⟩
  · cases h)
/-- a comparison, as a value and as a test -/
theorem cmp_two {ma mb : List Slot → M R} {o : Cop} {env : List Slot} : (M.bind (ma env) fun x => M.bind (mb env) fun y => M.bind x.get fun dx => M.bind y.get fun dy => M.bind (M.opt (cmpD o dx dy)) fun k => blR k) =
    (M.bind (ma env) fun x => M.bind (mb env) fun y => M.bind x.get fun dx => M.bind y.get fun dy => M.opt (cmpR o dx dy)) := by
  unfold cmpR
  congr; funext x; congr; funext y; congr; funext dx; congr; funext dy
  cases cmpD o dx dy <;> rfl
/-- a test from a value that is a bool -/
theorem test_of {m : List Slot → M R} {σ : St} {H : Hp} {Q : Bool → Hp → Prop} {t : TE} (hm : ∀ env b r b', m env b = .ok r b' → ∃ k, r = .val (.bl k)) (h : TIt X.K xc xk (Pk.tru m) σ H Q) (ht : ∀ Q : VK, TI X.K xc xk m σ H Q → t σ H Q) : tTest t σ H Q := by
  obtain ⟨β, E, env, b, s, h⟩ := h
  refine ht _ ⟨β, E, env, b, s, ?_⟩
  have h := out_bind h
  cases q : m env b with
  | bad => rw [q] at h; exact h
  | exn c b' => rw [q] at h; exact h
  | ok r b' =>
    rw [q] at h
    obtain ⟨k, rfl⟩ := hm env b r b' q
    intro v H' p
    have e : v = .bl k := VR.blE p.rv
    exact ⟨k, e, h H' ⟨p.stab, p.bx⟩⟩
theorem bl_ends {α : Type} {m : M α} {f : α → M R} {b b' : List D} {r : R} (hf : ∀ a b r b', f a b = .ok r b' → ∃ k, r = .val (.bl k)) (h : M.bind m f b = .ok r b') : ∃ k, r = .val (.bl k) := by
  unfold M.bind at h
  cases q : m b with
  | ok a b1 => rw [q] at h; exact hf _ _ _ _ h
  | exn c b1 => rw [q] at h; cases h
  | bad => rw [q] at h; cases h
theorem bl_end {k : Bool} {b b' : List D} {r : R} (h : blR k b = .ok r b') : ∃ k, r = .val (.bl k) := by
  cases h; exact ⟨k, rfl⟩
theorem cmp_key {o : Cop} {a b : IE} {X : Cx} {xk : XK} (σ : St) (H : Hp) (Q : VK) (r2 : R2) (hk : ∀ (β : List Addr) (E : Addr → Prop) (env : List Slot) (b b2 : List D) (σ : St) (H H2 : Hp) (x y : V) (dx dy : D) (r : R) (Q : VK),
      At2 X.K β E env b b2 σ H H2 → PV X.K H2 E x dx → PV X.K H2 E y dy → cmpR o dx dy = some r → (∀ v H', Post X.K β E env σ H r b2 v H' → Q v H') → r2 x y H2 Q)
      (h : TI X.K xc xk (den κ (.cmp o a b)).v σ H Q) : tOp r2 (TI X.K xc xk (den κ a).v) (TI X.K xc xk (den κ b).v) σ H Q := by
  refine two_ok hk ?_
  obtain ⟨β, E, env, bs, s, h⟩ := h
  refine ⟨β, E, env, bs, s, ?_⟩
  have e := congrFun (cmp_two (ma := (den κ a).v) (mb := (den κ b).v) (o := o) (env := env)) bs
  exact (congrArg (Out X.K xc xk β E H (fun r b' => ∀ v H', Post X.K β E env σ H r b' v H' → Q v H')) e).mp h
theorem cmp_bl {o : Cop} {a b : IE} (env : List Slot) (bs : List D) (r : R) (b' : List D) (h : (den κ (.cmp o a b)).v env bs = .ok r b') : ∃ k, r = .val (.bl k) :=
  bl_ends (fun _ _ _ _ h => bl_ends (fun _ _ _ _ h => bl_ends (fun _ _ _ _ h => bl_ends (fun _ _ _ _ h => bl_ends (fun _ _ _ _ h => bl_end h) h) h) h) h) h
theorem snd_cmp {o : Cop} {a b : IE} (ha : Snd C κ xc CX lv a) (hb : Snd C κ xc CX lv b) : Snd C κ xc CX lv (.cmp o a b) := fun X xk S G => snd_ofT (t := Pk.tru (den κ (.cmp o a b)).v) (m := (den κ (.cmp o a b)).v) (fun e h => by
  split at h
  · simp only [Bool.and_eq_true] at h
    obtain ⟨⟨⟨h1, h2⟩, h3⟩, h4⟩ := h
    obtain rfl := copB_eq h1
    obtain ⟨r2, ho, hk⟩ := cmp_ok G.un o
    exact (pe_cmpR ho ((ha X xk S G).v _ h3) ((hb X xk S G).v _ h4) (nset_mark h2)).imp fun _ σ H Q _ _ h => cmp_key σ H Q r2 hk h
  · cases h) (fun e h => by
  split at h
  · simp only [Bool.and_eq_true] at h
    obtain ⟨⟨⟨h1, h2⟩, h3⟩, h4⟩ := h
    obtain rfl := copB_eq h1
    obtain ⟨r2, ho, hk⟩ := cmp_ok G.un o
    refine (pt_cmpR ho ((ha X xk S G).v _ h3) ((hb X xk S G).v _ h4) (nset_mark h2)).imp fun _ σ H Q _ _ h => ?_
    exact test_of cmp_bl h fun Q h => cmp_key σ H Q r2 hk h
  · cases h)
end
end
end Sg

-- SgSnd2
/-! SgSnd2: expressions, further: chains, and, or, rows, displays, subscripts, calls. -/
namespace Sg
open PySem PySem.Spec PyProof.Rows L2
section
variable {C : Cfg} {κ : Kp} {xc : Nat → V → Prop} {CX : CXT} {lv : Nat}
theorem lm2 {op op' : CmpOp} {b c : Expr} (h : nset c = true) : lastMarks [op, op'] [b, c] = false := by
  show behindInMarks op' c = false
  exact nset_mark h
/-- a chain of two comparisons -/
theorem chain_key {o p : Cop} {a b c : IE} {X : Cx} {xk : XK} (σ : St) (H : Hp) (Q : VK) (r r' : R2)
    (hk : ∀ (β : List Addr) (E : Addr → Prop) (env : List Slot) (b b2 : List D) (σ : St) (H H2 : Hp) (x y : V) (dx dy : D) (r1 : R) (Q : VK),
      At2 X.K β E env b b2 σ H H2 → PV X.K H2 E x dx → PV X.K H2 E y dy → cmpR o dx dy = some r1 → (∀ v H', Post X.K β E env σ H r1 b2 v H' → Q v H') → r x y H2 Q)
    (hk' : ∀ (β : List Addr) (E : Addr → Prop) (env : List Slot) (b b2 : List D) (σ : St) (H H2 : Hp) (x y : V) (dx dy : D) (r1 : R) (Q : VK),
      At2 X.K β E env b b2 σ H H2 → PV X.K H2 E x dx → PV X.K H2 E y dy → cmpR p dx dy = some r1 → (∀ v H', Post X.K β E env σ H r1 b2 v H' → Q v H') → r' x y H2 Q)
    (h : TI X.K xc xk (den κ (.cmp3 o p a b c)).v σ H Q) : tChain r r' (TI X.K xc xk (den κ a).v) (TI X.K xc xk (den κ b).v) (TI X.K xc xk (den κ c).v) σ H Q := by
  obtain ⟨β, E, env, bs, s, h⟩ := h
  refine ti_step s h fun rx b1 x H1 s1 t1 wx h => ?_
  refine ti_step s1 h fun ry b2 y H2 s2 t2 wy h => ?_
  have wx2 : RW X.K β E env σ H2 x rx := wx.mono (t2.vr s1.bx.inE)
  obtain ⟨dx, px, h⟩ := out_get s2 wx2 h
  obtain ⟨dy, py, h⟩ := out_get s2 wy h
  obtain ⟨k, ek, h⟩ := out_opt h
  refine hk β E env b2 b2 σ H2 H2 x y dx dy (.val (.bl k)) _ ⟨s2, Stab.refl, s2.bx⟩ px py (by unfold cmpR; rw [ek]; rfl) fun v H3 pz => ?_
  have ev : v = .bl k := VR.blE pz.rv
  have s3 : SR X.K β E env b2 σ H3 := pz.sr0 s2
  have t3 : Stab β H H3 := (t1.trans t2).trans pz.stab
  refine ⟨k, ev, ?_⟩
  cases k with
  | false =>
    rw [if_neg (by decide)]
    exact h _ H3 (post_val t3 s3.bx (.bl _))
  | true =>
    rw [if_pos rfl]
    rw [if_pos rfl] at h
    have h : Out X.K xc xk β E H3 _ _ := h.stab pz.stab
    refine ti_step s3 h fun rz b4 z H4 s4 t4 wz h => ?_
    have wy4 : RW X.K β E env σ H4 y ry := (wy.mono (pz.stab.vr s2.bx.inE)).mono (t4.vr s3.bx.inE)
    obtain ⟨dy2, py2, h⟩ := out_get s4 wy4 h
    obtain ⟨dz, pz2, h⟩ := out_get s4 wz h
    obtain ⟨k2, ek2, h⟩ := out_opt h
    exact hk' β E env b4 b4 σ H4 H4 y z dy2 dz (.val (.bl k2)) _ ⟨s4, Stab.refl, s4.bx⟩ py2 pz2 (by unfold cmpR; rw [ek2]; rfl) fun v H5 pv => h v H5 ⟨(t3.trans t4).trans pv.stab, pv.bx, pv.rv⟩
theorem bl_if {k : Bool} {m1 m2 : M R} {b b' : List D} {r : R} (h1 : ∀ b r b', m1 b = .ok r b' → ∃ k, r = .val (.bl k)) (h2 : ∀ b r b', m2 b = .ok r b' → ∃ k, r = .val (.bl k)) (h : (if k = true then m1 else m2) b = .ok r b') : ∃ k, r = .val (.bl k) := by
  cases k
  · rw [if_neg (by decide)] at h; exact h2 _ _ _ h
  · rw [if_pos rfl] at h; exact h1 _ _ _ h
theorem chain_bl {o p : Cop} {a b c : IE} (env : List Slot) (bs : List D) (r : R) (b' : List D) (h : (den κ (.cmp3 o p a b c)).v env bs = .ok r b') : ∃ k, r = .val (.bl k) :=
  bl_ends (fun _ _ _ _ h => bl_ends (fun _ _ _ _ h => bl_ends (fun _ _ _ _ h => bl_ends (fun _ _ _ _ h => bl_ends (fun _ _ _ _ h => bl_if
    (fun _ _ _ h => bl_ends (fun _ _ _ _ h => bl_ends (fun _ _ _ _ h => bl_ends (fun _ _ _ _ h => bl_ends (fun _ _ _ _ h => bl_end h) h) h) h) h) (fun _ _ _ h => bl_end h) h) h) h) h) h) h
theorem snd_cmp3 {o p : Cop} {a b c : IE} (ha : Snd C κ xc CX lv a) (hb : Snd C κ xc CX lv b) (hc : Snd C κ xc CX lv c) : Snd C κ xc CX lv (.cmp3 o p a b c) := fun X xk S G =>
  snd_ofT (t := Pk.tru (den κ (.cmp3 o p a b c)).v) (m := (den κ (.cmp3 o p a b c)).v) (fun e h => by
  split at h
  · simp only [Bool.and_eq_true] at h
    obtain ⟨⟨⟨⟨⟨h1, h2⟩, h3⟩, h4⟩, h5⟩, h6⟩ := h
    obtain rfl := copB_eq h1
    obtain rfl := copB_eq h2
    obtain ⟨r2, ho, hk⟩ := cmp_ok G.un o
    obtain ⟨r2', ho', hk'⟩ := cmp_ok G.un p
    exact (pe_chain ho ho' ((ha X xk S G).v _ h4) ((hb X xk S G).v _ h5) ((hc X xk S G).v _ h6) (lm2 h3)).imp fun _ σ H Q _ _ h => chain_key σ H Q r2 r2' hk hk' h
  · cases h) (fun e h => by
  split at h
  · simp only [Bool.and_eq_true] at h
    obtain ⟨⟨⟨⟨⟨h1, h2⟩, h3⟩, h4⟩, h5⟩, h6⟩ := h
    obtain rfl := copB_eq h1
    obtain rfl := copB_eq h2
    obtain ⟨r2, ho, hk⟩ := cmp_ok G.un o
    obtain ⟨r2', ho', hk'⟩ := cmp_ok G.un p
    refine (pt_chain ho ho' ((ha X xk S G).v _ h4) ((hb X xk S G).v _ h5) ((hc X xk S G).v _ h6) (lm2 h3)).imp fun _ σ H Q _ _ h => ?_
    exact test_of chain_bl h fun Q h => chain_key σ H Q r2 r2' hk hk' h
  · cases h)

/-! ### and, or, if -/
theorem and_v {a b : IE} {X : Cx} {xk : XK} {σ : St} {H : Hp} {Q : VK} (h : TI X.K xc xk (den κ (.and a b)).v σ H Q) : tAndV (TI X.K xc xk (den κ a).v) (TI X.K xc xk (den κ b).v) σ H Q := by
  obtain ⟨β, E, env, bs, s, h⟩ := h
  refine ti_step s h fun r b1 v H1 s1 t1 w h => ?_
  obtain ⟨k, rfl, h⟩ := isBl_of w h
  refine ⟨k, rfl, ?_⟩
  cases k with
  | false =>
    rw [if_neg (by decide)]
    exact h _ H1 (post_val t1 s1.bx (.bl _))
  | true =>
    rw [if_pos rfl]
    rw [if_pos rfl] at h
    refine ⟨β, E, env, b1, s1, h.mono fun r b2 q v H2 p => q v H2 ?_⟩
    refine ⟨t1.trans p.stab, p.bx, ?_⟩
    have rv := p.rv
    cases r with
    | fr d =>
      obtain ⟨c, e1, e2, e3⟩ := rv
      exact ⟨c, e1, new_of s t1 s1.bx e2, e3⟩
    | _ => exact rv
theorem post_from {K : PySem.W.Frag} {β : List Addr} {E : Addr → Prop} {env : List Slot} {b b1 b2 : List D} {σ : St} {H H1 H2 : Hp} {v : V} {r : R} (s : SR K β E env b σ H) (t1 : Stab β H H1) (s1 : SR K β E env b1 σ H1) (p : Post K β E env σ H1 r b2 v H2) : Post K β E env σ H r b2 v H2 := by
  refine ⟨t1.trans p.stab, p.bx, ?_⟩
  have rv := p.rv
  cases r with
  | fr d =>
    obtain ⟨c, e1, e2, e3⟩ := rv
    exact ⟨c, e1, new_of s t1 s1.bx e2, e3⟩
  | _ => exact rv
theorem or_v {a b : IE} {X : Cx} {xk : XK} {σ : St} {H : Hp} {Q : VK} (h : TI X.K xc xk (den κ (.or a b)).v σ H Q) : tOrV (TI X.K xc xk (den κ a).v) (TI X.K xc xk (den κ b).v) σ H Q := by
  obtain ⟨β, E, env, bs, s, h⟩ := h
  refine ti_step s h fun r b1 v H1 s1 t1 w h => ?_
  obtain ⟨k, rfl, h⟩ := isBl_of w h
  refine ⟨k, rfl, ?_⟩
  cases k with
  | true =>
    rw [if_pos rfl]
    exact h _ H1 (post_val t1 s1.bx (.bl _))
  | false =>
    rw [if_neg (by decide)]
    rw [if_neg (by decide)] at h
    exact ⟨β, E, env, b1, s1, h.mono fun r b2 q v H2 p => q v H2 (post_from s t1 s1 p)⟩
theorem and_t {a b : IE} {X : Cx} {xk : XK} {σ : St} {H : Hp} {Q : Bool → Hp → Prop} (h : TIt X.K xc xk (den κ (.and a b)).t σ H Q) : tAnd (TIt X.K xc xk (den κ a).t) (TIt X.K xc xk (den κ b).t) σ H Q := by
  obtain ⟨β, E, env, bs, s, h⟩ := h
  refine tt_step s h fun k b1 H1 s1 t1 h => ?_
  cases k with
  | false => rw [if_neg (by decide)]; exact h H1 ⟨t1, s1.bx⟩
  | true =>
    rw [if_pos rfl]
    rw [if_pos rfl] at h
    exact ⟨β, E, env, b1, s1, h.mono fun k b2 q H2 p => q H2 ⟨t1.trans p.stab, p.bx⟩⟩
theorem or_t {a b : IE} {X : Cx} {xk : XK} {σ : St} {H : Hp} {Q : Bool → Hp → Prop} (h : TIt X.K xc xk (den κ (.or a b)).t σ H Q) : tOr (TIt X.K xc xk (den κ a).t) (TIt X.K xc xk (den κ b).t) σ H Q := by
  obtain ⟨β, E, env, bs, s, h⟩ := h
  refine tt_step s h fun k b1 H1 s1 t1 h => ?_
  cases k with
  | true => rw [if_pos rfl]; exact h H1 ⟨t1, s1.bx⟩
  | false =>
    rw [if_neg (by decide)]
    rw [if_neg (by decide)] at h
    exact ⟨β, E, env, b1, s1, h.mono fun k b2 q H2 p => q H2 ⟨t1.trans p.stab, p.bx⟩⟩
theorem PT.pw {X : Cx} {op : PySem.BoolOp} {x y : Expr} {r : List Expr} {p : Pos} {t : TT} (h : PT X (.BoolOp op (x :: y :: r) p) t) : PW X (.BoolOp op (x :: y :: r) p) t := ⟨fun wh => h.run⟩
theorem snd_and {a b : IE} (ha : Snd C κ xc CX lv a) (hb : Snd C κ xc CX lv b) : Snd C κ xc CX lv (.and a b) := fun X xk S G => snd_ofT (fun e h => by
  split at h
  · simp only [Bool.and_eq_true] at h
    exact (pe_and ((ha X xk S G).v _ h.1) (pe_one ((hb X xk S G).v _ h.2))).imp fun _ σ H Q _ _ h => and_v h
  · simp only [Bool.and_eq_true] at h
    exact (pe_and ((ha X xk S G).v _ h.1) ((hb X xk S G).v _ h.2)).imp fun _ σ H Q _ _ h => and_v h
  · cases h) (fun e h => by
  split at h
  · simp only [Bool.and_eq_true] at h
    exact (PW.pt (pw_and ((ha X xk S G).t _ h.1) (pw_and1 ((hb X xk S G).t _ h.2)))).imp fun _ σ H Q _ _ h => and_t h
  · simp only [Bool.and_eq_true] at h
    exact (PW.pt (pw_and ((ha X xk S G).t _ h.1) (PT.pw ((hb X xk S G).t _ h.2)))).imp fun _ σ H Q _ _ h => and_t h
  · cases h)
theorem snd_or {a b : IE} (ha : Snd C κ xc CX lv a) (hb : Snd C κ xc CX lv b) : Snd C κ xc CX lv (.or a b) := fun X xk S G => snd_ofT (fun e h => by
  split at h
  · simp only [Bool.and_eq_true] at h
    exact (pe_or ((ha X xk S G).v _ h.1) (pe_one ((hb X xk S G).v _ h.2))).imp fun _ σ H Q _ _ h => or_v h
  · simp only [Bool.and_eq_true] at h
    exact (pe_or ((ha X xk S G).v _ h.1) ((hb X xk S G).v _ h.2)).imp fun _ σ H Q _ _ h => or_v h
  · cases h) (fun e h => by
  split at h
  · simp only [Bool.and_eq_true] at h
    exact (PW.pt (pw_or ((ha X xk S G).t _ h.1) (pw_or1 ((hb X xk S G).t _ h.2)))).imp fun _ σ H Q _ _ h => or_t h
  · simp only [Bool.and_eq_true] at h
    exact (PW.pt (pw_or ((ha X xk S G).t _ h.1) (PT.pw ((hb X xk S G).t _ h.2)))).imp fun _ σ H Q _ _ h => or_t h
  · cases h)
theorem snd_ite {c a b : IE} (hc : Snd C κ xc CX lv c) (ha : Snd C κ xc CX lv a) (hb : Snd C κ xc CX lv b) : Snd C κ xc CX lv (.ite c a b) := fun X xk S G => snd_ofV fun e h => by
  split at h
  · simp only [Bool.and_eq_true] at h
    refine (pe_ifExp ((hc X xk S G).t _ h.1.1) ((ha X xk S G).v _ h.1.2) ((hb X xk S G).v _ h.2)).imp fun _ σ H Q _ _ ⟨β, E, env, bs, s, h⟩ => ?_
    refine tt_step s h fun k b1 H1 s1 t1 h => ?_
    cases k with
    | true =>
      rw [if_pos rfl]
      rw [if_pos rfl] at h
      exact ⟨β, E, env, b1, s1, h.mono fun r b2 q v H2 p => q v H2 (post_from s t1 s1 p)⟩
    | false =>
      rw [if_neg (by decide)]
      rw [if_neg (by decide)] at h
      exact ⟨β, E, env, b1, s1, h.mono fun r b2 q v H2 p => q v H2 (post_from s t1 s1 p)⟩
  · cases h
theorem snd_bl (b : Bool) : Snd C κ xc CX lv (.bl b) := fun X xk S G => snd_ofT (fun e h => const_ok h) (fun e h => by
  have pv : PE X e (TI X.K xc xk fun _ => M.pure (.val (.bl b))) := const_ok h
  have hp : plainT e = true := by
    unfold constB at h
    split at h <;> first | rfl | cases h
  refine (use_t pv hp).imp fun _ σ H Q _ _ ⟨β, E, env, bs, s, h⟩ => ⟨β, E, env, bs, s, h⟩)

/-! ### rows -/
theorem RWs.mono {K : PySem.W.Frag} {β : List Addr} {E : Addr → Prop} {env : List Slot} {σ : St} {H H' : Hp} (m : ∀ b o, ¬ E b → H b = some o → ¬ E b ∧ H' b = some o) : ∀ {vs : List V} {rs : List R}, RWs K β E env σ H vs rs → RWs K β E env σ H' vs rs
  | _, _, .nil => .nil
  | _, _, .cons a r => .cons (a.mono m) (RWs.mono m r)
theorem snd_nil : Snd C κ xc CX lv .nil := fun X xk S G => {
  v := fun e q => by cases q
  t := fun e q => by cases q
  r := fun es q => by
    cases es with
    | cons _ _ => cases q
    | nil =>
      refine ⟨rfl, ⟨fun pos pins s0 σ H Q I ⟨β, E, env, bs, s, h⟩ => pa_nil.run pos pins s0 σ H Q I ?_⟩⟩
      exact h [] H ⟨Stab.refl, s.bx⟩ .nil
  p := fun o q => by
    cases o with
    | some _ => cases q
    | none => exact ⟨fun pins s0 σ H Q I ⟨β, E, env, bs, s, h⟩ => po_none.run pins s0 σ H Q I (h H ⟨Stab.refl, s.bx⟩)⟩
  i := fun tg e q => by cases q
  h := fun e q => by cases q }
theorem snd_cons {a r : IE} (ha : Snd C κ xc CX lv a) (hr : Snd C κ xc CX lv r) : Snd C κ xc CX lv (.cons a r) := fun X xk S G => {
  v := fun e q => by cases q
  t := fun e q => by cases q
  r := fun es q => by
    cases es with
    | nil => cases q
    | cons e es =>
      simp only [ck, Bool.and_eq_true] at q
      obtain ⟨⟨h1, h2⟩, h3⟩ := q
      obtain ⟨h4, h5⟩ := (hr X xk S G).r es h3
      refine ⟨by simp only [List.all_cons, Bool.and_eq_true]; exact ⟨h1, h4⟩, ⟨fun pos pins s0 σ H Q I ⟨β, E, env, bs, s, h⟩ => (pa_cons ((ha X xk S G).v e h2) h5 (starEach_ns h1)).run pos pins s0 σ H Q I ?_⟩⟩
      refine ti_step s h fun rx b1 v H1 s1 t1 w h => ?_
      refine ⟨β, E, env, b1, s1, (out_bind h).mono fun rs b2 q vs H2 p ws => ?_⟩
      exact q (v :: vs) H2 ⟨t1.trans p.stab, p.bx⟩ (.cons (w.mono (p.stab.vr s1.bx.inE)) ws)
  p := fun o q => by cases o <;> cases q
  i := fun tg e q => by cases q
  h := fun e q => by
    simp only [ck, Bool.and_eq_true] at q
    cases r <;> try (exact absurd (show false = true from q.2) (by decide))
    refine ((ha X xk S G).v e q.1).imp fun _ σ H Q _ _ ⟨β, E, env, bs, s, h⟩ => ?_
    refine ti_step s h fun rx b1 v H1 s1 t1 w h => ?_
    exact h v H1 rx ⟨t1, s1.bx⟩ rfl w }
/-- behind a row -/
theorem tr_step {α : Type} {X : Cx} {xk : XK} {β : List Addr} {E : Addr → Prop} {env : List Slot} {b : List D} {σ : St} {H : Hp} {m : List Slot → M (List R)} {k : List R → M α} {Q : α → List D → Prop} {P : List V → Hp → Prop} (s : SR X.K β E env b σ H) (h : Out X.K xc xk β E H Q (M.bind (m env) k b))
    (hk : ∀ rs b1 vs H1, SR X.K β E env b1 σ H1 → Stab β H H1 → RWs X.K β E env σ H1 vs rs → Out X.K xc xk β E H1 Q (k rs b1) → P vs H1) : TIr X.K xc xk m σ H P :=
  ⟨β, E, env, b, s, (out_bind h).mono fun rs b1 q vs H1 p w => hk rs b1 vs H1 (p.sr s) p.stab w (q.stab p.stab)⟩
theorem out_keeps {α : Type} {K : PySem.W.Frag} {xk : XK} {β : List Addr} {E : Addr → Prop} {env : List Slot} {σ : St} {H H2 : Hp} : ∀ {rs : List R} {vs : List V} {k : List D → M α} {Q : α → List D → Prop} {b : List D}, RWs K β E env σ H2 vs rs → Out K xc xk β E H Q (M.bind (keeps rs) k b) → ∃ ds, VRs K H2 E vs ds ∧ Out K xc xk β E H Q (k ds b)
  | _, _, k, Q, b, .nil, h => ⟨[], .nil, h⟩
  | _, _, k, Q, b, .cons (r := r) (rs := rs) a w, h => by
    have e : ∀ (m1 : M D) (m2 : M (List D)), M.bind (M.bind m1 fun d => M.bind m2 fun ds => M.pure (d :: ds)) k = M.bind m1 fun d => M.bind m2 fun ds => k (d :: ds) := by
      intro m1 m2
      funext b
      unfold M.bind M.pure
      cases m1 b with
      | ok d b1 => simp only; cases m2 b1 <;> rfl
      | exn c b1 => rfl
      | bad => rfl
    have h : Out K xc xk β E H Q (M.bind (M.bind r.keep fun d => M.bind (keeps rs) fun ds => M.pure (d :: ds)) k b) := h
    rw [e] at h
    obtain ⟨d, p, h⟩ := out_keep a h
    obtain ⟨ds, ps, h⟩ := out_keeps w h
    exact ⟨d :: ds, .cons p ps, h⟩
theorem out_gets {α : Type} {K : PySem.W.Frag} {xk : XK} {β : List Addr} {E : Addr → Prop} {env : List Slot} {σ : St} {H H2 : Hp} : ∀ {rs : List R} {vs : List V} {k : List D → M α} {Q : α → List D → Prop} {b : List D}, SR K β E env b σ H2 → RWs K β E env σ H2 vs rs → Out K xc xk β E H Q (M.bind (gets rs) k b) → ∃ ds, PVs K H2 E vs ds ∧ Out K xc xk β E H Q (k ds b)
  | _, _, k, Q, b, s, .nil, h => ⟨[], .nil, h⟩
  | _, _, k, Q, b, s, .cons (r := r) (rs := rs) a w, h => by
    have e : ∀ (m1 : M D) (m2 : M (List D)), M.bind (M.bind m1 fun d => M.bind m2 fun ds => M.pure (d :: ds)) k = M.bind m1 fun d => M.bind m2 fun ds => k (d :: ds) := by
      intro m1 m2
      funext b
      unfold M.bind M.pure
      cases m1 b with
      | ok d b1 => simp only; cases m2 b1 <;> rfl
      | exn c b1 => rfl
      | bad => rfl
    have h : Out K xc xk β E H Q (M.bind (M.bind r.get fun d => M.bind (gets rs) fun ds => M.pure (d :: ds)) k b) := h
    rw [e] at h
    obtain ⟨d, p, h⟩ := out_get s a h
    obtain ⟨ds, ps, h⟩ := out_gets s w h
    exact ⟨d :: ds, .cons p ps, h⟩
theorem out_args {α : Type} {K : PySem.W.Frag} {xk : XK} {β : List Addr} {E : Addr → Prop} {env : List Slot} {σ : St} {H H2 : Hp} : ∀ {rs : List R} {vs : List V} {k : List A → M α} {Q : α → List D → Prop} {b : List D}, RWs K β E env σ H2 vs rs → Out K xc xk β E H Q (M.bind (argsOf rs) k b) → ∃ as, ARs K β E H2 vs as ∧ Out K xc xk β E H Q (k as b)
  | _, _, k, Q, b, .nil, h => ⟨[], .nil, h⟩
  | _, _, k, Q, b, .cons (r := r) (rs := rs) a w, h => by
    have e : ∀ (m1 : M A) (m2 : M (List A)), M.bind (M.bind m1 fun d => M.bind m2 fun ds => M.pure (d :: ds)) k = M.bind m1 fun d => M.bind m2 fun ds => k (d :: ds) := by
      intro m1 m2
      funext b
      unfold M.bind M.pure
      cases m1 b with
      | ok d b1 => simp only; cases m2 b1 <;> rfl
      | exn c b1 => rfl
      | bad => rfl
    have h : Out K xc xk β E H Q (M.bind (M.bind r.arg fun d => M.bind (argsOf rs) fun ds => M.pure (d :: ds)) k b) := h
    rw [e] at h
    cases r with
    | val d =>
      obtain ⟨as, ps, h⟩ := out_args w h
      exact ⟨.val d :: as, .cons a ps, h⟩
    | fr d =>
      obtain ⟨as, ps, h⟩ := out_args w h
      exact ⟨.val d :: as, .cons a ps, h⟩
    | own d => exact False.elim h
    | bx n =>
      obtain ⟨as, ps, h⟩ := out_args w h
      exact ⟨.bx n :: as, .cons a ps, h⟩
/-! ### displays -/

theorem bind_ok {α β : Type} {m : M α} {k : α → M β} {b b' : List D} {r : β} (h : M.bind m k b = .ok r b') : ∃ a b1, m b = .ok a b1 ∧ k a b1 = .ok r b' := by
  unfold M.bind at h
  cases q : m b with
  | ok a b1 => rw [q] at h; exact ⟨a, b1, rfl, h⟩
  | exn c b1 => rw [q] at h; cases h
  | bad => rw [q] at h; cases h
theorem den_len : ∀ (as : IE) {env : List Slot} {b b' : List D} {rs : List R}, (den κ as).r env b = .ok rs b' → rs.length = as.len
  | .nil, env, b, b', rs, h => by cases h; rfl
  | .cons a r, env, b, b', rs, h => by
    obtain ⟨x, b1, _, h⟩ := bind_ok h
    obtain ⟨xs, b2, h2, h⟩ := bind_ok h
    cases h
    have := den_len r h2
    simp [IE.len, this]
  | .non, _, _, _, _, h => by cases h
  | .bl _, _, _, _, _, h => by cases h
  | .int _, _, _, _, _, h => by cases h
  | .str _, _, _, _, _, h => by cases h
  | .var _, _, _, _, _, h => by cases h
  | .bin _ _ _, _, _, _, _, h => by cases h
  | .not _, _, _, _, _, h => by cases h
  | .neg _, _, _, _, _, h => by cases h
  | .cmp _ _ _, _, _, _, _, h => by cases h
  | .cmp3 _ _ _ _ _, _, _, _, _, h => by cases h
  | .and _ _, _, _, _, _, h => by cases h
  | .or _ _, _, _, _, _, h => by cases h
  | .ite _ _ _, _, _, _, _, h => by cases h
  | .tup _, _, _, _, _, h => by cases h
  | .lst _, _, _, _, _, h => by cases h
  | .idx _ _, _, _, _, _, h => by cases h
  | .slc _ _ _, _, _, _, _, h => by cases h
  | .gix _ _, _, _, _, _, h => by cases h
  | .gin _ _ _, _, _, _, _, h => by cases h
  | .dix _ _ _, _, _, _, _, h => by cases h
  | .call _ _, _, _, _, _, h => by cases h
  | .bi _ _, _, _, _, _, h => by cases h
  | .me _ _ _, _, _, _, _, h => by cases h
  | .lc _ _ _ _ _, _, _, _, _, h => by cases h
  | .lc2 _ _ _ _ _ _ _ _ _, _, _, _, _, h => by cases h
  | .rng1 _, _, _, _, _, h => by cases h
  | .rng2 _ _, _, _, _, _, h => by cases h
  | .zip _ _, _, _, _, _, h => by cases h
  | .enum _, _, _, _, _, h => by cases h
  | .lr1 _ _, _, _, _, _, h => by cases h
  | .lr2 _ _ _, _, _, _, _, h => by cases h
  | .mm _ _ _, _, _, _, _, h => by cases h
  | .sset _, _, _, _, _, h => by cases h
  | .lset _, _, _, _, _, h => by cases h
/-- behind a row, its length known -/
theorem tr_stepE {α : Type} {X : Cx} {xk : XK} {β : List Addr} {E : Addr → Prop} {env : List Slot} {b : List D} {σ : St} {H : Hp} {as : IE} {k : List R → M α} {Q : α → List D → Prop} {P : List V → Hp → Prop} (s : SR X.K β E env b σ H) (h : Out X.K xc xk β E H Q (M.bind ((den κ as).r env) k b))
    (hk : ∀ rs b1 vs H1, rs.length = as.len → SR X.K β E env b1 σ H1 → Stab β H H1 → RWs X.K β E env σ H1 vs rs → Out X.K xc xk β E H1 Q (k rs b1) → P vs H1) : TIr X.K xc xk (den κ as).r σ H P := by
  refine ⟨β, E, env, b, s, ?_⟩
  have h := out_bind h
  cases q : (den κ as).r env b with
  | bad => rw [q] at h; exact h
  | exn c b' => rw [q] at h; exact h
  | ok rs b1 =>
    rw [q] at h
    exact fun vs H1 p w => hk rs b1 vs H1 (den_len as q) (p.sr s) p.stab w (Out.stab p.stab h)
theorem RWs.length {K : PySem.W.Frag} {β : List Addr} {E : Addr → Prop} {env : List Slot} {σ : St} {H : Hp} : ∀ {vs : List V} {rs : List R}, RWs K β E env σ H vs rs → vs.length = rs.length
  | _, _, .nil => rfl
  | _, _, .cons _ r => by simp [RWs.length r]
theorem snd_tup {as : IE} (ha : Snd C κ xc CX lv as) : Snd C κ xc CX lv (.tup as) := fun X xk S G => snd_ofV fun e h => by
  split at h
  · rename_i es kk pos
    simp only [Bool.and_eq_true, decide_eq_true_eq] at h
    obtain ⟨h4, h5⟩ := (ha X xk S G).r es h.2
    refine (pe_tupF h5).imp fun _ σ H Q _ _ ⟨β, E, env, bs, s, q⟩ => ?_
    refine tr_stepE s q fun rs b1 vs H1 hl s1 t1 ws q => ?_
    obtain ⟨ds, ps, q⟩ := out_keeps ws q
    refine ⟨by rw [ws.length, hl]; exact Nat.le_trans h.1 (by decide), fun p o hd np => q _ _ (post_tup t1 s1.bx hd np ps)⟩
  · cases h
theorem snd_lst {as : IE} (ha : Snd C κ xc CX lv as) : Snd C κ xc CX lv (.lst as) := fun X xk S G => snd_ofV fun e h => by
  split at h
  · rename_i es pos
    simp only [Bool.and_eq_true, decide_eq_true_eq] at h
    obtain ⟨h4, h5⟩ := (ha X xk S G).r es h.2
    refine (pe_lst h5).imp fun _ σ H Q _ _ ⟨β, E, env, bs, s, q⟩ => ?_
    refine tr_stepE s q fun rs b1 vs H1 hl s1 t1 ws q => ?_
    obtain ⟨ds, ps, q⟩ := out_keeps ws q
    refine ⟨by rw [ws.length, hl]; exact Nat.le_trans h.1 (by decide), fun p np => q _ _ (post_fr s t1 s1.bx np ps)⟩
  · cases h

/-! ### subscripts, slices -/
theorem snd_idx {a i : IE} (ha : Snd C κ xc CX lv a) (hi : Snd C κ xc CX lv i) : Snd C κ xc CX lv (.idx a i) := fun X xk S G => snd_ofV fun e h => by
  split at h
  · simp only [Bool.and_eq_true] at h
    obtain ⟨r2, ho, hk⟩ := idx_ok (X := X)
    refine (pe_ix ho ((ha X xk S G).v _ h.1.2) ((hi X xk S G).v _ h.2) (plainIx_of h.1.1)).imp fun _ σ H Q _ _ ⟨β, E, env, bs, s, h⟩ => ?_
    refine ti_step s h fun rx b1 x H1 s1 t1 wx h => ?_
    refine ti_step s1 h fun ry b2 y H2 s2 t2 wy h => ?_
    have wx2 : RW X.K β E env σ H2 x rx := wx.mono (t2.vr s1.bx.inE)
    obtain ⟨dx, px, h⟩ := out_get s2 wx2 h
    obtain ⟨dy, py, h⟩ := out_get s2 wy h
    obtain ⟨d, e, h⟩ := out_opt h
    exact hk β E env bs b2 σ H H2 x y dx dy d Q ⟨s, t1.trans t2, s2.bx⟩ px py e h
  · cases h
/-- behind a slice's part -/
theorem tp_step {α : Type} {X : Cx} {xk : XK} {β : List Addr} {E : Addr → Prop} {env : List Slot} {b : List D} {σ : St} {H : Hp} {m : List Slot → M (Option Int)} {k : Option Int → M α} {Q : α → List D → Prop} {P : Option Int → Hp → Prop} (s : SR X.K β E env b σ H) (h : Out X.K xc xk β E H Q (M.bind (m env) k b))
    (hk : ∀ o b1 H1, SR X.K β E env b1 σ H1 → Stab β H H1 → Out X.K xc xk β E H1 Q (k o b1) → P o H1) : TIp X.K xc xk m σ H P :=
  ⟨β, E, env, b, s, (out_bind h).mono fun o b1 q H1 p => hk o b1 H1 (p.sr s) p.stab (q.stab p.stab)⟩
theorem snd_slc {a lo hi : IE} (ha : Snd C κ xc CX lv a) (hl : Snd C κ xc CX lv lo) (hh : Snd C κ xc CX lv hi) : Snd C κ xc CX lv (.slc a lo hi) := fun X xk S G => snd_ofV fun e h => by
  split at h
  · simp only [Bool.and_eq_true] at h
    obtain ⟨r2, ho, hk⟩ := slc_ok (X := X)
    refine (pe_slice ho ((ha X xk S G).v _ h.1.1) ((hl X xk S G).p _ h.1.2) ((hh X xk S G).p _ h.2)).imp fun _ σ H Q _ _ ⟨β, E, env, bs, s, h⟩ => ?_
    refine ti_step s h fun rx b1 x H1 s1 t1 wx h => ?_
    refine tp_step s1 h fun l b2 H2 s2 t2 h => ?_
    refine tp_step s2 h fun u b3 H3 s3 t3 h => ?_
    have wx3 : RW X.K β E env σ H3 x rx := (wx.mono (t2.vr s1.bx.inE)).mono (t3.vr s1.bx.inE)
    obtain ⟨dx, px, h⟩ := out_get s3 wx3 h
    cases e : slcD dx l u with
    | none => rw [e] at h; exact False.elim h
    | some r =>
      rw [e] at h
      exact hk β E env bs b3 σ H H3 x dx l u r Q ⟨s, (t1.trans t2).trans t3, s3.bx⟩ px e h
  · cases h

/-! ### calls -/
theorem fin_post {K : PySem.W.Frag} {β : List Addr} {E : Addr → Prop} {env : List Slot} {b b1 b2 : List D} {σ : St} {H H1 H2 : Hp} {v : V} {r : R} (s : SR K β E env b σ H) (t1 : Stab β H H1) (s1 : SR K β E env b1 σ H1) (p : Post K β E [] [] H1 r b2 v H2) : Post K β E env σ H r b2 v H2 := by
  refine post_from s t1 s1 ⟨p.stab, p.bx, ?_⟩
  have rv := p.rv
  cases r with
  | own d => obtain ⟨i, a, e, _⟩ := rv; cases e
  | _ => exact rv
theorem ARs.length {K : PySem.W.Frag} {β : List Addr} {E : Addr → Prop} {H : Hp} : ∀ {vs : List V} {as : List A}, ARs K β E H vs as → vs.length = as.length
  | _, _, .nil => rfl
  | _, _, .cons _ r => by simp [ARs.length r]
theorem snd_call {f : Nat} {as : IE} (ha : Snd C κ xc CX lv as) : Snd C κ xc CX lv (.call f as) := fun X xk S G => snd_ofV fun e h => by
  split at h
  · rename_i x p es pos
    simp only [Bool.and_eq_true, decide_eq_true_eq] at h
    obtain ⟨⟨⟨h1, h2⟩, h3⟩, h4⟩ := h
    obtain ⟨a, fd, ps, mg, kp, bd, fk, hr, hlen⟩ := (G.fns f x h1).ex
    obtain ⟨gl, db, _⟩ := G.gl h2
    obtain ⟨hns, pa⟩ := (ha X xk S G).r es h4
    have key : ∀ {σ : St} {H : Hp} {Q : VK}, TI X.K xc xk (den κ (.call f as)).v σ H Q → tCall (spF X.K xc ps.length (κ.f f)) [] xk (TIr X.K xc xk (den κ as).r) σ H Q := fun {σ H Q} ⟨β, E, env, bs, s, h⟩ => by
      refine tr_stepE s h fun rs b1 vs H1 hl s1 t1 ws h => ?_
      obtain ⟨xs, pxs, h⟩ := out_args ws h
      show spF X.K xc ps.length (κ.f f) (vs ++ []) H1 Q xk
      rw [List.append_nil]
      have hb : κ.f f xs b1 ≠ .bad := fun z => by rw [z] at h; exact h
      refine ⟨by rw [pxs.length]; exact hlen xs b1 hb, β, E, b1, xs, s1.bx, pxs, h.mono fun r b2 q v H2 p => q v H2 (fin_post s t1 s1 p)⟩
    cases es with
    | nil => cases h3
    | cons y ys =>
      simp only [List.all_cons, Bool.and_eq_true] at hns
      exact (pe_call fk hr gl mg kp bd .nil G.pass pa db (starEach_ns hns.1) (any_ns hns.2)).imp fun _ σ H Q _ _ h => key h
  · cases h
theorem bi_mem {b : Bi} : ((biName b).1 : Str) ∈ biNames := by cases b <;> decide +kernel
theorem rws_one {K : PySem.W.Frag} {β : List Addr} {E : Addr → Prop} {env : List Slot} {σ : St} {H : Hp} {vs : List V} {r : R} (h : RWs K β E env σ H vs [r]) : ∃ v, vs = [v] := by
  cases h with
  | cons a b => cases b; exact ⟨_, rfl⟩
/-- a call of a built-in by values -/
theorem bi_key {b : Bi} {as : IE} {X : Cx} {xk : XK} {rr : List V → Hp → VK → Prop} {σ : St} {H : Hp} {Q : VK}
    (hk : ∀ (β : List Addr) (E : Addr → Prop) (env : List Slot) (b0 b2 : List D) (σ : St) (H H2 : Hp) (vs : List V) (ds : List D) (r : R) (Q : VK),
      At2 X.K β E env b0 b2 σ H H2 → PVs X.K H2 E vs ds → biD b ds = some r → (∀ v H', Post X.K β E env σ H r b2 v H' → Q v H') → rr vs H2 Q)
    (h : TI X.K xc xk (den κ (.bi b as)).v σ H Q) : tCB rr (TIr X.K xc xk (den κ as).r) σ H Q := by
  obtain ⟨β, E, env, bs, s, h⟩ := h
  refine tr_stepE s h fun rs b1 vs H1 hl s1 t1 ws h => ?_
  obtain ⟨ds, ps, h⟩ := out_gets s1 ws h
  cases e : biD b ds with
  | none => rw [e] at h; exact False.elim h
  | some r =>
    rw [e] at h
    exact hk β E env bs b1 σ H H1 vs ds r Q ⟨s, t1, s1.bx⟩ ps e h
theorem isi_key {b : Bi} {as : IE} {X : Cx} {xk : XK} {T : String} {rr : List V → Hp → VK → Prop} {σ : St} {H : Hp} {Q : VK} (hg : ∀ ds r, biD b ds = some r → ∃ d, ds = [d])
    (hk : ∀ (β : List Addr) (E : Addr → Prop) (env : List Slot) (b0 b2 : List D) (σ : St) (H H2 : Hp) (v : V) (d : D) (r : R) (Q : VK),
      At2 X.K β E env b0 b2 σ H H2 → PV X.K H2 E v d → biD b [d] = some r → (∀ v H', Post X.K β E env σ H r b2 v H' → Q v H') → rr [v, .ty T] H2 Q)
    (h : TI X.K xc xk (den κ (.bi b as)).v σ H Q) : tCB (fun vs H Q => ∃ v, vs = [v] ∧ rr [v, .ty T] H Q) (TIr X.K xc xk (den κ as).r) σ H Q := by
  obtain ⟨β, E, env, bs, s, h⟩ := h
  refine tr_stepE s h fun rs b1 vs H1 hl s1 t1 ws h => ?_
  obtain ⟨ds, ps, h⟩ := out_gets s1 ws h
  cases e : biD b ds with
  | none => rw [e] at h; exact False.elim h
  | some r =>
    rw [e] at h
    obtain ⟨d, rfl⟩ := hg ds r e
    obtain ⟨v, rfl, p⟩ := ps.one
    exact ⟨v, rfl, hk β E env bs b1 σ H H1 v d r Q ⟨s, t1, s1.bx⟩ p e h⟩
theorem isi_key1 {b : Bi} {as : IE} {X : Cx} {xk : XK} {T : String} {rr : List V → Hp → VK → Prop} {σ : St} {H : Hp} {Q : VK} (hg : ∀ ds r, biD b ds = some r → ∃ d, ds = [d])
    (hk : ∀ (β : List Addr) (E : Addr → Prop) (env : List Slot) (b0 b2 : List D) (σ : St) (H H2 : Hp) (v : V) (d : D) (r : R) (Q : VK),
      At2 X.K β E env b0 b2 σ H H2 → PV X.K H2 E v d → biD b [d] = some r → (∀ v H', Post X.K β E env σ H r b2 v H' → Q v H') → rr [v, .ty T] H2 Q)
    (h : TI X.K xc xk (den κ (.bi b as)).v σ H Q) : tCB rr (tCons (TI1 X.K xc xk (den κ as).r) (tCons (tC (.ty T)) tNil)) σ H Q := by
  obtain ⟨β, E, env, bs, s, h⟩ := h
  refine ⟨β, E, env, bs, s, ?_⟩
  refine (out_bind h).mono fun rs b1 h v H1 r p e w => ?_
  subst e
  have s1 := p.sr s
  have h := h.stab p.stab
  obtain ⟨ds, ps, h⟩ := out_gets s1 (.cons w .nil) h
  cases e : biD b ds with
  | none => rw [e] at h; exact False.elim h
  | some r =>
    rw [e] at h
    obtain ⟨d, rfl⟩ := hg ds r e
    obtain ⟨v', e2, p2⟩ := ps.one
    cases e2
    exact hk β E env bs b1 σ H H1 v d r Q ⟨s, p.stab, s1.bx⟩ p2 e h
theorem biD_one {b : Bi} (hb : b = .isint ∨ b = .isbool ∨ b = .isstr ∨ b = .istuple) : ∀ ds r, biD b ds = some r → ∃ d, ds = [d] := by
  intro ds r e
  rcases hb with rfl | rfl | rfl | rfl <;> (unfold biD at e; split at e <;> first | exact ⟨_, rfl⟩ | cases e | simp_all)
theorem snd_isi {b : Bi} {as : IE} {X : Cx} {xk : XK} {S : SC} {T : String} {y : Expr} {p pT pos : Pos} (G : Gd C κ xc CX lv X xk S) (hb : b = .isint ∨ b = .isbool ∨ b = .isstr ∨ b = .istuple) (hT : (T : Str) ∈ biNames) (bT : bootBuiltins (T : Str) = some (.type T))
    (ok : IsiOk X T (biD b)) (g1 : glB S "isinstance" = true) (g2 : glB S (T : Str) = true) (ns : nstar y = true) (hy : PE X y (TI1 X.K xc xk (den κ as).r)) : PE X (.Call (.Name "isinstance" p) [y, .Name T pT] [] pos) (TI X.K xc xk (den κ (.bi b as)).v) := by
  obtain ⟨rr, hc, hk⟩ := ok
  obtain ⟨gl, _, _⟩ := G.gl g1
  obtain ⟨glT, dT, nT⟩ := G.gl g2
  have pT : PE X (.Name T pT) (tC (.ty T)) := pe_bltn glT (G.bn _ hT) bT rfl nT dT
  exact (pe_callB hc gl (G.bn _ (by decide +kernel)) (by decide +kernel) (pa_cons hy (pa_cons pT pa_nil rfl) (starEach_ns ns)) (by decide +kernel) (by decide +kernel) (starEach_ns ns) (any_ns (es := [.Name T _]) rfl)).imp fun _ σ H Q _ _ h => isi_key1 (biD_one hb) hk h
theorem snd_bi1 {b : Bi} {as : IE} {X : Cx} {xk : XK} {S : SC} {y : Expr} {p pos : Pos} {id : String} (G : Gd C κ xc CX lv X xk S) (hid : (id : Str) ∈ biNames) (hb : bootBuiltins (id : Str) = some (.builtin id)) (ok : CallOk X (.builtin id) (biD b)) (g1 : glB S (id : Str) = true) (ns : nstar y = true)
    (hy : PA X [y] (TIr X.K xc xk (den κ as).r)) : PE X (.Call (.Name (id : Str) p) [y] [] pos) (TI X.K xc xk (den κ (.bi b as)).v) := by
  obtain ⟨rr, hc, hk⟩ := ok
  obtain ⟨gl, d1, n1⟩ := G.gl g1
  exact (pe_callB hc gl (G.bn _ hid) hb hy n1 d1 (starEach_ns ns) rfl).imp fun _ σ H Q _ _ h => bi_key hk h
theorem snd_bi2 {b : Bi} {as : IE} {X : Cx} {xk : XK} {S : SC} {y : Expr} {p pos : Pos} {id : String} (G : Gd C κ xc CX lv X xk S) (hid : (id : Str) ∈ biNames) (hb : bootBuiltins (id : Str) = some (.type id)) (ok : CallOk X (.type id) (biD b)) (g1 : glB S (id : Str) = true) (ns : nstar y = true)
    (hy : PA X [y] (TIr X.K xc xk (den κ as).r)) : PE X (.Call (.Name (id : Str) p) [y] [] pos) (TI X.K xc xk (den κ (.bi b as)).v) := by
  obtain ⟨rr, hc, hk⟩ := ok
  obtain ⟨gl, d1, n1⟩ := G.gl g1
  exact (pe_callTy hc gl (G.bn _ hid) hb hy n1 d1 (starEach_ns ns) rfl).imp fun _ σ H Q _ _ h => bi_key hk h
theorem snd_bi {b : Bi} {as : IE} (ha : Snd C κ xc CX lv as) : Snd C κ xc CX lv (.bi b as) := fun X xk S G => snd_ofV fun e h => by
  split at h
  · rename_i x p y pos hn
    simp only [Bool.and_eq_true, decide_eq_true_eq] at h
    obtain ⟨⟨⟨rfl, h2⟩, h3⟩, h4⟩ := h
    obtain ⟨_, pa⟩ := (ha X xk S G).r _ h4
    cases b
    · exact snd_bi1 G (by decide +kernel) (by decide +kernel) bi_len h2 h3 pa
    · exact snd_bi2 G (by decide +kernel) (by decide +kernel) bi_tuple h2 h3 pa
    · exact snd_bi2 G (by decide +kernel) (by decide +kernel) (bi_list G.calm) h2 h3 pa
    · exact snd_bi1 G (by decide +kernel) (by decide +kernel) (bi_all G.calm) h2 h3 pa
    · exact snd_bi1 G (by decide +kernel) (by decide +kernel) (bi_any G.calm) h2 h3 pa
    · exact snd_bi1 G (by decide +kernel) (by decide +kernel) (bi_sum G.calm) h2 h3 pa
    · exact snd_bi1 G (by decide +kernel) (by decide +kernel) bi_abs h2 h3 pa
    · exact snd_bi2 G (by decide +kernel) (by decide +kernel) bi_int h2 h3 pa
    · exact snd_bi1 G (by decide +kernel) (by decide +kernel) (bi_sorted G.un) h2 h3 pa
    · exact snd_bi1 G (by decide +kernel) (by decide +kernel) (bi_min G.calm G.un) h2 h3 pa
    · exact snd_bi1 G (by decide +kernel) (by decide +kernel) (bi_max G.calm G.un) h2 h3 pa
    · cases hn
    · cases hn
    · cases hn
    · cases hn
  · rename_i x p y T pT pos t hn
    simp only [Bool.and_eq_true, decide_eq_true_eq] at h
    obtain ⟨⟨⟨⟨⟨rfl, h2⟩, h3⟩, rfl⟩, h5⟩, h4⟩ := h
    have pa := (ha X xk S G).h _ h4
    cases b <;> cases hn
    · exact snd_isi G (.inl rfl) (by decide +kernel) (by decide +kernel) isi_int h2 h5 h3 pa
    · exact snd_isi G (.inr (.inl rfl)) (by decide +kernel) (by decide +kernel) isi_bool h2 h5 h3 pa
    · exact snd_isi G (.inr (.inr (.inl rfl))) (by decide +kernel) (by decide +kernel) isi_str h2 h5 h3 pa
    · exact snd_isi G (.inr (.inr (.inr rfl))) (by decide +kernel) (by decide +kernel) isi_tuple h2 h5 h3 pa
  · cases h
end
end Sg

-- SgSnd3
/-! SgSnd3: expressions, further: targets, written dicts, methods, ranges. -/
namespace Sg
open PySem PySem.Spec PyProof.Rows L2
section
variable {C : Cfg} {κ : Kp} {xc : Nat → V → Prop} {CX : CXT} {lv : Nat}
/-! ### targets -/
theorem SR.set {K : PySem.W.Frag} {β : List Addr} {E : Addr → Prop} {env : List Slot} {b : List D} {σ : St} {H : Hp} {i : Nat} {v : V} {d : D} (s : SR K β E env b σ H) (h : VR K H E v d) : SR K β E (env.set i (.val d)) b (σ.set i (some v)) H := by
  refine ⟨s.bx, by simp [s.len], fun j sl e => ?_, fun j k d1 d2 a e1 e2 e3 e4 => ?_⟩
  · by_cases hj : i = j
    · subst hj
      rw [List.getElem?_set] at e
      rw [if_pos rfl] at e
      split at e
      · cases e
        rename_i hi
        exact ⟨v, by rw [List.getElem?_set_self (by rw [← s.len]; exact hi)], h⟩
      · cases e
    · rw [List.getElem?_set_ne hj] at e
      have q := s.slots j sl e
      cases sl <;> simp only [SlotR] at q ⊢ <;> first | exact q | (rw [List.getElem?_set_ne hj]; exact q)
  · have f : ∀ (j : Nat) (d : D), (env.set i (.val d))[j]? = some (Slot.own d1) → True := fun _ _ _ => trivial
    have g : ∀ (j : Nat) (d0 : D), (env.set i (Slot.val d))[j]? = some (Slot.own d0) → i ≠ j ∧ env[j]? = some (Slot.own d0) := fun j d0 e => by
      by_cases hj : i = j
      · subst hj
        rw [List.getElem?_set, if_pos rfl] at e
        split at e <;> cases e
      · rw [List.getElem?_set_ne hj] at e
        exact ⟨hj, e⟩
    obtain ⟨n1, e1⟩ := g j d1 e1
    obtain ⟨n2, e2⟩ := g k d2 e2
    rw [List.getElem?_set_ne n1] at e3
    rw [List.getElem?_set_ne n2] at e4
    exact s.apart j k d1 d2 a e1 e2 e3 e4
theorem wipe_set {σ : St} {i : Nat} {x : Option V} : ∀ {vs : List Nat}, i ∈ vs → wipe (σ.set i x) vs = wipe σ vs
  | v :: vs, h => by
    unfold wipe
    by_cases hv : i = v
    · subst hv
      have key : ∀ (us : List Nat), (wipe (σ.set i x) us).set i none = (wipe σ us).set i none := by
        intro us
        induction us with
        | nil => unfold wipe; rw [List.set_set]
        | cons u us ih =>
          unfold wipe
          by_cases hu : u = i
          · subst hu; rw [List.set_set, List.set_set, ih]
          · rw [List.set_comm _ _ hu, ih, List.set_comm _ _ hu]
      exact key vs
    · rcases List.mem_cons.mp h with e | h
      · exact absurd e hv
      · rw [wipe_set h]
theorem own_set {env : List Slot} {σ : St} {i : Nat} {x : Option V} {sl : Slot} (h : ∀ d, sl ≠ .own d := by intro _ z; cases z) : OwnK env σ (env.set i sl) (σ.set i x) := fun j d e => by
  by_cases hj : i = j
  · subst hj
    rw [List.getElem?_set, if_pos rfl] at e
    split at e
    · cases e; exact absurd rfl (h d)
    · cases e
  · rw [List.getElem?_set_ne hj] at e
    exact ⟨e, List.getElem?_set_ne hj⟩
structure SndT (X : Cx) (S : SC) (k : Tk) (t : Tg) : Prop where
  v : ∀ e, k.v S e = true → PG X e (TIg X.K t)
  r : ∀ es, k.r S es = true → PGs X es (TIgs X.K t) ∧ (assignEach es X.env).findIdx? (·.1) = none ∧ (assignEach es X.env).length = es.length ∧ ∀ ds env env', setTs t ds env = some env' → ds.length = es.length
theorem nstarT {k : Tk} : True := trivial
theorem assignEach_ns {e : Expr} {es : List Expr} {env : Env} (h : nstar e = true) : assignEach (e :: es) env = (false, assign e env) :: assignEach es env := by
  cases e <;> first | rfl | cases h
theorem ckT_ns {N : List Str} : ∀ (t : Tg) {S : SC} {e : Expr}, (ckT N t).v S e = true → nstar e = true
  | .nm i, S, e, h => by
    simp only [ckT] at h
    split at h
    · rfl
    · cases h
  | .tup t, S, e, h => by
    simp only [ckT] at h
    split at h
    · rfl
    · cases h
  | .nil, S, e, h => by cases h
  | .cons _ _, S, e, h => by cases h
theorem snd_tg : ∀ (t : Tg) {X : Cx} {xk : XK} {S : SC}, Gd C κ xc CX lv X xk S → SndT X S (ckT C.N t) t
  | .nm i, X, xk, S, G => {
    v := fun e h => by
      simp only [ckT] at h
      split at h
      · rename_i x p
        simp only [Bool.and_eq_true, decide_eq_true_eq] at h
        obtain ⟨g1, g2⟩ := G.tg x h.2
        refine ⟨fun pins s0 σ H v u Q I ru ⟨β, E, env, b, d, env', s, hv, e, h'⟩ => (pg_name (i := i) G.nd (by rw [G.N]; exact h.1) g1 g2).run pins s0 σ H v u Q I ru ?_⟩
        cases e
        exact h' _ (s.set hv) (fun vs hi => wipe_set (hi i (by simp [Tg.vars]))) own_set
      · cases h
    r := fun es h => by cases h }
  | .tup t, X, xk, S, G => {
    v := fun e h => by
      simp only [ckT] at h
      split at h
      · rename_i es kk pos
        obtain ⟨p1, p2, p3, p4⟩ := (snd_tg t G).r es h
        refine ⟨fun pins s0 σ H v u Q I ru ⟨β, E, env, b, d, env', s, hv, e, h'⟩ => (pg_tup G.calm p1 p3 p2).run pins s0 σ H v u Q I ru ?_⟩
        cases d <;> try (cases e; done)
        rename_i ds
        cases hv with
        | tup n e2 r =>
          have e : setTs t ds env = some env' := e
          exact ⟨_, _, rfl, e2.sq, by rw [r.length]; exact p4 ds env env' e, β, E, env, b, ds, env', s, r, e, h'⟩
      · cases h
    r := fun es h => by cases h }
  | .nil, X, xk, S, G => {
    v := fun e h => by cases h
    r := fun es h => by
      cases es with
      | cons _ _ => cases h
      | nil =>
        refine ⟨⟨fun pins s0 σ H vs us Q I ru ⟨β, E, env, b, ds, env', s, hv, e, h'⟩ => pgs_nil.run pins s0 σ H vs us Q I ru ?_⟩, rfl, rfl, fun ds env env' e => ?_⟩
        · cases ds with
          | cons _ _ => cases e
          | nil =>
            cases hv
            cases e
            exact ⟨rfl, h' σ s (fun _ _ => rfl) OwnK.refl⟩
        · cases ds with
          | cons _ _ => cases e
          | nil => rfl }
  | .cons t r, X, xk, S, G => {
    v := fun e h => by cases h
    r := fun es h => by
      cases es with
      | nil => cases h
      | cons e es =>
        simp only [ckT, Bool.and_eq_true] at h
        have q1 := (snd_tg t G).v e h.1
        obtain ⟨p1, p2, p3, p4⟩ := (snd_tg r G).r es h.2
        have ns := assignEach_ns (es := es) (env := X.env) (ckT_ns t h.1)
        refine ⟨⟨fun pins s0 σ H vs us Q I ru ⟨β, E, env, b, ds, env', s, hv, e2, h'⟩ => (pgs_cons q1 p1 (by rw [ns]; rfl)).run pins s0 σ H vs us Q I ru ?_⟩, ?_, ?_, fun ds env env' e2 => ?_⟩
        · cases ds with
          | nil => cases e2
          | cons d ds =>
            cases hv with
            | cons a as =>
              simp only [setTs] at e2
              cases w : setT t d env with
              | none => rw [w] at e2; cases e2
              | some env1 =>
                rw [w] at e2
                refine ⟨_, _, rfl, β, E, env, b, d, env1, s, a, w, fun σ1 s1 w1 o1 => ?_⟩
                refine ⟨β, E, env1, b, ds, env', s1, as, e2, fun σ2 s2 w2 o2 => h' σ2 s2 (fun vs hi => ?_) (o1.trans o2)⟩
                rw [w2 vs fun i hm => hi i (by simp [Tg.vars, hm]), w1 vs fun i hm => hi i (by simp [Tg.vars, hm])]
        · rw [ns, List.findIdx?_cons]
          simp [p2]
        · rw [ns, List.length_cons, p3, List.length_cons]
        · cases ds with
          | nil => cases e2
          | cons d ds =>
            simp only [setTs] at e2
            cases w : setT t d env with
            | none => rw [w] at e2; cases e2
            | some env1 =>
              rw [w] at e2
              rw [List.length_cons, List.length_cons, p4 ds env1 env' e2] }

/-! ### written dicts -/
theorem lookD_get {α : Type} {K : PySem.W.Frag} {xk : XK} {β : List Addr} {E : Addr → Prop} {env : List Slot} {b : List D} {σ : St} {H H2 : Hp} {ks vs : List D} {v : V} {r : R} {Q : R → List D → Prop} (s : SR K β E env b σ H2) (w : RW K β E env σ H2 v r) (h : Out K xc xk β E H Q (gvalR ks vs r b)) :
    ∃ dy d, PV K H2 E v dy ∧ lookD ks vs dy = some d ∧ Q (.val d) b := by
  obtain ⟨dy, p, h⟩ := out_get s w h
  obtain ⟨d, e, h⟩ := out_opt h
  exact ⟨dy, d, p, e, h⟩
theorem snd_gix {g : Nat} {k : IE} (hk : Snd C κ xc CX lv k) : Snd C κ xc CX lv (.gix g k) := fun X xk S G => snd_ofV fun e h => by
  split at h
  · rename_i x px y pos
    simp only [Bool.and_eq_true, decide_eq_true_eq] at h
    obtain ⟨⟨⟨h1, h2⟩, h3⟩, h4⟩ := h
    obtain ⟨a, es, n, mg, kd, l1, l2, l3⟩ := (G.gls g x h2).ex
    obtain ⟨gl, db, _⟩ := G.gl h3
    refine (pe_ix ix_kdict (pe_glob (v := .ref a) gl mg rfl db) ((hk X xk S G).v _ h4) (plainIx_of h1)).imp fun _ σ H Q _ _ ⟨β, E, env, bs, s, h⟩ => ?_
    show TI X.K xc xk (den κ k).v σ H fun y H2 => rIxD X.K X.w (.ref a) y H2 Q
    refine ti_step s h fun ry b1 y H1 s1 t1 wy h => ?_
    obtain ⟨dy, d, p, e, h⟩ := lookD_get (α := Unit) s1 wy h
    cases dy with
    | str z =>
      obtain ⟨u, v, n1, rv, hv⟩ := l1 z d e
      cases p.strE
      exact ⟨a, _, v, rfl, rfl, ⟨es, n, u, kd.at_, kd.lit, n1, rv⟩, h v H1 (post_val t1 s1.bx (hv H1 E))⟩
    | _ => rw [l3 _ (fun s z => by cases z)] at e; cases e
  · cases h
theorem isStr_of {K : PySem.W.Frag} {xk : XK} {β : List Addr} {E : Addr → Prop} {env : List Slot} {b : List D} {σ : St} {H H2 : Hp} {ks vs : List D} {n : Bool} {v : V} {r : R} {Q : R → List D → Prop} (w : RW K β E env σ H2 v r) (h : Out K xc xk β E H Q (ginR ks vs n r b)) :
    ∃ s, v = .str (strOf s) ∧ Q (.val (.bl (n != (lookD ks vs (.str s)).isSome))) b := by
  cases r with
  | val d =>
    cases d <;> try (exact False.elim h)
    exact ⟨_, VR.strE w, h⟩
  | _ => exact False.elim h
theorem gin_key {g : Nat} {n : Bool} {k : IE} {X : Cx} {xk : XK} {x : Str} {a : Addr} {es : Array DictEntry} {nn : Nat} (kd : KDict X.K X.w a es nn)
    (l1 : ∀ s d, lookD (κ.g g).1 (κ.g g).2 (.str s) = some d → ∃ u v, PySem.W.nsIn X.K a (strOf s) = some (some u) ∧ RelV v u ∧ ∀ H E, VR X.K H E v d) (l2 : ∀ s, lookD (κ.g g).1 (κ.g g).2 (.str s) = none → PySem.W.nsIn X.K a (strOf s) = some none)
    {σ : St} {H : Hp} {Q : VK} (h : TI X.K xc xk (den κ (.gin g n k)).v σ H Q) : tOp (fun x y H Q => ∃ (z : Str) (r : Option Value), x = .str z ∧ y = .ref a ∧ PySem.W.nsIn X.K a z = some r ∧ Q (.bl (n != r.isSome)) H) (TI X.K xc xk (den κ k).v) (tC (.ref a)) σ H Q := by
  obtain ⟨β, E, env, bs, s, h⟩ := h
  refine ti_step s h fun ry b1 y H1 s1 t1 wy h => ?_
  obtain ⟨z, rfl, h⟩ := isStr_of wy h
  cases e : lookD (κ.g g).1 (κ.g g).2 (.str z) with
  | none =>
    rw [e] at h
    exact ⟨_, none, rfl, rfl, l2 z e, h _ H1 (post_val t1 s1.bx (.bl _))⟩
  | some d =>
    obtain ⟨u, v, n1, rv, hv⟩ := l1 z d e
    rw [e] at h
    exact ⟨_, some u, rfl, rfl, n1, h _ H1 (post_val t1 s1.bx (.bl _))⟩
theorem gin_bl {g : Nat} {n : Bool} {k : IE} (env : List Slot) (bs : List D) (r : R) (b' : List D) (h : (den κ (.gin g n k)).v env bs = .ok r b') : ∃ k, r = .val (.bl k) := by
  refine bl_ends (fun a b r b' h => ?_) h
  cases a with
  | val d => cases d <;> first | (cases h; done) | exact bl_end h
  | _ => cases h
theorem snd_gin {g : Nat} {n : Bool} {k : IE} (hk : Snd C κ xc CX lv k) : Snd C κ xc CX lv (.gin g n k) := fun X xk S G => by
  have op : ∀ (x : Str) (a : Addr) (es : Array DictEntry) (nn : Nat), KDict X.K X.w a es nn → OpR X (compareOp (copOf (if n then .notin else .isin))) (fun x y H Q => ∃ (z : Str) (r : Option Value), x = .str z ∧ y = .ref a ∧ PySem.W.nsIn X.K a z = some r ∧ Q (.bl (n != r.isSome)) H) := fun x a es nn kd => by
    cases n with
    | true =>
      intro pins s σ H x y v u Q I rx ry ⟨z, r, e1, e2, e3, q⟩
      exact op_notIn_kd kd pins s σ H x y v u Q I rx ry ⟨z, r, e1, e2, e3, by cases r <;> exact q⟩
    | false =>
      intro pins s σ H x y v u Q I rx ry ⟨z, r, e1, e2, e3, q⟩
      exact op_in_kd kd pins s σ H x y v u Q I rx ry ⟨z, r, e1, e2, e3, by cases r <;> exact q⟩
  refine snd_ofT (t := Pk.tru (den κ (.gin g n k)).v) (m := (den κ (.gin g n k)).v) (fun e h => ?_) (fun e h => ?_)
  · split at h
    · simp only [Bool.and_eq_true, decide_eq_true_eq] at h
      obtain ⟨⟨⟨h1, h2⟩, h3⟩, h4⟩ := h
      obtain rfl := copB_eq h1
      obtain ⟨a, es, nn, mg, kd, l1, l2, l3⟩ := (G.gls g _ h2).ex
      obtain ⟨gl, db, _⟩ := G.gl h3
      exact (pe_cmpR (op "" a es nn kd) ((hk X xk S G).v _ h4) (pe_glob (v := .ref a) gl mg rfl db) rfl).imp fun _ σ H Q _ _ h => gin_key (x := "") kd l1 l2 h
    · cases h
  · split at h
    · simp only [Bool.and_eq_true, decide_eq_true_eq] at h
      obtain ⟨⟨⟨h1, h2⟩, h3⟩, h4⟩ := h
      obtain rfl := copB_eq h1
      obtain ⟨a, es, nn, mg, kd, l1, l2, l3⟩ := (G.gls g _ h2).ex
      obtain ⟨gl, db, _⟩ := G.gl h3
      refine (pt_cmpR (op "" a es nn kd) ((hk X xk S G).v _ h4) (pe_glob (v := .ref a) gl mg rfl db) rfl).imp fun _ σ H Q _ _ h => ?_
      exact test_of gin_bl h fun Q h => gin_key (x := "") kd l1 l2 h
    · cases h
/-! ### displayed dicts, asked at once -/
theorem merge_val : ∀ (ps acc : List (Key × V)) (k : Key), (ps.map (·.1)).Nodup → valV (mergeK acc ps) k = (valV ps k).or (valV acc k)
  | [], acc, k, _ => rfl
  | p :: ps, acc, k, h => by
    rw [List.map_cons, List.nodup_cons] at h
    have ih := merge_val ps (putK acc p.1 p.2) k h.2
    show valV (mergeK (putK acc p.1 p.2) ps) k = _
    rw [ih, valV_put]
    by_cases e : p.1 = k
    · have n : valV ps k = none := by
        cases q : valV ps k with
        | none => rfl
        | some v => exact absurd (valV_in q) (by rw [← e]; exact h.1)
      rw [n, valV_pos e, if_pos e.symm]; rfl
    · rw [valV_neg e, if_neg (fun z => e z.symm)]
theorem const_te {X : Cx} {d : D} {e : Expr} (h : constB d e = true) : ∃ v, (∀ H E, VR X.K H E v d) ∧ PE X e (tC v) := by
  unfold constB at h
  split at h
  · exact ⟨_, fun _ _ => .non, pe_non⟩
  · obtain rfl := eq_of_beq h
    exact ⟨_, fun _ _ => .bl _, pe_bl⟩
  · obtain rfl := of_decide_eq_true h
    exact ⟨_, fun _ _ => .int _, pe_int⟩
  · obtain rfl := of_decide_eq_true h
    exact ⟨_, fun _ _ => .str _, pe_str⟩
  · obtain rfl := of_decide_eq_true h
    rename_i j k1 p1 p2
    exact ⟨.int (-j), fun _ _ => .int _, (pe_un un_neg pe_int).imp fun _ σ H Q _ _ h => ⟨_, rfl, h⟩⟩
  · cases h
/-- a display's pairs -/
theorem disp_ok {X : Cx} {pos : Pos} : ∀ (ks vs : List D) (es : List (Option Expr)) (fs : List Expr), ndS ks = true → keysB ks es = true → constsB vs fs = true → es.length = fs.length →
    ∃ (trs : List (TE × TE)) (kvs : List (Key × V)), PPs X pos es fs trs ∧ es.all (·.isSome) = true ∧ kvs.length = es.length ∧ (kvs.map (·.1)).Nodup ∧
      (∀ σ H Q, tPairs trs σ H Q ↔ Q (kvs.map fun kv => (kV kv.1, kv.2)) H) ∧ (∀ s d, lookD ks vs (.str s) = some d → ∃ v, valV kvs (.inr (strOf s)) = some v ∧ ∀ H E, VR X.K H E v d) ∧
      (∀ k ∈ kvs, ∃ s, D.str s ∈ ks ∧ k.1 = .inr (strOf s)) ∧ ∀ y d, lookD ks vs y = some d → ∃ s, y = .str s
  | [], vs, es, fs, _, hk, hv, hl => by
    cases es with
    | cons e es => cases e <;> cases hk
    | nil =>
      cases fs with
      | cons _ _ => cases hl
      | nil => exact ⟨[], [], pps_nil, rfl, rfl, List.nodup_nil, fun _ _ _ => Iff.rfl, (fun s d e => nomatch (show (none : Option D) = some d by cases vs <;> exact e)), (fun k h => by cases h), (fun y d e => nomatch (show (none : Option D) = some d by cases vs <;> exact e))⟩
  | .str s :: ks, vs, es, fs, hn, hk, hv, hl => by
    cases es with
    | nil => cases hk
    | cons e es =>
      cases e with
      | none => cases hk
      | some e =>
        cases fs with
        | nil => cases hl
        | cons f fs =>
          cases vs with
          | nil => cases hv
          | cons d vs =>
            simp only [ndS, keysB, constsB, Bool.and_eq_true] at hn hk hv
            obtain ⟨trs, kvs, q1, q2, q3, q4, q5, q6, q7, q8⟩ := disp_ok (X := X) (pos := pos) ks vs es fs hn.2 hk.2 hv.2 (by simpa using hl)
            obtain ⟨v, r1, r2⟩ := const_te (X := X) hv.1
            have pk : PE X e (tC (.str (strOf s))) := by
              obtain ⟨v0, r3, r4⟩ := const_te (X := X) hk.1
              have := (r3 (fun _ => none) (fun _ => False)).strE
              subst this
              exact r4
            have fresh : Sum.inr (strOf s) ∉ kvs.map (·.1) := fun z => by
              obtain ⟨k, hk', e'⟩ := List.mem_map.mp z
              obtain ⟨s', hs', e2⟩ := q7 k hk'
              rw [e2] at e'
              have e3 : s' = s := strOf_inj (Sum.inr.inj e')
              have := List.all_eq_true.mp hn.1 _ hs'
              simp only [decide_eq_true_eq] at this
              exact this e3.symm
            refine ⟨_, (.inr (strOf s), v) :: kvs, pps_cons pk r2 q1, by simp [q2], by simp [q3], List.nodup_cons.mpr ⟨fresh, q4⟩, fun σ H Q => ?_, fun s' d' e' => ?_, fun k h => ?_, fun y d' e' => ?_⟩
            · exact q5 σ H fun ps H3 => Q ((V.str (strOf s), v) :: ps) H3
            · simp only [lookD] at e'
              by_cases hs : s = s'
              · subst hs
                rw [if_pos (by simp [eqD])] at e'
                cases e'
                exact ⟨v, valV_pos rfl, r1⟩
              · rw [if_neg (by simp only [eqD, beq_iff_eq]; exact hs)] at e'
                obtain ⟨v', e2, e3⟩ := q6 s' d' e'
                exact ⟨v', by rw [valV_neg fun z => hs (strOf_inj (Sum.inr.inj z))]; exact e2, e3⟩
            · rcases List.mem_cons.mp h with z | z
              · exact ⟨s, by simp, by rw [z]⟩
              · obtain ⟨s', h1, h2⟩ := q7 k z
                exact ⟨s', by simp [h1], h2⟩
            · simp only [lookD] at e'
              split at e'
              · rename_i hy
                cases y <;> simp [eqD] at hy
                exact ⟨_, rfl⟩
              · exact q8 y d' e'
  | .non :: _, _, _, _, hn, _, _, _ => by cases hn
  | .bl _ :: _, _, _, _, hn, _, _, _ => by cases hn
  | .int _ :: _, _, _, _, hn, _, _, _ => by cases hn
  | .tup _ :: _, _, _, _, hn, _, _, _ => by cases hn
  | .lst _ :: _, _, _, _, hn, _, _, _ => by cases hn
  | .scr _ :: _, _, _, _, hn, _, _, _ => by cases hn
  | .dic _ _ :: _, _, _, _, hn, _, _, _ => by cases hn
  | .exc _ :: _, _, _, _, hn, _, _, _ => by cases hn
theorem snd_dix {ks vs : List D} {k : IE} (hk : Snd C κ xc CX lv k) : Snd C κ xc CX lv (.dix ks vs k) := fun X xk S G => snd_ofV fun e h => by
  split at h
  · rename_i es fs p1 y pos
    simp only [Bool.and_eq_true, decide_eq_true_eq, Bool.not_eq_true'] at h
    obtain ⟨⟨⟨⟨⟨⟨⟨h1, h2⟩, h3⟩, h4⟩, h5⟩, h6⟩, h7⟩, h8⟩ := h
    obtain ⟨trs, kvs, q1, q2, q3, q4, q5, q6, q7, q8⟩ := disp_ok (X := X) (pos := p1) ks vs es fs h2 h3 h4 h5
    have ne : es ≠ [] := fun z => by rw [z] at h7; cases h7
    have un := G.un
    refine (pe_dget (by omega) (pe_disp q1 q2 h5 ne h6) ((hk X xk S G).v _ h8) (plainIx_of h1)).imp fun _ σ H Q _ _ ⟨β, E, env, bs, s, h⟩ => ?_
    intro p np
    refine (q5 σ _ _).mpr ⟨upd_same, kvs, rfl, by rw [q3]; exact h6, ?_⟩
    rw [upd_upd]
    have s0 : SR X.K β E env bs σ (upd H p (.dK (mergeK [] kvs))) := s.next (Stab.upd np) (s.bx.new np) (fun _ h => h) fun _ _ n _ => n
    have h : Out X.K xc xk β E (upd H p (.dK (mergeK [] kvs))) _ _ := h.stab (Stab.upd np)
    refine ti_step s0 h fun ry b1 y H1 s1 t1 wy h => ?_
    obtain ⟨dy, d, p2, e, h⟩ := lookD_get (α := Unit) s1 wy h
    obtain ⟨z, rfl⟩ := q8 dy d e
    obtain ⟨v, e2, hv⟩ := q6 z d e
    cases p2.strE
    have hp : H1 p = some (.dK (mergeK [] kvs)) := t1 p _ (fun m => by
      obtain ⟨o, e⟩ := s.bx.has p (s.bx.inE p m)
      rw [np] at e; cases e) upd_same
    refine ⟨p, v, rfl, .inl ⟨_, .inr (strOf z), .inl hp, rfl, ?_⟩, h v H1 (post_val ((Stab.upd np).trans t1) s1.bx (hv H1 E))⟩
    rw [merge_val kvs [] _ q4, e2]; rfl
  · cases h
end
end Sg

-- SgSnd4
/-! SgSnd4: expressions, further: methods, ranges, comprehensions. -/
namespace Sg
open PySem PySem.Spec PyProof.Rows L2
section
variable {C : Cfg} {κ : Kp} {xc : Nat → V → Prop} {CX : CXT} {lv : Nat}
/-! ### methods -/
theorem Cell.lstE {K : PySem.W.Frag} {H : Hp} {E : Addr → Prop} {a : Addr} {d : D} (c : Cell K H E a d) : ∃ ds xs, d = .lst ds ∧ H a = some (.lst xs) := by
  cases d with
  | lst ds => obtain ⟨xs, e, _⟩ := c; exact ⟨ds, xs, rfl, e⟩
  | _ => exact c.elim
theorem me_few {X : Cx} {y : Expr} {cpos : Pos} (h : nstar y = true) : ((backTo cpos (starEach [y] X.env)).all (fun x => !x.1) && (backToKw cpos (keywordEach [] X.env)).all (fun x => x.1.isSome)
      && decide (([y] : List Expr).length + ([] : List Keyword).length + (if ([] : List Keyword).isEmpty then 0 else 1) < 30)) = true := by
  rw [starEach_ns h]
  rfl
/-- a method of a class -/
def MeT (X : Cx) (m : Me) (T : String) : Prop := ∃ rr : V → List V → Hp → VK → Prop, McR X (meName m : Str) T rr ∧ ∀ (β : List Addr) (E : Addr → Prop) (env : List Slot) (b b2 : List D) (σ : St) (H H2 : Hp) (v : V) (vs : List V) (d : D) (ds : List D) (r : R) (Q : VK),
    At2 X.K β E env b b2 σ H H2 → PV X.K H2 E v d → PVs X.K H2 E vs ds → tyN d = some T → meD m d ds = some r → (∀ v H', Post X.K β E env σ H r b2 v H' → Q v H') → rr v vs H2 Q
theorem MeT.of {X : Cx} {m : Me} {T id : String} (ok : Sg.MeOk X id T (meD m)) (pa : PlainAttrs T) (slot : PySem.Slot T (meName m : Str) id) (hty : typeOf (.builtin id) = pure (.type "method_descriptor")) : MeT X m T := by
  obtain ⟨rr, hm, hk⟩ := ok
  exact ⟨rr, ⟨id, pa, slot, hty, hm⟩, hk⟩
theorem me_all {X : Cx} (hu : X.A.units + 65 < cLine) (m : Me) (d : D) (h : meOk m d = true) : ∃ T, tyN d = some T ∧ MeT X m T := by
  cases m <;> cases d <;> first | (cases h; done) | skip
  · exact ⟨_, rfl, .of me_join PySem.F.plainAttrs_str PySem.F.slot_str_join PySem.F.type_str_join⟩
  · exact ⟨_, rfl, .of me_countS PySem.F.plainAttrs_str PySem.F.slot_str_count PySem.F.type_str_count⟩
  · exact ⟨_, rfl, .of (me_countT hu) PySem.F.plainAttrs_tuple PySem.F.slot_tuple_count PySem.F.type_tuple_count⟩
  · exact ⟨_, rfl, .of (me_countL hu) PySem.F.plainAttrs_list PySem.F.slot_list_count PySem.F.type_list_count⟩
  · exact ⟨_, rfl, .of (me_indexT hu) PySem.F.plainAttrs_tuple PySem.F.slot_tuple_index PySem.F.type_tuple_index⟩
  · exact ⟨_, rfl, .of (me_indexL hu) PySem.F.plainAttrs_list PySem.F.slot_list_index PySem.F.type_list_index⟩
theorem meD_ok {m : Me} {d : D} {ds : List D} {r : R} (e : meD m d ds = some r) : meOk m d = true := by
  unfold meD at e
  split at e <;> first | rfl | cases e
theorem me_kind {m : Me} {d : D} (h : meOk m d = true) : (∃ s, d = .str s) ∨ (∃ xs, d = .lst xs) ∨ ∃ xs, d = .tup xs := by
  cases m <;> cases d <;> first | (cases h; done) | exact .inl ⟨_, rfl⟩ | exact .inr (.inl ⟨_, rfl⟩) | exact .inr (.inr ⟨_, rfl⟩)
theorem me_ty {K : PySem.W.Frag} {H : Hp} {E : Addr → Prop} {v : V} {d : D} {m : Me} {T : String} (p : PV K H E v d) (t : meOk m d = true) (hT : tyN d = some T) : tyZ K T v H := by
  rcases me_kind t with ⟨s, rfl⟩ | ⟨xs, rfl⟩ | ⟨xs, rfl⟩
  · cases p.strE; cases hT; exact .inl rfl
  · obtain ⟨a, ys, rfl, e, _⟩ := p.lstE; cases hT; exact .inl (.inl ⟨rfl, _, SqL.of e⟩)
  · obtain ⟨a, ys, rfl, _, ⟨o, hd, e⟩, _⟩ := p.tupE; cases hT; exact .inr ⟨rfl, a, o, ys, rfl, e, hd⟩
/-- the receiver's class stays -/
theorem me_stay {K : PySem.W.Frag} {H H2 : Hp} {E : Addr → Prop} {v : V} {d d2 : D} {m m2 : Me} {T : String} (p : PV K H E v d) (p2 : PV K H2 E v d2) (t : meOk m d = true) (t2 : meOk m2 d2 = true) (k : ∀ a o, ¬ E a → H a = some o → H2 a = some o) (hT : tyN d = some T) : tyN d2 = some T := by
  rcases me_kind t with ⟨s, rfl⟩ | ⟨xs, rfl⟩ | ⟨xs, rfl⟩ <;> rcases me_kind t2 with ⟨s2, rfl⟩ | ⟨xs2, rfl⟩ | ⟨xs2, rfl⟩ <;> first | exact hT | skip
  · cases p.strE; obtain ⟨a, ys, e, _⟩ := p2.lstE; cases e
  · cases p.strE; obtain ⟨a, ys, e, _⟩ := p2.tupE; cases e
  · cases p2.strE; obtain ⟨a, ys, e, _⟩ := p.lstE; cases e
  · obtain ⟨a, ys, rfl, e, _⟩ := p.lstE; obtain ⟨a2, ys2, e2, n, ⟨o, _, e3⟩, _⟩ := p2.tupE
    cases e2
    rw [k _ _ n e] at e3; cases e3
  · cases p2.strE; obtain ⟨a, ys, e, _⟩ := p.tupE; cases e
  · obtain ⟨a, ys, rfl, n, ⟨o, _, e⟩, _⟩ := p.tupE; obtain ⟨a2, ys2, e2, e3, _⟩ := p2.lstE
    cases e2
    rw [k _ _ n e] at e3; cases e3
theorem me_key {m : Me} {o as : IE} {X : Cx} {xk : XK} {σ : St} {H : Hp} {Q : VK} (hu : X.A.units + 65 < cLine)
    (h : TI X.K xc xk (den κ (.me m o as)).v σ H Q) : tBMZ X (meName m : Str) (TI X.K xc xk (den κ o).v) (TIr X.K xc xk (den κ as).r) σ H Q := by
  obtain ⟨β, E, env, bs, s, h⟩ := h
  refine ti_step s h fun rx b1 x H1 s1 t1 wx h => ?_
  obtain ⟨d0, p0, h⟩ := out_get s1 wx h
  by_cases ht : meOk m d0 = true
  · rw [if_pos ht] at h
    obtain ⟨T, hT, rr, mc, hk⟩ := me_all hu m d0 ht
    refine ⟨T, rr, mc, me_ty p0 ht hT, ?_⟩
    refine tr_stepE s1 h fun rs b2 vs H2 hl s2 t2 ws h => ?_
    have wx2 : RW X.K β E env σ H2 x rx := wx.mono (t2.vr s1.bx.inE)
    obtain ⟨dx, px, h⟩ := out_get s2 wx2 h
    obtain ⟨ds, ps, h⟩ := out_gets s2 ws h
    cases e : meD m dx ds with
    | none => rw [e] at h; exact False.elim h
    | some r =>
      rw [e] at h
      exact hk β E env bs b2 σ H H2 x vs dx ds r Q ⟨s, t1.trans t2, s2.bx⟩ px ps (me_stay p0 px ht (meD_ok e) (fun a o n u => (t2.vr s1.bx.inE a o n u).2) hT) e h
  · rw [if_neg ht] at h
    exact False.elim h
theorem snd_me {m : Me} {o as : IE} (ho : Snd C κ xc CX lv o) (ha : Snd C κ xc CX lv as) : Snd C κ xc CX lv (.me m o as) := fun X xk S G => snd_ofV fun e h => by
  split at h
  · simp only [Bool.and_eq_true, decide_eq_true_eq] at h
    obtain ⟨⟨⟨⟨⟨rfl, h2⟩, h3⟩, h4⟩, h5⟩, h6⟩ := h
    have po := (ho X xk S G).v _ h5
    have pa := ((ha X xk S G).r _ h6).2
    exact (pe_bmZ po pa (base_of h2) (me_few h3) h4 (starEach_ns h3) rfl).imp fun _ σ H Q _ _ h => me_key G.un h
  · cases h

/-! ### ranges -/
theorem big_iff {i : Int} (h : big i = true) : -1000000 ≤ i ∧ i ≤ 1000000 := by
  unfold big at h
  simpa using h
theorem rng_len {i j : Int} (hi : big i = true) (hj : big j = true) : (rngD i j).length ≤ sizeLine := by
  have h1 := big_iff hi
  have h2 := big_iff hj
  have e : (rngD i j).length = (j - i).toNat := by simp [rngD]
  have : (2000000 : Nat) ≤ sizeLine := by decide
  omega
theorem snd_rng1 {a : IE} (ha : Snd C κ xc CX lv a) : Snd C κ xc CX lv (.rng1 a) := fun X xk S G => snd_ofI fun tg e h => by
  split at h
  · rename_i x p y pos
    simp only [Bool.and_eq_true, decide_eq_true_eq] at h
    obtain ⟨⟨⟨rfl, h2⟩, h3⟩, h4⟩ := h
    obtain ⟨gl, _, _⟩ := G.gl h2
    refine ⟨nset_fold rfl, ⟨fun pins s0 σ H Rr I ⟨β, E, env, bs, s, h⟩ => (pi_range1 gl (G.bn _ (by decide +kernel)) (pa_cons ((ha X xk S G).v _ h4) pa_nil (starEach_ns h3)) (by rw [starEach_ns h3]; rfl)).run pins s0 σ H Rr I ?_⟩⟩
    refine ti_step s h fun rx b1 x H1 s1 t1 wx h => ?_
    obtain ⟨i, rfl, h⟩ := toI_of wx h
    unfold rngR at h
    split at h
    · rename_i hb
      simp only [Bool.and_eq_true] at hb
      have h2 := big_iff hb.2
      refine ⟨i, rfl, by omega, by omega, ?_⟩
      have q := h (Itr 0 (i - 0).toNat) H1 ⟨t1, s1.bx⟩ (rng_len hb.1 hb.2) walks_rng
      rw [Int.sub_zero] at q
      exact q
    · exact False.elim h
  · cases h
theorem snd_rng2 {a b : IE} (ha : Snd C κ xc CX lv a) (hb : Snd C κ xc CX lv b) : Snd C κ xc CX lv (.rng2 a b) := fun X xk S G => snd_ofI fun tg e h => by
  split at h
  · rename_i x p y z pos
    simp only [Bool.and_eq_true, decide_eq_true_eq] at h
    obtain ⟨⟨⟨⟨⟨rfl, h2⟩, h3⟩, h3'⟩, h4⟩, h5⟩ := h
    obtain ⟨gl, _, _⟩ := G.gl h2
    refine ⟨nset_fold rfl, ⟨fun pins s0 σ H Rr I ⟨β, E, env, bs, s, h⟩ => (pi_range2 gl (G.bn _ (by decide +kernel)) (pa_cons ((ha X xk S G).v _ h4) (pa_cons ((hb X xk S G).v _ h5) pa_nil (starEach_ns h3')) (starEach_ns h3)) (by rw [starEach_ns h3, starEach_ns h3']; rfl) (by rw [starEach_ns h3']; rfl)).run pins s0 σ H Rr I ?_⟩⟩
    refine ti_step s h fun rx b1 x H1 s1 t1 wx h => ?_
    refine ti_step s1 h fun ry b2 y H2 s2 t2 wy h => ?_
    obtain ⟨i, rfl, h⟩ := toI_of (wx.mono (t2.vr s1.bx.inE)) h
    obtain ⟨j, rfl, h⟩ := toI_of wy h
    unfold rngR at h
    split at h
    · rename_i hb
      simp only [Bool.and_eq_true] at hb
      have h1 := big_iff hb.1
      have h2 := big_iff hb.2
      exact ⟨i, j, rfl, by omega, h (Itr i (j - i).toNat) H2 ⟨t1.trans t2, s2.bx⟩ (rng_len hb.1 hb.2) walks_rng⟩
    · exact False.elim h
  · cases h
end
end Sg

-- SgSnd5
/-! SgSnd5: comprehensions. -/
namespace Sg
open PySem PySem.Spec PyProof.Rows L2
section
variable {K : PySem.W.Frag} {β : List Addr} {E E' : Addr → Prop} {env : List Slot} {b b' : List D} {σ : St} {H H' : Hp}
theorem Alloc.stab (a : Alloc H H') : Stab β H H' := by
  rcases a with rfl | ⟨T, u, n, rfl⟩
  · exact Stab.refl
  · exact Stab.upd n
theorem Alloc.bx (a : Alloc H H') (x : Bxs K β E b H) : Bxs K β E b H' := by
  rcases a with rfl | ⟨T, u, n, rfl⟩
  · exact x
  · exact x.new n
theorem Stab.grow (t : Stab β H H') (i : ∀ a ∈ β, E a) : Grow H E H' E := t.vr i
theorem Alloc.grow (a : Alloc H H') : Grow H E H' E := by
  rcases a with rfl | ⟨T, u, n, rfl⟩
  · exact Grow.refl
  · exact fun c o nc e => ⟨nc, by rw [upd_ne (ne_of_none e n)]; exact e⟩
/-- what E holds may be written -/
theorem Grow.updE {D : Addr} {o : HO} (h : E D) : Grow H E (upd H D o) E := fun c u nc e => ⟨nc, by rw [upd_ne (show c ≠ D from fun z => nc (by rw [z]; exact h))]; exact e⟩
theorem Bxs.wr {D : Addr} {o : HO} (x : Bxs K β E b H) (h : E D) (nb : D ∉ β) : Bxs K β E b (upd H D o) :=
  ⟨x.inE, fun a e => by
    by_cases q : a = D
    · exact ⟨o, by rw [q]; exact upd_same⟩
    · rw [upd_ne q]; exact x.has a e, x.len, x.nd, fun n a d h1 h2 => (x.box n a d h1 h2).mono (fun u e => by
      rw [upd_ne (show a ≠ D from fun z => nb (by rw [← z]; exact List.mem_of_getElem? h1))]; exact e) (Grow.updE h)⟩
theorem SR.next2 (s : SR K β E env b σ H) (h : ∀ a o, a ∉ β → E a → H a = some o → H' a = some o) (x : Bxs K β E' b' H') (hE : ∀ a, E a → E' a) (m : Grow H E H' E') : SR K β E' env b' σ H' := by
  refine ⟨x, s.len, fun i sl e => ?_, s.apart⟩
  have q := s.slots i sl e
  cases sl with
  | no => trivial
  | val d => obtain ⟨v, e1, r⟩ := q; exact ⟨v, e1, r.mono m⟩
  | own d => obtain ⟨a, e1, ea, c, nb⟩ := q; exact ⟨a, e1, hE a ea, c.mono (fun o e => h a o nb ea e) m, nb⟩
  | bx n => exact q
theorem wipeE_len (env : List Slot) : ∀ vs : List Nat, (wipeE env vs).length = env.length
  | [] => rfl
  | v :: vs => by unfold wipeE; rw [List.length_set, wipeE_len env vs]
theorem SR.no (s : SR K β E env b σ H) {i : Nat} {x : Option V} : SR K β E (env.set i .no) b (σ.set i x) H := by
  have g : ∀ (j : Nat) (sl : Slot), (env.set i Slot.no)[j]? = some sl → sl = .no ∨ (i ≠ j ∧ env[j]? = some sl) := fun j sl e => by
    by_cases hj : i = j
    · subst hj
      rw [List.getElem?_set, if_pos rfl] at e
      split at e
      · cases e; exact .inl rfl
      · cases e
    · rw [List.getElem?_set_ne hj] at e
      exact .inr ⟨hj, e⟩
  refine ⟨s.bx, by simp [s.len], fun j sl e => ?_, fun j k d1 d2 a e1 e2 e3 e4 => ?_⟩
  · rcases g j sl e with rfl | ⟨hj, e⟩
    · trivial
    · have q := s.slots j sl e
      cases sl <;> simp only [SlotR] at q ⊢ <;> first | exact q | (rw [List.getElem?_set_ne hj]; exact q)
  · rcases g j _ e1 with e | ⟨n1, e1⟩
    · cases e
    rcases g k _ e2 with e | ⟨n2, e2⟩
    · cases e
    rw [List.getElem?_set_ne n1] at e3
    rw [List.getElem?_set_ne n2] at e4
    exact s.apart j k d1 d2 a e1 e2 e3 e4
theorem SR.wipe (s : SR K β E env b σ H) : ∀ vs : List Nat, SR K β E (wipeE env vs) b (L2.wipe σ vs) H
  | [] => s
  | v :: vs => (SR.wipe s vs).no
theorem own_wipe : ∀ {env : List Slot} {σ : St} (vs : List Nat), OwnK env σ (wipeE env vs) (L2.wipe σ vs)
  | _, _, [] => OwnK.refl
  | _, _, v :: vs => (own_wipe vs).trans own_set
theorem SR.next3 {p : Addr} (s : SR K β E env b σ H) (no : ∀ (i : Nat) (d : D), env[i]? = some (Slot.own d) → σ[i]? ≠ some (some (V.ref p))) (hp : E p) (t : Stab (p :: β) H H') (x : Bxs K β E b' H') : SR K β E env b' σ H' := by
  have g : Grow H E H' E := fun c o nc e => ⟨nc, t c o (by
    simp only [List.mem_cons, not_or]
    exact ⟨fun z => nc (by rw [z]; exact hp), fun z => nc (s.bx.inE c z)⟩) e⟩
  refine ⟨x, s.len, fun i sl e => ?_, s.apart⟩
  have q := s.slots i sl e
  cases sl with
  | no => trivial
  | val d => obtain ⟨v, e1, r⟩ := q; exact ⟨v, e1, r.mono g⟩
  | own d =>
    obtain ⟨a, e1, ea, c, nb⟩ := q
    refine ⟨a, e1, ea, c.mono (fun o e2 => t a o ?_ e2) g, nb⟩
    simp only [List.mem_cons, not_or]
    exact ⟨fun z => no i d e (by rw [e1, z]), nb⟩
  | bx n => exact q
theorem set_wipe {σ : St} {u : Nat} : ∀ {vs : List Nat}, u ∈ vs → (L2.wipe σ vs).set u none = L2.wipe σ vs
  | v :: vs, h => by
    show ((L2.wipe σ vs).set v none).set u none = (L2.wipe σ vs).set v none
    by_cases e : v = u
    · subst e; rw [List.set_set]
    · rw [List.set_comm _ _ e]
      rcases List.mem_cons.mp h with z | z
      · exact absurd z.symm e
      · rw [set_wipe z]
theorem wipe_sub {σ : St} {vs : List Nat} : ∀ (us : List Nat), (∀ u ∈ us, u ∈ vs) → L2.wipe (L2.wipe σ vs) us = L2.wipe σ vs
  | [], _ => rfl
  | u :: us, h => by
    show (L2.wipe (L2.wipe σ vs) us).set u none = L2.wipe σ vs
    rw [wipe_sub us fun x hx => h x (by simp [hx]), set_wipe (h u (by simp))]
theorem wipe_wipe (σ : St) (vs : List Nat) : L2.wipe (L2.wipe σ vs) vs = L2.wipe σ vs := wipe_sub vs fun _ h => h
/-- behind a bind that ends well -/
theorem bind_okM {α α' : Type} {m : M α} {k : α → M α'} {b b2 : List D} {y : α'} (h : M.bind m k b = .ok y b2) : ∃ a b1, m b = .ok a b1 ∧ k a b1 = .ok y b2 := by
  unfold M.bind at h
  cases q : m b with
  | ok a b1 => rw [q] at h; exact ⟨a, b1, rfl, h⟩
  | exn c b1 => rw [q] at h; cases h
  | bad => rw [q] at h; cases h
theorem nox_ok {α : Type} {m : M α} {b b2 : List D} {y : α} (h : M.nox m b = .ok y b2) : m b = .ok y b2 := by
  unfold M.nox at h
  split at h
  · rename_i e; rw [e]; exact h
  · cases h
theorem loop_walk {J : It} {xs ys : List D} {H0 : Hp} (w : Walks K J xs H0 E) {f : D → M (List D)} {b0 bfin : List D} (hf : lcGo f xs b0 = .ok ys bfin) (St : List D → List D → Hp → Prop) (h0 : St [] b0 H0)
    (hg : ∀ acc b H, St acc b H → Grow H0 E H E) (hh : ∀ acc b H, St acc b H → ∀ c, E c → ∃ o, H c = some o) {B : V → Hp → (Hp → Prop) → Prop}
    (hb : ∀ acc b H x d H' r b', St acc b H → Alloc H H' → VR K H' E x d → f d b = .ok r b' → acc.length + r.length ≤ ys.length → ∀ Nx : Hp → Prop, (∀ H2, St (acc ++ r) b' H2 → Nx H2) → B x H' Nx) {Q : Hp → Prop} (hq : ∀ H, St ys bfin H → Q H) :
    ∃ W : Nat → Nat → Hp → Prop, (∃ m, W 0 m H0) ∧ ∀ i m H, W i m H → (J.stop i H ∧ Q H) ∨ (J.go i H ∧ ∃ Nx : Hp → Prop, (∀ H', Nx H' → ∃ m', m' < m ∧ W (i + 1) m' H') ∧ ∀ x H', J.yld i H x H' → B x H' Nx) := by
  obtain ⟨P, p0, pg, go, st, yl⟩ := w.ex
  refine ⟨fun i m H => m = xs.length - i ∧ i ≤ xs.length ∧ ∃ acc b rest, St acc b H ∧ lcGo f (xs.drop i) b = .ok rest bfin ∧ acc ++ rest = ys, ⟨xs.length, by omega, by omega, [], b0, ys, h0, hf, rfl⟩, fun i m H ⟨em, hi, acc, b, rest, hs, hl, ha⟩ => ?_⟩
  have pH := pg _ _ _ _ p0 (hg _ _ _ hs)
  by_cases hlt : i < xs.length
  · right
    have e0 : xs.drop i = xs[i] :: xs.drop (i + 1) := List.drop_eq_getElem_cons hlt
    rw [e0] at hl
    obtain ⟨r, b1, h1, hl⟩ := bind_okM (m := f xs[i]) hl
    obtain ⟨rs, b2, h2, hl⟩ := bind_okM hl
    cases hl
    refine ⟨go i H E hlt pH, fun H' => St (acc ++ r) b1 H', fun H' hs' => ⟨xs.length - (i + 1), by omega, rfl, hlt, acc ++ r, b1, rs, hs', h2, by rw [List.append_assoc]; exact ha⟩, fun x H' hy => ?_⟩
    obtain ⟨al, d, hd, hv⟩ := yl i H E x H' hlt pH hy
    rw [List.getElem?_eq_getElem hlt] at hd
    cases hd
    refine hb acc b H x _ H' r b1 hs al (hv (hh _ _ _ hs)) h1 ?_ _ fun _ q => q
    rw [← ha]
    simp only [List.length_append]
    omega
  · left
    have e : i = xs.length := by omega
    subst e
    rw [List.drop_length] at hl
    cases hl
    rw [List.append_nil] at ha
    subst ha
    exact ⟨st H E pH, hq H hs⟩
theorem lcGo_len {f : D → M (List D)} (hf : ∀ d b r b', f d b = .ok r b' → r.length ≤ 1) : ∀ {xs ys : List D} {b b' : List D}, lcGo f xs b = .ok ys b' → ys.length ≤ xs.length
  | [], ys, b, b', h => by cases h; exact Nat.le_refl _
  | x :: xs, ys, b, b', h => by
    obtain ⟨r, b1, h1, h⟩ := bind_okM (m := f x) h
    obtain ⟨rs, b2, h2, h⟩ := bind_okM h
    cases h
    have := hf _ _ _ _ h1
    have := lcGo_len hf h2
    simp only [List.length_append, List.length_cons]
    omega
/-- E and one address more -/
abbrev pl (E : Addr → Prop) (p : Addr) : Addr → Prop := fun a => E a ∨ V.ref p = V.ref a
/-- a comprehension's state: the new list of kept items, the boxes; all else as at the begin -/
structure LSt (K : PySem.W.Frag) (β : List Addr) (E : Addr → Prop) (p : Addr) (H1 : Hp) (acc b : List D) (H : Hp) : Prop where
  at_ : ∃ vacc, H p = some (.lst vacc) ∧ VRs K H (pl E p) vacc acc
  bx : Bxs K β (pl E p) b H
  stab : Stab (p :: β) H1 H
section
variable {p : Addr} {H1 : Hp} {acc : List D}
theorem Stab.cons (t : Stab β H H') : Stab (p :: β) H H' := fun a o n e => t a o (fun z => n (by simp [z])) e
theorem LSt.new (x : Bxs K β E b H1) (n : H1 p = none) : LSt K β E p H1 [] b (upd H1 p (.lst [])) :=
  ⟨⟨[], upd_same, .nil⟩, x.newP n, (Stab.upd n).cons⟩
theorem LSt.sr (s : SR K β E env b σ H1) (n : H1 p = none) (l : LSt K β E p H1 acc b' H) : SR K β (pl E p) env b' σ H := by
  have ne : ∀ a o, H1 a = some o → a ≠ p := fun a o e z => by rw [z, n] at e; cases e
  refine s.next2 (fun a o nb _ e => l.stab a o ?_ e) l.bx (fun _ h => .inl h) fun a o na e => ⟨?_, l.stab a o ?_ e⟩
  · simp only [List.mem_cons, not_or]
    exact ⟨ne a o e, nb⟩
  · rintro (z | z)
    · exact na z
    · exact ne a o e (V.ref.inj z).symm
  · simp only [List.mem_cons, not_or]
    exact ⟨ne a o e, fun z => na (s.bx.inE a z)⟩
theorem LSt.grow (x : Bxs K β E b H1) (l : LSt K β E p H1 acc b' H) : Grow (upd H1 p (.lst [])) (pl E p) H (pl E p) := fun c o nc e => by
  have hc : c ≠ p := fun z => nc (.inr (by rw [z]))
  refine ⟨nc, l.stab c o ?_ (by rw [upd_ne hc] at e; exact e)⟩
  simp only [List.mem_cons, not_or]
  exact ⟨hc, fun z => nc (.inl (x.inE c z))⟩
theorem LSt.next (l : LSt K β E p H1 acc b H) (np : p ∉ β) (t : Stab β H H') (x : Bxs K β (pl E p) b' H') : LSt K β E p H1 acc b' H' := by
  obtain ⟨vacc, e, r⟩ := l.at_
  exact ⟨⟨vacc, t p _ np e, r.mono (t.grow l.bx.inE)⟩, x, l.stab.trans t.cons⟩
theorem LSt.app {vacc : List V} {y : V} {d : D} (l : LSt K β E p H1 acc b H) (np : p ∉ β) (e : H p = some (.lst vacc)) (hv : VR K H (pl E p) y d) : LSt K β E p H1 (acc ++ [d]) b (upd H p (.lst (vacc ++ [y]))) := by
  obtain ⟨vacc', e', r⟩ := l.at_
  rw [e] at e'; cases e'
  have g : Grow H (pl E p) (upd H p (.lst (vacc ++ [y]))) (pl E p) := Grow.updE (.inr rfl)
  refine ⟨⟨_, upd_same, (r.mono g).append (.cons (VR.mono g hv) .nil)⟩, l.bx.wr (.inr rfl) np, l.stab.trans fun a o n e => ?_⟩
  rw [upd_ne (show a ≠ p from fun z => n (by simp [z]))]
  exact e
theorem LSt.post {H0 : Hp} {b1 ys : List D} (s : SR K β E env b σ H0) (t1 : Stab β H0 H1) (x : Bxs K β E b1 H1) (n : H1 p = none) (l : LSt K β E p H1 ys b' H) : Post K β E env σ H0 (.fr (.lst ys)) b' (.ref p) H := by
  obtain ⟨vacc, e, r⟩ := l.at_
  refine ⟨t1.trans fun a o nb e => l.stab a o ?_ e, l.bx, p, rfl, new_of s t1 x n, vacc, e, r⟩
  simp only [List.mem_cons, not_or]
  exact ⟨fun z => (nomatch (show (none : Option HO) = some o by rw [← n, ← z]; exact e)), nb⟩
theorem Bxs.np (x : Bxs K β E b H) (n : H p = none) : p ∉ β := fun m => by
  obtain ⟨o, e⟩ := x.has p (x.inE p m)
  rw [n] at e; cases e
end
/-- a turn: the store, the test -/
theorem turn_ok {xc : Nat → V → Prop} {t : Tg} {own : List Nat} {ct : List Slot → M Bool} {et : List Slot → M (List D)} {x : V} {d : D} {r : List D} {P : St → Bool → Hp → Prop} (ho : ∀ i ∈ t.vars, i ∈ own) (s : SR K β E env b σ H) (hv : VR K H E x d)
    (h : lcT (fun x => setT t x (wipeE env own)) ct et d b = .ok r b')
    (h1 : ∀ σ2 env2 b1 H3, OwnK env σ env2 σ2 → SR K β E env2 b1 σ2 H3 → Stab β H H3 → et env2 b1 = .ok r b' → P σ2 true H3)
    (h2 : ∀ σ2 env2 H3, OwnK env σ env2 σ2 → SR K β E env2 b' σ2 H3 → Stab β H H3 → r = [] → P σ2 false H3) :
    TIg K t x (L2.wipe σ own) H fun σ2 H2 => L2.wipe σ2 own = L2.wipe σ own ∧ TIt K xc XF ct σ2 H2 fun k H3 => P σ2 k H3 := by
  obtain ⟨env2, b1, e1, h⟩ := bind_okM h
  obtain ⟨k, b2, e2, h⟩ := bind_okM h
  have e1 : M.opt (setT t d (wipeE env own)) b = .ok env2 b1 := e1
  cases q : setT t d (wipeE env own) with
  | none => rw [q] at e1; cases e1
  | some env2' =>
    rw [q] at e1; cases e1
    refine ⟨β, E, _, b, d, env2, s.wipe own, hv, q, fun σ2 s2 w o2 => ?_⟩
    have w3 := (own_wipe own).trans o2
    have w2 : L2.wipe σ2 own = L2.wipe σ own := by rw [w own ho, wipe_wipe]
    refine ⟨w2, β, E, env2, b, s2, ?_⟩
    rw [e2]
    intro H3 p
    cases k with
    | true =>
      rw [if_pos rfl] at h
      exact h1 σ2 env2 b2 H3 w3 (p.sr s2) p.stab h
    | false =>
      rw [if_neg (by decide)] at h
      cases h
      exact h2 σ2 env2 H3 w3 (p.sr s2) p.stab rfl
/-- the item -/
theorem item_ok {xc : Nat → V → Prop} {m : List Slot → M R} {p : Addr} {H1 : Hp} {acc r : List D} {Nx : Hp → Prop} (np : p ∉ β) (s : SR K β (pl E p) env b σ H) (l : LSt K β E p H1 acc b H) (h : keep1 m env b = .ok r b') (hl : acc.length + r.length ≤ sizeLine)
    (hn : ∀ H2, LSt K β E p H1 (acc ++ r) b' H2 → Nx H2) : TI K xc XF m σ H fun y H4 => ∃ vacc, H4 p = some (.lst vacc) ∧ vacc.length < sizeLine ∧ Nx (upd H4 p (.lst (vacc ++ [y]))) := by
  obtain ⟨y, b1, e1, h⟩ := bind_okM h
  obtain ⟨d, b2, e2, h⟩ := bind_okM h
  cases h
  refine ⟨β, pl E p, env, b, s, ?_⟩
  rw [e1]
  intro v H4 q
  have s4 := q.sr0 s
  have w : RW K β (pl E p) env σ H4 v y := q.rv.weak s
  obtain ⟨e3, hv⟩ := w.keep e2
  subst e3
  have l4 := l.next np q.stab s4.bx
  obtain ⟨vacc, e4, r4⟩ := l4.at_
  refine ⟨vacc, e4, ?_, hn _ (l4.app np e4 hv)⟩
  rw [r4.length]
  simp only [List.length_cons, List.length_nil] at hl
  omega
theorem item_ok2 {xc : Nat → V → Prop} {m : List Slot → M R} {p : Addr} {H1 H0 : Hp} {acc r : List D} {Nx : Hp → Prop} (np : p ∉ β) (s : SR K β (pl E p) env b σ H) (l : LSt K β E p H1 acc b H) (h : keep1 m env b = .ok r b') (hl : acc.length + r.length ≤ sizeLine) (t0 : Stab (p :: β) H0 H)
    (hn : ∀ H2, LSt K β E p H1 (acc ++ r) b' H2 → Stab (p :: β) H0 H2 → Nx H2) : TI K xc XF m σ H fun y H4 => ∃ vacc, H4 p = some (.lst vacc) ∧ vacc.length < sizeLine ∧ Nx (upd H4 p (.lst (vacc ++ [y]))) := by
  obtain ⟨y, b1, e1, h⟩ := bind_okM h
  obtain ⟨d, b2, e2, h⟩ := bind_okM h
  cases h
  refine ⟨β, pl E p, env, b, s, ?_⟩
  rw [e1]
  intro v H4 q
  have s4 := q.sr0 s
  have w : RW K β (pl E p) env σ H4 v y := q.rv.weak s
  obtain ⟨e3, hv⟩ := w.keep e2
  subst e3
  have l4 := l.next np q.stab s4.bx
  obtain ⟨vacc, e4, r4⟩ := l4.at_
  refine ⟨vacc, e4, ?_, hn _ (l4.app np e4 hv) ((t0.trans q.stab.cons).trans fun a o n e => ?_)⟩
  · rw [r4.length]
    simp only [List.length_cons, List.length_nil] at hl
    omega
  · rw [upd_ne (show a ≠ p from fun z => n (by simp [z]))]
    exact e
theorem keep1_len {m : List Slot → M R} {env : List Slot} {b b' : List D} {r : List D} (h : keep1 m env b = .ok r b') : r.length ≤ 1 := by
  obtain ⟨y, b1, e1, h⟩ := bind_okM h
  obtain ⟨d, b2, e2, h⟩ := bind_okM h
  cases h
  exact Nat.le_refl _
theorem lcT_len {g : D → Option (List Slot)} {c : List Slot → M Bool} {e : List Slot → M (List D)} (he : ∀ env b r b', e env b = .ok r b' → r.length ≤ 1) {d : D} {b b' r : List D} (h : lcT g c e d b = .ok r b') : r.length ≤ 1 := by
  obtain ⟨env2, b1, e1, h⟩ := bind_okM h
  obtain ⟨k, b2, e2, h⟩ := bind_okM h
  cases k with
  | true => rw [if_pos rfl] at h; exact he _ _ _ _ h
  | false => rw [if_neg (by decide)] at h; cases h; exact Nat.zero_le _
end
section
variable {C : Cfg} {κ : Kp} {xc : Nat → V → Prop} {CX : CXT} {lv : Nat}
theorem ifs_ok {X : Cx} {c : IE} {ckt : SC → Expr → Bool} {S : SC} {ifs : List Expr} (h : ifsB c ckt S ifs = true) (hc : ∀ e, ckt S e = true → PT X e (TIt X.K xc XF (den κ c).t)) : PTs X ifs (TIt X.K xc XF (den κ c).t) := by
  unfold ifsB at h
  split at h
  · split at h
    · exact ⟨fun pins s0 σ H Q I ⟨β, E, env, b, s, h⟩ => pts_nil.run pins s0 σ H Q I (h H ⟨Stab.refl, s.bx⟩)⟩
    · cases h
  · exact pts_one (hc _ h)
  · cases h
theorem own_map {N : List Str} : ∀ {own : List Nat} {o : List (Str × Nat)}, (own.filterMap fun i => (N[i]?).map fun x => (x, i)) = o → o.length = own.length → o.map (·.2) = own
  | [], o, e, _ => by subst e; rfl
  | i :: r, o, e, hl => by
    subst e
    have hle : (r.filterMap fun i => (N[i]?).map fun x => (x, i)).length ≤ r.length := List.length_filterMap_le _ _
    rw [List.filterMap_cons] at hl ⊢
    cases q : N[i]? with
    | none =>
      simp only [q, Option.map_none] at hl
      simp only [List.length_cons] at hl
      omega
    | some x =>
      simp only [q, Option.map_some] at hl ⊢
      simp only [List.length_cons, Nat.add_right_cancel_iff] at hl
      rw [List.map_cons, own_map rfl hl]
theorem blkB_ok {N : List Str} {sc scope : Scope} {own : List Nat} {o : List (Str × Nat)} (h : blkB N sc scope own = some o) : o.map (·.2) = own ∧ BlkOk N sc scope o := by
  unfold blkB at h
  simp only at h
  split at h
  · rename_i q
    cases h
    exact ⟨own_map rfl q.1, blkOk_by q.2⟩
  · cases h
/-- a comprehension of one clause: from the small language to the rule's wish -/
theorem lc_key {own : List Nat} {t : Tg} {sx c e : IE} {X : Cx} {xk : XK} {σ : St} {H : Hp} {Q : VK} (ho : ∀ i ∈ t.vars, i ∈ own) (h : TI X.K xc xk (den κ (.lc own t sx c e)).v σ H Q) :
    tLc (TIi X.K xc xk (den κ sx).i) (TIg X.K t) (TIt X.K xc XF (den κ c).t) (TI X.K xc XF (den κ e).v) own σ H Q := by
  obtain ⟨β, E, env, b, s, h⟩ := h
  refine ⟨β, E, env, b, s, ?_⟩
  refine (out_bind h).mono fun xs b1 h J H1 p hx hw q hq => ?_
  have s1 := p.sr s
  cases q1 : M.nox (lcGo (lcT (fun x => setT t x (wipeE env own)) (den κ c).t (keep1 (den κ e).v)) xs) b1 with
  | bad => have h := out_bind h; rw [q1] at h; exact False.elim h
  | exn c b' => unfold M.nox at q1; split at q1 <;> cases q1
  | ok ys bfin =>
    have h := out_bind h
    rw [q1] at h
    have hl := nox_ok q1
    have np := s1.bx.np hq
    have hys : ys.length ≤ xs.length := lcGo_len (fun d b r b' h => lcT_len (fun env b r b' h => keep1_len h) h) hl
    have l0 := LSt.new s1.bx hq
    have hw' : Walks X.K J xs (upd H1 q (.lst [])) (pl E q) := by
      obtain ⟨P, p0, pg, r⟩ := hw.ex
      exact ⟨P, pg _ _ _ _ p0 (plus_new hq), pg, r⟩
    refine loop_walk hw' hl (fun acc b H => LSt X.K β E q H1 acc b H) l0 (fun acc b H l => l.grow s1.bx) (fun acc b H l => l.bx.has) (fun acc b H x d H' r b' l al hv hf hlen Nx hn => ?_) fun H' l => h _ H' (LSt.post s p.stab s1.bx hq l)
    have l' : LSt X.K β E q H1 acc b H' := l.next np al.stab (al.bx l.bx)
    refine turn_ok ho (LSt.sr s1 hq l') hv hf (fun σ2 env2 b2 H3 _ s3 t3 h3 => ?_) (fun σ2 env2 H3 _ s3 t3 h3 => ?_)
    · rw [if_pos rfl]
      exact item_ok np s3 (l'.next np t3 s3.bx) h3 (by omega) hn
    · rw [if_neg (by decide)]
      subst h3
      exact hn _ (by rw [List.append_nil]; exact l'.next np t3 s3.bx)
theorem snd_lc {own : List Nat} {t : Tg} {sx c e : IE} (hs : Snd C κ xc CX lv sx) (hc : Snd C κ xc CX lv c) (he : Snd C κ xc CX lv e) : Snd C κ xc CX lv (.lc own t sx c e) := fun X xk S G => snd_ofV fun x h => by
  split at h
  · rename_i el tg it ifs scope pos
    split at h
    · rename_i o hb
      simp only [Bool.and_eq_true, List.all_eq_true, decide_eq_true_eq] at h
      obtain ⟨⟨⟨⟨⟨h1, h2⟩, h3⟩, h4⟩, h5⟩, h6⟩ := h
      obtain ⟨em, bk⟩ := blkB_ok hb
      rw [← G.N, ← G.sc] at bk
      have hi := (hs X xk S G).i _ _ h3
      refine (pe_lc (te := TI X.K xc XF (den κ e).v) (tt := TIt X.K xc XF (den κ c).t) (g := TIg X.K t) G.calm G.nd hi.2 bk (fun s H c cl fp => (snd_tg t (G.blk s H scope cl c fp)).v _ h4) (fun s H cc cl fp => ifs_ok h5 ((hc _ _ _ (G.blk s H scope cl cc fp)).t)) (fun s H cc cl fp => (he _ _ _ (G.blk s H scope cl cc fp)).v _ h6) hi.1).imp fun _ σ H Q _ _ h => ?_
      rw [em]
      exact lc_key h2 h
    · cases h
  · cases h
/-- .. of two clauses -/
theorem lc2_key {own own2 : List Nat} {t t2 : Tg} {sx c s2 c2 e : IE} {X : Cx} {xk : XK} {σ : St} {H : Hp} {Q : VK} (ho : ∀ i ∈ t.vars, i ∈ own) (ho2 : ∀ i ∈ t2.vars, i ∈ own2) (h : TI X.K xc xk (den κ (.lc2 own own2 t sx c t2 s2 c2 e)).v σ H Q) :
    tLc2 (TIi X.K xc xk (den κ sx).i) (TIg X.K t) (TIt X.K xc XF (den κ c).t) (TIi X.K xc XF (den κ s2).i) (TIg X.K t2) (TIt X.K xc XF (den κ c2).t) (TI X.K xc XF (den κ e).v) own own2 σ H Q := by
  obtain ⟨β, E, env, b, s, h⟩ := h
  refine ⟨β, E, env, b, s, ?_⟩
  refine (out_bind h).mono fun xs b1 h J H1 p hx hw q hq => ?_
  have s1 := p.sr s
  generalize hm : (lcGo _ xs : M (List D)) = m at h
  cases q1 : M.nox m b1 with
  | bad => have h := out_bind h; rw [q1] at h; exact False.elim h
  | exn c b' => unfold M.nox at q1; split at q1 <;> cases q1
  | ok ys bfin =>
    have h := out_bind h
    rw [q1] at h
    have h : Out X.K xc xk β E H (fun r b' => ∀ v H', Post X.K β E env σ H r b' v H' → Q v H') (fits ys bfin) := h
    have hl := nox_ok q1
    rw [← hm] at hl
    have hys : ys.length ≤ LIM := by
      unfold fits at h
      split at h
      · assumption
      · exact False.elim h
    have hys2 := Nat.le_trans hys LIM_line
    unfold fits at h
    rw [if_pos hys] at h
    have np := s1.bx.np hq
    have l0 := LSt.new s1.bx hq
    have hw' : Walks X.K J xs (upd H1 q (.lst [])) (pl E q) := by
      obtain ⟨P, p0, pg, r⟩ := hw.ex
      exact ⟨P, pg _ _ _ _ p0 (plus_new hq), pg, r⟩
    refine loop_walk hw' hl (fun acc b H => LSt X.K β E q H1 acc b H) l0 (fun acc b H l => l.grow s1.bx) (fun acc b H l => l.bx.has) (fun acc b H x d H' r b' l al hv hf hlen Nx hn => ?_) fun H' l => h _ H' (LSt.post s p.stab s1.bx hq l)
    have l' : LSt X.K β E q H1 acc b H' := l.next np al.stab (al.bx l.bx)
    refine turn_ok ho (LSt.sr s1 hq l') hv hf (fun σ2 env2 b2 H3 ok s3 t3 h3 => ?_) (fun σ2 env2 H3 ok s3 t3 h3 => ?_)
    · rw [if_pos rfl]
      have l3 : LSt X.K β E q H1 acc b2 H3 := l'.next np t3 s3.bx
      obtain ⟨zs, b4, e4, h3⟩ := bind_okM h3
      refine ⟨β, pl E q, env2, b2, s3, ?_⟩
      rw [e4]
      intro J1 H4 p4 hz hw4
      have s4 := p4.sr s3
      have l4 := l3.next np p4.stab s4.bx
      have no : ∀ (i : Nat) (d : D), env2[i]? = some (Slot.own d) → σ2[i]? ≠ some (some (V.ref q)) := fun i d e => by
        obtain ⟨e1, e2⟩ := ok i d e
        rw [e2]
        obtain ⟨a, e3, ea, c, _⟩ := s1.slots i _ e1
        rw [e3]
        intro z
        cases z
        obtain ⟨o, e4⟩ := c.has
        rw [hq] at e4; cases e4
      refine loop_walk hw4 h3 (fun acc2 b H => LSt X.K β E q H1 (acc ++ acc2) b H ∧ Stab (q :: β) H4 H) ⟨by rw [List.append_nil]; exact l4, Stab.refl⟩ (fun acc2 b H l => ?_) (fun acc2 b H l => l.1.bx.has) (fun acc2 b5 H5 x5 d5 H5' r5 b5' l5 al5 hv5 hf5 hlen5 Nx5 hn5 => ?_) fun H' l => hn H' l.1
      · intro c o nc e
        refine ⟨nc, l.2 c o ?_ e⟩
        simp only [List.mem_cons, not_or]
        exact ⟨fun z => nc (.inr (by rw [z])), fun z => nc (s4.bx.inE c z)⟩
      · have l5' : LSt X.K β E q H1 (acc ++ acc2) b5 H5' := l5.1.next np al5.stab (al5.bx l5.1.bx)
        have s5 : SR X.K β (pl E q) env2 b5 σ2 H5' := s4.next3 no (.inr rfl) (l5.2.trans al5.stab) l5'.bx
        have st5 : Stab (q :: β) H4 H5' := l5.2.trans al5.stab
        refine turn_ok ho2 s5 hv5 hf5 (fun σ6 env6 b6 H6 _ s6 t6 h6 => ?_) (fun σ6 env6 H6 _ s6 t6 h6 => ?_)
        · rw [if_pos rfl]
          have l6 := l5'.next np t6 s6.bx
          refine item_ok2 np s6 l6 h6 (by simp only [List.length_append]; omega) (st5.trans t6.cons) fun H2 l2 st2 => hn5 H2 ⟨?_, st2⟩
          rw [← List.append_assoc]; exact l2
        · rw [if_neg (by decide)]
          subst h6
          exact hn5 _ ⟨by rw [List.append_nil]; exact l5'.next np t6 s6.bx, st5.trans t6.cons⟩
    · rw [if_neg (by decide)]
      subst h3
      exact hn _ (by rw [List.append_nil]; exact l'.next np t3 s3.bx)
theorem snd_lc2 {own own2 : List Nat} {t t2 : Tg} {sx c s2 c2 e : IE} (hs : Snd C κ xc CX lv sx) (hc : Snd C κ xc CX lv c) (hs2 : Snd C κ xc CX lv s2) (hc2 : Snd C κ xc CX lv c2) (he : Snd C κ xc CX lv e) : Snd C κ xc CX lv (.lc2 own own2 t sx c t2 s2 c2 e) := fun X xk S G => snd_ofV fun x h => by
  split at h
  · rename_i el tg it ifs tg2 it2 ifs2 scope pos
    split at h
    · rename_i o hb
      simp only [Bool.and_eq_true, List.all_eq_true, decide_eq_true_eq] at h
      obtain ⟨⟨⟨⟨⟨⟨⟨⟨⟨⟨⟨h0, h1⟩, h2⟩, h3⟩, h4⟩, h5⟩, h6⟩, h7⟩, h8⟩, h9⟩, h10⟩, h11⟩ := h
      obtain ⟨em, bk⟩ := blkB_ok hb
      rw [← G.N, ← G.sc] at bk
      have hi := (hs X xk S G).i _ _ h5
      refine (pe_lc2 (vs1 := own2) (te := TI X.K xc XF (den κ e).v) (tt := TIt X.K xc XF (den κ c).t) (g := TIg X.K t) (wi1 := TIi X.K xc XF (den κ s2).i) (tt1 := TIt X.K xc XF (den κ c2).t) (g1 := TIg X.K t2) G.calm G.nd hi.2 bk (by rw [em]; exact h4)
        (fun s H c cl fp => (snd_tg t (G.blk s H scope cl c fp)).v _ h6) (fun s H cc cl fp => ifs_ok h7 ((hc _ _ _ (G.blk s H scope cl cc fp)).t)) (fun s H c cl fp => ((hs2 _ _ _ (G.blk s H scope cl c fp)).i _ _ h8).2) (fun s H c cl fp => (snd_tg t2 (G.blk s H scope cl c fp)).v _ h9) (fun s H cc cl fp => ifs_ok h10 ((hc2 _ _ _ (G.blk s H scope cl cc fp)).t))
        (fun s H cc cl fp => (he _ _ _ (G.blk s H scope cl cc fp)).v _ h11) hi.1 (fun env x => nset_fold h1 x)).imp fun _ σ H Q _ _ h => ?_
      rw [em]
      exact lc2_key h2 h3 h
    · cases h
  · cases h
end
end Sg

-- SgZip
/-! SgZip: enumerate and zip over lists, tuples, texts. -/
namespace Sg
open PySem PySem.Spec PyProof.Rows L2
/-- what is walked within -/
inductive Sr where
  | txt (z : Str) | tup (a : Addr) | lst (a : Addr)
def Sr.val : Sr → V
  | .txt z => .str z
  | .tup a => .ref a
  | .lst a => .ref a
def Sr.at (K : PySem.W.Frag) (H : Hp) : Sr → List V → Prop
  | .txt z, ys => ys = z.cps.toList.map fun c => V.str ⟨#[c]⟩
  | .tup a, ys => SqT K H a ys
  | .lst a, ys => SqL K H a ys
def Sr.small : Sr → List V → Prop
  | .txt _, _ => True
  | _, ys => ys.length ≤ sizeLine
def Sr.apart : Sr → Addr → Prop
  | .txt _, _ => True
  | .tup a, c => c ≠ a
  | .lst a, c => c ≠ a
def Sr.stt : Sr → Addr → Nat → Heap → Prop
  | .txt z, it, i, h => ∃ t, h.IsStrIter it (strIterType z) z t i
  | .tup a, it, i, h => h.IsTupleIter it a i
  | .lst a, it, i, h => h.IsListIter it a i
theorem Sr.stt_obj {sr : Sr} {it : Addr} {i : Nat} {h : Heap} (st : sr.stt it i h) : ∃ o, h.get? it = some o ∧ ∀ v, o.data ≠ .cell v := by
  cases sr with
  | txt z => obtain ⟨t, o, ho, _, hd⟩ := st; exact ⟨o, ho, fun v q => by rw [hd] at q; cases q⟩
  | tup a => obtain ⟨o, ho, _, hd⟩ := st; exact ⟨o, ho, fun v q => by rw [hd] at q; cases q⟩
  | lst a => obtain ⟨o, ho, _, hd⟩ := st; exact ⟨o, ho, fun v q => by rw [hd] at q; cases q⟩
theorem Sr.stt_at {sr : Sr} {it : Addr} {i : Nat} {h h' : Heap} (st : sr.stt it i h) (k : ∀ o, h.get? it = some o → h'.get? it = some o) : sr.stt it i h' := by
  cases sr with
  | txt z => obtain ⟨t, o, ho, r⟩ := st; exact ⟨t, o, k o ho, r⟩
  | tup a => exact Heap.IsTupleIter.at st k
  | lst a => exact Heap.IsListIter.at st k
theorem vals_get : ∀ {ys : List V} {us : List Value} {j : Nat} {x : Value}, Vals ys us → us[j]? = some x → ∃ y, ys[j]? = some y ∧ RelV y x
  | _, _, _, _, .nil, e => by cases e
  | _, _, 0, _, .cons r t, e => by cases e; exact ⟨_, rfl, r⟩
  | _, _, j + 1, _, .cons r t, e => vals_get (j := j) t e
section
variable {X : Cx} {pins : List (Addr × Obj)} {σ : St} {H : Hp} {s : Shared}
theorem Sr.small_of {sr : Sr} {xs : List V} (I : Inv X pins σ H s) (h : sr.at X.K H xs) : sr.small xs := by
  cases sr with
  | txt z => trivial
  | tup a => obtain ⟨_, _, _, z⟩ := I.tuple h; exact z
  | lst a => obtain ⟨_, _, _, z⟩ := I.list h; exact z
theorem Sr.inj {sr : Sr} {xs ys : List V} (I : Inv X pins σ H s) (h1 : sr.at X.K H xs) (h2 : sr.at X.K H ys) : xs = ys := by
  cases sr with
  | txt z => exact Eq.trans h1 (Eq.symm h2)
  | tup a => exact I.tuple_inj h1 h2
  | lst a => exact I.list_inj h1 h2
theorem Sr.draws {sr : Sr} {ys : List V} {it : Addr} {i : Nat} (hc : X.calm = true) (I : Inv X pins σ H s) (h : sr.at X.K H ys) (st : sr.stt it i s.heap) (ap : sr.apart it) :
    ∃ (fp : List Addr) (n : Nat) (P : Nat → Value → Prop) (St : Nat → Heap → Prop), n = ys.length ∧ Draws X.prog X.w X.A.in1 it fp n P St ∧ it ∈ fp ∧ (∀ c, c ≠ it → sr.apart c → c ∉ fp) ∧ St i s.heap ∧ (∀ j h, St j h → sr.stt it j h) ∧ ∀ j x, P j x → ∃ y, ys[j]? = some y ∧ RelV y x := by
  have hh : X.A.in1.handled = none := I.ok.hd hc
  cases sr with
  | txt z =>
    obtain ⟨t, st⟩ := st
    cases h
    refine ⟨[it], _, _, _, by simp, Draws.text hh it z t, by simp, fun c hc _ => by simp [hc], st, fun j h st => ⟨t, st⟩, fun j x ⟨c, u, h1, h2⟩ => ?_⟩
    refine ⟨V.str ⟨#[c]⟩, ?_, u, h2⟩
    rw [List.getElem?_map]
    have : z.cps.toList[j]? = some c := by simpa using h1
    rw [this]; rfl
  | tup a =>
    obtain ⟨its, rv, p, hz⟩ := I.tuple h
    have ap : it ≠ a := ap
    refine ⟨[it, a], _, _, _, by rw [List.size_toArray, rv.length], Draws.tuple hh it a ap.symm its.toArray, by simp, fun c hc (hc2 : c ≠ a) => by simp [hc, hc2], ⟨st, p⟩, fun j h st => st.1, fun j x hx => ?_⟩
    have hx' : its[j]? = some x := by simpa using hx
    exact vals_get rv hx'
  | lst a =>
    obtain ⟨its, rv, p, hz⟩ := I.list h
    have ap : it ≠ a := ap
    refine ⟨[it, a], _, _, _, by rw [List.size_toArray, rv.length], Draws.list hh it a ap.symm its.toArray, by simp, fun c hc (hc2 : c ≠ a) => by simp [hc, hc2], ⟨st, p.isList⟩, fun j h st => st.1, fun j x hx => ?_⟩
    have hx' : its[j]? = some x := by simpa using hx
    exact vals_get rv hx'
theorem Sr.begins {sr : Sr} {ys : List V} {u : Value} (I : Inv X pins σ H s) (h : sr.at X.K H ys) (r : RelV sr.val u) :
    ∃ (o : Obj) (Hh : Heap → Prop), Begins u o Hh ∧ Hh s.heap ∧ (∀ it h, h.get? it = some o → sr.stt it 0 h) ∧ ∀ c, s.heap.objs.size ≤ c → sr.apart c := by
  cases sr with
  | txt z =>
    obtain ⟨t, rfl⟩ := r
    exact ⟨_, _, begins_text z t, trivial, fun it h e => ⟨t, _, e, rfl, rfl⟩, fun _ _ => trivial⟩
  | tup a =>
    cases r
    obtain ⟨its, rv, p, hz⟩ := I.tuple h
    refine ⟨_, _, begins_tuple a its.toArray, p, fun it h e => ⟨_, e, rfl, rfl⟩, fun c hc => ?_⟩
    obtain ⟨o, ho, _⟩ := id p
    have := Heap.lt_size ho
    exact Nat.ne_of_gt (Nat.lt_of_lt_of_le this hc)
  | lst a =>
    cases r
    obtain ⟨its, rv, p, hz⟩ := I.list h
    refine ⟨_, _, begins_list a its.toArray, p.isList, fun it h e => ⟨_, e, rfl, rfl⟩, fun c hc => ?_⟩
    exact Nat.ne_of_gt (Nat.lt_of_lt_of_le p.lt hc)
end

/-! ### enumerate -/
def IteS (K : PySem.W.Frag) (sr : Sr) : It :=
  ⟨fun i H => ∃ (xs : List V) (x : V), sr.at K H xs ∧ xs[i]? = some x, fun i H v H' => ∃ T x ob, v = .ref T ∧ H T = none ∧ ob.dict = none ∧ H' = upd H T (.frz ob (.tup [.int (i : Nat), x])) ∧ ∀ xs, sr.at K H xs → xs[i]? = some x, fun i H => ∃ xs : List V, sr.at K H xs ∧ xs.length = i⟩
theorem turn_enumS {P : Program} {w : World} {K : PySem.W.Frag} {elts : List Expr} {kk : Nat} {tpos : Pos} (sr : Sr) (e it : Addr) (a1 : sr.apart e) (a2 : sr.apart it) (hne : e ≠ it) :
    Turn P w K (.Tuple elts kk tpos) (IteS K sr) [e, it] e (fun i h => (∃ old, IsEnum h e it ((i : Nat) : Int) old) ∧ sr.stt it i h) where
  mem := by simp
  obj := fun i h st b hb => by
    obtain ⟨⟨old, he⟩, hi⟩ := st
    have e' : b = e ∨ b = it := by simpa using hb
    rcases e' with z | z
    · rw [z]; exact ⟨_, he, fun v q => nomatch q⟩
    · rw [z]; exact Sr.stt_obj hi
  keep := fun i h h' st k => let ⟨⟨old, he⟩, hi⟩ := st; ⟨⟨old, k e (by simp) _ he⟩, Sr.stt_at hi fun o q => k it (by simp) o q⟩
  item := by
    intro X hP hw hK hc i pins s σ H E I hf st hg
    subst hP hw hK
    obtain ⟨⟨old, he⟩, hit⟩ := st
    obtain ⟨xs, x, hq, hx⟩ := hg
    obtain ⟨fp, n, Pd, St, hn, D, hmem, hout, hst, hback, hP⟩ := Sr.draws hc I hq hit a2
    have hlt : i < n := by rw [hn]; exact (List.getElem?_eq_some_iff.mp hx).1
    have hel : e < s.heap.objs.size := Heap.lt_size he
    have hil : it < s.heap.objs.size := by obtain ⟨_, q, _⟩ := Sr.stt_obj hit; exact Heap.lt_size q
    refine wpAny_pyNext_enum_itemD D he hst hlt hne (hout e hne a1) fun u h' tk hu ho hst' hT hsz hk => ?_
    obtain ⟨x', hx', ru⟩ := hP _ _ hu
    rw [hx] at hx'; cases hx'
    refine ⟨_, rfl, wpAny_letOwnedTupleGo_enum (s := { s with heap := h', toks := tk + 1 }) ho fun h'' he' sb => ?_⟩
    have hT2 : h''.get? s.heap.objs.size = some { cls := .type "tuple", data := .seq #[.int i tk, u] } := (sb.2 _ (Nat.ne_of_gt hel)).trans hT
    have new : ObjOk X.prog X.w (upd H s.heap.objs.size (.frz { cls := .type "tuple", data := .seq #[.int i tk, u] } (.tup [.int (i : Nat), x]))) h'' s.heap.objs.size (.frz { cls := .type "tuple", data := .seq #[.int i tk, u] } (.tup [.int (i : Nat), x])) :=
      ⟨hT2, by show 2 ≤ sizeLine; decide, [.int i tk, u], .cons ⟨_, rfl⟩ (.cons ru .nil), ⟨_, hT2, rfl, _, rfl⟩⟩
    have I1 : Inv X pins σ (upd H s.heap.objs.size (.frz { cls := .type "tuple", data := .seq #[.int i tk, u] } (.tup [.int (i : Nat), x]))) { s with heap := h'', toks := tk + 1 } :=
      I.turnedNew (ch := [e, it]) (fun b ob hb q => (sb.2 b (fun z => hb (by simp [z]))).trans (hk b ob (fun z => hb (by simp [z])) (fun z => hb (by simp [z])) q)) hf (Nat.le_refl _) new
    refine ⟨.ref s.heap.objs.size, _, I1, rfl, ⟨_, x, _, rfl, I.hok.fresh (Nat.le_refl _), rfl, rfl, fun ys hy => by rw [Sr.inj I hy hq]; exact hx⟩, ⟨⟨u, ?_⟩, ?_⟩, fun b hb => ?_⟩
    · have e1 : ((i + 1 : Nat) : Int) = (i : Int) + 1 := by omega
      rw [e1]; exact he'
    · exact Sr.stt_at (hback _ _ hst') fun o q => (sb.2 it hne.symm).trans q
    · have hb' : b < s.heap.objs.size := by
        have e' : b = e ∨ b = it := by simpa using hb
        rcases e' with z | z
        · rw [z]; exact hel
        · rw [z]; exact hil
      rw [upd_ne (Nat.ne_of_lt hb')]
      exact (hf b hb).1
  done := by
    intro X hP hw hK hc i pins s σ H E I hf st hg
    subst hP hw hK
    obtain ⟨⟨old, he⟩, hit⟩ := st
    obtain ⟨xs, hq, hx⟩ := hg
    obtain ⟨fp, n, Pd, St, hn, D, hmem, hout, hst, hback, hP⟩ := Sr.draws hc I hq hit a2
    obtain ⟨f0, f1, f2, f3, f4, f5⟩ := hf it (by simp)
    have e1 : i = n := by rw [hn, hx]
    exact wpAny_pyNext_enum_endD D he (by rw [← e1]; exact hst) fun h' eb => ⟨rfl, I.turned (t' := s.toks) (fun b o hb q => eb b o hb q) f0 f1 f3 f4 f5⟩
  self := fun A i s Q E st h => let ⟨⟨_, he⟩, _⟩ := st; wpAny_pyIter_enum he h
theorem meets_enumerate_newB1 {v : Value} {o : Obj} {H : Heap → Prop} (B : Begins v o H) :
    Meets (Builtin.«enumerate.__new__» ⟨[.type "enumerate", v], []⟩) (fun _ R s => H s.heap ∧
      R (.ok (.ret (.ref (s.heap.push o).objs.size))) { s with heap := (s.heap.push o).push { cls := .type "enumerate", data := .fields #[.none, .bool false, .ref s.heap.objs.size, rawInt 0, .none, .none] } }) :=
  .of_wp fun prog w A R s h => by
    obtain ⟨hp, g, d, tk, os⟩ := s; obtain ⟨h1, h⟩ := h
    have hsub := sub_enumerate
    have q1 : ∀ {A' : Around} {E : Value → Shared → Prop} {Q : Value → Shared → Prop}, Q (.ref hp.objs.size) ⟨hp.push o, g, d, tk, os⟩ → wpAny (model prog w) A' (pyIter v) Q E ⟨hp, g, d, tk, os⟩ :=
      fun q => B.iter prog w _ _ ⟨hp, g, d, tk, os⟩ _ h1 q
    wp_walk using q1
    refine wpAny_stack_any fun st => wpAny_pure ?_
    split
    · rename_i c _ _ _ _ _
      cases (c == Value.type "enumerate")
      · wp_walk using q1
        exact ⟨_, rfl, h⟩
      · wp_walk using q1
        exact ⟨_, rfl, h⟩
    · wp_walk using q1
      exact ⟨_, rfl, h⟩
theorem enum_begins1 {prog : Program} {w : World} {A : Around} {E : Value → Shared → Prop} {s : Shared} {v : Value} {o : Obj} {H : Heap → Prop} {Q : Value → Shared → Prop} (B : Begins v o H) (h1 : H s.heap)
    (h : ∀ h', IsEnum h' (s.heap.objs.size + 1) s.heap.objs.size 0 .none → h'.get? s.heap.objs.size = some o → h'.objs.size = s.heap.objs.size + 2 →
      (∀ b o, s.heap.get? b = some o → h'.get? b = some o) → Q (.ref (s.heap.objs.size + 1)) { s with heap := h' }) :
    wpAny (model prog w) A (call (.type "enumerate") [v]) Q E s := by
  refine callType_new F.called_enumerate (by decide) (F.typeCall_enumerate_1 _) (F.newCall_enumerate_1 _) (fun obj => F.args_object_init_2 obj _) F.entry_enumerate_new
    (meets_enumerate_newB1 B) ⟨h1, ?_⟩
  have hz : (s.heap.push o).objs.size = s.heap.objs.size + 1 := Heap.size_push ..
  show _ ∧ _
  rw [hz]
  have he : IsEnum ((s.heap.push o).push { cls := .type "enumerate", data := .fields #[.none, .bool false, .ref s.heap.objs.size, rawInt 0, .none, .none] }) (s.heap.objs.size + 1) s.heap.objs.size 0 .none := by
    have := Heap.get?_push_size (s.heap.push o) (o := { cls := .type "enumerate", data := .fields #[.none, .bool false, .ref s.heap.objs.size, rawInt 0, .none, .none] }) rfl
    rw [hz] at this; exact this
  refine ⟨⟨_, he, rfl⟩, h _ he (Heap.get?_push_of_some _ (Heap.get?_push_size _ B.free)) (by rw [Heap.size_push, hz]) fun b o x => Heap.get?_push_of_some _ (Heap.get?_push_of_some _ x)⟩
def iEnumS (K : PySem.W.Frag) (ta : TA) : L2.TI := fun σ H R => ta σ H fun vs H1 => ∃ (sr : Sr) (xs : List V), vs = [sr.val] ∧ sr.at K H1 xs ∧ (sr.small xs → R (IteS K sr) H1)
theorem pi_enumS {X : Cx} {e : Expr} {ta : TA} {p pos tpos : Pos} {elts : List Expr} {kk : Nat} (hg : Gl X "enumerate") (hm : X.mg "enumerate" = none) (ha : PA X [e] ta) (hs : starEach [e] X.env = [(false, eval e X.env)] := by rfl) :
    PI X (.Tuple elts kk tpos) (.Call (.Name "enumerate" p) [e] [] pos) (iEnumS X.K ta) := by
  refine ⟨fun pins s σ H R I h => ?_⟩
  refine Call_ (ld_blt I hg hm boot_enumerate (PyProof.Rows.callWith_type1 (thn (ha.run pos pins s σ H _ I h) fun us s1 ⟨vs, H1, I1, r1, q1⟩ => ?_) hs rfl))
  obtain ⟨sr, xs, ex, hq, q⟩ := q1
  subst ex
  cases r1 with
  | cons r rr =>
    cases rr
    obtain ⟨o, Hh, B, b1, b2, b3⟩ := Sr.begins I1 hq r
    refine enum_begins1 B b1 fun h' he hit hsz hk => wpAny_pyIter_enum he ?_
    have I2 : Inv X pins σ H1 { s1 with heap := h' } := I1.kept (t' := s1.toks) hk
    refine ⟨s1.heap.objs.size + 1, [s1.heap.objs.size + 1, s1.heap.objs.size], _, _, H1, rfl, I2, turn_enumS sr (s1.heap.objs.size + 1) s1.heap.objs.size (b3 _ (Nat.le_add_right _ _)) (b3 _ (Nat.le_refl _)) (Nat.succ_ne_self _), ⟨⟨.none, he⟩, b2 _ _ hit⟩, fun b hb => ?_, q (Sr.small_of I1 hq)⟩
    have e' : b = s1.heap.objs.size + 1 ∨ b = s1.heap.objs.size := by simpa using hb
    have hle : s1.heap.objs.size ≤ b := by
      rcases e' with z | z
      · rw [z]; exact Nat.le_add_right _ _
      · rw [z]; exact Nat.le_refl _
    exact I1.fpOk hle (I1.hok.fresh hle)

/-! ### zip -/
def ItzS (K : PySem.W.Frag) (sa sb : Sr) : It :=
  ⟨fun i H => ∃ (xs ys : List V) (x y : V), sa.at K H xs ∧ sb.at K H ys ∧ xs[i]? = some x ∧ ys[i]? = some y,
    fun i H v H' => ∃ T x y ob, v = .ref T ∧ H T = none ∧ ob.dict = none ∧ H' = upd H T (.frz ob (.tup [x, y])) ∧ (∀ xs, sa.at K H xs → xs[i]? = some x) ∧ ∀ ys, sb.at K H ys → ys[i]? = some y,
    fun i H => ∃ xs ys : List V, sa.at K H xs ∧ sb.at K H ys ∧ i ≤ xs.length ∧ i ≤ ys.length ∧ (i = xs.length ∨ i = ys.length)⟩
structure ZA (sa sb : Sr) (z TI TO i1 i2 : Addr) : Prop where
  TIz : TI ≠ z
  TOz : TO ≠ z
  TITO : TI ≠ TO
  TIi1 : TI ≠ i1
  TIi2 : TI ≠ i2
  zi1 : z ≠ i1
  zi2 : z ≠ i2
  TOi1 : TO ≠ i1
  TOi2 : TO ≠ i2
  i12 : i1 ≠ i2
  a1 : ∀ c ∈ [z, TI, TO, i1, i2], sa.apart c
  a2 : ∀ c ∈ [z, TI, TO, i1, i2], sb.apart c
theorem turn_zipS {P : Program} {w : World} {K : PySem.W.Frag} {elts : List Expr} {kk : Nat} {tpos : Pos} {sa sb : Sr} {z TI TO i1 i2 : Addr} (D : ZA sa sb z TI TO i1 i2) :
    Turn P w K (.Tuple elts kk tpos) (ItzS K sa sb) [z, TI, TO, i1, i2] z (fun i h => IsZip h z TI TO .none ∧ IsTupOf2 h TI (.ref i1) (.ref i2) ∧ (∃ x y, IsTupOf2 h TO x y) ∧ sa.stt i1 i h ∧ sb.stt i2 i h) where
  mem := by simp
  obj := fun i h st c hc => by
    obtain ⟨hz, hTI, ⟨x, y, hTO⟩, h1, h2⟩ := st
    have e' : c = z ∨ c = TI ∨ c = TO ∨ c = i1 ∨ c = i2 := by simpa using hc
    rcases e' with q | q | q | q | q
    · rw [q]; exact ⟨_, hz, fun v q => nomatch q⟩
    · rw [q]; exact ⟨_, hTI, fun v q => nomatch q⟩
    · rw [q]; exact ⟨_, hTO, fun v q => nomatch q⟩
    · rw [q]; exact Sr.stt_obj h1
    · rw [q]; exact Sr.stt_obj h2
  keep := fun i h h' st k => by
    obtain ⟨hz, hTI, ⟨x, y, hTO⟩, h1, h2⟩ := st
    exact ⟨k z (by simp) _ hz, k TI (by simp) _ hTI, ⟨x, y, k TO (by simp) _ hTO⟩, Sr.stt_at h1 fun o q => k i1 (by simp) o q, Sr.stt_at h2 fun o q => k i2 (by simp) o q⟩
  item := by
    intro X hP hw hK hc i pins s σ H E I hf st hg
    subst hP hw hK
    obtain ⟨hz, hTI, ⟨x0, y0, hTO⟩, h1, h2⟩ := st
    obtain ⟨xs, ys, x, y, hqx, hqy, hx, hy⟩ := hg
    obtain ⟨fp1, n1, P1, St1, hn1, D1, m1, o1, st1, bk1, hP1⟩ := Sr.draws hc I hqx h1 (D.a1 _ (by simp))
    obtain ⟨fp2, n2, P2, St2, hn2, D2, m2, o2, st2, bk2, hP2⟩ := Sr.draws hc I hqy h2 (D.a2 _ (by simp))
    have hlt1 : i < n1 := by rw [hn1]; exact (List.getElem?_eq_some_iff.mp hx).1
    have hlt2 : i < n2 := by rw [hn2]; exact (List.getElem?_eq_some_iff.mp hy).1
    have S : ZipSep2 z TI TO i1 i2 fp1 fp2 := ⟨D.TIz, D.TOz, D.TITO, D.TIi1, m1, o1 _ D.zi1 (D.a1 _ (by simp)), o1 _ D.TOi1 (D.a1 _ (by simp)), D.TIi2, m2, o2 _ D.zi2 (D.a2 _ (by simp)), o2 _ D.TOi2 (D.a2 _ (by simp)), o2 _ D.i12 (D.a2 _ (by simp)), o1 _ D.i12.symm (D.a1 _ (by simp))⟩
    have hzl : z < s.heap.objs.size := Heap.lt_size hz
    refine wpAny_pyNext_zipD2_item S D1 D2 hz hTI hTO st1 st2 hlt1 hlt2 fun u u2 h' tk hu hu2 z' TO' h1' h2' hT hsz hk => ?_
    obtain ⟨x', hx', ru⟩ := hP1 _ _ hu
    rw [hx] at hx'; cases hx'
    obtain ⟨y', hy', ru2⟩ := hP2 _ _ hu2
    rw [hy] at hy'; cases hy'
    refine ⟨_, rfl, wpAny_letOwnedTupleGo_zip (s := { s with heap := h', toks := tk }) z' fun h'' z'' sb => ?_⟩
    have hT2 : h''.get? s.heap.objs.size = some { cls := .type "tuple", data := .seq #[u, u2] } := (sb.2 _ (Nat.ne_of_gt hzl)).trans hT
    have new : ObjOk X.prog X.w (upd H s.heap.objs.size (.frz { cls := .type "tuple", data := .seq #[u, u2] } (.tup [x, y]))) h'' s.heap.objs.size (.frz { cls := .type "tuple", data := .seq #[u, u2] } (.tup [x, y])) :=
      ⟨hT2, by show 2 ≤ sizeLine; decide, [u, u2], .cons ru (.cons ru2 .nil), ⟨_, hT2, rfl, _, rfl⟩⟩
    have I1 : Inv X pins σ (upd H s.heap.objs.size (.frz { cls := .type "tuple", data := .seq #[u, u2] } (.tup [x, y]))) { s with heap := h'', toks := tk } :=
      I.turnedNew (t' := tk) (ch := [z, TI, TO, i1, i2]) (fun c o hb q => (sb.2 c (fun q' => hb (by simp [q']))).trans (hk c o (fun q' => hb (by simp [q'])) (fun q' => hb (by simp [q'])) (fun q' => hb (by simp [q'])) (fun q' => hb (by simp [q'])) q)) hf (Nat.le_refl _) new
    refine ⟨.ref s.heap.objs.size, _, I1, rfl, ⟨_, x, y, _, rfl, I.hok.fresh (Nat.le_refl _), rfl, rfl, fun l hl => by rw [Sr.inj I hl hqx]; exact hx, fun l hl => by rw [Sr.inj I hl hqy]; exact hy⟩, ⟨z'', ?_, ⟨u, u2, ?_⟩, ?_, ?_⟩, fun c hcm => ?_⟩
    · exact (sb.2 _ D.TIz).trans (hk _ _ D.TIz D.TITO D.TIi1 D.TIi2 hTI)
    · exact (sb.2 _ D.TOz).trans TO'
    · exact Sr.stt_at (bk1 _ _ h1') fun o q => (sb.2 _ D.zi1.symm).trans q
    · exact Sr.stt_at (bk2 _ _ h2') fun o q => (sb.2 _ D.zi2.symm).trans q
    · have hlt : c < s.heap.objs.size := by
        have e' : c = z ∨ c = TI ∨ c = TO ∨ c = i1 ∨ c = i2 := by simpa using hcm
        rcases e' with q | q | q | q | q
        · rw [q]; exact hzl
        · rw [q]; exact Heap.lt_size hTI
        · rw [q]; exact Heap.lt_size hTO
        · rw [q]; obtain ⟨_, e1, _⟩ := Sr.stt_obj h1; exact Heap.lt_size e1
        · rw [q]; obtain ⟨_, e2, _⟩ := Sr.stt_obj h2; exact Heap.lt_size e2
      rw [upd_ne (Nat.ne_of_lt hlt)]
      exact (hf c hcm).1
  done := by
    intro X hP hw hK hc i pins s σ H E I hf st hg
    subst hP hw hK
    obtain ⟨hz, hTI, ⟨x0, y0, hTO⟩, h1, h2⟩ := st
    obtain ⟨xs, ys, hqx, hqy, hl1, hl2, hend⟩ := hg
    obtain ⟨fp1, n1, P1, St1, hn1, D1, m1, o1, st1, bk1, hP1⟩ := Sr.draws hc I hqx h1 (D.a1 _ (by simp))
    obtain ⟨fp2, n2, P2, St2, hn2, D2, m2, o2, st2, bk2, hP2⟩ := Sr.draws hc I hqy h2 (D.a2 _ (by simp))
    have S : ZipSep2 z TI TO i1 i2 fp1 fp2 := ⟨D.TIz, D.TOz, D.TITO, D.TIi1, m1, o1 _ D.zi1 (D.a1 _ (by simp)), o1 _ D.TOi1 (D.a1 _ (by simp)), D.TIi2, m2, o2 _ D.zi2 (D.a2 _ (by simp)), o2 _ D.TOi2 (D.a2 _ (by simp)), o2 _ D.i12 (D.a2 _ (by simp)), o1 _ D.i12.symm (D.a1 _ (by simp))⟩
    exact wpAny_pyNext_zipD2_end S D1 D2 hz hTI hTO st1 st2 (by rw [hn1]; exact hl1) (by rw [hn2]; exact hl2) (by rw [hn1, hn2]; exact hend) fun h' tk hk => ⟨rfl, I.turnedL (t' := tk) (ch := [z, TI, TO, i1, i2]) (fun c o hb q =>
      hk c o (fun q' => hb (by simp [q'])) (fun q' => hb (by simp [q'])) (fun q' => hb (by simp [q'])) (fun q' => hb (by simp [q'])) q) hf⟩
  self := fun A i s Q E st h => wpAny_pyIter_zip st.1 h
def iZipS (K : PySem.W.Frag) (ta : TA) : L2.TI := fun σ H R => ta σ H fun vs H1 => ∃ (sa sb : Sr) (xs ys : List V), vs = [sa.val, sb.val] ∧ sa.at K H1 xs ∧ sb.at K H1 ys ∧ (sa.small xs → sb.small ys → R (ItzS K sa sb) H1)
theorem pi_zipS {X : Cx} {e e2 : Expr} {ta : TA} {p pos tpos : Pos} {elts : List Expr} {kk : Nat} (hg : Gl X "zip") (hm : X.mg "zip" = none) (ha : PA X [e, e2] ta)
    (hs : starEach [e, e2] X.env = (false, eval e X.env) :: starEach [e2] X.env := by rfl) (hpl : (backTo pos (starEach [e2] X.env)).any (·.1) = false := by rfl) :
    PI X (.Tuple elts kk tpos) (.Call (.Name "zip" p) [e, e2] [] pos) (iZipS X.K ta) := by
  refine ⟨fun pins s σ H R I h => ?_⟩
  refine Call_ (ld_blt I hg hm PyProof.Rows.boot_zip (PyProof.Rows.callWith_type1 (thn (ha.run pos pins s σ H _ I h) fun us s1 ⟨vs, H1, I1, r1, q1⟩ => ?_) hs hpl))
  obtain ⟨sa, sb, xs, ys, ex, hqx, hqy, q⟩ := q1
  subst ex
  cases r1 with
  | cons r rr =>
    cases rr with
    | cons r' rr =>
      cases rr
      obtain ⟨o1, H1', B1, b1, b2, b3⟩ := Sr.begins I1 hqx r
      obtain ⟨o2, H2', B2, c1, c2, c3⟩ := Sr.begins I1 hqy r'
      have le5 : ∀ c, c ∈ [s1.heap.objs.size + 4, s1.heap.objs.size + 2, s1.heap.objs.size + 3, s1.heap.objs.size, s1.heap.objs.size + 1] → s1.heap.objs.size ≤ c := fun c hcm => by
        have e' : c = s1.heap.objs.size + 4 ∨ c = s1.heap.objs.size + 2 ∨ c = s1.heap.objs.size + 3 ∨ c = s1.heap.objs.size ∨ c = s1.heap.objs.size + 1 := by simpa using hcm
        rcases e' with z | z | z | z | z
        · rw [z]; exact Nat.le_add_right _ _
        · rw [z]; exact Nat.le_add_right _ _
        · rw [z]; exact Nat.le_add_right _ _
        · rw [z]; exact Nat.le_refl _
        · rw [z]; exact Nat.le_add_right _ _
      refine zip_begins2 B1 B2 b1 c1 fun h' hz hTI hTO h1 h2 hsz hk => wpAny_pyIter_zip hz ?_
      have I2 : Inv X pins σ H1 { s1 with heap := h' } := I1.kept (t' := s1.toks) hk
      have za : ZA sa sb (s1.heap.objs.size + 4) (s1.heap.objs.size + 2) (s1.heap.objs.size + 3) s1.heap.objs.size (s1.heap.objs.size + 1) := by
        generalize s1.heap.objs.size = N at b3 c3 le5
        exact ⟨by intro z; have z : (N + 2 : Nat) = N + 4 := z; omega, by intro z; have z : (N + 3 : Nat) = N + 4 := z; omega, by intro z; have z : (N + 2 : Nat) = N + 3 := z; omega, by intro z; have z : (N + 2 : Nat) = N := z; omega, by intro z; have z : (N + 2 : Nat) = N + 1 := z; omega, by intro z; have z : (N + 4 : Nat) = N := z; omega, by intro z; have z : (N + 4 : Nat) = N + 1 := z; omega, by intro z; have z : (N + 3 : Nat) = N := z; omega, by intro z; have z : (N + 3 : Nat) = N + 1 := z; omega, by intro z; have z : (N : Nat) = N + 1 := z; omega, fun c hc => b3 c (le5 c hc), fun c hc => c3 c (le5 c hc)⟩
      exact ⟨s1.heap.objs.size + 4, [s1.heap.objs.size + 4, s1.heap.objs.size + 2, s1.heap.objs.size + 3, s1.heap.objs.size, s1.heap.objs.size + 1], _, _, H1, rfl, I2, turn_zipS za, ⟨hz, hTI, ⟨_, _, hTO⟩, b2 _ _ h1, c2 _ _ h2⟩, fun c hcm => I1.fpOk (le5 c hcm) (I1.hok.fresh (le5 c hcm)), q (Sr.small_of I1 hqx) (Sr.small_of I1 hqy)⟩

/-! ### walks of pairs -/
section
variable {K : PySem.W.Frag} {H : Hp} {E : Addr → Prop}
/-- a source of data -/
def SrD (K : PySem.W.Frag) (H : Hp) (E : Addr → Prop) (v : V) (xs : List D) (sr : Sr) : Prop := v = sr.val ∧ ∀ H2 E2, Grow H E H2 E2 → ∃ ys, sr.at K H2 ys ∧ VRs K H2 E2 ys xs
theorem VRs.chars : ∀ {s : List Char}, VRs K H E (s.map fun c => V.str (strOf [c])) (s.map fun c => D.str [c])
  | [] => .nil
  | c :: s => .cons (.str [c]) VRs.chars
theorem src_of {v : V} {d : D} {xs : List D} (h : VR K H E v d) (e : itD d = some xs) : ∃ sr, SrD K H E v xs sr := by
  cases h with
  | str z =>
    simp only [itD] at e
    split at e
    · cases e
      refine ⟨.txt (strOf z), rfl, fun H2 E2 g => ⟨_, rfl, ?_⟩⟩
      have : ((strOf z).cps.toList.map fun c => V.str ⟨#[c]⟩) = z.map fun c => V.str (strOf [c]) := by
        unfold strOf
        simp
      rw [this]
      exact VRs.chars
    · cases e
  | tup n e2 r => cases e; exact ⟨.tup _, rfl, fun H2 E2 g => ⟨_, (e2.up fun _ u => (g _ _ n u).2).sq, r.mono g⟩⟩
  | lst n e2 r => cases e; exact ⟨.lst _, rfl, fun H2 E2 g => ⟨_, SqL.of (g _ _ n e2).2, r.mono g⟩⟩
  | scr hs =>
    cases e
    exact ⟨.lst _, rfl, fun H2 E2 g => ⟨_, hs H2 fun b o n e => (g b o n e).2, VRs.ints _⟩⟩
  | _ => cases e
theorem SrD.grow {v : V} {xs : List D} {sr : Sr} {H2 : Hp} {E2 : Addr → Prop} (h : SrD K H E v xs sr) (g : Grow H E H2 E2) : SrD K H2 E2 v xs sr := ⟨h.1, fun H3 E3 k => h.2 H3 E3 (g.trans k)⟩
theorem SrD.now {v : V} {xs : List D} {sr : Sr} (h : SrD K H E v xs sr) : ∃ ys, sr.at K H ys ∧ VRs K H E ys xs := h.2 H E Grow.refl
theorem enumD_get {xs : List D} {i : Nat} {d : D} (h : xs[i]? = some d) : (enumD xs)[i]? = some (.tup [.int (i : Nat), d]) := by
  unfold enumD
  simp [h]
theorem zipD_get {xs ys : List D} {i : Nat} {d e : D} (h : xs[i]? = some d) (k : ys[i]? = some e) : (zipD xs ys)[i]? = some (.tup [d, e]) := by
  unfold zipD
  rw [List.getElem?_map, (List.getElem?_zip_eq_some (z := (d, e))).mpr ⟨h, k⟩]
  rfl
theorem noE_of {T : Addr} (h : ∀ c, E c → ∃ o, H c = some o) (n : H T = none) : ¬ E T := fun z => by
  obtain ⟨o, e⟩ := h T z
  rw [n] at e; cases e
theorem upd_has {T : Addr} {o : HO} (h : ∀ c, E c → ∃ u, upd H T o c = some u) (hE : ¬ E T) : True := trivial
theorem pair_vr {T : Addr} {ob : Obj} {x y : V} {d e : D} (hd : ob.dict = none) (n : H T = none) (nE : ¬ E T) (h1 : VR K H E x d) (h2 : VR K H E y e) : VR K (upd H T (.frz ob (.tup [x, y]))) E (.ref T) (.tup [d, e]) :=
  .tup nE ⟨ob, hd, upd_same⟩ (.cons (VR.mono (fun c u nc e => ⟨nc, by rw [upd_ne (ne_of_none e n)]; exact e⟩) h1) (.cons (VR.mono (fun c u nc e => ⟨nc, by rw [upd_ne (ne_of_none e n)]; exact e⟩) h2) .nil))
theorem walks_enum {v : V} {sr : Sr} {xs : List D} (h : SrD K H E v xs sr) : Walks K (IteS K sr) (enumD xs) H E := by
  have hl : (enumD xs).length = xs.length := by simp [enumD]
  refine ⟨fun H E => SrD K H E v xs sr, h, fun H E H2 E2 h g => h.grow g, fun i H E hi h => ?_, fun H E h => ?_, fun i H E x H2 hi h y => ?_⟩
  · obtain ⟨ys, h1, h2⟩ := h.now
    have hi' : i < ys.length := by rw [h2.length, ← hl]; exact hi
    exact ⟨ys, ys[i], h1, List.getElem?_eq_getElem hi'⟩
  · obtain ⟨ys, h1, h2⟩ := h.now
    exact ⟨ys, h1, by rw [h2.length, hl]⟩
  · obtain ⟨ys, h1, h2⟩ := h.now
    obtain ⟨T, x', ob, rfl, n, hd, rfl, f⟩ := y
    obtain ⟨d, e1, r1⟩ := h2.get (f ys h1)
    exact ⟨.inr ⟨T, _, n, rfl⟩, _, enumD_get e1, fun hE => pair_vr hd n (noE_of hE n) (.int _) r1⟩
theorem walks_zip {v v2 : V} {sa sb : Sr} {xs ys : List D} (h : SrD K H E v xs sa) (k : SrD K H E v2 ys sb) : Walks K (ItzS K sa sb) (zipD xs ys) H E := by
  have hl : (zipD xs ys).length = min xs.length ys.length := by simp [zipD]
  refine ⟨fun H E => SrD K H E v xs sa ∧ SrD K H E v2 ys sb, ⟨h, k⟩, fun H E H2 E2 h g => ⟨h.1.grow g, h.2.grow g⟩, fun i H E hi h => ?_, fun H E h => ?_, fun i H E x H2 hi h y => ?_⟩
  · obtain ⟨us, h1, h2⟩ := h.1.now
    obtain ⟨ws, k1, k2⟩ := h.2.now
    have hi1 : i < us.length := by rw [h2.length]; omega
    have hi2 : i < ws.length := by rw [k2.length]; omega
    exact ⟨us, ws, us[i], ws[i], h1, k1, List.getElem?_eq_getElem hi1, List.getElem?_eq_getElem hi2⟩
  · obtain ⟨us, h1, h2⟩ := h.1.now
    obtain ⟨ws, k1, k2⟩ := h.2.now
    refine ⟨us, ws, h1, k1, by rw [hl, h2.length]; omega, by rw [hl, k2.length]; omega, ?_⟩
    rw [hl, h2.length, k2.length]
    omega
  · obtain ⟨us, h1, h2⟩ := h.1.now
    obtain ⟨ws, k1, k2⟩ := h.2.now
    obtain ⟨T, x', y', ob, rfl, n, hd, rfl, f, g⟩ := y
    obtain ⟨d, e1, r1⟩ := h2.get (f us h1)
    obtain ⟨d2, e2, r2⟩ := k2.get (g ws k1)
    exact ⟨.inr ⟨T, _, n, rfl⟩, _, zipD_get e1 e2, fun hE => pair_vr hd n (noE_of hE n) r1 r2⟩
end

/-! ### enumerate, zip -/
theorem src_len {K : PySem.W.Frag} {H : Hp} {E : Addr → Prop} {v : V} {d : D} {xs : List D} (h : VR K H E v d) (e : itD d = some xs) : ∃ sr ys, SrD K H E v xs sr ∧ v = sr.val ∧ sr.at K H ys ∧ (sr.small ys → xs.length ≤ sizeLine) := by
  obtain ⟨sr, h1⟩ := src_of h e
  obtain ⟨ys, h2, h3⟩ := h1.now
  refine ⟨sr, ys, h1, h1.1, h2, fun hs => ?_⟩
  cases h with
  | str z =>
    simp only [itD] at e
    split at e
    · rename_i hz
      cases e
      rw [List.length_map]
      exact Nat.le_trans hz LIM_line
    · cases e
  | _ =>
    have e1 := h1.1
    cases sr with
    | txt z => cases e1
    | _ => rw [← h3.length]; exact hs
section
variable {C : Cfg} {κ : Kp} {xc : Nat → V → Prop} {CX : CXT} {lv : Nat}
theorem snd_enum {a : IE} (ha : Snd C κ xc CX lv a) : Snd C κ xc CX lv (.enum a) := fun X xk S G => snd_ofI fun tg e h => by
  split at h
  · rename_i x p y pos
    simp only [Bool.and_eq_true, decide_eq_true_eq] at h
    obtain ⟨⟨⟨⟨rfl, h2⟩, h3⟩, h5⟩, h4⟩ := h
    obtain ⟨gl, _, _⟩ := G.gl h2
    cases tg <;> try (cases h5; done)
    refine ⟨nset_fold rfl, ⟨fun pins s0 σ H Rr I ⟨β, E, env, bs, s, h⟩ => (pi_enumS gl (G.bn _ (by decide +kernel)) (pa_cons ((ha X xk S G).v _ h4) pa_nil (starEach_ns h3)) (by rw [starEach_ns h3]; rfl)).run pins s0 σ H Rr I ?_⟩⟩
    refine ti_step s h fun rx b1 x H1 s1 t1 wx h => ?_
    obtain ⟨d, p, h⟩ := out_keep wx h
    obtain ⟨xs, e, h⟩ := out_opt h
    obtain ⟨sr, ys, q1, q2, q3, q4⟩ := src_len p e
    refine ⟨sr, ys, by rw [q2], q3, fun hs => h _ H1 ⟨t1, s1.bx⟩ ?_ (walks_enum q1)⟩
    have : (enumD xs).length = xs.length := by simp [enumD]
    rw [this]; exact q4 hs
  · cases h
theorem snd_zip {a b : IE} (ha : Snd C κ xc CX lv a) (hb : Snd C κ xc CX lv b) : Snd C κ xc CX lv (.zip a b) := fun X xk S G => snd_ofI fun tg e h => by
  split at h
  · rename_i x p y z pos
    simp only [Bool.and_eq_true, decide_eq_true_eq] at h
    obtain ⟨⟨⟨⟨⟨⟨rfl, h2⟩, h3⟩, h3'⟩, h6⟩, h4⟩, h5⟩ := h
    obtain ⟨gl, _, _⟩ := G.gl h2
    cases tg <;> try (cases h6; done)
    refine ⟨nset_fold rfl, ⟨fun pins s0 σ H Rr I ⟨β, E, env, bs, s, h⟩ => (pi_zipS gl (G.bn _ (by decide +kernel)) (pa_cons ((ha X xk S G).v _ h4) (pa_cons ((hb X xk S G).v _ h5) pa_nil (starEach_ns h3')) (starEach_ns h3)) (starEach_ns h3) (any_ns (es := [z]) (by simp [h3']))).run pins s0 σ H Rr I ?_⟩⟩
    refine ti_step s h fun rx b1 x H1 s1 t1 wx h => ?_
    refine ti_step s1 h fun ry b2 y H2 s2 t2 wy h => ?_
    have wx2 : RW X.K β E env σ H2 x rx := wx.mono (t2.vr s1.bx.inE)
    obtain ⟨dx, px, h⟩ := out_keep wx2 h
    obtain ⟨dy, py, h⟩ := out_keep wy h
    obtain ⟨xs, ex, h⟩ := out_opt h
    obtain ⟨ys, ey, h⟩ := out_opt h
    obtain ⟨sa, us, q1, q2, q3, q4⟩ := src_len px ex
    obtain ⟨sb, ws, r1, r2, r3, r4⟩ := src_len py ey
    refine ⟨sa, sb, us, ws, by rw [q2, r2], q3, r3, fun hs hs2 => h _ H2 ⟨t1.trans t2, s2.bx⟩ ?_ (walks_zip q1 r1)⟩
    have : (zipD xs ys).length = min xs.length ys.length := by simp [zipD]
    have := q4 hs
    omega
  · cases h
theorem snd_constV {d : D} : ∀ X xk S, Gd C κ xc CX lv X xk S → Snd1 C κ xc X xk S (Ck.ofV fun _ e => constB d e) (Pk.ofV fun _ => M.pure (.val d)) := fun X xk S G => snd_ofV fun e h => const_ok h
theorem snd_int {i : Int} : Snd C κ xc CX lv (.int i) := fun X xk S G => snd_ofV fun e h => by
  split at h
  · obtain rfl := of_decide_eq_true h
    exact pe_int.imp fun _ _ _ _ _ _ => ti_const fun _ _ => .int _
  · cases h
theorem VRs.rg {K : PySem.W.Frag} {H : Hp} {E : Addr → Prop} {i j : Int} : VRs K H E (rgV i j) (rngD i j) := by
  unfold rgV rngD
  generalize List.range (j - i).toNat = l
  induction l with
  | nil => exact .nil
  | cons a l ih => exact .cons (.int _) ih
theorem rg_ok {i j : Int} (hi : big i = true) (hj : big j = true) : RgOk i j := by
  have h1 := big_iff hi
  have h2 := big_iff hj
  exact ⟨by omega, by omega, by omega, by omega, by omega⟩
theorem lr_endT {X : Cx} {xk : XK} {i j : Int} {β : List Addr} {E : Addr → Prop} {env : List Slot} {b b1 : List D} {σ : St} {H H1 : Hp} {Q : VK} (s : SR X.K β E env b σ H) (s1 : SR X.K β E env b1 σ H1) (t1 : Stab β H H1)
    (h : Out X.K xc xk β E H1 (fun r b' => ∀ v H', Post X.K β E env σ H r b' v H' → Q v H') (rngV true i j b1)) : RgOk i j ∧ NewT H1 (rgV i j) Q := by
  unfold rngV at h
  split at h
  · rename_i hb
    simp only [Bool.and_eq_true] at hb
    exact ⟨rg_ok hb.1 hb.2, fun q o hd np => h _ _ (post_tup t1 s1.bx hd np VRs.rg)⟩
  · exact False.elim h
theorem lr_endL {X : Cx} {xk : XK} {i j : Int} {β : List Addr} {E : Addr → Prop} {env : List Slot} {b b1 : List D} {σ : St} {H H1 : Hp} {Q : VK} (s : SR X.K β E env b σ H) (s1 : SR X.K β E env b1 σ H1) (t1 : Stab β H H1)
    (h : Out X.K xc xk β E H1 (fun r b' => ∀ v H', Post X.K β E env σ H r b' v H' → Q v H') (rngV false i j b1)) : RgOk i j ∧ ∀ q, H1 q = none → Q (.ref q) (upd H1 q (.lst (rgV i j))) := by
  unfold rngV at h
  split at h
  · rename_i hb
    simp only [Bool.and_eq_true] at hb
    exact ⟨rg_ok hb.1 hb.2, fun q np => h _ _ (post_fr s t1 s1.bx np VRs.rg)⟩
  · exact False.elim h
theorem snd_lr1 {t : Bool} {a : IE} (ha : Snd C κ xc CX lv a) : Snd C κ xc CX lv (.lr1 t a) := fun X xk S G => snd_ofV fun e h => by
  split at h
  · rename_i x p z p2 y q2 pos
    simp only [Bool.and_eq_true, decide_eq_true_eq] at h
    obtain ⟨⟨⟨⟨⟨rfl, rfl⟩, h2⟩, h2'⟩, h3⟩, h4⟩ := h
    obtain ⟨gl, _, _⟩ := G.gl h2
    obtain ⟨gl', _, _⟩ := G.gl h2'
    have rg := prg_1 (p := p2) (pos := q2) gl' (G.bn _ (by decide +kernel)) ((ha X xk S G).v _ h4) (by rw [starEach_ns h3])
    cases t with
    | true =>
      refine (pe_tupRF G.calm gl (G.bn _ (by decide +kernel)) rg rfl).imp fun _ σ H Q _ _ ⟨β, E, env, bs, s, h⟩ => ?_
      refine ti_step s h fun rx b1 x H1 s1 t1 wx h => ?_
      obtain ⟨i, rfl, h⟩ := toI_of wx h
      exact ⟨i, rfl, lr_endT s s1 t1 h⟩
    | false =>
      refine (pe_listRg G.calm gl (G.bn _ (by decide +kernel)) rg rfl).imp fun _ σ H Q _ _ ⟨β, E, env, bs, s, h⟩ => ?_
      refine ti_step s h fun rx b1 x H1 s1 t1 wx h => ?_
      obtain ⟨i, rfl, h⟩ := toI_of wx h
      exact ⟨i, rfl, lr_endL s s1 t1 h⟩
  · cases h
theorem snd_lr2 {t : Bool} {a b : IE} (ha : Snd C κ xc CX lv a) (hb : Snd C κ xc CX lv b) : Snd C κ xc CX lv (.lr2 t a b) := fun X xk S G => snd_ofV fun e h => by
  split at h
  · rename_i x p z p2 y u q2 pos
    simp only [Bool.and_eq_true, decide_eq_true_eq] at h
    obtain ⟨⟨⟨⟨⟨⟨⟨rfl, rfl⟩, h2⟩, h2'⟩, h3⟩, h3'⟩, h4⟩, h5⟩ := h
    obtain ⟨gl, _, _⟩ := G.gl h2
    obtain ⟨gl', _, _⟩ := G.gl h2'
    have rg := prg_2 (p := p2) (pos := q2) gl' (G.bn _ (by decide +kernel)) ((ha X xk S G).v _ h4) ((hb X xk S G).v _ h5) (by rw [starEach_ns h3]) (by rw [starEach_ns h3']) (any_ns (es := [u]) (by simp [h3']))
    cases t with
    | true =>
      refine (pe_tupRF G.calm gl (G.bn _ (by decide +kernel)) rg rfl).imp fun _ σ H Q _ _ ⟨β, E, env, bs, s, h⟩ => ?_
      refine ti_step s h fun rx b1 x H1 s1 t1 wx h => ?_
      refine ti_step s1 h fun ry b2 y H2 s2 t2 wy h => ?_
      obtain ⟨i, rfl, h⟩ := toI_of (wx.mono (t2.vr s1.bx.inE)) h
      obtain ⟨j, rfl, h⟩ := toI_of wy h
      exact ⟨i, j, rfl, rfl, lr_endT s s2 (t1.trans t2) h⟩
    | false =>
      refine (pe_listRg G.calm gl (G.bn _ (by decide +kernel)) rg rfl).imp fun _ σ H Q _ _ ⟨β, E, env, bs, s, h⟩ => ?_
      refine ti_step s h fun rx b1 x H1 s1 t1 wx h => ?_
      refine ti_step s1 h fun ry b2 y H2 s2 t2 wy h => ?_
      obtain ⟨i, rfl, h⟩ := toI_of (wx.mono (t2.vr s1.bx.inE)) h
      obtain ⟨j, rfl, h⟩ := toI_of wy h
      exact ⟨i, j, rfl, rfl, lr_endL s s2 (t1.trans t2) h⟩
  · cases h
/-! ### min, max of two; sets -/
theorem call_mm {X : Cx} (hc : X.calm = true) (mx : Bool) : CallR X (.builtin (if mx then "max" else "min")) (fun xs H Q => ∃ i j, xs = [.int i, .int j] ∧ Q (.int (mmI mx i j)) H) := by
  cases mx with
  | true => exact call_max2 hc
  | false => exact call_min2 hc
theorem snd_mm {mx : Bool} {a b : IE} (ha : Snd C κ xc CX lv a) (hb : Snd C κ xc CX lv b) : Snd C κ xc CX lv (.mm mx a b) := fun X xk S G => snd_ofV fun e h => by
  split at h
  · rename_i x p y z pos
    simp only [Bool.and_eq_true, decide_eq_true_eq] at h
    obtain ⟨⟨⟨⟨⟨rfl, h2⟩, h3⟩, h3'⟩, h4⟩, h5⟩ := h
    obtain ⟨gl, d1, n1⟩ := G.gl h2
    have pa := pa_cons ((ha X xk S G).v _ h4) (pa_cons ((hb X xk S G).v _ h5) pa_nil (starEach_ns h3')) (starEach_ns h3)
    have bn : X.mg ((if mx then "max" else "min" : String) : Str) = none := G.bn _ (by cases mx <;> decide +kernel)
    have bb : bootBuiltins ((if mx then "max" else "min" : String) : Str) = some (.builtin (if mx then "max" else "min")) := by cases mx <;> decide +kernel
    refine (pe_callB (call_mm G.calm mx) gl bn bb pa n1 d1 (starEach_ns h3) (any_ns (es := [z]) (by simp [h3']))).imp fun _ σ H Q _ _ ⟨β, E, env, bs, s, h⟩ => ?_
    refine ti_step s h fun rx b1 x H1 s1 t1 wx h => ?_
    refine ti_step s1 h fun ry b2 y H2 s2 t2 wy h => ?_
    obtain ⟨i, rfl, h⟩ := toI_of (wx.mono (t2.vr s1.bx.inE)) h
    obtain ⟨j, rfl, h⟩ := toI_of wy h
    exact ⟨i, j, rfl, h _ _ (post_val (t1.trans t2) s2.bx (.int _))⟩
  · cases h
theorem VRs.strsE2 {K : PySem.W.Frag} {H : Hp} {E : Addr → Prop} {vs : List V} {ds : List D} {ss : List (List Char)} (r : VRs K H E vs ds) (w : strsOf ds = some ss) : vs = (ss.map strOf).map V.str := by
  rw [strs_of w] at r
  cases r.strsE
  rw [List.map_map]
theorem VRs.intsE2 {K : PySem.W.Frag} {H : Hp} {E : Addr → Prop} {vs : List V} {ds : List D} {ss : List Int} (r : VRs K H E vs ds) (w : intsOf ds = some ss) : vs = ss.map V.int := by
  rw [ints_of w] at r
  cases r.intsE
  rfl
/-- what a set is made of -/
theorem set_src {K : PySem.W.Frag} {H : Hp} {E : Addr → Prop} {v : V} {d : D} {z : List (List Char) ⊕ List Int} (p : PV K H E v d) (e : setD d = some z) : ∃ l, v = .ref l ∧ match z with
    | .inl ss => (SqL K H l ((ss.map strOf).map V.str) ∨ SqT K H l ((ss.map strOf).map V.str)) ∧ ss.length ≤ 4000
    | .inr ns => (SqL K H l (ns.map V.int) ∨ SqT K H l (ns.map V.int)) ∧ ns.length ≤ 4000 := by
  have key : ∀ (xs : List D) (l : Addr) (ys : List V), (SqL K H l ys ∨ SqT K H l ys) → VRs K H E ys xs → (match strsOf xs with
    | some ss => if ss.length ≤ 4000 then some (Sum.inl ss) else none
    | none => match intsOf xs with
      | some ns => if ns.length ≤ 4000 then some (Sum.inr ns) else none
      | none => none) = some z → match z with
    | .inl ss => (SqL K H l ((ss.map strOf).map V.str) ∨ SqT K H l ((ss.map strOf).map V.str)) ∧ ss.length ≤ 4000
    | .inr ns => (SqL K H l (ns.map V.int) ∨ SqT K H l (ns.map V.int)) ∧ ns.length ≤ 4000 := by
    intro xs l ys hs r e
    cases w : strsOf xs with
    | some ss =>
      rw [w] at e
      simp only at e
      split at e
      · rename_i hl
        cases e
        rw [r.strsE2 w] at hs
        exact ⟨hs, hl⟩
      · cases e
    | none =>
      rw [w] at e
      simp only at e
      cases w2 : intsOf xs with
      | some ns =>
        rw [w2] at e
        simp only at e
        split at e
        · rename_i hl
          cases e
          rw [r.intsE2 w2] at hs
          exact ⟨hs, hl⟩
        · cases e
      | none => rw [w2] at e; cases e
  cases d with
  | lst xs => obtain ⟨a, ys, rfl, e1, r⟩ := p.lstE; exact ⟨a, rfl, key xs a ys (.inl (SqL.of e1)) r e⟩
  | tup xs => obtain ⟨a, ys, rfl, _, e1, r⟩ := p.tupE; exact ⟨a, rfl, key xs a ys (.inr e1.sq) r e⟩
  | _ => cases e
theorem nub_mem {α : Type} [DecidableEq α] {z : α} : ∀ {r : List α}, z ∈ nub r ↔ z ∈ r
  | [] => Iff.rfl
  | x :: r => by
    unfold nub
    split
    · rename_i h
      rw [nub_mem, List.mem_cons]
      exact ⟨.inr, fun q => q.elim (fun e => e ▸ h) id⟩
    · rw [List.mem_cons, List.mem_cons, nub_mem]
theorem nub_nodup {α : Type} [DecidableEq α] : ∀ r : List α, (nub r).Nodup
  | [] => List.nodup_nil
  | x :: r => by
    unfold nub
    split
    · exact nub_nodup r
    · rename_i h
      exact List.nodup_cons.mpr ⟨fun z => h (nub_mem.mp z), nub_nodup r⟩
theorem nodup_map_inj {α β : Type} {f : α → β} (hf : ∀ a b, f a = f b → a = b) : ∀ {l : List α}, l.Nodup → (l.map f).Nodup
  | [], _ => List.nodup_nil
  | x :: r, h => by
    rw [List.nodup_cons] at h
    rw [List.map_cons, List.nodup_cons]
    refine ⟨fun z => ?_, nodup_map_inj hf h.2⟩
    obtain ⟨y, hy, e⟩ := List.mem_map.mp z
    exact h.1 (hf _ _ e ▸ hy)
theorem perm_of_same {α : Type} [DecidableEq α] {a b : List α} (ha : a.Nodup) (hb : b.Nodup) (h : ∀ k, k ∈ a ↔ k ∈ b) : a.Perm b :=
  (List.perm_ext_iff_of_nodup ha hb).mpr h
theorem pair_of_perm {α β : Type} {f : α → β} : ∀ {l : List β} {a : List α}, l.Perm (a.map f) → ∃ a' : List α, l = a'.map f ∧ a'.Perm a := by
  intro l a h
  obtain ⟨zs, e, p⟩ := eachIs_perm (R := fun b x => b = f x) h (by
    have : ∀ a : List α, PySem.W.EachIs (fun b x => b = f x) (a.map f) a := fun a => by
      induction a with
      | nil => exact .nil
      | cons x r ih => exact .cons rfl ih
    exact this a)
  refine ⟨zs, ?_, p⟩
  have : ∀ {l : List β} {zs : List α}, PySem.W.EachIs (fun b x => b = f x) l zs → l = zs.map f := by
    intro l zs e
    induction e with
    | nil => rfl
    | cons h _ ih => rw [h, ih]; rfl
  exact this e
theorem set_sorted {α T : Type} [DecidableEq T] [DecidableEq α] {enc : T → PyData} {f : α → T} {lt : α → α → Bool} (hf : ∀ a b, f a = f b → a = b) (o : Ord lt (fun _ => True)) (hl : ∀ a b, PySem.W.dataLt (enc (f a)) (enc (f b)) = lt a b) {xs : List α} {L : List T} (nd : L.Nodup) (hm : ∀ k, k ∈ L ↔ k ∈ xs.map f) :
    L.mergeSort (PySem.W.dataLe false enc) = (sortW lt (nub xs)).map f := by
  have p0 : L.Perm ((nub xs).map f) := perm_of_same nd (nodup_map_inj hf (nub_nodup xs)) fun k => by
    rw [hm k, List.mem_map, List.mem_map]
    exact ⟨fun ⟨a, h, e⟩ => ⟨a, nub_mem.mpr h, e⟩, fun ⟨a, h, e⟩ => ⟨a, nub_mem.mp h, e⟩⟩
  obtain ⟨zs, e, p⟩ := pair_of_perm ((List.mergeSort_perm L (PySem.W.dataLe false enc)).trans p0)
  have tl := PySem.W.sortLe_total (listOrd itemOrd) false (fun b : T => PySem.W.keyToks (enc b))
  have so : (L.mergeSort (PySem.W.dataLe false enc)).Pairwise (fun a b => PySem.W.dataLe false enc a b = true) := List.pairwise_mergeSort tl.trans (fun a b => by have := tl.total a b; simpa using this) _
  rw [e, List.pairwise_map] at so
  rw [e, sortW_uniq o p (fun _ _ => trivial) (so.imp fun {a b} h => by
    have h : (!PySem.W.dataLt (enc (f b)) (enc (f a))) = true := h
    rw [hl] at h
    simpa using h)]
theorem snd_sset {a : IE} (ha : Snd C κ xc CX lv a) : Snd C κ xc CX lv (.sset a) := fun X xk S G => snd_ofV fun e h => by
  split at h
  · rename_i x p z p2 y q2 pos
    simp only [Bool.and_eq_true, decide_eq_true_eq] at h
    obtain ⟨⟨⟨⟨⟨rfl, rfl⟩, h2⟩, h2'⟩, h3⟩, h4⟩ := h
    obtain ⟨gl, _, _⟩ := G.gl h2
    obtain ⟨gl', _, _⟩ := G.gl h2'
    refine (pe_sortK G.calm G.un gl (G.bn _ (by decide +kernel)) gl' (G.bn _ (by decide +kernel)) (by decide +kernel) ((ha X xk S G).v _ h4) (starEach_ns h3)).imp fun _ σ H Q _ _ ⟨β, E, env, bs, s, h⟩ => ?_
    refine ti_step s h fun rx b1 x H1 s1 t1 wx h => ?_
    obtain ⟨d, pd, h⟩ := out_get s1 wx h
    obtain ⟨z, ez, h⟩ := out_opt h
    obtain ⟨l, rfl, hz⟩ := set_src pd ez
    cases z with
    | inl ss =>
      refine ⟨Str, inferInstance, kdS X.prog X.w, l, ss.map strOf, rfl, hz.1, by rw [List.length_map]; exact hz.2, fun L c nd hm np => ?_⟩
      have e : L.mergeSort (PySem.W.dataLe false (kdS X.prog X.w).enc) = (sortW ltS (nub ss)).map strOf := set_sorted (fun a b => strOf_inj) ord_S (fun a b => by show PySem.W.dataLt (.str _) (.str _) = _; rw [PySem.W.dataLt_str, cps_strOf, cps_strOf]; rfl) nd hm
      rw [e]
      refine h _ _ ?_
      have e2 : ((sortW ltS (nub ss)).map strOf).map (kdS X.prog X.w).tv = (sortW ltS (nub ss)).map fun s => V.str (strOf s) := by rw [List.map_map]; rfl
      rw [e2]
      exact post_fr s t1 s1.bx np (VRs.strs _)
    | inr ns =>
      refine ⟨Int, inferInstance, kdI X.prog X.w, l, ns, rfl, hz.1, hz.2, fun L c nd hm np => ?_⟩
      have e : L.mergeSort (PySem.W.dataLe false (kdI X.prog X.w).enc) = (sortW ltI (nub ns)).map id := set_sorted (fun a b e => e) ord_I (fun a b => PySem.W.dataLt_int a b) nd (fun k => by rw [hm k]; simp)
      rw [e]
      refine h _ _ ?_
      have e2 : ((sortW ltI (nub ns)).map id).map (kdI X.prog X.w).tv = (sortW ltI (nub ns)).map V.int := by rw [List.map_id]; rfl
      rw [e2]
      exact post_fr s t1 s1.bx np (VRs.ints _)
  · cases h
theorem snd_lset {a : IE} (ha : Snd C κ xc CX lv a) : Snd C κ xc CX lv (.lset a) := fun X xk S G => snd_ofV fun e h => by
  split at h
  · rename_i x p z p2 y q2 pos
    simp only [Bool.and_eq_true, decide_eq_true_eq] at h
    obtain ⟨⟨⟨⟨⟨rfl, rfl⟩, h2⟩, h2'⟩, h3⟩, h4⟩ := h
    obtain ⟨gl, _, _⟩ := G.gl h2
    obtain ⟨gl', _, _⟩ := G.gl h2'
    refine (pe_lenK G.calm gl (G.bn _ (by decide +kernel)) gl' (G.bn _ (by decide +kernel)) ((ha X xk S G).v _ h4) (starEach_ns h3)).imp fun _ σ H Q _ _ ⟨β, E, env, bs, s, h⟩ => ?_
    refine ti_step s h fun rx b1 x H1 s1 t1 wx h => ?_
    obtain ⟨d, pd, h⟩ := out_get s1 wx h
    obtain ⟨z, ez, h⟩ := out_opt h
    obtain ⟨l, rfl, hz⟩ := set_src pd ez
    cases z with
    | inl ss =>
      refine ⟨Str, inferInstance, kdS X.prog X.w, l, ss.map strOf, rfl, hz.1, by rw [List.length_map]; exact hz.2, fun L nd hm => ?_⟩
      have e : L.length = (nub ss).length := by
        rw [(perm_of_same nd (nodup_map_inj (f := strOf) (fun a b => strOf_inj) (nub_nodup ss)) fun k => by
          rw [hm k, List.mem_map, List.mem_map]
          exact ⟨fun ⟨a, h, e⟩ => ⟨a, nub_mem.mpr h, e⟩, fun ⟨a, h, e⟩ => ⟨a, nub_mem.mp h, e⟩⟩).length_eq, List.length_map]
      rw [e]
      exact h _ _ (post_val t1 s1.bx (.int _))
    | inr ns =>
      refine ⟨Int, inferInstance, kdI X.prog X.w, l, ns, rfl, hz.1, hz.2, fun L nd hm => ?_⟩
      have e : L.length = (nub ns).length := (perm_of_same nd (nub_nodup ns) fun k => by rw [hm k, nub_mem]).length_eq
      rw [e]
      exact h _ _ (post_val t1 s1.bx (.int _))
  · cases h
/-- every expression -/
theorem snd_all : ∀ ie : IE, Snd C κ xc CX lv ie
  | .non => snd_constV
  | .bl b => snd_bl b
  | .int i => snd_int
  | .str s => snd_constV
  | .var i => snd_var i
  | .bin o a b => snd_bin (snd_all a) (snd_all b)
  | .not a => snd_not (snd_all a)
  | .neg a => snd_neg (snd_all a)
  | .cmp o a b => snd_cmp (snd_all a) (snd_all b)
  | .cmp3 o p a b c => snd_cmp3 (snd_all a) (snd_all b) (snd_all c)
  | .and a b => snd_and (snd_all a) (snd_all b)
  | .or a b => snd_or (snd_all a) (snd_all b)
  | .ite c a b => snd_ite (snd_all c) (snd_all a) (snd_all b)
  | .nil => snd_nil
  | .cons a r => snd_cons (snd_all a) (snd_all r)
  | .tup as => snd_tup (snd_all as)
  | .lst as => snd_lst (snd_all as)
  | .idx a i => snd_idx (snd_all a) (snd_all i)
  | .slc a lo hi => snd_slc (snd_all a) (snd_all lo) (snd_all hi)
  | .gix g k => snd_gix (snd_all k)
  | .gin g n k => snd_gin (snd_all k)
  | .dix ks vs k => snd_dix (snd_all k)
  | .call f as => snd_call (snd_all as)
  | .bi b as => snd_bi (snd_all as)
  | .me m o as => snd_me (snd_all o) (snd_all as)
  | .lc own t s c e => snd_lc (snd_all s) (snd_all c) (snd_all e)
  | .lc2 own own2 t s c t2 s2 c2 e => snd_lc2 (snd_all s) (snd_all c) (snd_all s2) (snd_all c2) (snd_all e)
  | .rng1 a => snd_rng1 (snd_all a)
  | .rng2 a b => snd_rng2 (snd_all a) (snd_all b)
  | .zip a b => snd_zip (snd_all a) (snd_all b)
  | .enum a => snd_enum (snd_all a)
  | .lr1 t a => snd_lr1 (snd_all a)
  | .lr2 t a b => snd_lr2 (snd_all a) (snd_all b)
  | .mm mx a b => snd_mm (snd_all a) (snd_all b)
  | .sset a => snd_sset (snd_all a)
  | .lset a => snd_lset (snd_all a)
end
end Sg

-- SgFS
/-! SgFS: the state within a function's body. -/
namespace Sg
open PySem PySem.Spec PyProof.Rows L2
section
variable {K : PySem.W.Frag} {β β' : List Addr} {E E' : Addr → Prop} {env env' : List Slot} {b b' b1 : List D} {σ : St} {H H' H1 : Hp} {v : V} {r : R}
/-- a value that a slot may take -/
def GS (K : PySem.W.Frag) (β : List Addr) (E : Addr → Prop) (H : Hp) (v : V) : Slot → Prop
  | .no => False
  | .val d => VR K H E v d
  | .own d => ∃ a, v = .ref a ∧ E a ∧ Cell K H E a d ∧ a ∉ β
  | .bx n => ∃ a : Addr, β[n]? = some a ∧ v = .ref a
theorem SR.setS {i : Nat} {sl : Slot} (s : SR K β E env b σ H) (g : GS K β E H v sl) (no : ∀ (d0 d : D), sl = Slot.own d0 → ∀ (j : Nat), env[j]? = some (Slot.own d) → σ[j]? ≠ some (some v)) : SR K β E (env.set i sl) b (σ.set i (some v)) H := by
  refine ⟨s.bx, by simp [s.len], fun j s2 e => ?_, fun j k d1 d2 a e1 e2 e3 e4 => ?_⟩
  · by_cases hj : i = j
    · subst hj
      rw [List.getElem?_set, if_pos rfl] at e
      split at e
      · cases e
        rename_i hi
        have hs : (σ.set i (some v))[i]? = some (some v) := by rw [List.getElem?_set_self (by rw [← s.len]; exact hi)]
        cases sl with
        | no => trivial
        | val d => exact ⟨v, hs, g⟩
        | own d => obtain ⟨a, rfl, ea, c, nb⟩ := g; exact ⟨a, hs, ea, c, nb⟩
        | bx n => obtain ⟨a, e1, rfl⟩ := g; exact ⟨a, e1, hs⟩
      · cases e
    · rw [List.getElem?_set_ne hj] at e
      have q := s.slots j s2 e
      cases s2 <;> simp only [SlotR] at q ⊢ <;> first | exact q | (rw [List.getElem?_set_ne hj]; exact q)
  · by_cases hj : i = j
    · by_cases hk : i = k
      · exact hj.symm.trans hk
      · subst hj
        rw [List.getElem?_set, if_pos rfl] at e1
        split at e1
        · cases e1
          rw [List.getElem?_set_ne hk] at e2 e4
          rename_i hi
          rw [List.getElem?_set_self (by rw [← s.len]; exact hi)] at e3
          cases e3
          exact absurd e4 (no d1 d2 rfl k e2)
        · cases e1
    · by_cases hk : i = k
      · subst hk
        rw [List.getElem?_set, if_pos rfl] at e2
        split at e2
        · cases e2
          rw [List.getElem?_set_ne hj] at e1 e3
          rename_i hi
          rw [List.getElem?_set_self (by rw [← s.len]; exact hi)] at e4
          cases e4
          exact absurd e3 (no d2 d1 rfl j e1)
        · cases e2
      · rw [List.getElem?_set_ne hj] at e1 e3
        rw [List.getElem?_set_ne hk] at e2 e4
        exact s.apart j k d1 d2 a e1 e2 e3 e4
/-- an own list is written -/
theorem SR.wrOwn {i : Nat} {d : D} {a : Addr} {ds : List D} {ws : List V} (s : SR K β E env b σ H) (e : env[i]? = some (Slot.own d)) (e2 : σ[i]? = some (some (V.ref a))) (hv : VRs K H E ws ds) :
    SR K β E (env.set i (.own (.lst ds))) b σ (upd H a (.lst ws)) := by
  obtain ⟨a', e3, ea, c, nb⟩ := s.slots i _ e
  rw [e2] at e3; cases e3
  have g : Grow H E (upd H a (.lst ws)) E := Grow.updE ea
  have key : ∀ (j : Nat) (sl : Slot), (env.set i (Slot.own (.lst ds)))[j]? = some sl → (i = j ∧ sl = .own (.lst ds)) ∨ (i ≠ j ∧ env[j]? = some sl) := fun j sl h => by
    by_cases hj : i = j
    · subst hj
      rw [List.getElem?_set, if_pos rfl] at h
      split at h <;> cases h
      exact .inl ⟨rfl, rfl⟩
    · rw [List.getElem?_set_ne hj] at h; exact .inr ⟨hj, h⟩
  have old : ∀ (j : Nat) (d0 : D), (env.set i (Slot.own (.lst ds)))[j]? = some (Slot.own d0) → ∃ d1, env[j]? = some (Slot.own d1) := fun j d0 h => by
    rcases key j _ h with ⟨rfl, _⟩ | ⟨_, h⟩
    · exact ⟨_, e⟩
    · exact ⟨_, h⟩
  refine ⟨s.bx.wr ea nb, by simp [s.len], fun j sl h => ?_, fun j k d1 d2 p e1 e2 e3 e4 => ?_⟩
  · rcases key j sl h with ⟨rfl, rfl⟩ | ⟨hj, h⟩
    · exact ⟨a, e2, ea, ⟨ws, upd_same, hv.mono g⟩, nb⟩
    · have q := s.slots j sl h
      cases sl with
      | no => trivial
      | val d0 => obtain ⟨v, h1, r⟩ := q; exact ⟨v, h1, r.mono g⟩
      | own d0 =>
        obtain ⟨p, h1, h2, h3, h4⟩ := q
        have hp : p ≠ a := fun z => hj (s.apart i j d d0 a e h e2 (by rw [← z]; exact h1))
        exact ⟨p, h1, h2, h3.mono (fun o eo => by rw [upd_ne hp]; exact eo) g, h4⟩
      | bx n => exact q
  · obtain ⟨c1, h1⟩ := old j d1 e1
    obtain ⟨c2, h2⟩ := old k d2 e2
    exact s.apart j k c1 c2 p h1 h2 e3 e4
/-- a box is written -/
theorem SR.wrBx {n : Nat} {a : Addr} {ds : List D} {ws : List V} (s : SR K β E env b σ H) (e : β[n]? = some a) (hv : VRs K H E ws ds) :
    SR K β E env (b.set n (.lst ds)) σ (upd H a (.lst ws)) := by
  have ab : a ∈ β := List.mem_of_getElem? e
  have ea : E a := s.bx.inE a ab
  have g : Grow H E (upd H a (.lst ws)) E := Grow.updE ea
  refine ⟨⟨s.bx.inE, fun c hc => ?_, by simp [s.bx.len], s.bx.nd, fun m c d h1 h2 => ?_⟩, s.len, fun j sl h => ?_, s.apart⟩
  · by_cases q : c = a
    · exact ⟨_, by rw [q]; exact upd_same⟩
    · rw [upd_ne q]; exact s.bx.has c hc
  · by_cases q : n = m
    · subst q
      rw [e] at h1; cases h1
      rw [List.getElem?_set, if_pos rfl] at h2
      split at h2 <;> cases h2
      exact ⟨ws, upd_same, hv.mono g⟩
    · rw [List.getElem?_set_ne q] at h2
      have hc : c ≠ a := fun z => by
        subst z
        obtain ⟨hn, e1⟩ := List.getElem?_eq_some_iff.mp e
        obtain ⟨hm, e2⟩ := List.getElem?_eq_some_iff.mp h1
        exact q ((List.getElem_inj s.bx.nd).mp (e1.trans e2.symm))
      exact (s.bx.box m c d h1 h2).mono (fun o eo => by rw [upd_ne hc]; exact eo) g
  · have q := s.slots j sl h
    cases sl with
    | no => trivial
    | val d0 => obtain ⟨v, h1, r⟩ := q; exact ⟨v, h1, r.mono g⟩
    | own d0 =>
      obtain ⟨p, h1, h2, h3, h4⟩ := q
      have hp : p ≠ a := fun z => h4 (by rw [z]; exact ab)
      exact ⟨p, h1, h2, h3.mono (fun o eo => by rw [upd_ne hp]; exact eo) g, h4⟩
    | bx n => exact q
/-- an own list is kept from now on -/
theorem SR.frz {i : Nat} {d : D} {a : Addr} (s : SR K β E env b σ H) (e : env[i]? = some (Slot.own d)) (e2 : σ[i]? = some (some (V.ref a))) :
    SR K β (fun c => E c ∧ c ≠ a) (env.set i (.val d)) b σ H ∧ Grow H E H fun c => E c ∧ c ≠ a := by
  obtain ⟨a', e3, ea, c, nb⟩ := s.slots i _ e
  rw [e2] at e3; cases e3
  have g : Grow H E H fun c => E c ∧ c ≠ a := fun c o nc e => ⟨fun z => nc z.1, e⟩
  have key : ∀ (j : Nat) (sl : Slot), (env.set i (Slot.val d))[j]? = some sl → (i = j ∧ sl = .val d) ∨ (i ≠ j ∧ env[j]? = some sl) := fun j sl h => by
    by_cases hj : i = j
    · subst hj
      rw [List.getElem?_set, if_pos rfl] at h
      split at h <;> cases h
      exact .inl ⟨rfl, rfl⟩
    · rw [List.getElem?_set_ne hj] at h; exact .inr ⟨hj, h⟩
  refine ⟨⟨⟨fun c hc => ⟨s.bx.inE c hc, fun z => nb (by rw [← z]; exact hc)⟩, fun c hc => s.bx.has c hc.1, s.bx.len, s.bx.nd, fun n p d0 h1 h2 => (s.bx.box n p d0 h1 h2).mono (fun _ e => e) g⟩, by simp [s.len], fun j sl h => ?_, fun j k d1 d2 p e1 e2 e3 e4 => ?_⟩, g⟩
  · rcases key j sl h with ⟨rfl, rfl⟩ | ⟨hj, h⟩
    · refine ⟨_, e2, ?_⟩
      cases d with
      | lst ds => obtain ⟨xs, h1, h2⟩ := c; exact .lst (fun z => z.2 rfl) h1 (h2.mono g)
      | _ => exact c.elim
    · have q := s.slots j sl h
      cases sl with
      | no => trivial
      | val d0 => obtain ⟨v, h1, r⟩ := q; exact ⟨v, h1, r.mono g⟩
      | own d0 =>
        obtain ⟨p, h1, h2, h3, h4⟩ := q
        have hp : p ≠ a := fun z => hj (s.apart i j d d0 a e h e2 (by rw [← z]; exact h1))
        exact ⟨p, h1, ⟨h2, hp⟩, h3.mono (fun _ e => e) g, h4⟩
      | bx n => exact q
  · rcases key j _ e1 with ⟨_, z⟩ | ⟨_, h1⟩
    · cases z
    rcases key k _ e2 with ⟨_, z⟩ | ⟨_, h2⟩
    · cases z
    exact s.apart j k d1 d2 p h1 h2 e3 e4

/-! ### the state of a body, with the state at its begin -/
structure FS (K : PySem.W.Frag) (β0 : List Addr) (E0 : Addr → Prop) (H0 : Hp) (β : List Addr) (E : Addr → Prop) (env : List Slot) (b : List D) (σ : St) (H : Hp) : Prop where
  sr : SR K β E env b σ H
  has0 : ∀ a, E0 a → ∃ o, H0 a = some o
  in0 : ∀ a ∈ β0, E0 a
  ext : ∃ γ, β = β0 ++ γ ∧ ∀ a ∈ γ, H0 a = none
  up : ∀ a, E0 a → E a
  dn : ∀ a, E a → E0 a ∨ H0 a = none
  own : ∀ (i : Nat) (d : D) (a : Addr), env[i]? = some (Slot.own d) → σ[i]? = some (some (V.ref a)) → H0 a = none
  stab : Stab β0 H0 H
section
variable {β0 : List Addr} {E0 : Addr → Prop} {H0 : Hp}
theorem FS.sub (f : FS K β0 E0 H0 β E env b σ H) {a : Addr} (h : a ∈ β0) : a ∈ β := by
  obtain ⟨γ, rfl, _⟩ := f.ext
  exact List.mem_append_left _ h
/-- things at the body's begin outside the boxes stand; new things were not there -/
theorem FS.new0 (f : FS K β0 E0 H0 β E env b σ H) {a : Addr} (n : H a = none) : H0 a = none := by
  cases q : H0 a with
  | none => rfl
  | some o =>
    by_cases hb : a ∈ β0
    · obtain ⟨o2, e⟩ := f.sr.bx.has a (f.sr.bx.inE a (f.sub hb))
      rw [n] at e; cases e
    · rw [f.stab a o hb q] at n; cases n
theorem FS.stab' (f : FS K β0 E0 H0 β E env b σ H) (t : Stab β H H') : Stab β0 H0 H' := fun a o nb e => by
  refine t a o (fun z => ?_) (f.stab a o nb e)
  obtain ⟨γ, rfl, hγ⟩ := f.ext
  rcases List.mem_append.mp z with z | z
  · exact nb z
  · rw [hγ a z] at e; cases e
theorem Bxs.cut {E1 : Addr → Prop} {β0 γ : List Addr} (x : Bxs K (β0 ++ γ) E1 b H) (hE : ∀ a, E' a → E1 a) (hi : ∀ a ∈ β0, E' a) : Bxs K β0 E' (b.take β0.length) H := by
  have hl : β0.length ≤ b.length := by rw [← x.len, List.length_append]; omega
  refine ⟨hi, fun a e => x.has a (hE a e), by rw [List.length_take]; omega, (List.nodup_append.mp x.nd).1, fun n a d h1 h2 => ?_⟩
  have hn : n < β0.length := (List.getElem?_eq_some_iff.mp h1).1
  rw [List.getElem?_take, if_pos hn] at h2
  exact (x.box n a d (by rw [List.getElem?_append_left hn]; exact h1) h2).mono (fun _ e => e) fun c o nc e => ⟨fun z => nc (hE c z), e⟩
theorem FS.xpost (f : FS K β0 E0 H0 β E env b σ H) (p : XPost K β E H b' H') : XPost K β0 E0 H0 (b'.take β0.length) H' := by
  refine ⟨f.stab' p.stab, ?_⟩
  obtain ⟨γ, rfl, _⟩ := f.ext
  exact p.bx.cut f.up f.in0
theorem FS.post (f : FS K β0 E0 H0 β E env b σ H) {d : D} (hr : r = .val d ∨ r = .fr d) (p : Post K β E env σ H r b' v H') : Post K β0 E0 [] [] H0 r (b'.take β0.length) v H' := by
  have hs := f.stab' p.stab
  have hup := f.up
  have n0 : ∀ {a}, H a = none → H0 a = none := fun n => f.new0 n
  obtain ⟨γ, rfl, _⟩ := f.ext
  refine ⟨hs, p.bx.cut (fun a h => ?_) (fun a h => plus_of (f.in0 a h)), ?_⟩
  · rcases hr with rfl | rfl
    · exact hup a h
    · exact h.imp (hup a) id
  · have rv := p.rv
    rcases hr with rfl | rfl
    · exact VR.mono (fun c o nc e => ⟨fun z => nc (hup c z), e⟩) rv
    · obtain ⟨a, e1, e2, c⟩ := rv
      exact ⟨a, e1, n0 e2, c.mono (fun _ e => e) fun c o nc e => ⟨fun z => nc (z.imp (hup c) id), e⟩⟩
/-- the state over a heap that keeps all but the boxes -/
theorem FS.next (f : FS K β0 E0 H0 β E env b σ H) (t : Stab β H H') (x : Bxs K β E b' H') : FS K β0 E0 H0 β E env b' σ H' :=
  ⟨f.sr.next t x (fun _ h => h) fun a o n e => n, f.has0, f.in0, f.ext, f.up, f.dn, f.own, f.stab' t⟩
theorem FS.plus (f : FS K β0 E0 H0 β E env b σ H) (p : Post K β E env σ H r b' v H') : FS K β0 E0 H0 β (plus E v r) env b' σ H' := by
  refine ⟨p.sr f.sr, f.has0, f.in0, f.ext, fun a h => plus_of (f.up a h), fun a h => ?_, f.own, f.stab' p.stab⟩
  have rv := p.rv
  cases r with
  | fr d =>
    obtain ⟨c, e1, e2, _⟩ := rv
    subst e1
    rcases h with h | h
    · exact f.dn a h
    · cases h; exact .inr (f.new0 e2)
  | _ => exact f.dn a h
theorem FS.setS {i : Nat} {sl : Slot} (f : FS K β0 E0 H0 β E env b σ H) (g : GS K β E H v sl) (no : ∀ (d0 d : D), sl = Slot.own d0 → ∀ (j : Nat), env[j]? = some (Slot.own d) → σ[j]? ≠ some (some v)) (n0 : ∀ d0 a, sl = .own d0 → v = .ref a → H0 a = none) : FS K β0 E0 H0 β E (env.set i sl) b (σ.set i (some v)) H := by
  refine ⟨f.sr.setS g no, f.has0, f.in0, f.ext, f.up, f.dn, fun j d a e1 e2 => ?_, f.stab⟩
  by_cases hj : i = j
  · subst hj
    rw [List.getElem?_set, if_pos rfl] at e1
    split at e1
    · cases e1
      rename_i hi
      rw [List.getElem?_set_self (by rw [← f.sr.len]; exact hi)] at e2
      cases e2
      exact n0 d a rfl rfl
    · cases e1
  · rw [List.getElem?_set_ne hj] at e1 e2
    exact f.own j d a e1 e2
end
end
end Sg

-- SgStm
/-! SgStm: statements, the readings. -/
namespace Sg
open PySem PySem.Spec PyProof.Rows L2
section
variable (K : PySem.W.Frag) (xc : Nat → V → Prop) (xk : XK) (β0 : List Addr) (E0 : Addr → Prop) (H0 : Hp)
/-- behind a part of a body -/
def OutG {α : Type} (Q : α → List D → Prop) : Res α → Prop
  | .ok a b' => Q a b'
  | .exn c b' => ∀ cls H', XPost K β0 E0 H0 (b'.take β0.length) H' → xc c cls → ∃ u, RelV cls u ∧ xk u none H'
  | .bad => False
def QF (E : Addr → Prop) (H : Hp) (D : Ends) : Fl → List Sg.D → Prop
  | .nx env', b' => ∀ β' E' σ' H', FS K β0 E0 H0 β' E' env' b' σ' H' → Grow H E H' E' → D.nx σ' H'
  | .rt r, b' => ∀ v H', Post K β0 E0 [] [] H0 r (b'.take β0.length) v H' → D.rt v H'
end
/-- a statement's reading -/
def TSs (K : PySem.W.Frag) (xc : Nat → V → Prop) (xk : XK) (m : List Slot → M Fl) : TS := fun D σ H => ∃ β0 E0 H0 β E env b, FS K β0 E0 H0 β E env b σ H ∧ OutG K xc xk β0 E0 H0 (QF K β0 E0 H0 E H D) (m env b)
section
variable {K : PySem.W.Frag} {xc : Nat → V → Prop} {xk : XK} {β0 : List Addr} {E0 : Addr → Prop} {H0 : Hp} {β : List Addr} {E : Addr → Prop} {env : List Slot} {b : List D} {σ : St} {H : Hp}
theorem OutG.mono {α : Type} {Q Q' : α → List D → Prop} {r : Res α} (h : OutG K xc xk β0 E0 H0 Q r) (k : ∀ a b, Q a b → Q' a b) : OutG K xc xk β0 E0 H0 Q' r := by
  cases r with
  | ok a b => exact k _ _ h
  | exn c b => exact h
  | bad => exact h
theorem outG_bind {α α' : Type} {m : M α} {k : α → M α'} {Q : α' → List D → Prop} {b : List D} (h : OutG K xc xk β0 E0 H0 Q (M.bind m k b)) : OutG K xc xk β0 E0 H0 (fun a b1 => OutG K xc xk β0 E0 H0 Q (k a b1)) (m b) := by
  unfold M.bind at h
  cases q : m b with
  | ok a b1 => rw [q] at h; exact h
  | exn c b1 => rw [q] at h; exact h
  | bad => rw [q] at h; exact h
theorem outG_opt {α α' : Type} {o : Option α} {k : α → M α'} {Q : α' → List D → Prop} {b : List D} (h : OutG K xc xk β0 E0 H0 Q (M.bind (M.opt o) k b)) : ∃ a, o = some a ∧ OutG K xc xk β0 E0 H0 Q (k a b) := by
  cases o with
  | some a => exact ⟨a, rfl, h⟩
  | none => exact False.elim h
theorem outG_keep {α : Type} {r : R} {k : D → M α} {Q : α → List D → Prop} {b : List D} {v : V} {H2 : Hp} (w : RW K β E env σ H2 v r) (h : OutG K xc xk β0 E0 H0 Q (M.bind r.keep k b)) : ∃ d, VR K H2 E v d ∧ OutG K xc xk β0 E0 H0 Q (k d b) := by
  have h2 := outG_bind h
  cases q : r.keep b with
  | ok d b' =>
    rw [q] at h2
    obtain ⟨rfl, p⟩ := w.keep q
    exact ⟨d, p, h2⟩
  | exn c b' => cases r <;> cases q
  | bad => rw [q] at h2; exact False.elim h2
/-- the first part of a statement is an expression -/
theorem fs_step {α : Type} {m : List Slot → M R} {k : R → M α} {Q : α → List D → Prop} {P : V → Hp → Prop} (f : FS K β0 E0 H0 β E env b σ H) (h : OutG K xc xk β0 E0 H0 Q (M.bind (m env) k b))
    (hk : ∀ r b1 v H1, Post K β E env σ H r b1 v H1 → OutG K xc xk β0 E0 H0 Q (k r b1) → P v H1) : TI K xc xk m σ H P := by
  refine ⟨β, E, env, b, f.sr, ?_⟩
  have h := outG_bind h
  cases q : m env b with
  | ok r b1 => rw [q] at h; exact fun v H1 p => hk r b1 v H1 p h
  | exn c b' => rw [q] at h; exact fun cls H' p hx => h cls H' (f.xpost p) hx
  | bad => rw [q] at h; exact h
theorem fs_stept {α : Type} {m : List Slot → M Bool} {k : Bool → M α} {Q : α → List D → Prop} {P : Bool → Hp → Prop} (f : FS K β0 E0 H0 β E env b σ H) (h : OutG K xc xk β0 E0 H0 Q (M.bind (m env) k b))
    (hk : ∀ r b1 H1, XPost K β E H b1 H1 → OutG K xc xk β0 E0 H0 Q (k r b1) → P r H1) : TIt K xc xk m σ H P := by
  refine ⟨β, E, env, b, f.sr, ?_⟩
  have h := outG_bind h
  cases q : m env b with
  | ok r b1 => rw [q] at h; exact fun H1 p => hk r b1 H1 p h
  | exn c b' => rw [q] at h; exact fun cls H' p hx => h cls H' (f.xpost p) hx
  | bad => rw [q] at h; exact h
theorem fs_stepi {α : Type} {m : List Slot → M (List D)} {k : List D → M α} {Q : α → List D → Prop} {P : It → Hp → Prop} (f : FS K β0 E0 H0 β E env b σ H) (h : OutG K xc xk β0 E0 H0 Q (M.bind (m env) k b))
    (hk : ∀ xs b1 J H1, XPost K β E H b1 H1 → xs.length ≤ sizeLine → Walks K J xs H1 E → OutG K xc xk β0 E0 H0 Q (k xs b1) → P J H1) : TIi K xc xk m σ H P := by
  refine ⟨β, E, env, b, f.sr, ?_⟩
  have h := outG_bind h
  cases q : m env b with
  | ok r b1 => rw [q] at h; exact fun J H1 p hx hw => hk r b1 J H1 p hx hw h
  | exn c b' => rw [q] at h; exact fun cls H' p hx => h cls H' (f.xpost p) hx
  | bad => rw [q] at h; exact h
theorem FS.keep {r : R} {b1 : List D} {v : V} {H1 : Hp} (f : FS K β0 E0 H0 β E env b σ H) (p : Post K β E env σ H r b1 v H1) : FS K β0 E0 H0 β E env b1 σ H1 := f.next p.stab (p.bx.weak (fun a h => plus_of h) f.sr.bx.inE)
theorem FS.tg {env' : List Slot} {σ' : St} (f : FS K β0 E0 H0 β E env b σ H) (s : SR K β E env' b σ' H) (o : OwnK env σ env' σ') : FS K β0 E0 H0 β E env' b σ' H :=
  ⟨s, f.has0, f.in0, f.ext, f.up, f.dn, fun i d a e1 e2 => f.own i d a (o i d e1).1 ((o i d e1).2 ▸ e2), f.stab⟩
theorem FS.grow {H1 : Hp} (f : FS K β0 E0 H0 β E env b σ H) (t : Stab β H H1) : Grow H E H1 E := t.grow f.sr.bx.inE
theorem FS.ownE (f : FS K β0 E0 H0 β E env b σ H) {i : Nat} {d : D} (e : env[i]? = some (Slot.own d)) : ∃ a, σ[i]? = some (some (V.ref a)) ∧ E a ∧ Cell K H E a d ∧ a ∉ β := by
  obtain ⟨a, e1, ea, c, nb⟩ := f.sr.slots i _ e
  exact ⟨a, e1, ea, c, nb⟩
theorem FS.noOwn (f : FS K β0 E0 H0 β E env b σ H) {a : Addr} (n : H a = none) {j : Nat} {d : D} (e : env[j]? = some (Slot.own d)) : σ[j]? ≠ some (some (V.ref a)) := fun z => by
  obtain ⟨a', e1, _, c, _⟩ := f.ownE e
  rw [z] at e1; cases e1
  obtain ⟨o, e2⟩ := c.has
  rw [n] at e2; cases e2
theorem FS.nb (f : FS K β0 E0 H0 β E env b σ H) {a : Addr} (n : H a = none) : a ∉ β := f.sr.bx.np n
/-- a fresh result's slot -/
theorem FS.fresh {d : D} {b1 : List D} {v : V} {H1 : Hp} (f : FS K β0 E0 H0 β E env b σ H) (p : Post K β E env σ H (.fr d) b1 v H1) :
    ∃ a, v = .ref a ∧ H a = none ∧ Cell K H1 (pl E a) a d ∧ FS K β0 E0 H0 β (pl E a) env b1 σ H1 ∧ Grow H E H1 (pl E a) := by
  have f1 := f.plus p
  obtain ⟨a, rfl, n, c⟩ := p.rv
  refine ⟨a, rfl, n, c, f1, fun c o nc e => ⟨fun z => ?_, p.stab c o (fun z => nc (f.sr.bx.inE c z)) e⟩⟩
  rcases z with z | z
  · exact nc z
  · cases z; rw [n] at e; cases e
theorem FS.box {d : D} {a : Addr} (f : FS K β0 E0 H0 β E env b σ H) (ea : E a) (nb : a ∉ β) (n0 : H0 a = none) (c : Cell K H E a d) (no : ∀ (j : Nat) (d : D), env[j]? = some (Slot.own d) → σ[j]? ≠ some (some (V.ref a))) : FS K β0 E0 H0 (β ++ [a]) E env (b ++ [d]) σ H := by
  have bx := f.sr.bx
  refine ⟨⟨⟨fun c hc => ?_, bx.has, by simp [bx.len], ?_, fun n p d0 h1 h2 => ?_⟩, f.sr.len, fun i sl e => ?_, f.sr.apart⟩, f.has0, f.in0, ?_, f.up, f.dn, f.own, f.stab⟩
  · rcases List.mem_append.mp hc with h | h
    · exact bx.inE c h
    · have := List.mem_singleton.mp h
      rw [this]; exact ea
  · refine List.nodup_append.mpr ⟨bx.nd, by simp, fun x hx y hy z => ?_⟩
    have := List.mem_singleton.mp hy
    subst this
    exact nb (z ▸ hx)
  · by_cases hn : n < β.length
    · rw [List.getElem?_append_left hn] at h1
      rw [List.getElem?_append_left (by rw [← bx.len]; exact hn)] at h2
      exact bx.box n p d0 h1 h2
    · rw [List.getElem?_append_right (by omega)] at h1
      rw [List.getElem?_append_right (by rw [← bx.len]; omega)] at h2
      have e0 : n - β.length = 0 := by
        have := (List.getElem?_eq_some_iff.mp h1).1
        simp at this
        omega
      rw [e0] at h1
      rw [← bx.len, e0] at h2
      cases h1; cases h2
      exact c
  · have q := f.sr.slots i sl e
    cases sl with
    | no => trivial
    | val d => exact q
    | own d0 =>
      obtain ⟨p, h1, h2, h3, h4⟩ := q
      refine ⟨p, h1, h2, h3, fun z => ?_⟩
      rcases List.mem_append.mp z with z | z
      · exact h4 z
      · have := List.mem_singleton.mp z
        subst this
        exact no i d0 e h1
    | bx n =>
      obtain ⟨p, h1, h2⟩ := q
      exact ⟨p, by rw [List.getElem?_append_left (List.getElem?_eq_some_iff.mp h1).1]; exact h1, h2⟩
  · obtain ⟨γ, rfl, hγ⟩ := f.ext
    refine ⟨γ ++ [a], by rw [List.append_assoc], fun c hc => ?_⟩
    rcases List.mem_append.mp hc with h | h
    · exact hγ c h
    · have := List.mem_singleton.mp h
      rw [this]; exact n0
/-- a list or box changed -/
theorem modify_ok {α : Type} {i : Nat} {g : D → Option (D × D)} {k : D × List Slot → M α} {Q : α → List D → Prop} (f : FS K β0 E0 H0 β E env b σ H) (h : OutG K xc xk β0 E0 H0 Q (M.bind (modify env i g) k b)) :
    ∃ (a : Addr) (ds : List D) (ws : List V) (r d2 : D) (env2 : List Slot) (b2 : List D), σ[i]? = some (some (V.ref a)) ∧ H a = some (.lst ws) ∧ VRs K H E ws ds ∧ E a ∧ g (.lst ds) = some (r, d2) ∧ OutG K xc xk β0 E0 H0 Q (k (r, env2) b2) ∧
      ∀ ds2 ws2, d2 = .lst ds2 → VRs K H E ws2 ds2 → FS K β0 E0 H0 β E env2 b2 σ (upd H a (.lst ws2)) := by
  have h := outG_bind h
  have cs : (∃ d, env[i]? = some (Slot.own d)) ∨ (∃ n, env[i]? = some (Slot.bx n)) ∨ modify env i g = M.bad := by
    unfold modify
    cases e : env[i]? with
    | none => exact .inr (.inr rfl)
    | some sl => cases sl <;> first | exact .inl ⟨_, rfl⟩ | exact .inr (.inl ⟨_, rfl⟩) | exact .inr (.inr rfl)
  rcases cs with ⟨d, e⟩ | ⟨n, e⟩ | e
  · have em : modify env i g b = (match g d with | some (r, d') => M.pure (r, env.set i (.own d')) b | none => .bad) := by
      unfold modify
      rw [e]
      show (match g d with | some (r, d') => M.pure (r, env.set i (Slot.own d')) | none => M.bad) b = _
      cases g d <;> rfl
    rw [em] at h
    obtain ⟨a, e1, ea, c, nb⟩ := f.ownE e
    cases d <;> try (exact c.elim)
    rename_i ds
    obtain ⟨ws, e2, hv⟩ := c
    cases q : g (.lst ds) with
    | none => rw [q] at h; exact False.elim h
    | some p =>
      obtain ⟨r, d2⟩ := p
      rw [q] at h
      refine ⟨a, ds, ws, r, d2, _, _, e1, e2, hv, ea, q, h, fun ds2 ws2 ed hv2 => ?_⟩
      subst ed
      have key : ∀ (j : Nat) (d0 : D), (env.set i (Slot.own (.lst ds2)))[j]? = some (Slot.own d0) → ∃ d1, env[j]? = some (Slot.own d1) := fun j d0 h => by
        by_cases hj : i = j
        · subst hj; exact ⟨_, e⟩
        · rw [List.getElem?_set_ne hj] at h; exact ⟨_, h⟩
      exact ⟨f.sr.wrOwn e e1 hv2, f.has0, f.in0, f.ext, f.up, f.dn, fun j d0 p h1 h2 => by
        obtain ⟨d1, h3⟩ := key j d0 h1
        exact f.own j d1 p h3 h2, fun c o nc eo => by
          have hc : c ≠ a := fun z => by
            have := f.own i _ a e e1
            rw [z, this] at eo; cases eo
          rw [upd_ne hc]; exact f.stab c o nc eo⟩
  · have em : modify env i g b = (match b[n]? with | some d => (match g d with | some (r, d') => .ok (r, env) (b.set n d') | none => .bad) | none => .bad) := by
      unfold modify
      rw [e] <;> rfl
    rw [em] at h
    obtain ⟨a, e1, e3⟩ := f.sr.slots i _ e
    have hn : n < b.length := by rw [← f.sr.bx.len]; exact (List.getElem?_eq_some_iff.mp e1).1
    have eb : b[n]? = some b[n] := List.getElem?_eq_getElem hn
    have c := f.sr.bx.box n a _ e1 eb
    simp only [eb] at h
    generalize b[n] = d at c h
    cases d <;> try (exact c.elim)
    rename_i ds
    obtain ⟨ws, e2, hv⟩ := c
    cases q : g (.lst ds) with
    | none => rw [q] at h; exact False.elim h
    | some p =>
      obtain ⟨r, d2⟩ := p
      rw [q] at h
      have ab : a ∈ β := List.mem_of_getElem? e1
      refine ⟨a, ds, ws, r, d2, _, _, e3, e2, hv, f.sr.bx.inE a ab, q, h, fun ds2 ws2 ed hv2 => ?_⟩
      subst ed
      exact ⟨f.sr.wrBx e1 hv2, f.has0, f.in0, f.ext, f.up, f.dn, f.own, fun c o nc eo => by
          have hc : c ≠ a := fun z => by
            obtain ⟨γ, rfl, hγ⟩ := f.ext
            rcases List.mem_append.mp ab with w | w
            · exact nc (z ▸ w)
            · rw [z, hγ a w] at eo; cases eo
          rw [upd_ne hc]; exact f.stab c o nc eo⟩
  · rw [e] at h
    exact False.elim h
end
end Sg

-- SgStm2
/-! SgStm2: statements, the checker, the forms one by one. -/
namespace Sg
open PySem PySem.Spec PyProof.Rows L2
/-! ### the checker -/
structure Sk where
  s : Stmt → Bool
  b : List Stmt → Bool
  z : Bool
def notComp : Expr → Bool
  | .ListComp _ _ _ _ => false
  | .SetComp _ _ _ _ => false
  | .DictComp _ _ _ _ _ => false
  | _ => true
/-- name = a comprehension, the store ahead of its end -/
def swB (e : Expr) (y : Str) (py : Pos) (sc : Scope) : Bool := match e with
  | .ListComp _ _ scope pos => decide (sc.names.lookup y = some .local) && (py.line == pos.line) && !(scope.names.any fun (n, k) => n == y && (k == .local || k == .cell))
  | _ => false
def isLc : IE → Bool
  | .lc _ _ _ _ _ => true
  | .lc2 _ _ _ _ _ _ _ _ _ => true
  | _ => false
def isLC : Expr → Bool
  | .ListComp _ _ _ _ => true
  | _ => false
def asgNB (C : Cfg) (S : SC) (ie : IE) (i : Nat) (x : Str) (py : Pos) (e : Expr) : Bool :=
  decide (C.N[i]? = some x) && tgB S x && (ck C ie).v S e && (notComp e || (isLC e && (!swB e x py S.sc || isLc ie)))
/-- what swappedStores answers -/
def swapU (ts vs : List Expr) (sc : Scope) (bk : ScopeKind) : Option (Option (List Str)) :=
    if !(ts.length == 2 || ts.length == 3) || vs.length != ts.length || bk != .function then some none
    else if (vs.any fun | .Starred .. => true | _ => false) then some none
    else
      let line := (ts.head?.map (·.pos.line)).getD 0
      let names := ts.filterMap fun
        | .Name id pos => if sc.names.lookup id == some .local && pos.line == line then some id else none
        | _ => none
      if names.length != ts.length || names.eraseDups.length != names.length then some none
      else if vs.all (foldedForSure 8) then some none
      else if vs.all (constantsAlone 8) then none
      else some (some names)
def swapT (ts vs : List Expr) (sc : Scope) : Option (Option (List Str)) := swapU ts vs sc (if sc.kind.isAnnotationScope then ScopeKind.function else sc.kind)
theorem swapT_ok {ts vs : List Expr} {k k2 : Nat} {p p2 : Pos} {env : Env} {r : Option (List Str)} (h : swapT ts vs env.scope = some r) : swappedStores [.Tuple ts k p] (.Tuple vs k2 p2) env = pure r := by
  have h : swapU ts vs env.scope env.blockKind = some r := h
  unfold swappedStores
  show (if (!(ts.length == 2 || ts.length == 3) || vs.length != ts.length || env.blockKind != .function) = true then (pure none : Sem (Option (List Str))) else _) = _
  generalize env.blockKind = bk at h
  unfold swapU at h
  split at h
  · rename_i c
    cases h
    rw [if_pos c]
  · rename_i c
    rw [if_neg c]
    split at h
    · rename_i c1
      cases h
      exact if_pos c1
    · rename_i c1
      refine (if_neg c1).trans ?_
      simp only at h
      split at h
      · rename_i c2
        cases h
        exact if_pos c2
      · rename_i c2
        refine (if_neg c2).trans ?_
        split at h
        · rename_i c3
          cases h
          exact if_pos c3
        · rename_i c3
          refine (if_neg c3).trans ?_
          split at h
          · cases h
          · rename_i c4
            cases h
            refine (if_neg c4).trans ?_
            rfl
def isNS : Expr → Bool
  | .Name _ _ => true
  | .Subscript _ _ _ => true
  | _ => false
theorem swap_none {t v : Expr} {env : Env} (h : isNS t = true ∨ (isTupE v = false ∧ isTupE t = true)) : swappedStores [t] v env = pure none := by
  rcases h with h | h
  · cases t <;> first | (cases h; done) | rfl | (cases v <;> first | rfl)
  · obtain ⟨h1, h2⟩ := h
    cases t <;> first | (cases h2; done) | skip
    cases v <;> first | (cases h1; done) | rfl
theorem sole_no {t v : Expr} {l : Nat} {env : Env} (h : notComp v = true ∨ (match t with | .Name _ _ => false | _ => true) = true) : swapsWithSole [t] v l env = pure false := by
  show swapsWith v (some t) l env = pure false
  rcases h with h | h
  · cases v <;> first | (cases h; done) | rfl
  · cases v <;> first | rfl | (cases t <;> first | (cases h; done) | rfl)
theorem none_no {v : Expr} {l : Nat} {env : Env} (h : notComp v = true) : swapsWith v none l env = pure false := by
  cases v <;> first | (cases h; done) | rfl
theorem name_no {v : Expr} {y : Str} {py : Pos} {l : Nat} {env : Env} (hk : env.scope.kind = .function) (h : notComp v = true ∨ (isLC v = true ∧ swB v y py env.scope = false)) : swapsWith v (some (.Name y py)) l env = pure false := by
  rcases h with h | ⟨h1, h2⟩
  · cases v <;> first | (cases h; done) | rfl
  · cases v <;> first | (cases h1; done) | skip
    rename_i el gs scope pos
    have hb : env.blockKind = .function := by unfold Env.blockKind; rw [hk]; rfl
    have ey : env.kindOf y = env.scope.names.lookup y := rfl
    unfold swapsWith
    simp only [hb, Expr.pos, ey]
    unfold swB at h2
    simp only at h2
    have e : (env.scope.names.lookup y == some NameKind.local) = decide (env.scope.names.lookup y = some .local) := by
      by_cases q : env.scope.names.lookup y = some .local
      · rw [q]; rfl
      · rw [decide_eq_false q]
        cases w : env.scope.names.lookup y with
        | none => rfl
        | some z =>
          rw [w] at q
          cases z <;> first | rfl | exact absurd rfl q
    rw [e]
    show (pure (((ScopeKind.function == ScopeKind.function && _) && _) && _) : Sem Bool) = pure false
    have e2 : (ScopeKind.function == ScopeKind.function) = true := rfl
    rw [e2, Bool.true_and, h2]
/-- the context of a body -/
structure GdS (C : Cfg) (κ : Kp) (xc : Nat → V → Prop) (CX : CXT) (lv : Nat) (X : Cx) (xk : XK) (S : SC) : Prop extends Gd C κ xc CX lv X xk S where
  po : PassesOwn (model X.prog X.w) X.A X.env X.xe
  kind : X.env.scope.kind = .function
section
variable {C : Cfg} {κ : Kp} {xc : Nat → V → Prop} {CX : CXT} {lv : Nat} {X : Cx} {xk : XK} {S : SC}
theorem _root_.L2.PS.imp {X : Cx} {e : Stmt} {t u : TS} (h : PS X e t) (k : ∀ D σ H, u D σ H → t D σ H) : PS X e u := ⟨fun pins s σ H D I q => h.run pins s σ H D I (k D σ H q)⟩
theorem _root_.L2.PSs.imp {X : Cx} {e : List Stmt} {t u : TS} (h : PSs X e t) (k : ∀ D σ H, u D σ H → t D σ H) : PSs X e u := ⟨fun pins s σ H D I q => h.run pins s σ H D I (k D σ H q)⟩
/-- name = value -/
theorem asg_name (G : GdS C κ xc CX lv X xk S) {ie : IE} {i : Nat} {x : Str} {py pos : Pos} {e : Expr} (h : asgNB C S ie i x py e = true) : PS X (.Assign [.Name x py] e pos) (tAsg (TI X.K xc xk (den κ ie).v) (gName i)) := by
  unfold asgNB at h
  simp only [Bool.and_eq_true, decide_eq_true_eq, Bool.or_eq_true, Bool.not_eq_true'] at h
  obtain ⟨⟨⟨h1, h2⟩, h3⟩, h4⟩ := h
  obtain ⟨g1, g2⟩ := G.tg x h2
  have hn : X.N[i]? = some x := by rw [G.N]; exact h1
  have plain : (notComp e = true ∨ (isLC e = true ∧ swB e x py X.env.scope = false)) → PS X (.Assign [.Name x py] e pos) (tAsg (TI X.K xc xk (den κ ie).v) (gName i)) := fun hc =>
    ps_set G.nd hn g1 ((snd_all ie X xk S G.toGd).v e h3) (name_no G.kind hc) g2
  rcases h4 with h4 | ⟨h4, h5 | h5⟩
  · exact plain (.inl h4)
  · exact plain (.inr ⟨h4, by rw [G.sc]; exact h5⟩)
  · cases hs : swB e x py X.env.scope with
    | false => exact plain (.inr ⟨h4, hs⟩)
    | true =>
      cases e <;> try (cases h4; done)
      rename_i el gs scope lpos
      unfold swB at hs
      simp only [Bool.and_eq_true, decide_eq_true_eq, Bool.not_eq_true'] at hs
      obtain ⟨⟨s1, s2⟩, s3⟩ := hs
      have hsw : ∀ l, swapsWith (.ListComp el gs scope lpos) (some (.Name x py)) l X.env = pure true := fun l => sw_true G.kind s1 s2 s3
      cases ie <;> try (cases h5; done)
      · rename_i own t sx c e2
        have h3 : (Ck.ofV _).v S (.ListComp el gs scope lpos) = true := h3
        simp only [Ck.ofV] at h3
        split at h3
        · rename_i el' tg it ifs scope' pos' eq
          cases eq
          split at h3
          · rename_i o hb
            simp only [Bool.and_eq_true, List.all_eq_true, decide_eq_true_eq] at h3
            obtain ⟨⟨⟨⟨⟨k1, k2⟩, k3⟩, k4⟩, k5⟩, k6⟩ := h3
            obtain ⟨em, bk⟩ := blkB_ok hb
            rw [← G.N, ← G.sc] at bk
            have hi := (snd_all sx X xk S G.toGd).i _ _ k3
            refine (ps_setLc (te := TI X.K xc XF (den κ e2).v) (tt := TIt X.K xc XF (den κ c).t) (g := TIg X.K t) G.calm G.nd hn s1 (hsw _) hi.2 bk (fun s H c cl fp => (snd_tg t (G.toGd.blk s H scope cl c fp)).v _ k4) (fun s H cc cl fp => ifs_ok k5 ((snd_all c _ _ _ (G.toGd.blk s H scope cl cc fp)).t)) (fun s H cc cl fp => (snd_all e2 _ _ _ (G.toGd.blk s H scope cl cc fp)).v _ k6) hi.1).imp fun D σ H q => ?_
            rw [em]
            exact lc_key k2 q
          · cases h3
        · cases h3
      · rename_i own own2 t sx c t2 sx2 c2 e2
        have h3 : (Ck.ofV _).v S (.ListComp el gs scope lpos) = true := h3
        simp only [Ck.ofV] at h3
        split at h3
        · rename_i el' tg it ifs tg2 it2 ifs2 scope' pos' eq
          cases eq
          split at h3
          · rename_i o hb
            simp only [Bool.and_eq_true, List.all_eq_true, decide_eq_true_eq] at h3
            obtain ⟨⟨⟨⟨⟨⟨⟨⟨⟨⟨⟨k0, k1⟩, k2⟩, k3⟩, k4⟩, k5⟩, k6⟩, k7⟩, k8⟩, k9⟩, k10⟩, k11⟩ := h3
            obtain ⟨em, bk⟩ := blkB_ok hb
            rw [← G.N, ← G.sc] at bk
            have hi := (snd_all sx X xk S G.toGd).i _ _ k5
            refine (ps_setLc2 (vs1 := own2) (te := TI X.K xc XF (den κ e2).v) (tt := TIt X.K xc XF (den κ c).t) (g := TIg X.K t) (wi1 := TIi X.K xc XF (den κ sx2).i) (tt1 := TIt X.K xc XF (den κ c2).t) (g1 := TIg X.K t2) G.calm G.nd hn s1 (hsw _) hi.2 bk (by rw [em]; exact k4)
              (fun s H c cl fp => (snd_tg t (G.toGd.blk s H scope cl c fp)).v _ k6) (fun s H cc cl fp => ifs_ok k7 ((snd_all c _ _ _ (G.toGd.blk s H scope cl cc fp)).t)) (fun s H c cl fp => ((snd_all sx2 _ _ _ (G.toGd.blk s H scope cl c fp)).i _ _ k8).2) (fun s H c cl fp => (snd_tg t2 (G.toGd.blk s H scope cl c fp)).v _ k9) (fun s H cc cl fp => ifs_ok k10 ((snd_all c2 _ _ _ (G.toGd.blk s H scope cl cc fp)).t))
              (fun s H cc cl fp => (snd_all e2 _ _ _ (G.toGd.blk s H scope cl cc fp)).v _ k11) hi.1 (fun env x => nset_fold k1 x)).imp fun D σ H q => ?_
            rw [em]
            exact lc2_key k2 k3 q
          · cases h3
        · cases h3
end
end Sg

-- SgStm3
/-! SgStm3: statements, one by one. -/
namespace Sg
open PySem PySem.Spec PyProof.Rows L2
section
variable {C : Cfg} {κ : Kp} {xc : Nat → V → Prop} {CX : CXT} {lv : Nat} {X : Cx} {xk : XK} {S : SC}
/-! ### stores -/
theorem st_asgN {i : Nat} {e : IE} {D : Ends} {σ : St} {H : Hp} (h : TSs X.K xc xk (evS κ (.asg (.nm i) e)) D σ H) : tAsg (TI X.K xc xk (den κ e).v) (gName i) D σ H := by
  obtain ⟨β0, E0, H0, β, E, env, b, f, h⟩ := h
  refine fs_step f h fun r b1 v H1 p h => ?_
  have f1 := f.keep p
  obtain ⟨d, hv, h⟩ := outG_keep ((p.rv.weak f.sr).mono fun c o n e => ⟨n, e⟩) h
  have h : D.nx (σ.set i (some v)) H1 := h β E _ H1 (f1.setS (sl := .val d) hv (fun d0 d z => by cases z) (fun d0 a z => by cases z)) (f.grow p.stab)
  exact h
theorem st_asg {t : Tg} {e : IE} {D : Ends} {σ : St} {H : Hp} (h : TSs X.K xc xk (evS κ (.asg t e)) D σ H) : tAsg (TI X.K xc xk (den κ e).v) (TIg X.K t) D σ H := by
  obtain ⟨β0, E0, H0, β, E, env, b, f, h⟩ := h
  refine fs_step f h fun r b1 v H1 p h => ?_
  have f1 := f.keep p
  obtain ⟨d, hv, h⟩ := outG_keep ((p.rv.weak f.sr).mono fun c o n e => ⟨n, e⟩) h
  obtain ⟨env', e', h⟩ := outG_opt h
  exact ⟨β, E, env, b1, d, env', f1.sr, hv, e', fun σ' s' _ ok => h β E σ' H1 (f1.tg s' ok) (f.grow p.stab)⟩
theorem st_asgo {i : Nat} {e : IE} {D : Ends} {σ : St} {H : Hp} (h : TSs X.K xc xk (evS κ (.asgo i e)) D σ H) : tAsg (TI X.K xc xk (den κ e).v) (gName i) D σ H := by
  obtain ⟨β0, E0, H0, β, E, env, b, f, h⟩ := h
  refine fs_step f h fun r b1 v H1 p h => ?_
  cases r <;> try (exact False.elim h)
  obtain ⟨a, rfl, n, c, f1, g⟩ := f.fresh p
  exact h β _ _ H1 (f1.setS (sl := .own _) ⟨a, rfl, .inr rfl, c, f.nb n⟩ (fun d0 d _ j ej => f.noOwn n ej) (fun d0 a' _ z => by cases z; exact f.new0 n)) g
theorem st_asgb {i : Nat} {e : IE} {D : Ends} {σ : St} {H : Hp} (h : TSs X.K xc xk (evS κ (.asgb i e)) D σ H) : tAsg (TI X.K xc xk (den κ e).v) (gName i) D σ H := by
  obtain ⟨β0, E0, H0, β, E, env, b, f, h⟩ := h
  refine fs_step f h fun r b1 v H1 p h => ?_
  cases r <;> try (exact False.elim h)
  obtain ⟨a, rfl, n, c, f1, g⟩ := f.fresh p
  have f2 := f1.box (.inr rfl) (f.nb n) (f.new0 n) c fun j d ej => f.noOwn n ej
  refine h _ _ _ H1 (f2.setS (sl := .bx b1.length) ⟨a, ?_, rfl⟩ (fun d0 d z => by cases z) (fun d0 a' z => by cases z)) g
  rw [← f1.sr.bx.len, List.getElem?_append_right (Nat.le_refl _), Nat.sub_self]
  rfl

theorem bindA {α α' α'' : Type} {m : M α} {f : α → M α'} {g : α' → M α''} : M.bind (M.bind m f) g = M.bind m fun x => M.bind (f x) g := by
  funext b
  unfold M.bind
  cases m b <;> rfl
/-! ### several names -/
def gNames : List Nat → TGs
  | [] => gNil
  | i :: is => gCons (gName i) (gNames is)
def namesB (C : Cfg) (S : SC) : List Nat → List Expr → Bool
  | [], [] => true
  | i :: is, .Name x _ :: ts => decide (C.N[i]? = some x) && tgB S x && namesB C S is ts
  | _, _ => false
def rowB (C : Cfg) (S : SC) : List IE → List Expr → Bool
  | [], [] => true
  | ie :: ies, e :: es => nstar e && (ck C ie).v S e && rowB C S ies es
  | _, _ => false
def setV : List Nat → List V → St → St
  | i :: is, v :: vs, σ => setV is vs (σ.set i (some v))
  | _, _, σ => σ
def tRow (K : PySem.W.Frag) (xc : Nat → V → Prop) (xk : XK) (κ : Kp) : List IE → TA
  | [] => tNil
  | e :: es => tCons (TI K xc xk (den κ e).v) (tRow K xc xk κ es)
theorem row_ok (G : Gd C κ xc CX lv X xk S) : ∀ {ies : List IE} {es : List Expr}, rowB C S ies es = true → PA X es (tRow X.K xc xk κ ies) ∧ ies.length = es.length
  | [], [], _ => ⟨pa_nil, rfl⟩
  | ie :: ies, e :: es, h => by
    simp only [rowB, Bool.and_eq_true] at h
    obtain ⟨p, l⟩ := row_ok G h.2
    exact ⟨pa_cons ((snd_all ie X xk S G).v e h.1.2) p (starEach_ns h.1.1), by simp [l]⟩
  | [], _ :: _, h => by cases h
  | _ :: _, [], h => by cases h
theorem names_ok (G : Gd C κ xc CX lv X xk S) : ∀ {is : List Nat} {ts : List Expr}, namesB C S is ts = true → PGs X ts (gNames is) ∧ (assignEach ts X.env).findIdx? (·.1) = none ∧ (assignEach ts X.env).length = is.length
  | [], [], _ => ⟨pgs_nil, rfl, rfl⟩
  | i :: is, .Name x px :: ts, h => by
    simp only [namesB, Bool.and_eq_true, decide_eq_true_eq] at h
    obtain ⟨p, q, l⟩ := names_ok G h.2
    obtain ⟨g1, g2⟩ := G.tg x h.1.2
    refine ⟨pgs_cons (pg_name G.nd (by rw [G.N]; exact h.1.1) g1 g2) p rfl, ?_, ?_⟩
    · show List.findIdx? (·.1) ((false, assign (.Name x px) X.env) :: assignEach ts X.env) = none
      rw [List.findIdx?_cons]
      simp [q]
    · show ((false, assign (.Name x px) X.env) :: assignEach ts X.env).length = _
      rw [List.length_cons, l]
      rfl
  | [], _ :: _, h => by cases h
  | i :: is, [], h => by cases h
theorem names_set {is : List Nat} : ∀ {vs : List V} {σ : St} {H : Hp} {Q : St → Hp → Prop}, vs.length = is.length → Q (setV is vs σ) H → gNames is vs σ H Q := by
  induction is with
  | nil =>
    intro vs σ H Q l h
    cases vs with
    | nil => exact ⟨rfl, h⟩
    | cons _ _ => cases l
  | cons i is ih =>
    intro vs σ H Q l h
    cases vs with
    | nil => cases l
    | cons v vs => exact ⟨v, vs, rfl, ih (by simpa using l) h⟩
/-- the row's slots; E: what was changing before -/
inductive GSs (K : PySem.W.Frag) (β : List Addr) (H0 : Hp) (H1 : Hp) (E1 : Addr → Prop) : (Addr → Prop) → List V → List Slot → Prop
  | nil {E : Addr → Prop} : GSs K β H0 H1 E1 E [] []
  | val {E : Addr → Prop} {v : V} {d : D} {vs : List V} {sls : List Slot} : VR K H1 E1 v d → GSs K β H0 H1 E1 E vs sls → GSs K β H0 H1 E1 E (v :: vs) (.val d :: sls)
  | own {E : Addr → Prop} {a : Addr} {d : D} {vs : List V} {sls : List Slot} : ¬ E a → H0 a = none → E1 a → a ∉ β → Cell K H1 E1 a d → GSs K β H0 H1 E1 (pl E a) vs sls → GSs K β H0 H1 E1 E (.ref a :: vs) (.own d :: sls)
theorem GSs.len {K : PySem.W.Frag} {β : List Addr} {H0 H1 : Hp} {E1 E : Addr → Prop} {vs : List V} {sls : List Slot} (g : GSs K β H0 H1 E1 E vs sls) : vs.length = sls.length := by
  induction g with
  | nil => rfl
  | val _ _ ih => simp [ih]
  | own _ _ _ _ _ _ ih => simp [ih]
section
variable {K : PySem.W.Frag} {β0 : List Addr} {E0 : Addr → Prop} {H0 : Hp} {β : List Addr} {b : List D}
theorem sets_ok {H1 : Hp} {E1 : Addr → Prop} {E : Addr → Prop} {vs : List V} {sls : List Slot} (g : GSs K β H0 H1 E1 E vs sls) : ∀ {is : List Nat} {env : List Slot} {σ : St}, FS K β0 E0 H0 β E1 env b σ H1 →
    (∀ (j : Nat) (d : D) (a : Addr), env[j]? = some (Slot.own d) → σ[j]? = some (some (V.ref a)) → E a) → FS K β0 E0 H0 β E1 (setSs is sls env) b (setV is vs σ) H1 := by
  induction g with
  | nil => intro is env σ f _; cases is <;> exact f
  | @val E v d vs sls hv g ih =>
    intro is env σ f ho
    cases is with
    | nil => exact f
    | cons i is =>
      refine ih (f.setS (sl := .val d) hv (fun d0 d z => by cases z) (fun d0 a z => by cases z)) fun j d0 a e1 e2 => ?_
      by_cases hj : i = j
      · subst hj
        rw [List.getElem?_set, if_pos rfl] at e1
        split at e1 <;> cases e1
      · rw [List.getElem?_set_ne hj] at e1 e2
        exact ho j d0 a e1 e2
  | @own E a d vs sls n n0 e1 nb c g ih =>
    intro is env σ f ho
    cases is with
    | nil => exact f
    | cons i is =>
      refine ih (f.setS (sl := .own d) ⟨a, rfl, e1, c, nb⟩ (fun d0 d1 _ j ej z => n (ho j d1 a ej z)) (fun d0 a' _ z => by cases z; exact n0)) fun j d0 a' e1 e2 => ?_
      by_cases hj : i = j
      · subst hj
        rw [List.getElem?_set, if_pos rfl] at e1 e2
        split at e1
        · split at e2
          · cases e2; exact .inr rfl
          · cases e2
        · cases e1
      · rw [List.getElem?_set_ne hj] at e1 e2
        exact .inl (ho j d0 a' e1 e2)
theorem par_key {xc : Nat → V → Prop} {xk : XK} {κ : Kp} {env : List Slot} {σ : St} {α : Type} {Q : α → List D → Prop} : ∀ {es : List IE} {os : List Bool} {k : List Slot → M α} {E : Addr → Prop} {b : List D} {H : Hp} {P : List V → Hp → Prop}, FS K β0 E0 H0 β E env b σ H → OutG K xc xk β0 E0 H0 Q (M.bind (parM κ os es env) k b) →
    (∀ sls b1 vs H1 E1, sls.length = es.length → FS K β0 E0 H0 β E1 env b1 σ H1 → Stab β H H1 → (∀ c, E c → E1 c) → Grow H E H1 E1 → GSs K β H0 H1 E1 E vs sls → OutG K xc xk β0 E0 H0 Q (k sls b1) → P vs H1) → tRow K xc xk κ es σ H P
  | [], os, k, E, b, H, P, f, h, hk => by
    cases os with
    | nil => exact hk [] b [] H E rfl f Stab.refl (fun _ h => h) Grow.refl .nil h
    | cons _ _ => exact False.elim h
  | e :: es, [], k, E, b, H, P, f, h, hk => False.elim h
  | e :: es, o :: os, k, E, b, H, P, f, h, hk => by
    have as : M.bind (parM κ (o :: os) (e :: es) env) k b = M.bind ((den κ e).v env) (fun x => M.bind (toSlot o x) fun sl => M.bind (parM κ os es env) fun r => k (sl :: r)) b := by
      show M.bind (M.bind ((den κ e).v env) fun x => M.bind (toSlot o x) fun sl => M.bind (parM κ os es env) fun r => M.pure (sl :: r)) k b = _
      rw [bindA]
      congr 1
      funext x
      rw [bindA]
      congr 1
      funext sl
      rw [bindA]
      rfl
    rw [as] at h
    show TI K xc xk (den κ e).v σ H fun x H1 => tRow K xc xk κ es σ H1 fun xs H2 => P (x :: xs) H2
    refine fs_step f h fun r b1 v H1 p h => ?_
    cases o with
    | false =>
      have f1 := f.keep p
      have h : OutG K xc xk β0 E0 H0 Q (M.bind (M.bind r.keep fun d => M.pure (Slot.val d)) (fun sl => M.bind (parM κ os es env) fun r => k (sl :: r)) b1) := h
      have as2 : M.bind (M.bind r.keep fun d => M.pure (Slot.val d)) (fun sl => M.bind (parM κ os es env) fun r => k (sl :: r)) b1 = M.bind r.keep (fun d => M.bind (parM κ os es env) fun r => k (.val d :: r)) b1 := by
        rw [bindA]
        rfl
      rw [as2] at h
      obtain ⟨d, hv, h⟩ := outG_keep ((p.rv.weak f.sr).mono fun c o n e => ⟨n, e⟩) h
      refine par_key f1 h fun sls b2 vs H2 E1 hl f2 t m g gs h => ?_
      exact hk _ b2 _ H2 E1 (by simp [hl]) f2 (p.stab.trans t) m ((f.grow p.stab).trans g) (.val (VR.mono g hv) gs) h
    | true =>
      cases r <;> try (exact False.elim h)
      obtain ⟨a, rfl, n, c, f1, g⟩ := f.fresh p
      refine par_key f1 h fun sls b2 vs H2 E1 hl f2 t m g2 gs h => ?_
      refine hk _ b2 _ H2 E1 (by simp [hl]) f2 (p.stab.trans t) (fun c hc => m c (.inl hc)) (g.trans g2) (.own (f.sr.noE n) (f.new0 n) (m a (.inr rfl)) (f.nb n) (c.mono (fun o e => t a o (f.nb n) e) g2) gs) h
end
end
end Sg

-- SgStm4
/-! SgStm4: statements, further. -/
namespace Sg
open PySem PySem.Spec PyProof.Rows L2
section
variable {C : Cfg} {κ : Kp} {xc : Nat → V → Prop} {CX : CXT} {lv : Nat} {X : Cx} {xk : XK} {S : SC}
theorem fs_own {K : PySem.W.Frag} {β0 : List Addr} {E0 : Addr → Prop} {H0 : Hp} {β : List Addr} {E : Addr → Prop} {env : List Slot} {b : List D} {σ : St} {H : Hp} (f : FS K β0 E0 H0 β E env b σ H) (j : Nat) (d : D) (a : Addr) (e : env[j]? = some (Slot.own d)) (e2 : σ[j]? = some (some (V.ref a))) : E a := by
  obtain ⟨a', e1, ea, _⟩ := f.ownE e
  rw [e2] at e1; cases e1
  exact ea
/-- x, y, .. = a, b, .. : by a pair -/
theorem par_end {β0 : List Addr} {E0 : Addr → Prop} {H0 : Hp} {β : List Addr} {E : Addr → Prop} {env : List Slot} {b1 : List D} {σ : St} {H H1 H2 : Hp} {E1 : Addr → Prop} {is : List Nat} {vs : List V} {sls : List Slot} {D : Ends} {b : List Sg.D} (f : FS X.K β0 E0 H0 β E env b σ H) (f1 : FS X.K β0 E0 H0 β E1 env b1 σ H1) (g : Grow H E H1 E1) (gs : GSs X.K β H0 H1 E1 E vs sls) (t : Stab β H1 H2) (x : Bxs X.K β E1 b1 H2)
    (h : OutG X.K xc xk β0 E0 H0 (QF X.K β0 E0 H0 E H D) (M.pure (.nx (setSs is sls env)) b1)) : D.nx (setV is vs σ) H2 := by
  have f3 := sets_ok gs (is := is) f1 (fs_own f)
  exact h β E1 _ H2 (f3.next t x) (g.trans (t.grow f1.sr.bx.inE))
theorem st_parA {is : List Nat} {os : List Bool} {es : List IE} {D : Ends} {σ : St} {H : Hp} {n : Nat} (hn : n = is.length) (hl : is.length = es.length) (hs : is.length ≤ sizeLine) (h : TSs X.K xc xk (evS κ (.par os is es)) D σ H) : tAsg (tTup (tRow X.K xc xk κ es)) (gTup X.K n (gNames is)) D σ H := by
  obtain ⟨β0, E0, H0, β, E, env, b, f, h⟩ := h
  show tRow X.K xc xk κ es σ H fun xs H1 => xs.length ≤ sizeLine ∧ ∀ p, H1 p = none → gTup X.K n (gNames is) (.ref p) σ (upd H1 p (.tup xs)) D.nx
  refine par_key f h fun sls b1 vs H1 E1 hls f1 t m g gs h => ?_
  have hv : vs.length = is.length := by rw [gs.len, hls, hl]
  refine ⟨by rw [hv]; exact hs, fun p np => ?_⟩
  exact ⟨p, vs, rfl, SqT.of upd_same, by rw [hn]; exact hv, names_set hv (par_end f f1 g gs (Stab.upd np) (f1.sr.bx.new np) h)⟩
theorem two_of {vs : List V} (h : vs.length = 2) : ∃ v w, vs = [v, w] := by
  match vs, h with
  | [v, w], _ => exact ⟨v, w, rfl⟩
theorem three_of {vs : List V} (h : vs.length = 3) : ∃ u v w, vs = [u, v, w] := by
  match vs, h with
  | [u, v, w], _ => exact ⟨u, v, w, rfl⟩
theorem st_parB2 {i j : Nat} {os : List Bool} {a c : IE} {D : Ends} {σ : St} {H : Hp} (h : TSs X.K xc xk (evS κ (.par os [i, j] [a, c])) D σ H) : tPar i j (tRow X.K xc xk κ [a, c]) D σ H := by
  obtain ⟨β0, E0, H0, β, E, env, b, f, h⟩ := h
  refine par_key f h fun sls b1 vs H1 E1 hls f1 t m g gs h => ?_
  obtain ⟨v, w, rfl⟩ := two_of (by rw [gs.len, hls]; rfl : vs.length = 2)
  exact ⟨v, w, rfl, par_end (is := [i, j]) f f1 g gs Stab.refl f1.sr.bx h⟩
theorem st_parB3 {i j l : Nat} {os : List Bool} {a c e : IE} {D : Ends} {σ : St} {H : Hp} (h : TSs X.K xc xk (evS κ (.par os [i, j, l] [a, c, e])) D σ H) : tPar3 i j l (tRow X.K xc xk κ [a, c, e]) D σ H := by
  obtain ⟨β0, E0, H0, β, E, env, b, f, h⟩ := h
  refine par_key f h fun sls b1 vs H1 E1 hls f1 t m g gs h => ?_
  obtain ⟨u, v, w, rfl⟩ := three_of (by rw [gs.len, hls]; rfl : vs.length = 3)
  exact ⟨u, v, w, rfl, par_end (is := [i, j, l]) f f1 g gs Stab.refl f1.sr.bx h⟩
def locB (S : SC) (x : Str) : Bool := decide (S.sc.names.lookup x = some .local)
def parB (C : Cfg) (S : SC) (is : List Nat) (ies : List IE) (ts es : List Expr) : Bool :=
  namesB C S is ts && rowB C S ies es && decide (is.length = ies.length) && decide (is.length ≤ 1000) && (match swapT ts es S.sc with
    | some none => true
    | some (some ns) => (match is, ies, ts, es with
      | [i, j], [_, _], [.Name x _, .Name y _], [_, _] => decide (ns = [x, y]) && decide (i ≠ j) && locB S x && locB S y
      | [i, j, l], [_, _, _], [.Name x _, .Name y _, .Name z _], [_, _, _] => decide (ns = [x, y, z]) && decide (i ≠ j) && decide (i ≠ l) && decide (j ≠ l) && locB S x && locB S y && locB S z
      | _, _, _, _ => false)
    | none => false)
theorem assignEach_tup {ts : List Expr} {k : Nat} {p : Pos} {env : Env} : (assignEach [.Tuple ts k p] env).map (·.2) = [assign (.Tuple ts k p) env] := rfl
theorem ps_parS (G : GdS C κ xc CX lv X xk S) {os : List Bool} {is : List Nat} {ies : List IE} {ts es : List Expr} {k1 k2 : Nat} {p1 p2 pos : Pos} (h : parB C S is ies ts es = true) :
    PS X (.Assign [.Tuple ts k1 p1] (.Tuple es k2 p2) pos) (TSs X.K xc xk (evS κ (.par os is ies))) := by
  unfold parB at h
  simp only [Bool.and_eq_true, decide_eq_true_eq] at h
  obtain ⟨⟨⟨⟨h1, h2⟩, h3⟩, h4⟩, h5⟩ := h
  obtain ⟨pg, q1, q2⟩ := names_ok G.toGd h1
  obtain ⟨pa, q3⟩ := row_ok G.toGd h2
  have h4' : is.length ≤ sizeLine := Nat.le_trans h4 (by decide)
  split at h5
  · rename_i sw
    rw [← G.sc] at sw
    exact (ps_asg (pe_tup pa) (pg_tup G.calm pg q2 q1) (sole_no (.inr rfl)) (swapT_ok sw) assignEach_tup).imp fun D σ H h => st_parA rfl h3 h4' h
  · rename_i ns sw
    rw [← G.sc] at sw
    split at h5
    · simp only [Bool.and_eq_true, decide_eq_true_eq, locB] at h5
      obtain ⟨⟨⟨rfl, n1⟩, l1⟩, l2⟩ := h5
      simp only [namesB, Bool.and_eq_true, decide_eq_true_eq] at h1
      rw [← G.sc] at l1 l2
      exact (ps_par G.calm G.nd (by rw [G.N]; exact h1.1.1) (by rw [G.N]; exact h1.2.1.1) n1 l1 l2 pa (swapT_ok sw) (sole_no (.inr rfl))).imp fun D σ H h => st_parB2 h
    · simp only [Bool.and_eq_true, decide_eq_true_eq, locB] at h5
      obtain ⟨⟨⟨⟨⟨⟨rfl, n1⟩, n2⟩, n3⟩, l1⟩, l2⟩, l3⟩ := h5
      simp only [namesB, Bool.and_eq_true, decide_eq_true_eq] at h1
      rw [← G.sc] at l1 l2 l3
      exact (ps_par3 G.calm G.nd (by rw [G.N]; exact h1.1.1) (by rw [G.N]; exact h1.2.1.1) (by rw [G.N]; exact h1.2.2.1.1) n1 n2 n3 l1 l2 l3 pa (swapT_ok sw) (sole_no (.inr rfl))).imp fun D σ H h => st_parB3 h
    · cases h5
  · cases h5
end
end Sg

-- SgStm5
/-! SgStm5: statements: lists that change. -/
namespace Sg
open PySem PySem.Spec PyProof.Rows L2
section
variable {K : PySem.W.Frag} {xc : Nat → V → Prop} {xk : XK} {β0 : List Addr} {E0 : Addr → Prop} {H0 : Hp} {β : List Addr} {E : Addr → Prop} {env : List Slot} {b : List D} {σ : St} {H : Hp}
theorem peek_of {α : Type} {i : Nat} {k : Unit → M α} {Q : α → List D → Prop} (f : FS K β0 E0 H0 β E env b σ H) (h : OutG K xc xk β0 E0 H0 Q (M.bind (peek env i) k b)) : (∃ a ws, σ[i]? = some (some (V.ref a)) ∧ H a = some (.lst ws)) ∧ OutG K xc xk β0 E0 H0 Q (k () b) := by
  have h := outG_bind h
  have cs : (∃ ds, env[i]? = some (Slot.own (.lst ds))) ∨ (∃ n ds, env[i]? = some (Slot.bx n) ∧ b[n]? = some (.lst ds)) ∨ peek env i b = .bad := by
    unfold peek
    cases e : env[i]? with
    | none => exact .inr (.inr rfl)
    | some sl =>
      cases sl with
      | no => exact .inr (.inr rfl)
      | val d => exact .inr (.inr rfl)
      | own d => cases d <;> first | exact .inl ⟨_, rfl⟩ | exact .inr (.inr rfl)
      | bx n =>
        cases e2 : b[n]? with
        | none => right; right; simp only [e2]
        | some d => cases d <;> first | exact .inr (.inl ⟨_, _, rfl, e2⟩) | (right; right; simp only [e2])
  rcases cs with ⟨ds, e⟩ | ⟨n, ds, e, e2⟩ | e
  · have em : peek env i b = .ok () b := by unfold peek; rw [e]
    rw [em] at h
    obtain ⟨a, e1, ea, ⟨ws, e3, _⟩, nb⟩ := f.ownE e
    exact ⟨⟨a, ws, e1, e3⟩, h⟩
  · have em : peek env i b = .ok () b := by unfold peek; rw [e]; simp only [e2]
    rw [em] at h
    obtain ⟨a, e1, e3⟩ := f.sr.slots i _ e
    obtain ⟨ws, e4, _⟩ := f.sr.bx.box n a _ e1 e2
    exact ⟨⟨a, ws, e3, e4⟩, h⟩
  · rw [e] at h
    exact False.elim h
end
section
variable {C : Cfg} {κ : Kp} {xc : Nat → V → Prop} {CX : CXT} {lv : Nat} {X : Cx} {xk : XK} {S : SC}
def varB (C : Cfg) (S : SC) (i : Nat) (x : Str) : Bool := decide (C.N[i]? = some x) && visB S x
theorem var_ok (G : Gd C κ xc CX lv X xk S) {i : Nat} {x : Str} {p : Pos} (h : varB C S i x = true) : PE X (.Name x p) (tVar i) := by
  unfold varB at h
  simp only [Bool.and_eq_true, decide_eq_true_eq] at h
  obtain ⟨v1, v2, v3⟩ := G.vis h.2
  exact pe_var (by rw [G.N]; exact h.1) v1 v2 v3
theorem ne_none {H : Hp} {a p : Addr} {o : HO} (h : H a = some o) (n : H p = none) : a ≠ p := fun z => by rw [z, n] at h; cases h
/-- xs.append(e) -/
theorem st_app {i : Nat} {e : IE} {D : Ends} {σ : St} {H : Hp} (h : TSs X.K xc xk (evS κ (.app i e)) D σ H) : tDrop (tBM X.K "list" rAppend (tVar i) (tCons (TI X.K xc xk (den κ e).v) tNil)) D σ H := by
  obtain ⟨β0, E0, H0, β, E, env, b, f, h⟩ := h
  obtain ⟨⟨a0, ws0, e1, e2⟩, h⟩ := peek_of f h
  refine ⟨.ref a0, e1, .inl ⟨rfl, _, SqL.of e2⟩, ?_⟩
  show TI X.K xc xk (den κ e).v σ H fun v H1 => rAppend (.ref a0) [v] H1 fun _ H2 => D.nx σ H2
  refine fs_step f h fun r b1 v H1 p h => ?_
  have f1 := f.keep p
  obtain ⟨d, hv, h⟩ := outG_keep ((p.rv.weak f.sr).mono fun c o n e => ⟨n, e⟩) h
  obtain ⟨a, ds, ws, r2, d2, env2, b2, e3, e4, hvs, ea, eg, h, w⟩ := modify_ok f1 h
  rw [e1] at e3; cases e3
  simp only [appD] at eg
  split at eg
  · rename_i hz
    cases eg
    have hl := hvs.length
    refine ⟨a0, ws, v, rfl, rfl, e4, by rw [hl]; exact Nat.lt_of_lt_of_le hz LIM_line, ?_⟩
    exact h β E σ _ (w _ (ws ++ [v]) rfl (hvs.append (.cons hv .nil))) ((f.grow p.stab).trans (Grow.updE ea))
  · cases eg
/-- xs.extend(e) -/
theorem st_ext {i : Nat} {e : IE} {D : Ends} {σ : St} {H : Hp} (h : TSs X.K xc xk (evS κ (.ext i e)) D σ H) : tDrop (tBM X.K "list" rExtend (tVar i) (tCons (TI X.K xc xk (den κ e).v) tNil)) D σ H := by
  obtain ⟨β0, E0, H0, β, E, env, b, f, h⟩ := h
  obtain ⟨⟨a0, ws0, e1, e2⟩, h⟩ := peek_of f h
  refine ⟨.ref a0, e1, .inl ⟨rfl, _, SqL.of e2⟩, ?_⟩
  show TI X.K xc xk (den κ e).v σ H fun v H1 => rExtend (.ref a0) [v] H1 fun _ H2 => D.nx σ H2
  refine fs_step f h fun r b1 v H1 p h => ?_
  have f1 := f.keep p
  obtain ⟨d, hv, h⟩ := outG_keep ((p.rv.weak f.sr).mono fun c o n e => ⟨n, e⟩) h
  obtain ⟨a, ds, ws, r2, d2, env2, b2, e3, e4, hvs, ea, eg, h, w⟩ := modify_ok f1 h
  rw [e1] at e3; cases e3
  cases d <;> try (simp only [extD] at eg; cases eg; done)
  rename_i es
  simp only [extD] at eg
  split at eg
  · rename_i hz
    cases eg
    cases hv with
    | @lst p2 zs _ n2 ez rz =>
      have hl := hvs.length
      have hl2 := rz.length
      refine ⟨a0, p2, ws, zs, rfl, rfl, e4, ez, by rw [hl, hl2]; exact Nat.le_trans hz LIM_line, ?_⟩
      exact h β E σ _ (w _ (ws ++ zs) rfl (hvs.append rz)) ((f.grow p.stab).trans (Grow.updE ea))
  · cases eg
theorem dropLast_vrs {K : PySem.W.Frag} {H : Hp} {E : Addr → Prop} {ws : List V} {ds : List D} (h : VRs K H E ws ds) : VRs K H E ws.dropLast ds.dropLast := by
  rw [List.dropLast_eq_take, List.dropLast_eq_take, h.length]
  exact h.take _
/-- t = xs.pop() -/
theorem st_pop {t : Tg} {i : Nat} {D : Ends} {σ : St} {H : Hp} (h : TSs X.K xc xk (evS κ (.pop t i)) D σ H) : tAsg (tBM0 X.K "list" rPop (tVar i)) (TIg X.K t) D σ H := by
  obtain ⟨β0, E0, H0, β, E, env, b, f, h⟩ := h
  obtain ⟨⟨a0, ws0, e1, e2⟩, h⟩ := peek_of f h
  refine ⟨.ref a0, e1, .inl ⟨rfl, _, SqL.of e2⟩, ?_⟩
  obtain ⟨a, ds, ws, r2, d2, env2, b2, e3, e4, hvs, ea, eg, h, w⟩ := modify_ok f h
  rw [e1] at e3; cases e3
  simp only [popD] at eg
  split at eg
  · rename_i y hy
    cases eg
    have hl := hvs.length
    have hy' : ds[ds.length - 1]? = some r2 := by rw [← List.getLast?_eq_getElem?]; exact hy
    obtain ⟨v, hv1, hv2⟩ := hvs.get' hy'
    obtain ⟨env', e', h⟩ := outG_opt h
    have f2 := w _ ws.dropLast rfl (dropLast_vrs hvs)
    have g : Grow H E (upd H a0 (.lst ws.dropLast)) E := Grow.updE ea
    exact ⟨a0, ws, v, rfl, rfl, e4, by rw [hl]; exact hv1, β, E, env2, b2, r2, env', f2.sr, VR.mono g hv2, e', fun σ' s' _ ok => h β E σ' _ (f2.tg s' ok) g⟩
  · cases eg
theorem VRs.erase {K : PySem.W.Frag} {H : Hp} {E : Addr → Prop} : ∀ {ws : List V} {ds : List D} (j : Nat), VRs K H E ws ds → VRs K H E (ws.eraseIdx j) (ds.eraseIdx j)
  | _, _, _, .nil => .nil
  | _, _, 0, .cons a r => r
  | _, _, j + 1, .cons a r => .cons a (VRs.erase j r)
/-- xs.append(ys.pop(k)) -/
theorem st_popApp {i j : Nat} {e : IE} {D : Ends} {σ : St} {H : Hp} (h : TSs X.K xc xk (evS κ (.popApp i j e)) D σ H) : tDrop (tBM X.K "list" rAppend (tVar i) (tCons (tBM X.K "list" rPopAt (tVar j) (tCons (TI X.K xc xk (den κ e).v) tNil)) tNil)) D σ H := by
  obtain ⟨β0, E0, H0, β, E, env, b, f, h⟩ := h
  obtain ⟨⟨a0, ws0, e1, e2⟩, h⟩ := peek_of f h
  obtain ⟨⟨a1, ws1, e1', e2'⟩, h⟩ := peek_of f h
  refine ⟨.ref a0, e1, .inl ⟨rfl, _, SqL.of e2⟩, .ref a1, e1', .inl ⟨rfl, _, SqL.of e2'⟩, ?_⟩
  show TI X.K xc xk (den κ e).v σ H fun v H1 => rPopAt (.ref a1) [v] H1 fun u H2 => rAppend (.ref a0) [u] H2 fun _ H3 => D.nx σ H3
  refine fs_step f h fun r b1 v H1 p h => ?_
  have f1 := f.keep p
  obtain ⟨d, hv, h⟩ := outG_keep ((p.rv.weak f.sr).mono fun c o n e => ⟨n, e⟩) h
  obtain ⟨a, ds, ws, r2, d2, env2, b2, e3, e4, hvs, ea, eg, hB, w⟩ := modify_ok f1 h
  rw [e1'] at e3; cases e3
  cases d <;> try (simp only [popAtD] at eg; cases eg; done)
  rename_i k
  simp only [popAtD] at eg
  split at eg
  · rename_i hz
    have hl := hvs.length
    cases q : ixI ds.length k with
    | none => rw [q] at eg; cases eg
    | some jj =>
      rw [q] at eg
      simp only [Option.bind_some] at eg
      cases q2 : ds[jj]? with
      | none => rw [q2] at eg; cases eg
      | some y =>
        rw [q2] at eg; cases eg
        have hv' := VR.intE hv
        subst hv'
        have hq : L2.ixN ws.length k = some jj := by rw [hl]; exact q
        obtain ⟨s1, s2, s3, s4⟩ := ixN_seq hq
        have hz' : ws.length ≤ 1000000 := by rw [hl]; exact hz
        obtain ⟨y', y1, y2⟩ := hvs.get' q2
        have f2 := w _ (ws.eraseIdx jj) rfl (VRs.erase jj hvs)
        have g : Grow H1 E (upd H1 a1 (.lst (ws.eraseIdx jj))) E := Grow.updE ea
        refine ⟨a1, ws, k, jj, y', rfl, rfl, e4, by omega, by omega, s1, y1, ?_⟩
        obtain ⟨a', ds', ws', r3, d3, env3, b3, e5, e6, hvs', ea', eg', hC, w'⟩ := modify_ok f2 hB
        rw [e1] at e5; cases e5
        simp only [appD] at eg'
        split at eg'
        · rename_i hz2
          cases eg'
          have hl2 := hvs'.length
          refine ⟨a0, ws', y', rfl, rfl, e6, by rw [hl2]; exact Nat.lt_of_lt_of_le hz2 LIM_line, ?_⟩
          exact hC β E σ _ (w' _ (ws' ++ [y']) rfl (hvs'.append (.cons (VR.mono g y2) .nil))) (((f.grow p.stab).trans g).trans (Grow.updE ea'))
        · cases eg'
  · cases eg
/-- xs[k] = e -/
theorem st_sub {i : Nat} {e k : IE} {D : Ends} {σ : St} {H : Hp} (h : TSs X.K xc xk (evS κ (.sub i k e)) D σ H) : tAsg (TI X.K xc xk (den κ e).v) (gSub (tVar i) (TI X.K xc xk (den κ k).v) rSetL) D σ H := by
  obtain ⟨β0, E0, H0, β, E, env, b, f, h⟩ := h
  obtain ⟨⟨a0, ws0, e1, e2⟩, h⟩ := peek_of f h
  refine fs_step f h fun r b1 v H1 p h => ?_
  have f1 := f.keep p
  obtain ⟨d, hv, h⟩ := outG_keep ((p.rv.weak f.sr).mono fun c o n e => ⟨n, e⟩) h
  refine ⟨.ref a0, e1, ?_⟩
  show TI X.K xc xk (den κ k).v σ H1 fun u H2 => rSetL (.ref a0) u v H2 fun H3 => D.nx σ H3
  refine fs_step f1 h fun r b3 u H2 p2 h => ?_
  have f2 := f1.keep p2
  obtain ⟨dk, hu, h⟩ := outG_keep ((p2.rv.weak f1.sr).mono fun c o n e => ⟨n, e⟩) h
  obtain ⟨a, ds, ws, r2, d2, env2, b2, e3, e4, hvs, ea, eg, h, w⟩ := modify_ok f2 h
  rw [e1] at e3; cases e3
  cases dk <;> try (simp only [subD] at eg; cases eg; done)
  rename_i kk
  simp only [subD] at eg
  cases q : ixI ds.length kk with
  | none => rw [q] at eg; cases eg
  | some jj =>
    rw [q] at eg; cases eg
    have hu' := VR.intE hu
    subst hu'
    have hq : L2.ixN ws.length kk = some jj := by rw [hvs.length]; exact q
    have hv2 : VR X.K H2 E v d := VR.mono (f1.grow p2.stab) hv
    exact ⟨a0, ws, kk, jj, rfl, rfl, e4, hq, h β E σ _ (w _ (ws.set jj v) rfl (hvs.set jj hv2)) (((f.grow p.stab).trans (f1.grow p2.stab)).trans (Grow.updE ea))⟩
end
end Sg

-- SgStm6
/-! SgStm6: statements: branches, loops, ends; the checker; every statement. -/
namespace Sg
open PySem PySem.Spec PyProof.Rows L2
section
variable {C : Cfg} {κ : Kp} {xc : Nat → V → Prop} {CX : CXT} {lv : Nat} {X : Cx} {xk : XK} {S : SC}
theorem FS.afterX {K : PySem.W.Frag} {β0 : List Addr} {E0 : Addr → Prop} {H0 : Hp} {β : List Addr} {E : Addr → Prop} {env : List Slot} {b b1 : List D} {σ : St} {H H1 : Hp} (f : FS K β0 E0 H0 β E env b σ H) (p : XPost K β E H b1 H1) : FS K β0 E0 H0 β E env b1 σ H1 := f.next p.stab p.bx
theorem QF.grow {K : PySem.W.Frag} {β0 : List Addr} {E0 : Addr → Prop} {H0 : Hp} {E E1 : Addr → Prop} {H H1 : Hp} {D : Ends} (g : Grow H E H1 E1) {fl : Fl} {b : List Sg.D} (h : QF K β0 E0 H0 E H D fl b) : QF K β0 E0 H0 E1 H1 D fl b := by
  cases fl with
  | nx env' => exact fun β' E' σ' H' f k => h β' E' σ' H' f (g.trans k)
  | rt r => exact h
theorem st_seq {s r : IS} {D : Ends} {σ : St} {H : Hp} (h : TSs X.K xc xk (evS κ (.cons s r)) D σ H) : tSeq (TSs X.K xc xk (evS κ s)) (TSs X.K xc xk (evS κ r)) D σ H := by
  obtain ⟨β0, E0, H0, β, E, env, b, f, h⟩ := h
  refine ⟨β0, E0, H0, β, E, env, b, f, (outG_bind h).mono fun fl b1 h => ?_⟩
  cases fl with
  | nx env' => exact fun β' E' σ' H' f' g => ⟨β0, E0, H0, β', E', env', b1, f', OutG.mono h fun fl b => QF.grow g⟩
  | rt x => exact h
theorem st_ite {c : IE} {a d : IS} {D : Ends} {σ : St} {H : Hp} (h : TSs X.K xc xk (evS κ (.ite c a d)) D σ H) : tIfS (TIt X.K xc xk (den κ c).t) (TSs X.K xc xk (evS κ a)) (TSs X.K xc xk (evS κ d)) D σ H := by
  obtain ⟨β0, E0, H0, β, E, env, b, f, h⟩ := h
  refine fs_stept f h fun k b1 H1 p h => ?_
  have g := f.grow p.stab
  cases k with
  | true => rw [if_pos rfl] at h ⊢; exact ⟨β0, E0, H0, β, E, env, b1, f.afterX p, OutG.mono h fun fl b => QF.grow g⟩
  | false => rw [if_neg (by decide)] at h ⊢; exact ⟨β0, E0, H0, β, E, env, b1, f.afterX p, OutG.mono h fun fl b => QF.grow g⟩
theorem st_for {t : Tg} {s : IE} {bd : IS} {D : Ends} {σ : St} {H : Hp} (h : TSs X.K xc xk (evS κ (.for_ t s bd)) D σ H) : tFor (TIi X.K xc xk (den κ s).i) (TIg X.K t) (TSs X.K xc xk (evS κ bd)) D σ H := by
  obtain ⟨β0, E0, H0, β, E, env, b, f, h⟩ := h
  refine fs_stepi f h fun xs b1 J H1 p hx hw h => ?_
  have f1 := f.afterX p
  have g1 := f.grow p.stab
  obtain ⟨P, p0, pg, go, st, yl⟩ := hw.ex
  refine ⟨fun i m σ' H' => m = xs.length - i ∧ i ≤ xs.length ∧ ∃ β' E' env' b', FS X.K β0 E0 H0 β' E' env' b' σ' H' ∧ Grow H1 E H' E' ∧ OutG X.K xc xk β0 E0 H0 (QF X.K β0 E0 H0 E H D) (forGo (fun x env => M.bind (M.opt (setT t x env)) fun env1 => evS κ bd env1) (xs.drop i) env' b'), ⟨xs.length, by omega, by omega, β, E, env, b1, f1, Grow.refl, h⟩, fun i m σ' H' ⟨em, hi, β', E', env', b', f', g', ho⟩ => ?_⟩
  have pH := pg _ _ _ _ p0 g'
  by_cases hlt : i < xs.length
  · right
    have e0 : xs.drop i = xs[i] :: xs.drop (i + 1) := List.drop_eq_getElem_cons hlt
    rw [e0] at ho
    have ho := outG_bind (m := M.bind (M.opt (setT t xs[i] env')) fun env1 => evS κ bd env1) ho
    obtain ⟨env1, e1, ho⟩ := outG_opt ho
    refine ⟨go i H' E' hlt pH, fun σ2 H2 => i + 1 ≤ xs.length ∧ ∃ β2 E2 env2 b2, FS X.K β0 E0 H0 β2 E2 env2 b2 σ2 H2 ∧ Grow H1 E H2 E2 ∧ OutG X.K xc xk β0 E0 H0 (QF X.K β0 E0 H0 E H D) (forGo (fun x env => M.bind (M.opt (setT t x env)) fun env1 => evS κ bd env1) (xs.drop (i + 1)) env2 b2), fun σ2 H2 ⟨l2, r2⟩ => ⟨xs.length - (i + 1), by omega, rfl, l2, r2⟩, fun x H2 y => ?_⟩
    obtain ⟨al, d, hd, hv⟩ := yl i H' E' x H2 hlt pH y
    rw [List.getElem?_eq_getElem hlt] at hd
    cases hd
    have f2 : FS X.K β0 E0 H0 β' E' env' b' σ' H2 := f'.next al.stab (al.bx f'.sr.bx)
    have g2 : Grow H1 E H2 E' := g'.trans al.grow
    refine ⟨β', E', env', b', _, env1, f2.sr, hv f'.sr.bx.has, e1, fun σ3 s3 _ ok => ?_⟩
    refine ⟨β0, E0, H0, β', E', env1, b', f2.tg s3 ok, ho.mono fun fl b3 h3 => ?_⟩
    cases fl with
    | nx env3 => exact fun β3 E3 σ4 H4 f4 g4 => ⟨hlt, β3, E3, env3, b3, f4, g2.trans g4, h3⟩
    | rt r => exact h3
  · left
    have e : i = xs.length := by omega
    subst e
    rw [List.drop_length] at ho
    exact ⟨st H' E' pH, ho β' E' σ' H' f' (g1.trans g')⟩
theorem st_whl {c : IE} {bd : IS} {D : Ends} {σ : St} {H : Hp} (h : TSs X.K xc xk (evS κ (.whl c bd)) D σ H) : tWhile (TIt X.K xc xk (den κ c).t) (TSs X.K xc xk (evS κ bd)) D σ H := by
  obtain ⟨β0, E0, H0, β, E, env, b, f, h⟩ := h
  refine ⟨fun m σ' H' => ∃ β' E' env' b', FS X.K β0 E0 H0 β' E' env' b' σ' H' ∧ Grow H E H' E' ∧ OutG X.K xc xk β0 E0 H0 (QF X.K β0 E0 H0 E H D) (whlGo (den κ c).t (evS κ bd) m env' b'), ⟨1000000, β, E, env, b, f, Grow.refl, h⟩, fun m σ' H' ⟨β', E', env', b', f', g', ho⟩ => ?_⟩
  cases m with
  | zero => exact False.elim ho
  | succ m =>
    refine fs_stept f' ho fun k b1 H1 p h => ?_
    have f1 := f'.afterX p
    have g1 := g'.trans (f'.grow p.stab)
    cases k with
    | true =>
      rw [if_pos rfl] at h ⊢
      refine ⟨fun σ2 H2 => ∃ β2 E2 env2 b2, FS X.K β0 E0 H0 β2 E2 env2 b2 σ2 H2 ∧ Grow H E H2 E2 ∧ OutG X.K xc xk β0 E0 H0 (QF X.K β0 E0 H0 E H D) (whlGo (den κ c).t (evS κ bd) m env2 b2), fun σ2 H2 r => ⟨m, Nat.lt_succ_self m, r⟩, ?_⟩
      refine ⟨β0, E0, H0, β', E', env', b1, f1, (outG_bind h).mono fun fl b3 h3 => ?_⟩
      cases fl with
      | nx env3 => exact fun β3 E3 σ4 H4 f4 g4 => ⟨β3, E3, env3, b3, f4, g1.trans g4, h3⟩
      | rt r => exact h3
    | false =>
      rw [if_neg (by decide)] at h ⊢
      exact h β' E' σ' H1 f1 g1
theorem st_ret {e : IE} {D : Ends} {σ : St} {H : Hp} (h : TSs X.K xc xk (evS κ (.ret e)) D σ H) : tRet (TI X.K xc xk (den κ e).v) D σ H := by
  obtain ⟨β0, E0, H0, β, E, env, b, f, h⟩ := h
  refine fs_step f h fun r b1 v H1 p h => ?_
  cases r with
  | val d => exact h v H1 (f.post (.inl rfl) p)
  | fr d => exact h v H1 (f.post (.inr rfl) p)
  | own d => exact False.elim h
  | bx n => exact False.elim h
theorem st_retn {D : Ends} {σ : St} {H : Hp} (h : TSs X.K xc xk (evS κ .retn) D σ H) : tRetN D σ H := by
  obtain ⟨β0, E0, H0, β, E, env, b, f, h⟩ := h
  exact h .non H (f.post (d := .non) (.inl rfl) (post_val Stab.refl f.sr.bx .non))
theorem st_pas {D : Ends} {σ : St} {H : Hp} (h : TSs X.K xc xk (evS κ .pas) D σ H) : tNext D σ H := by
  obtain ⟨β0, E0, H0, β, E, env, b, f, h⟩ := h
  exact h β E σ H f Grow.refl
theorem st_nil {D : Ends} {σ : St} {H : Hp} (h : TSs X.K xc xk (evS κ .nil) D σ H) : tNext D σ H := by
  obtain ⟨β0, E0, H0, β, E, env, b, f, h⟩ := h
  exact h β E σ H f Grow.refl
theorem st_nev {D : Ends} {σ : St} {H : Hp} (h : TSs X.K xc xk (evS κ .nev) D σ H) : tNever D σ H := by
  obtain ⟨β0, E0, H0, β, E, env, b, f, h⟩ := h
  exact h
theorem st_ex {e : IE} {D : Ends} {σ : St} {H : Hp} (h : TSs X.K xc xk (evS κ (.ex e)) D σ H) : tDrop (TI X.K xc xk (den κ e).v) D σ H := by
  obtain ⟨β0, E0, H0, β, E, env, b, f, h⟩ := h
  exact fs_step f h fun r b1 v H1 p h => h β E σ H1 (f.keep p) (f.grow p.stab)
theorem st_frz {i : Nat} {D : Ends} {σ : St} {H : Hp} (h : TSs X.K xc xk (evS κ (.frz i)) D σ H) : D.nx σ H := by
  obtain ⟨β0, E0, H0, β, E, env, b, f, h⟩ := h
  have cs : (∃ d, env[i]? = some (Slot.own d)) ∨ evS κ (.frz i) env = M.pure (.nx env) := by
    show _ ∨ (match env[i]? with | some (.own d) => M.pure (Fl.nx (env.set i (.val d))) | _ => M.pure (.nx env)) = _
    cases e : env[i]? with
    | none => exact .inr rfl
    | some sl => cases sl <;> first | exact .inl ⟨_, rfl⟩ | exact .inr rfl
  rcases cs with ⟨d, e⟩ | e
  · have em : evS κ (.frz i) env = M.pure (.nx (env.set i (.val d))) := by
      show (match env[i]? with | some (.own d) => M.pure (Fl.nx (env.set i (.val d))) | _ => M.pure (.nx env)) = _
      rw [e]
    rw [em] at h
    obtain ⟨a, e1, ea, c, nb⟩ := f.ownE e
    obtain ⟨s2, g⟩ := f.sr.frz e e1
    have n0 := f.own i d a e e1
    refine h β _ σ H ⟨s2, f.has0, f.in0, f.ext, fun p hp => ⟨f.up p hp, fun z => ?_⟩, fun p hp => f.dn p hp.1, fun j d1 p e2 e3 => ?_, f.stab⟩ g
    · obtain ⟨o, eo⟩ := f.has0 p hp
      rw [z, n0] at eo; cases eo
    · by_cases hj : i = j
      · subst hj
        rw [List.getElem?_set, if_pos rfl] at e2
        split at e2 <;> cases e2
      · rw [List.getElem?_set_ne hj] at e2
        exact f.own j d1 p e2 e3
  · rw [e] at h
    exact h β E σ H f Grow.refl

/-! ### the checker -/
def Sk.one (f : Stmt → Bool) : Sk := ⟨f, fun _ => false, false⟩
def ckS (C : Cfg) (S : SC) : IS → Sk
  | .nil => ⟨fun _ => false, fun sts => sts.isEmpty, false⟩
  | .cons s r => ⟨fun _ => false, fun sts => if (ckS C S s).z then (ckS C S r).b sts else match sts with
    | st :: sts => (ckS C S s).s st && (ckS C S r).b sts
    | [] => false, false⟩
  | .asg t e => .one fun st => match st with
    | .Assign [.Name x py] v _ => (match t with | .nm i => asgNB C S e i x py v | _ => false)
    | .Assign [.Tuple ts k p] v _ => (ckT C.N t).v S (.Tuple ts k p) && (ck C e).v S v && !isTupE v
    | _ => false
  | .asgo i e => .one fun st => match st with
    | .Assign [.Name x py] v _ => asgNB C S e i x py v
    | _ => false
  | .asgb i e => .one fun st => match st with
    | .Assign [.Name x py] v _ => asgNB C S e i x py v
    | _ => false
  | .par _ is ies => .one fun st => match st with
    | .Assign [.Tuple ts _ _] (.Tuple es _ _) _ => parB C S is ies ts es
    | _ => false
  | .pop t i => .one fun st => match st with
    | .Assign [tg] (.Call (.Attribute (.Name x _) nm apos) [] [] cpos) _ => decide (nm = ("pop" : Str)) && varB C S i x && (apos.endLine == cpos.line) && (ckT C.N t).v S tg && (isNS tg || isTupE tg)
    | _ => false
  | .popApp i j k => .one fun st => match st with
    | .Expr (.Call (.Attribute (.Name x _) nm apos) [.Call (.Attribute (.Name y _) nm2 apos2) [z] [] cpos2] [] cpos) _ => decide (nm = ("append" : Str)) && varB C S i x && (apos.endLine == cpos.line) && decide (nm2 = ("pop" : Str)) && varB C S j y && (apos2.endLine == cpos2.line) && nstar z && (ck C k).v S z
    | _ => false
  | .app i e => .one fun st => match st with
    | .Expr (.Call (.Attribute (.Name x _) nm apos) [y] [] cpos) _ => decide (nm = ("append" : Str)) && varB C S i x && (apos.endLine == cpos.line) && nstar y && (ck C e).v S y
    | _ => false
  | .ext i e => .one fun st => match st with
    | .Expr (.Call (.Attribute (.Name x _) nm apos) [y] [] cpos) _ => decide (nm = ("extend" : Str)) && varB C S i x && (apos.endLine == cpos.line) && nstar y && (ck C e).v S y
    | _ => false
  | .sub i k e => .one fun st => match st with
    | .Assign [.Subscript (.Name x _) y _] v _ => varB C S i x && nslice y && (ck C k).v S y && (ck C e).v S v
    | _ => false
  | .ex e => .one fun st => match st with
    | .Expr v _ => notComp v && (ck C e).v S v
    | _ => false
  | .ite c a b => .one fun st => match st with
    | .If t p q _ => (ck C c).t S t && (ckS C S a).b p && (ckS C S b).b q
    | _ => false
  | .for_ t s b => .one fun st => match st with
    | .For tg it body [] _ => (ck C s).i S tg it && (ckT C.N t).v S tg && (ckS C S b).b body
    | _ => false
  | .whl c b => .one fun st => match st with
    | .While t body [] _ => (ck C c).t S t && (ckS C S b).b body
    | _ => false
  | .ret e => .one fun st => match st with
    | .Return (some v) _ => (ck C e).v S v
    | _ => false
  | .retn => .one fun st => match st with
    | .Return none _ => true
    | _ => false
  | .pas => .one fun st => match st with
    | .Pass _ => true
    | _ => false
  | .frz _ => ⟨fun _ => false, fun _ => false, true⟩
  | .raise _ => .one fun _ => false
  | .nev => .one fun _ => true
structure SndS (X : Cx) (xc : Nat → V → Prop) (xk : XK) (k : Sk) (m : List Slot → M Fl) : Prop where
  s : ∀ st, k.s st = true → PS X st (TSs X.K xc xk m)
  b : ∀ sts, k.b sts = true → PSs X sts (TSs X.K xc xk m)
  z : k.z = true → ∀ D σ H, TSs X.K xc xk m D σ H → D.nx σ H
theorem snd_one {f : Stmt → Bool} {m : List Slot → M Fl} (h : ∀ st, f st = true → PS X st (TSs X.K xc xk m)) : SndS X xc xk (.one f) m := ⟨h, fun _ q => absurd (show false = true from q) (by decide), fun q => absurd (show false = true from q) (by decide)⟩
theorem ps_appS (G : GdS C κ xc CX lv X xk S) {i : Nat} {ie : IE} {x : Str} {px apos cpos pos : Pos} {y : Expr} (h2 : varB C S i x = true) (h3 : (apos.endLine == cpos.line) = true) (h4 : nstar y = true) (h5 : (ck C ie).v S y = true) :
    PS X (.Expr (.Call (.Attribute (.Name x px) "append" apos) [y] [] cpos) pos) (tDrop (tBM X.K "list" rAppend (tVar i) (tCons (TI X.K xc xk (den κ ie).v) tNil))) :=
  ps_expr (pe_bm PySem.F.plainAttrs_list PySem.F.slot_list_append PySem.F.type_list_append mt_append (var_ok G.toGd h2) (pa_cons ((snd_all ie X xk S G.toGd).v y h5) pa_nil (starEach_ns h4)) (base_of rfl) (me_few h4) h3 (starEach_ns h4) rfl)
theorem ps_extS (G : GdS C κ xc CX lv X xk S) {i : Nat} {ie : IE} {x : Str} {px apos cpos pos : Pos} {y : Expr} (h2 : varB C S i x = true) (h3 : (apos.endLine == cpos.line) = true) (h4 : nstar y = true) (h5 : (ck C ie).v S y = true) :
    PS X (.Expr (.Call (.Attribute (.Name x px) "extend" apos) [y] [] cpos) pos) (tDrop (tBM X.K "list" rExtend (tVar i) (tCons (TI X.K xc xk (den κ ie).v) tNil))) :=
  ps_expr (pe_bm PySem.F.plainAttrs_list PySem.F.slot_list_extend PySem.F.type_list_extend mt_extend (var_ok G.toGd h2) (pa_cons ((snd_all ie X xk S G.toGd).v y h5) pa_nil (starEach_ns h4)) (base_of rfl) (me_few h4) h3 (starEach_ns h4) rfl)
theorem ps_popAppS (G : GdS C κ xc CX lv X xk S) {i j : Nat} {ie : IE} {x y : Str} {px apos cpos pos py apos2 cpos2 : Pos} {z : Expr} (h2 : varB C S i x = true) (h3 : (apos.endLine == cpos.line) = true) (h4 : varB C S j y = true) (h5 : (apos2.endLine == cpos2.line) = true) (h6 : nstar z = true) (h7 : (ck C ie).v S z = true) :
    PS X (.Expr (.Call (.Attribute (.Name x px) "append" apos) [.Call (.Attribute (.Name y py) "pop" apos2) [z] [] cpos2] [] cpos) pos) (tDrop (tBM X.K "list" rAppend (tVar i) (tCons (tBM X.K "list" rPopAt (tVar j) (tCons (TI X.K xc xk (den κ ie).v) tNil)) tNil))) :=
  ps_expr (pe_bm PySem.F.plainAttrs_list PySem.F.slot_list_append PySem.F.type_list_append mt_append (var_ok G.toGd h2) (pa_cons (pe_bm PySem.F.plainAttrs_list PySem.F.slot_list_pop PySem.F.type_list_pop mt_popAt (var_ok G.toGd h4) (pa_cons ((snd_all ie X xk S G.toGd).v z h7) pa_nil (starEach_ns h6)) (base_of rfl) (me_few h6) h5 (starEach_ns h6) rfl) pa_nil rfl) (base_of rfl) (me_few rfl) h3 rfl rfl)
theorem assignEach_one {t : Expr} {env : Env} (h : nstar t = true) : (assignEach [t] env).map (·.2) = [assign t env] := by rw [assignEach_ns h]; rfl
theorem assign_sub {o y : Expr} {sp : Pos} {env : Env} {v : Value} (h : nslice y = true) : assign (.Subscript o y sp) env v = (do
      let ov ← holding [v] (eval o env)
      let iv ← holding [v, ov] (eval y env)
      standAt sp
      holding [v, ov, iv] (setItem ov iv v)
      release [v, ov, iv] []) := by
  cases y <;> first | rfl | cases h
theorem pg_subS (G : GdS C κ xc CX lv X xk S) {i : Nat} {ie : IE} {x : Str} {px sp : Pos} {y : Expr} (h1 : varB C S i x = true) (h2 : nslice y = true) (h3 : (ck C ie).v S y = true) : PG X (.Subscript (.Name x px) y sp) (gSub (tVar i) (TI X.K xc xk (den κ ie).v) rSetL) :=
  pg_sub (var_ok G.toGd h1) ((snd_all ie X xk S G.toGd).v y h3) set_list fun v => assign_sub h2
theorem pss_seq {X : Cx} {st : Stmt} {sts : List Stmt} {t u : TS} (h1 : PS X st t) (h2 : PSs X sts u) : PSs X (st :: sts) (tSeq t u) := pss_cons h1 h2
theorem snd_nilS : SndS X xc xk (ckS C S .nil) (evS κ .nil) := by
  refine ⟨fun _ q => absurd (show false = true from q) (by decide), fun sts q => ?_, fun q => absurd (show false = true from q) (by decide)⟩
  cases sts with
  | nil => exact pss_nil.imp fun D σ H h => st_nil h
  | cons _ _ => cases q
def consB (a b : Sk) : List Stmt → Bool
  | [] => false
  | st :: sts => a.s st && b.b sts
theorem ckS_cons {s r : IS} {sts : List Stmt} : (ckS C S (.cons s r)).b sts = if (ckS C S s).z then (ckS C S r).b sts else consB (ckS C S s) (ckS C S r) sts := by
  cases sts <;> rfl
theorem snd_consS {s r : IS} (hs : SndS X xc xk (ckS C S s) (evS κ s)) (hr : SndS X xc xk (ckS C S r) (evS κ r)) : SndS X xc xk (ckS C S (.cons s r)) (evS κ (.cons s r)) := by
  refine ⟨fun _ q => absurd (show false = true from q) (by decide), fun sts q => ?_, fun q => absurd (show false = true from q) (by decide)⟩
  rw [ckS_cons] at q
  by_cases hz : (ckS C S s).z = true
  · rw [if_pos hz] at q
    exact (hr.b sts q).imp fun D σ H h => hs.z hz { D with nx := TSs X.K xc xk (evS κ r) D } σ H (st_seq h)
  · rw [if_neg hz] at q
    cases sts with
    | nil => cases q
    | cons st sts =>
      simp only [consB, Bool.and_eq_true] at q
      exact (pss_cons (hs.s st q.1) (hr.b sts q.2)).imp fun D σ H h => st_seq h
/-- every statement -/
theorem snd_stm (G : GdS C κ xc CX lv X xk S) : ∀ is : IS, SndS X xc xk (ckS C S is) (evS κ is)
  | .nil => snd_nilS
  | .cons s r => snd_consS (snd_stm G s) (snd_stm G r)
  | .asg t e => snd_one fun st h => by
      split at h
      · split at h
        · exact (asg_name G h).imp fun D σ H h => st_asgN h
        · cases h
      · simp only [Bool.and_eq_true, Bool.not_eq_true'] at h
        exact (ps_asg ((snd_all e X xk S G.toGd).v _ h.1.2) ((snd_tg t G.toGd).v _ h.1.1) (sole_no (.inr rfl)) (swap_none (.inr ⟨h.2, rfl⟩)) assignEach_tup).imp fun D σ H h => st_asg h
      · cases h
  | .asgo i e => snd_one fun st h => by
      split at h
      · exact (asg_name G h).imp fun D σ H h => st_asgo h
      · cases h
  | .asgb i e => snd_one fun st h => by
      split at h
      · exact (asg_name G h).imp fun D σ H h => st_asgb h
      · cases h
  | .par os is ies => snd_one fun st h => by
      split at h
      · exact ps_parS G h
      · cases h
  | .pop t i => snd_one fun st h => by
      split at h
      · simp only [Bool.and_eq_true, decide_eq_true_eq, Bool.or_eq_true] at h
        obtain ⟨⟨⟨⟨rfl, h2⟩, h3⟩, h4⟩, h5⟩ := h
        exact (ps_asg (pe_bm0 PySem.F.plainAttrs_list PySem.F.slot_list_pop PySem.F.type_list_pop mt_pop (var_ok G.toGd h2) (base_of rfl) h3) ((snd_tg t G.toGd).v _ h4) (sole_no (.inl rfl)) (swap_none (h5.elim .inl fun z => .inr ⟨rfl, z⟩)) (assignEach_one (ckT_ns t h4))).imp fun D σ H h => st_pop h
      · cases h
  | .popApp i j k => snd_one fun st h => by
      split at h
      · simp only [Bool.and_eq_true, decide_eq_true_eq] at h
        obtain ⟨⟨⟨⟨⟨⟨⟨rfl, h2⟩, h3⟩, rfl⟩, h4⟩, h5⟩, h6⟩, h7⟩ := h
        exact (ps_popAppS G h2 h3 h4 h5 h6 h7).imp fun D σ H h => st_popApp h
      · cases h
  | .app i e => snd_one fun st h => by
      split at h
      · simp only [Bool.and_eq_true, decide_eq_true_eq] at h
        obtain ⟨⟨⟨⟨rfl, h2⟩, h3⟩, h4⟩, h5⟩ := h
        exact (ps_appS G h2 h3 h4 h5).imp fun D σ H h => st_app h
      · cases h
  | .ext i e => snd_one fun st h => by
      split at h
      · simp only [Bool.and_eq_true, decide_eq_true_eq] at h
        obtain ⟨⟨⟨⟨rfl, h2⟩, h3⟩, h4⟩, h5⟩ := h
        exact (ps_extS G h2 h3 h4 h5).imp fun D σ H h => st_ext h
      · cases h
  | .sub i k e => snd_one fun st h => by
      split at h
      · simp only [Bool.and_eq_true] at h
        obtain ⟨⟨⟨h1, h2⟩, h3⟩, h4⟩ := h
        exact (ps_asg ((snd_all e X xk S G.toGd).v _ h4) (pg_subS G h1 h2 h3) (sole_no (.inr rfl)) (swap_none (.inl rfl)) (assignEach_one rfl)).imp fun D σ H h => st_sub h
      · cases h
  | .ex e => snd_one fun st h => by
      split at h
      · simp only [Bool.and_eq_true] at h
        exact (ps_expr ((snd_all e X xk S G.toGd).v _ h.2) (none_no h.1)).imp fun D σ H h => st_ex h
      · cases h
  | .ite c a b => snd_one fun st h => by
      split at h
      · simp only [Bool.and_eq_true] at h
        exact (ps_if ((snd_all c X xk S G.toGd).t _ h.1.1) ((snd_stm G a).b _ h.1.2) ((snd_stm G b).b _ h.2)).imp fun D σ H h => st_ite h
      · cases h
  | .for_ t s b => snd_one fun st h => by
      split at h
      · simp only [Bool.and_eq_true] at h
        have hi := (snd_all s X xk S G.toGd).i _ _ h.1.1
        exact (ps_for G.po G.calm hi.2 ((snd_tg t G.toGd).v _ h.1.2) ((snd_stm G b).b _ h.2) hi.1).imp fun D σ H h => st_for h
      · cases h
  | .whl c b => snd_one fun st h => by
      split at h
      · simp only [Bool.and_eq_true] at h
        exact (ps_while G.po ((snd_all c X xk S G.toGd).t _ h.1) ((snd_stm G b).b _ h.2)).imp fun D σ H h => st_whl h
      · cases h
  | .ret e => snd_one fun st h => by
      split at h
      · exact (ps_ret ((snd_all e X xk S G.toGd).v _ h)).imp fun D σ H h => st_ret h
      · cases h
  | .retn => snd_one fun st h => by
      split at h
      · exact ps_retN.imp fun D σ H h => st_retn h
      · cases h
  | .pas => snd_one fun st h => by
      split at h
      · exact ps_pass.imp fun D σ H h => st_pas h
      · cases h
  | .frz i => ⟨fun _ q => absurd (show false = true from q) (by decide), fun _ q => absurd (show false = true from q) (by decide), fun _ D σ H h => st_frz h⟩
  | .raise _ => snd_one fun st h => absurd (show false = true from h) (by decide)
  | .nev => snd_one fun st h => ps_never.imp fun D σ H h => st_nev h
end
end Sg

-- SgFn
/-! SgFn: functions: every def of a checked program keeps what the small language says of it. -/
namespace Sg
open PySem PySem.Spec PyProof.Rows L2
/-- a def with its text in the small language -/
structure PF where
  d : He.DefD
  ps : List Str
  N : List Str
  fn : Fn
def fnScopeB (N P : List Str) (sc : Scope) : Bool :=
  (match sc.kind with | .function => true | _ => false) && !sc.isCoroutine && !sc.isGenerator && decide N.Nodup && decide (N.take P.length = P) && (P.all fun x => match sc.names.lookup x with | some .local => true | some .cell => true | _ => false) && (sc.names.all fun y => match y.2 with | .free => false | _ => true)
theorem fnScope_ok {N P : List Str} {sc : Scope} (h : fnScopeB N P sc = true) : FnScope N P sc := by
  unfold fnScopeB at h
  simp only [Bool.and_eq_true, Bool.not_eq_true', decide_eq_true_eq, List.all_eq_true] at h
  obtain ⟨⟨⟨⟨⟨⟨h1, h2⟩, h3⟩, h4⟩, h5⟩, h6⟩, h7⟩ := h
  refine ⟨?_, h2, h3, h4, h5, fun x hx => ?_, fun y hy e => ?_⟩
  · split at h1
    · assumption
    · cases h1
  · have q := h6 x hx
    split at q
    · exact .inl (by assumption)
    · exact .inr (by assumption)
    · cases q
  · have q := h7 y hy
    rw [e] at q
    cases q
def pfB (fns gls : List Str) (p : PF) : Bool :=
  p.d.kwd.isEmpty && p.d.dfl.isEmpty && (match p.d.at_.2 with | none => true | some _ => false) && fnScopeB p.N p.ps p.d.scope && decide (p.ps.length = p.fn.np) && decide (p.N.length = p.fn.n) && (ckS ⟨p.N, fns, gls⟩ ⟨p.d.scope, none⟩ p.fn.body).b p.d.body
/-- how its arguments are bound -/
def Bd (p : PF) : Prop := ∀ (kV doc pm : Value) (an : Option Addr) (cdv ct : Value) (us : List Value), us.length = p.ps.length → bindArgs (PySem.W.fnOf p.d.name p.d.qual p.d.params p.d.body p.d.scope .none kV doc pm an cdv ct) ⟨us, []⟩ = pure (p.ps.zip us)
/-! ### the begin of a body -/
theorem args_slot {K : PySem.W.Frag} {β : List Addr} {E : Addr → Prop} {H : Hp} : ∀ {vs : List V} {as : List A}, ARs K β E H vs as → ∀ (i : Nat) (s : Slot), (as.map A.slot)[i]? = some s → ∃ v, vs[i]? = some v ∧ match s with
    | .val d => VR K H E v d
    | .bx n => ∃ a : Addr, β[n]? = some a ∧ v = V.ref a
    | _ => False
  | _, _, .nil, i, s, e => by simp at e
  | _, _, @ARs.cons _ _ _ _ v vs a as r rs, 0, s, e => by
    simp only [List.map_cons, List.getElem?_cons_zero, Option.some.injEq] at e
    subst e
    cases a with
    | val d => exact ⟨v, rfl, r⟩
    | bx n => exact ⟨v, rfl, r⟩
  | _, _, @ARs.cons _ _ _ _ v vs a as r rs, i + 1, s, e => by
    obtain ⟨w, h1, h2⟩ := args_slot rs i s (by simpa using e)
    exact ⟨w, by simpa using h1, h2⟩
theorem fs_start {K : PySem.W.Frag} {β : List Addr} {E : Addr → Prop} {H : Hp} {b : List D} {vs : List V} {as : List A} {N : List Str} {n np : Nat} (x : Bxs K β E b H) (r : ARs K β E H vs as) (hn : N.length = n) (hp : as.length = np) (hle : np ≤ n) : FS K β E H β E (as.map A.slot ++ List.replicate (n - np) .no) b (L2.start N vs) H := by
  have hl := r.length
  have own : ∀ (i : Nat) (d : D), (as.map A.slot ++ List.replicate (n - np) Slot.no)[i]? = some (Slot.own d) → False := fun i d e => by
    by_cases hi : i < as.length
    · rw [List.getElem?_append_left (by simpa using hi)] at e
      obtain ⟨v, _, h⟩ := args_slot r i _ e
      exact h
    · rw [List.getElem?_append_right (by simpa using hi)] at e
      have := List.mem_of_getElem? e
      rw [List.mem_replicate] at this
      cases this.2
  refine ⟨⟨x, ?_, fun i s e => ?_, fun i j d e a e1 => (own i d e1).elim⟩, x.has, x.inE, ⟨[], by simp, by simp⟩, fun _ h => h, fun _ h => .inl h, fun i d a e => (own i d e).elim, Stab.refl⟩
  · unfold L2.start
    simp only [List.length_append, List.length_map, List.length_replicate]
    omega
  · by_cases hi : i < as.length
    · rw [List.getElem?_append_left (by simpa using hi)] at e
      obtain ⟨v, h1, h2⟩ := args_slot r i s e
      have hs : (L2.start N vs)[i]? = some (some v) := by
        unfold L2.start
        rw [List.getElem?_append_left (by rw [List.length_map, hl]; exact hi), List.getElem?_map, h1]
        rfl
      cases s with
      | no => trivial
      | val d => exact ⟨v, hs, h2⟩
      | own d => exact h2.elim
      | bx m => obtain ⟨a, h3, rfl⟩ := h2; exact ⟨a, h3, hs⟩
    · rw [List.getElem?_append_right (by simpa using hi)] at e
      have := List.mem_of_getElem? e
      rw [List.mem_replicate] at this
      rw [this.2]
      trivial
/-- the facts of the head -/
structure Facts (P : Program) (w : World) (K : PySem.W.Frag) (mg : Str → Option Value) (base : Heap) (pfs : List PF) (fns gls : List Str) (g : Nat → List D × List D) : Prop where
  names : fns = pfs.map fun p => p.d.at_.1
  ck : ∀ p ∈ pfs, pfB fns gls p = true
  bd : ∀ p ∈ pfs, Bd p
  fd : ∀ p ∈ pfs, mg p.d.at_.1 = some (.ref (He.ga K p.d.at_.1)) ∧ ∃ fd, FunD K p.d.name p.d.qual p.d.params p.d.body p.d.scope (p.d.dvs K) (p.d.kws K) (He.fAd K p.d.at_) fd
  bn : ∀ x ∈ biNames, mg x = none
  gl : ∀ (i : Nat) (x : Str), gls[i]? = some x → ∃ a es n, mg x = some (.ref a) ∧ KDict K w a es n ∧ (∀ s d, lookD (g i).1 (g i).2 (.str s) = some d → ∃ u v, PySem.W.nsIn K a (strOf s) = some (some u) ∧ RelV v u ∧ ∀ H E, VR K H E v d) ∧
    (∀ s, lookD (g i).1 (g i).2 (.str s) = none → PySem.W.nsIn K a (strOf s) = some none) ∧ ∀ y, (∀ s, y ≠ .str s) → lookD (g i).1 (g i).2 y = none
section
variable {P : Program} {w : World} {K : PySem.W.Frag} {mg : Str → Option Value} {base : Heap} {pfs : List PF} {fns gls : List Str} {g : Nat → List D × List D} {xc : Nat → V → Prop}
theorem pf_parts {p : PF} (h : pfB fns gls p = true) : p.d.kwd = [] ∧ p.d.dfl = [] ∧ p.d.at_.2 = none ∧ FnScope p.N p.ps p.d.scope ∧ p.ps.length = p.fn.np ∧ p.N.length = p.fn.n ∧ (ckS ⟨p.N, fns, gls⟩ ⟨p.d.scope, none⟩ p.fn.body).b p.d.body = true := by
  unfold pfB at h
  simp only [Bool.and_eq_true, decide_eq_true_eq, List.isEmpty_iff] at h
  obtain ⟨⟨⟨⟨⟨⟨h1, h2⟩, h3⟩, h4⟩, h5⟩, h6⟩, h7⟩ := h
  refine ⟨h1, h2, ?_, fnScope_ok h4, h5, h6, h7⟩
  split at h3
  · assumption
  · cases h3
theorem kap_g : ∀ (k : Nat) (pr : List Fn), (kap pr g k).g = g
  | 0, _ => rfl
  | _ + 1, _ => rfl
theorem fn_all (F : Facts P w K mg base pfs fns gls g) : ∀ (k i : Nat) (p : PF) (fd : FuncData), pfs[i]? = some p → FunD K p.d.name p.d.qual p.d.params p.d.body p.d.scope (p.d.dvs K) (p.d.kws K) (He.fAd K p.d.at_) fd →
    FnOk P w K mg base CX0 k (He.fAd K p.d.at_) fd p.ps (spF K xc p.ps.length ((kap (pfs.map PF.fn) g k).f i))
  | 0, i, p, fd, hp, FD => ⟨fun vs H Q E h => h.1, fun A outer s H args us vs Q E hr he hb hv ⟨_, β, E1, b, as, _, _, h⟩ => False.elim h⟩
  | k + 1, i, p, fd, hp, FD => by
    have hm : p ∈ pfs := List.mem_of_getElem? hp
    obtain ⟨e1, e2, e3, S, hnp, hN, hck⟩ := pf_parts (F.ck p hm)
    refine FD.ok S (fun vs H Q E h => h.1) fun cdv A outer s H vs Q E hr h => ?_
    refine ⟨TSs K xc E (evS (kap (pfs.map PF.fn) g k) p.fn.body), PSs.nox ?_, ?_⟩
    · have G : GdS ⟨p.N, fns, gls⟩ (kap (pfs.map PF.fn) g k) xc CX0 k (cxOf CX0 P w K mg base p.N p.d.qual p.d.scope (He.fAd K p.d.at_) cdv A outer s H E).nox E ⟨p.d.scope, none⟩ := by
        refine ⟨⟨rfl, S.nd, rfl, rfl, fun x hx => ?_, ?_, fun _ _ _ _ _ _ _ q => q.elim, fun _ _ _ _ _ q => q, F.bn, fun f x e => ?_, fun j x e => ?_⟩, PassesOwn.never, S.kind⟩
        · unfold tgB at hx
          simp only at hx
          split at hx
          · rename_i q; exact ⟨.inl q, .inl rfl⟩
          · rename_i q; exact ⟨.inr q, .inl rfl⟩
          · cases hx
        · have := hr.un
          show (A.deeper _).units + 65 < cLine
          omega
        · have e : fns[f]? = some x := e
          rw [F.names, List.getElem?_map] at e
          cases q : pfs[f]? with
          | none => rw [q] at e; cases e
          | some pf =>
            rw [q] at e
            cases e
            have hmf : pf ∈ pfs := List.mem_of_getElem? q
            obtain ⟨c1, c2, c3, c4, c5, c6, c7⟩ := pf_parts (F.ck pf hmf)
            obtain ⟨m1, fd1, FD1⟩ := F.fd pf hmf
            have ea : He.fAd K pf.d.at_ = He.ga K pf.d.at_.1 := by unfold He.fAd; rw [c3]
            have FD2 : FunD K pf.d.name pf.d.qual pf.d.params pf.d.body pf.d.scope [] (pf.d.kws K) (He.fAd K pf.d.at_) fd1 := by
              have : pf.d.dvs K = [] := by unfold He.DefD.dvs; rw [c2]; rfl
              rw [← this]; exact FD1
            have ok := fn_all F k f pf fd1 q FD1
            refine ⟨⟨He.fAd K pf.d.at_, fd1, pf.ps, by rw [ea]; exact m1, FD1.kp, FD2.bindsN (F.bd pf hmf), ok, hr, fun as b hb => ?_⟩⟩
            cases k with
            | zero => exact absurd rfl hb
            | succ k =>
              have e4 : (pfs.map PF.fn)[f]? = some pf.fn := by rw [List.getElem?_map, q]; rfl
              have hb : (match (pfs.map PF.fn)[f]? with | some fn => runF (kap (pfs.map PF.fn) g k) fn as | none => M.bad) b ≠ .bad := hb
              rw [e4] at hb
              by_cases hl : as.length = pf.fn.np
              · rw [hl, c5]
              · exact absurd (show runF (kap (pfs.map PF.fn) g k) pf.fn as b = .bad by unfold runF; rw [if_neg hl]) hb
        · obtain ⟨a, es, n, g1, g2, g3, g4, g5⟩ := F.gl j x e
          refine ⟨⟨a, es, n, g1, g2, ?_, ?_, ?_⟩⟩ <;> rw [kap_g] <;> assumption
      exact (snd_stm G p.fn.body).b _ hck
    · obtain ⟨hl, β, E1, b, as, x, r, h⟩ := h
      have e4 : (pfs.map PF.fn)[i]? = some p.fn := by rw [List.getElem?_map, hp]; rfl
      have h : Out K xc E β E1 H (fun r b' => ∀ v H', Post K β E1 [] [] H r b' v H' → Q v H') ((match (pfs.map PF.fn)[i]? with | some fn => runF (kap (pfs.map PF.fn) g k) fn as | none => M.bad) b) := h
      rw [e4] at h
      have hal : as.length = p.fn.np := by rw [← r.length, hl, hnp]
      have h : Out K xc E β E1 H (fun r b' => ∀ v H', Post K β E1 [] [] H r b' v H' → Q v H') (runF (kap (pfs.map PF.fn) g k) p.fn as b) := h
      unfold runF at h
      rw [if_pos hal] at h
      have hle : p.fn.np ≤ p.fn.n := by
        have := congrArg List.length S.pre
        rw [List.length_take] at this
        omega
      refine ⟨β, E1, H, β, E1, _, b, fs_start x r hN hal hle, ?_⟩
      have hb : b.length = β.length := x.len.symm
      cases q : evS (kap (pfs.map PF.fn) g k) p.fn.body (as.map Sg.A.slot ++ List.replicate (p.fn.n - p.fn.np) .no) b with
      | bad => rw [q] at h; exact h
      | exn c b' =>
        rw [q] at h
        rw [hb] at h
        exact h
      | ok fl b' =>
        rw [q] at h
        cases fl with
        | nx env' =>
          rw [hb] at h
          intro β' E' σ' H' f' _
          exact h .non H' (f'.post (d := .non) (.inl rfl) (post_val Stab.refl f'.sr.bx .non))
        | rt r =>
          rw [hb] at h
          exact h
end
end Sg

-- SgHead
/-! SgHead: the head: the facts of a law's top; a law's statement from its plain equation. -/
namespace Sg
open PySem PySem.Spec PyProof.Rows L2
/-! ### the Hook: defs, globals, tables with their values -/
abbrev TabV : Type := Str × List (Str × He.Dv)
abbrev AlS : Type := He.AlT × List Bool
def tabsT (ts : List TabV) : List He.Tab := ts.map fun t => (fun K => He.ga K t.1, t.2.map (·.1))
def obsS (fa : List He.Fa) (fn : List He.DefD) (ts : List TabV) (K : PySem.W.Frag) : AlS := (He.obsT fa fn (tabsT ts) K, ts.map fun t => He.valsB K (He.ga K t.1) t.2)
def valS (fn : List He.DefD) (ts : List TabV) (w : World) : AlS := (He.valT fn (tabsT ts) w, ts.map fun _ => true)
def obsSG (n : Nat) (fa : List He.Fa) (fn : List He.DefD) (ts : List TabV) (g : Addr → Option Obj) : AlS := obsS fa fn ts (He.frG g (He.asD g n))
def SaysS (fa : List He.Fa) (fn : List He.DefD) (ts : List TabV) (w : World) (K : PySem.W.Frag) : Prop := obsS fa fn ts K = valS fn ts w
def hookS (n : Nat) (fa : List He.Fa) (fn : List He.DefD) (ts : List TabV) : PySem.W.Hook where
  α := AlS
  obs := fun s => obsSG n fa fn ts s.heap.get?
  val := fun w => valS fn ts w
  says := fun w h => ∃ K : PySem.W.Frag, K.In h ∧ SaysS fa fn ts w K
  of := fun _ _ e => ⟨_, He.frG_in, e⟩
  keeps := fun _ _ _ ⟨K, hK, c⟩ k => ⟨K, PySem.W.Frag.In.keeps hK k, c⟩
theorem obsSG_eq {n : Nat} {fa : List He.Fa} {fn : List He.DefD} {ts : List TabV} {g : Addr → Option Obj} {s : Shared} (h : ∀ a, g a = s.heap.get? a) : obsSG n fa fn ts g = (hookS n fa fn ts).obs s := by
  have e : g = s.heap.get? := funext h
  rw [e] <;> rfl
section
variable {fa : List He.Fa} {fn : List He.DefD} {ts : List TabV} {w : World} {K : PySem.W.Frag}
theorem SaysS.fact (c : SaysS fa fn ts w K) {f : He.Fa} (h : f ∈ fa) : f.ok K = true := by
  have c1 : He.SaysD fa fn K := congrArg (fun z : AlS => z.1.1) c
  have c2 := (He.ba (show ((fa.all fun f => f.ok K) && fn.all fun d => d.ok K) = true from congrArg (fun z : He.AlD => z.1) c1)).1
  exact List.all_eq_true.mp c2 f h
theorem SaysS.def_ (c : SaysS fa fn ts w K) {d : He.DefD} (h : d ∈ fn) : ∃ fd, FunD K d.name d.qual d.params d.body d.scope (d.dvs K) (d.kws K) (He.fAd K d.at_) fd := by
  have c1 : He.SaysD fa fn K := congrArg (fun z : AlS => z.1.1) c
  obtain ⟨i, e⟩ := List.mem_iff_getElem?.mp h
  exact c1.def_ i e
theorem SaysS.tab (c : SaysS fa fn ts w K) {t : TabV} (h : t ∈ ts) : He.dicW K (He.ga K t.1) = some (He.keysIn w.params (t.2.map (·.1))) ∧ He.valsB K (He.ga K t.1) t.2 = true := by
  constructor
  · have e : (tabsT ts).map (fun t => He.dicW K (t.1 K)) = (tabsT ts).map fun t => some (He.keysIn w.params t.2) := congrArg (fun z : AlS => z.1.2) c
    unfold tabsT at e
    rw [List.map_map, List.map_map] at e
    obtain ⟨i, ei⟩ := List.mem_iff_getElem?.mp h
    have e2 := congrArg (fun l => l[i]?) e
    simp only [List.getElem?_map, ei, Option.map_some, Option.some.injEq, Function.comp] at e2
    exact e2
  · have e : (ts.map fun t => He.valsB K (He.ga K t.1) t.2) = ts.map fun _ => true := congrArg (fun z : AlS => z.2) c
    obtain ⟨i, ei⟩ := List.mem_iff_getElem?.mp h
    have e2 := congrArg (fun l => l[i]?) e
    simp only [List.getElem?_map, ei, Option.map_some, Option.some.injEq] at e2
    exact e2
end

/-! ### tables -/
def dvOf : D → He.Dv
  | .bl b => .bl b
  | .int i => .int i
  | .str s => .str (strOf s)
  | _ => .non
def scalar : D → Bool
  | .non => true
  | .bl _ => true
  | .int _ => true
  | .str _ => true
  | _ => false
def kOf : D → Str
  | .str s => strOf s
  | _ => ⟨#[]⟩
def kvOf : List D → List D → List (Str × He.Dv)
  | k :: ks, v :: vs => (kOf k, dvOf v) :: kvOf ks vs
  | _, _ => []
def tabB (ks vs : List D) : Bool := ndS ks && decide (ks.length = vs.length) && vs.all scalar
theorem dv_vr {K : PySem.W.Frag} {H : Hp} {E : Addr → Prop} {d : D} (h : scalar d = true) : VR K H E ((dvOf d).v K) d := by
  cases d <;> first | exact .non | exact .bl _ | exact .int _ | exact .str _ | cases h
theorem look_mem : ∀ {ks vs : List D} {s : List Char} {d : D}, ndS ks = true → lookD ks vs (.str s) = some d → (strOf s, dvOf d) ∈ kvOf ks vs ∧ d ∈ vs
  | [], vs, s, d, hn, e => by cases vs <;> cases e
  | .str k :: ks, [], s, d, hn, e => by cases e
  | .str k :: ks, v :: vs, s, d, hn, e => by
    simp only [ndS, Bool.and_eq_true] at hn
    simp only [lookD] at e
    by_cases h : k = s
    · subst h
      rw [if_pos (by simp [eqD])] at e
      cases e
      exact ⟨by simp [kvOf, kOf], by simp⟩
    · rw [if_neg (by simp only [eqD, beq_iff_eq]; exact h)] at e
      obtain ⟨h1, h2⟩ := look_mem hn.2 e
      exact ⟨List.mem_cons_of_mem _ h1, List.mem_cons_of_mem _ h2⟩
  | .non :: _, _, _, _, hn, _ => by cases hn
  | .bl _ :: _, _, _, _, hn, _ => by cases hn
  | .int _ :: _, _, _, _, hn, _ => by cases hn
  | .tup _ :: _, _, _, _, hn, _ => by cases hn
  | .lst _ :: _, _, _, _, hn, _ => by cases hn
  | .scr _ :: _, _, _, _, hn, _ => by cases hn
  | .dic _ _ :: _, _, _, _, hn, _ => by cases hn
  | .exc _ :: _, _, _, _, hn, _ => by cases hn
theorem look_none : ∀ {ks vs : List D} {s : List Char}, ks.length = vs.length → lookD ks vs (.str s) = none → ndS ks = true → strOf s ∉ (kvOf ks vs).map (·.1)
  | [], vs, s, hl, e, hn => by simp [kvOf]
  | .str k :: ks, [], s, hl, e, hn => by cases hl
  | .str k :: ks, v :: vs, s, hl, e, hn => by
    simp only [ndS, Bool.and_eq_true] at hn
    simp only [lookD] at e
    by_cases h : k = s
    · subst h
      rw [if_pos (by simp [eqD])] at e
      cases e
    · rw [if_neg (by simp only [eqD, beq_iff_eq]; exact h)] at e
      have := look_none (by simpa using hl) e hn.2
      simp only [kvOf, List.map_cons, List.mem_cons, not_or]
      exact ⟨fun z => h (strOf_inj z).symm, this⟩
  | .non :: _, _, _, _, _, hn => by cases hn
  | .bl _ :: _, _, _, _, _, hn => by cases hn
  | .int _ :: _, _, _, _, _, hn => by cases hn
  | .tup _ :: _, _, _, _, _, hn => by cases hn
  | .lst _ :: _, _, _, _, _, hn => by cases hn
  | .scr _ :: _, _, _, _, _, hn => by cases hn
  | .dic _ _ :: _, _, _, _, _, hn => by cases hn
  | .exc _ :: _, _, _, _, _, hn => by cases hn
theorem look_str : ∀ {ks vs : List D} {y d : D}, ndS ks = true → lookD ks vs y = some d → ∃ s, y = .str s
  | [], vs, y, d, hn, e => by cases vs <;> cases e
  | .str k :: ks, [], y, d, hn, e => by cases e
  | .str k :: ks, v :: vs, y, d, hn, e => by
    simp only [ndS, Bool.and_eq_true] at hn
    simp only [lookD] at e
    split at e
    · rename_i hy
      cases y <;> simp [eqD] at hy
      exact ⟨_, rfl⟩
    · exact look_str hn.2 e
  | .non :: _, _, _, _, hn, _ => by cases hn
  | .bl _ :: _, _, _, _, hn, _ => by cases hn
  | .int _ :: _, _, _, _, hn, _ => by cases hn
  | .tup _ :: _, _, _, _, hn, _ => by cases hn
  | .lst _ :: _, _, _, _, hn, _ => by cases hn
  | .scr _ :: _, _, _, _, hn, _ => by cases hn
  | .dic _ _ :: _, _, _, _, hn, _ => by cases hn
  | .exc _ :: _, _, _, _, hn, _ => by cases hn
theorem find_none {P : Params} {s : Str} : ∀ {es : List DictEntry} {ks : List Str}, es.map He.keyOf = He.keysIn P ks → s ∉ ks → es.find? (·.key.isStr s) = none ∧ es.any (·.refKey) = false
  | [], _, _, _ => ⟨rfl, rfl⟩
  | e :: r, [], h, _ => by cases h
  | e :: r, k :: ks, h, hs => by
    have h1 : He.keyOf e :: r.map He.keyOf = some (k, PyData.keyHash P k) :: He.keysIn P ks := h
    injection h1 with h2 h3
    simp only [List.mem_cons, not_or] at hs
    obtain ⟨f1, f2⟩ := find_none h3 hs.2
    unfold He.keyOf at h2
    split at h2
    · rename_i x t q
      obtain ⟨h5, h6⟩ := Prod.mk.inj (Option.some.inj h2)
      subst h5
      constructor
      · rw [List.find?_cons, q]
        have : (Value.str x t).isStr s = false := by
          show (x == s) = false
          exact beq_eq_false_iff_ne.mpr fun z => hs.1 z.symm
        rw [this]
        exact f1
      · rw [List.any_cons, f2, Bool.or_false]
        unfold DictEntry.refKey
        rw [q]
    · cases h2
theorem ns_none {K : PySem.W.Frag} {P : Params} {a : Addr} {ks : List Str} {s : Str} (h : He.dicW K a = some (He.keysIn P ks)) (hs : s ∉ ks) : PySem.W.nsIn K a s = some none := by
  unfold He.dicW at h
  split at h
  · rename_i q
    split at h
    · obtain ⟨f1, f2⟩ := find_none (Option.some.inj h) hs
      unfold PySem.W.nsIn
      rw [q]
      simp only [f1, f2]
      rfl
    · cases h
  · cases h
/-- a table's facts -/
theorem tab_gl {w : World} {K : PySem.W.Frag} {x : Str} {ks vs : List D} (ht : tabB ks vs = true) (h1 : He.dicW K (He.ga K x) = some (He.keysIn w.params ((kvOf ks vs).map (·.1)))) (h2 : He.valsB K (He.ga K x) (kvOf ks vs) = true) :
    ∃ es n, KDict K w (He.ga K x) es n ∧ (∀ s d, lookD ks vs (.str s) = some d → ∃ u v, PySem.W.nsIn K (He.ga K x) (strOf s) = some (some u) ∧ RelV v u ∧ ∀ H E, VR K H E v d) ∧
    (∀ s, lookD ks vs (.str s) = none → PySem.W.nsIn K (He.ga K x) (strOf s) = some none) ∧ ∀ y, (∀ s, y ≠ .str s) → lookD ks vs y = none := by
  unfold tabB at ht
  simp only [Bool.and_eq_true, decide_eq_true_eq, List.all_eq_true] at ht
  obtain ⟨⟨t1, t2⟩, t3⟩ := ht
  obtain ⟨es, n, kd⟩ := He.dicW_ok h1
  refine ⟨es, n, kd, fun s d e => ?_, fun s e => ns_none h1 (look_none t2 e t1), fun y hy => ?_⟩
  · obtain ⟨m1, m2⟩ := look_mem t1 e
    obtain ⟨u, u1, u2⟩ := He.valsB_ok h2 m1
    exact ⟨u, _, u1, u2, fun H E => dv_vr (t3 d m2)⟩
  · cases q : lookD ks vs y with
    | none => rfl
    | some d =>
      obtain ⟨s, rfl⟩ := look_str t1 q
      exact absurd rfl (hy s)

/-! ### a law -/
abbrev Tb : Type := Str × List D × List D
def gOf (tabs : List Tb) : Nat → List D × List D := fun i => (tabs.getD i (⟨#[]⟩, [], [])).2
def tsOf (tabs : List Tb) : List TabV := tabs.map fun t => (t.1, kvOf t.2.1 t.2.2)
def faOf (names : List Str) : List He.Fa := names.map He.Fa.glo ++ biNames.map He.Fa.free
abbrev xc0 : Nat → V → Prop := fun _ _ => False
theorem SqL.grow {K : PySem.W.Frag} {H H' : Hp} {a : Addr} {xs : List V} (h : SqL K H a xs) (k : ∀ b o, H b = some o → H' b = some o) : SqL K H' a xs := by
  rcases h with (h | ⟨o, h⟩) | h
  · exact .inl (.inl (k _ _ h))
  · exact .inl (.inr ⟨o, k _ _ h⟩)
  · exact .inr h
theorem law_sp {K : PySem.W.Frag} {H : Hp} {a : Addr} {ns : List Int} {m : List A → M R} {b' : List D} (hS : SqL K H a (ns.map V.int)) (h : m [.val (.scr ns)] [] = .ok (.val (.bl true)) b') : spF K xc0 1 m [.ref a] H (fun v _ => v = .bl true) fun _ _ _ => False := by
  refine ⟨rfl, [], fun _ => False, [], [.val (.scr ns)], ⟨(fun _ h => nomatch h), (fun _ h => h.elim), rfl, List.nodup_nil, (fun n a d h => nomatch h)⟩, .cons (.scr fun H' k => SqL.grow hS fun b o e => k b o (fun z => z) e) .nil, ?_⟩
  rw [h]
  exact fun v H' p => VR.blE p.rv
theorem facts_of {P : Program} {w : World} {K : PySem.W.Frag} {h base : Heap} {mg : Str → Option Value} {pfs : List PF} {fns : List Str} {tabs : List Tb} (X : K.In h) (G : h.Ns mainGlobals mg) (c : SaysS (faOf (fns ++ tabs.map (·.1))) (pfs.map PF.d) (tsOf tabs) w K)
    (hn : fns = pfs.map fun p => p.d.at_.1) (hck : ∀ p ∈ pfs, pfB fns (tabs.map (·.1)) p = true) (hbd : ∀ p ∈ pfs, Bd p) (ht : tabs.all (fun t => tabB t.2.1 t.2.2) = true) : Facts P w K mg base pfs fns (tabs.map (·.1)) (gOf tabs) where
  names := hn
  ck := hck
  bd := hbd
  fd := fun p hp => by
    refine ⟨He.glo_ok X G (c.fact ?_), c.def_ (List.mem_map_of_mem hp)⟩
    unfold faOf
    refine List.mem_append_left _ (List.mem_map_of_mem (List.mem_append_left _ ?_))
    rw [hn]
    exact List.mem_map.mpr ⟨p, hp, rfl⟩
  bn := fun x hx => He.free_ok X G (c.fact (List.mem_append_right _ (List.mem_map_of_mem hx)))
  gl := fun i x e => by
    rw [List.getElem?_map] at e
    cases q : tabs[i]? with
    | none => rw [q] at e; cases e
    | some t =>
      rw [q] at e
      cases e
      have hm : t ∈ tabs := List.mem_of_getElem? q
      have eg : gOf tabs i = t.2 := by
        unfold gOf
        rw [List.getD_eq_getElem?_getD, q]
        rfl
      rw [eg]
      obtain ⟨h1, h2⟩ := c.tab (t := (t.1, kvOf t.2.1 t.2.2)) (List.mem_map_of_mem (f := fun t : Tb => (t.1, kvOf t.2.1 t.2.2)) hm)
      obtain ⟨es, n, k1, k2, k3, k4⟩ := tab_gl (List.all_eq_true.mp ht t hm) h1 h2
      refine ⟨_, es, n, He.glo_ok X G (c.fact ?_), k1, k2, k3, k4⟩
      unfold faOf
      exact List.mem_append_left _ (List.mem_map_of_mem (List.mem_append_right _ (List.mem_map_of_mem hm)))
/-- what walk_ofE asks -/
theorem law_walk {P : Program} {k : Nat} {pfs : List PF} {fns : List Str} {tabs : List Tb} {p : PF} {i : Nat} {x : Str} (hn : fns = pfs.map fun p => p.d.at_.1) (hck : ∀ p ∈ pfs, pfB fns (tabs.map (·.1)) p = true) (hbd : ∀ p ∈ pfs, Bd p) (ht : tabs.all (fun t => tabB t.2.1 t.2.2) = true)
    (hp : pfs[i]? = some p) (hps : p.ps = [x]) (hname : p.d.at_ = (("law" : Str), (none : Option Str))) (hrun : ∀ ns : List Int, ns.length ≤ 63 → ∃ b', (kap (pfs.map PF.fn) (gOf tabs) k).f i [.val (.scr ns)] [] = .ok (.val (.bl true)) b')
    (w : World) (mg : Str → Option Value) (fa : Addr) (h : Heap) (Y : (hookS 0 (faOf (fns ++ tabs.map (·.1))) (pfs.map PF.d) (tsOf tabs)).says w h) (G : h.Ns mainGlobals mg) (hfa : mg ("law" : Str) = some (.ref fa)) :
      ∃ (K : PySem.W.Frag) (fd : FuncData) (sp : Sp), K.In h ∧ (∀ (s : Shared) (u : Value), BindsTo s fd ⟨[u], []⟩ [(x, u)]) ∧
        (∀ (H : Hp) (a : Addr) (ns : List Int), ns.length ≤ 63 → Only H → SqL K H a (ns.map V.int) → sp [.ref a] H (fun v _ => v = .bl true) fun _ _ _ => False) ∧
        ∀ base : Heap, K.In base → base.Ns mainGlobals mg → FnOk P w K mg base CX0 k fa fd [x] sp := by
  obtain ⟨K, X, c⟩ := Y
  have hm : p ∈ pfs := List.mem_of_getElem? hp
  obtain ⟨fd, FD⟩ := c.def_ (List.mem_map_of_mem (f := PF.d) hm)
  obtain ⟨c1, c2, c3, c4, c5, c6, c7⟩ := pf_parts (hck p hm)
  have hg : mg ("law" : Str) = some (.ref (He.fAd K p.d.at_)) := by
    have F := facts_of (P := P) (base := h) X G c hn hck hbd ht
    have := (F.fd p hm).1
    rw [hname] at this
    rw [this, hname]
    rfl
  rw [hfa] at hg
  cases hg
  have FD2 : FunD K p.d.name p.d.qual p.d.params p.d.body p.d.scope [] (p.d.kws K) (He.fAd K p.d.at_) fd := by
    have : p.d.dvs K = [] := by unfold He.DefD.dvs; rw [c2]; rfl
    rw [← this]; exact FD
  refine ⟨K, fd, spF K xc0 1 ((kap (pfs.map PF.fn) (gOf tabs) k).f i), X, fun s u => ?_, fun H a ns hl _ hS => ?_, fun base hb hbn => ?_⟩
  · have b := FunD.bindsA (ps := p.ps) FD2 (hbd p hm)
    have := b s [u] (by rw [hps]; rfl)
    rw [hps] at this
    exact this
  · obtain ⟨b', e⟩ := hrun ns hl
    exact law_sp hS e
  · have F := facts_of (P := P) (base := base) X G c hn hck hbd ht
    have := fn_all (xc := xc0) F k i p fd hp FD
    rw [hps] at this
    exact this
end Sg

-- SgRun
/-! SgRun: reasoning about the small language's run: what is true of every good end. -/
namespace Sg
/-- the run ends well, and so -/
def Wp {α : Type} (m : M α) (Q : α → List D → Prop) (b : List D) : Prop := match m b with
  | .ok a b' => Q a b'
  | _ => False
def Op {α : Type} (o : Option α) (K : α → Prop) : Prop := match o with
  | some a => K a
  | none => False
section
variable {α α' : Type} {m : M α} {f : α → M α'} {Q : α → List D → Prop} {b : List D}
theorem wpR_bind {Q : α' → List D → Prop} : Wp (M.bind m f) Q b = Wp m (fun a b1 => Wp (f a) Q b1) b := by
  unfold Wp M.bind
  cases m b <;> rfl
theorem Wp.mono {Q' : α → List D → Prop} (h : Wp m Q b) (k : ∀ a b, Q a b → Q' a b) : Wp m Q' b := by
  unfold Wp at h ⊢
  cases q : m b with
  | ok a b' => rw [q] at h; exact k _ _ h
  | exn c b' => rw [q] at h; exact h
  | bad => rw [q] at h; exact h
theorem wpR_eq {a : α} {b' : List D} (h : m b = .ok a b') : Wp m Q b = Q a b' := by
  unfold Wp; rw [h]
theorem wp_ex (h : Wp m Q b) : ∃ a b', m b = .ok a b' ∧ Q a b' := by
  unfold Wp at h
  cases q : m b with
  | ok a b' => rw [q] at h; exact ⟨a, b', rfl, h⟩
  | exn c b' => rw [q] at h; exact h.elim
  | bad => rw [q] at h; exact h.elim
theorem wp_opt {o : Option α} : Wp (M.opt o) Q b = Op o fun a => Q a b := by cases o <;> rfl
theorem wp_if {c : Prop} [Decidable c] {m' : M α} : Wp (if c then m else m') Q b = if c then Wp m Q b else Wp m' Q b := by
  by_cases h : c
  · rw [if_pos h, if_pos h]
  · rw [if_neg h, if_neg h]
end
/-- a name stored -/
def setN (env : List Slot) (i : Nat) (s : Slot) (K : List Slot → Prop) : Prop := K (env.set i s)
def Md (s : Slot) (env : List Slot) (i : Nat) (f : D → Option (D × D)) (Q : D × List Slot → List D → Prop) (b : List D) : Prop := match s with
  | .own d => Op (f d) fun p => setN env i (.own p.2) fun e => Q (p.1, e) b
  | .bx n => Op b[n]? fun d => Op (f d) fun p => Q (p.1, env) (b.set n p.2)
  | _ => False
theorem wp_modify {env : List Slot} {i : Nat} {f : D → Option (D × D)} {Q : D × List Slot → List D → Prop} {b : List D} : Wp (modify env i f) Q b = Op env[i]? fun s => Md s env i f Q b := by
  unfold Wp modify
  cases e : env[i]? with
  | none => rfl
  | some s =>
    cases s with
    | no => rfl
    | val d => rfl
    | own d => cases ef : f d <;> simp [Op, Md, setN, ef, M.pure, M.bad]
    | bx n =>
      cases e2 : b[n]? with
      | none => simp [Op, Md, e2]
      | some d => cases ef : f d <;> simp [Op, Md, e2, ef]
def Pk_ (s : Slot) (b : List D) (K : Prop) : Prop := match s with
  | .own (.lst _) => K
  | .bx n => Op b[n]? fun d => match d with | .lst _ => K | _ => False
  | _ => False
theorem wp_peek {env : List Slot} {i : Nat} {Q : Unit → List D → Prop} {b : List D} : Wp (peek env i) Q b = Op env[i]? fun s => Pk_ s b (Q () b) := by
  unfold Wp peek
  cases e : env[i]? with
  | none => rfl
  | some s =>
    cases s with
    | no => rfl
    | val d => rfl
    | own d => cases d <;> rfl
    | bx n =>
      show _ = Op b[n]? _
      cases e2 : b[n]? with
      | none => simp only [e2]; rfl
      | some d => cases d <;> (simp only [e2]; rfl)
/-- the head's rules: unfold one form, one bind -/
theorem rules :
    (∀ (α α' : Type) (m : M α) (f : α → M α') (Q : α' → List D → Prop) (b : List D), Wp (M.bind m f) Q b = Wp m (fun a b1 => Wp (f a) Q b1) b) ∧
    (∀ (α : Type) (a : α) (Q : α → List D → Prop) (b : List D), Wp (M.pure a) Q b = Q a b) ∧
    (∀ (α : Type) (o : Option α) (Q : α → List D → Prop) (b : List D), Wp (M.opt o) Q b = Op o fun a => Q a b) ∧
    (∀ (α : Type) (a : α) (K : α → Prop), Op (some a) K = K a) ∧
    (∀ (α : Type) (K : α → Prop), Op none K = False) ∧
    (∀ (α : Type) (a : α) (l : List α) (K : α → Prop), Op (a :: l)[0]? K = K a) ∧
    (∀ (α : Type) (a : α) (l : List α) (n : Nat) (K : α → Prop), Op (a :: l)[n + 1]? K = Op l[n]? K) ∧
    (∀ (a : Slot) (l : List Slot) (s : Slot) (K : List Slot → Prop), setN (a :: l) 0 s K = K (s :: l)) ∧
    (∀ (a : Slot) (l : List Slot) (n : Nat) (s : Slot) (K : List Slot → Prop), setN (a :: l) (n + 1) s K = setN l n s fun e => K (a :: e)) ∧
    (∀ (d : D) (Q : D → List D → Prop) (b : List D), Wp (R.get (.val d)) Q b = Q d b) ∧
    (∀ (d : D) (Q : D → List D → Prop) (b : List D), Wp (R.get (.fr d)) Q b = Q d b) ∧
    (∀ (d : D) (Q : D → List D → Prop) (b : List D), Wp (R.get (.own d)) Q b = Q d b) ∧
    (∀ (d : D) (Q : D → List D → Prop) (b : List D), Wp (R.keep (.val d)) Q b = Q d b) ∧
    (∀ (d : D) (Q : D → List D → Prop) (b : List D), Wp (R.keep (.fr d)) Q b = Q d b) ∧
    (∀ (d : D) (Q : R → List D → Prop) (b : List D), Wp (Slot.read (.val d)) Q b = Q (.val d) b) ∧
    (∀ (d : D) (Q : R → List D → Prop) (b : List D), Wp (Slot.read (.own d)) Q b = Q (.own d) b) ∧
    (∀ (n : Nat) (Q : R → List D → Prop) (b : List D), Wp (Slot.read (.bx n)) Q b = Q (.bx n) b) ∧
    (∀ (i : Int) (Q : Int → List D → Prop) (b : List D), Wp (toI (.val (.int i))) Q b = Q i b) ∧
    (∀ (k : Bool) (Q : Bool → List D → Prop) (b : List D), Wp (isBlT (.val (.bl k))) Q b = Q k b) ∧
    (∀ (k : Bool) (Q : R → List D → Prop) (b : List D), Wp (blR k) Q b = Q (.val (.bl k)) b) ∧
    (∀ (Q : List D → List D → Prop) (b : List D), Wp (keeps []) Q b = Q [] b) ∧
    (∀ (x : R) (r : List R) (Q : List D → List D → Prop) (b : List D), Wp (keeps (x :: r)) Q b = Wp x.keep (fun d b1 => Wp (keeps r) (fun ds b2 => Q (d :: ds) b2) b1) b) ∧
    (∀ (Q : List D → List D → Prop) (b : List D), Wp (gets []) Q b = Q [] b) ∧
    (∀ (x : R) (r : List R) (Q : List D → List D → Prop) (b : List D), Wp (gets (x :: r)) Q b = Wp x.get (fun d b1 => Wp (gets r) (fun ds b2 => Q (d :: ds) b2) b1) b) ∧
    (∀ (Q : List A → List D → Prop) (b : List D), Wp (argsOf []) Q b = Q [] b) ∧
    (∀ (x : R) (r : List R) (Q : List A → List D → Prop) (b : List D), Wp (argsOf (x :: r)) Q b = Wp x.arg (fun d b1 => Wp (argsOf r) (fun ds b2 => Q (d :: ds) b2) b1) b) ∧
    (∀ (d : D) (Q : A → List D → Prop) (b : List D), Wp (R.arg (.val d)) Q b = Q (.val d) b) ∧
    (∀ (d : D) (Q : A → List D → Prop) (b : List D), Wp (R.arg (.fr d)) Q b = Q (.val d) b) ∧
    (∀ (n : Nat) (Q : A → List D → Prop) (b : List D), Wp (R.arg (.bx n)) Q b = Q (.bx n) b) := by
  refine ⟨fun _ _ _ _ _ _ => wpR_bind, fun _ _ _ _ => rfl, fun _ _ _ _ => wp_opt, fun _ _ _ => rfl, fun _ _ => rfl, fun _ _ _ _ => rfl, fun _ _ _ _ _ => rfl, fun _ _ _ _ => rfl, fun _ _ _ _ _ => rfl, fun _ _ _ => rfl, fun _ _ _ => rfl, fun _ _ _ => rfl, fun _ _ _ => rfl, fun _ _ _ => rfl, fun _ _ _ => rfl, fun _ _ _ => rfl, fun _ _ _ => rfl, fun _ _ _ => rfl, fun _ _ _ => rfl, fun _ _ _ => rfl, fun _ _ => rfl, fun x r Q b => ?_, fun _ _ => rfl, fun x r Q b => ?_, fun _ _ => rfl, fun x r Q b => ?_, fun _ _ _ => rfl, fun _ _ _ => rfl, fun _ _ _ => rfl⟩
  · show Wp (M.bind x.keep fun d => M.bind (keeps r) fun ds => M.pure (d :: ds)) Q b = _
    rw [wpR_bind]; congr; funext a b; rw [wpR_bind]; rfl
  · show Wp (M.bind x.get fun d => M.bind (gets r) fun ds => M.pure (d :: ds)) Q b = _
    rw [wpR_bind]; congr; funext a b; rw [wpR_bind]; rfl
  · show Wp (M.bind x.arg fun d => M.bind (argsOf r) fun ds => M.pure (d :: ds)) Q b = _
    rw [wpR_bind]; congr; funext a b; rw [wpR_bind]; rfl
/-- reading a box -/
theorem wp_getbx {n : Nat} {Q : D → List D → Prop} {b : List D} : Wp (R.get (.bx n)) Q b = Op b[n]? fun d => Q d b := by
  unfold Wp
  cases e : b[n]? <;> simp [R.get, e, Op]
/-- the forms, unfolded one at a time -/
theorem forms (κ : Kp) (env : List Slot) :
    (∀ Q b, Wp ((den κ .non).v env) Q b = Q (.val .non) b) ∧
    (∀ k Q b, Wp ((den κ (.bl k)).v env) Q b = Q (.val (.bl k)) b) ∧
    (∀ k Q b, Wp ((den κ (.bl k)).t env) Q b = Q k b) ∧
    (∀ i Q b, Wp ((den κ (.int i)).v env) Q b = Q (.val (.int i)) b) ∧
    (∀ s Q b, Wp ((den κ (.str s)).v env) Q b = Q (.val (.str s)) b) ∧
    (∀ i Q b, Wp ((den κ (.var i)).v env) Q b = Op env[i]? fun s => Wp (Slot.read s) Q b) ∧
    (∀ o x y Q b, Wp ((den κ (.bin o x y)).v env) Q b = Wp ((den κ x).v env) (fun rx b1 => Wp ((den κ y).v env) (fun ry b2 => Wp rx.get (fun dx b3 => Wp ry.get (fun dy b4 => Op (binD o dx dy) fun r => Q r b4) b3) b2) b1) b) ∧
    (∀ x Q b, Wp ((den κ (.neg x)).v env) Q b = Wp ((den κ x).v env) (fun rx b1 => Wp (toI rx) (fun i b2 => Q (.val (.int (-i))) b2) b1) b) ∧
    (∀ x Q b, Wp ((den κ (.not x)).v env) Q b = Wp ((den κ x).v env) (fun rx b1 => Wp (isBlT rx) (fun k b2 => Q (.val (.bl (!k))) b2) b1) b) ∧
    (∀ x Q b, Wp ((den κ (.not x)).t env) Q b = Wp ((den κ x).t env) (fun k b1 => Q (!k) b1) b) ∧
    (∀ o x y Q b, Wp ((den κ (.cmp o x y)).v env) Q b = Wp ((den κ x).v env) (fun rx b1 => Wp ((den κ y).v env) (fun ry b2 => Wp rx.get (fun dx b3 => Wp ry.get (fun dy b4 => Op (cmpD o dx dy) fun k => Q (.val (.bl k)) b4) b3) b2) b1) b) ∧
    (∀ o x y Q b, Wp ((den κ (.cmp o x y)).t env) Q b = Wp ((den κ x).v env) (fun rx b1 => Wp ((den κ y).v env) (fun ry b2 => Wp rx.get (fun dx b3 => Wp ry.get (fun dy b4 => Op (cmpD o dx dy) fun k => Q k b4) b3) b2) b1) b) ∧
    (∀ x i Q b, Wp ((den κ (.idx x i)).v env) Q b = Wp ((den κ x).v env) (fun rx b1 => Wp ((den κ i).v env) (fun ry b2 => Wp rx.get (fun dx b3 => Wp ry.get (fun dy b4 => Op (idxD dx dy) fun d => Q (.val d) b4) b3) b2) b1) b) ∧
    (∀ c x y Q b, Wp ((den κ (.ite c x y)).v env) Q b = Wp ((den κ c).t env) (fun k b1 => if k then Wp ((den κ x).v env) Q b1 else Wp ((den κ y).v env) Q b1) b) ∧
    (∀ x y Q b, Wp ((den κ (.and x y)).t env) Q b = Wp ((den κ x).t env) (fun k b1 => if k then Wp ((den κ y).t env) Q b1 else Q false b1) b) ∧
    (∀ x y Q b, Wp ((den κ (.or x y)).t env) Q b = Wp ((den κ x).t env) (fun k b1 => if k then Q true b1 else Wp ((den κ y).t env) Q b1) b) ∧
    (∀ Q b, Wp ((den κ .nil).r env) Q b = Q [] b) ∧
    (∀ x r Q b, Wp ((den κ (.cons x r)).r env) Q b = Wp ((den κ x).v env) (fun v b1 => Wp ((den κ r).r env) (fun vs b2 => Q (v :: vs) b2) b1) b) ∧
    (∀ as Q b, Wp ((den κ (.tup as)).v env) Q b = Wp ((den κ as).r env) (fun rs b1 => Wp (keeps rs) (fun xs b2 => Q (.val (.tup xs)) b2) b1) b) ∧
    (∀ as Q b, Wp ((den κ (.lst as)).v env) Q b = Wp ((den κ as).r env) (fun rs b1 => Wp (keeps rs) (fun xs b2 => Q (.fr (.lst xs)) b2) b1) b) ∧
    (∀ f as Q b, Wp ((den κ (.call f as)).v env) Q b = Wp ((den κ as).r env) (fun rs b1 => Wp (argsOf rs) (fun xs b2 => Wp (κ.f f xs) Q b2) b1) b) ∧
    (∀ f as Q b, Wp ((den κ (.bi f as)).v env) Q b = Wp ((den κ as).r env) (fun rs b1 => Wp (gets rs) (fun xs b2 => Op (biD f xs) fun r => Q r b2) b1) b) := by
  refine ⟨fun _ _ => rfl, fun _ _ _ => rfl, fun _ _ _ => rfl, fun _ _ _ => rfl, fun _ _ _ => rfl, ?_, ?_, ?_, ?_, ?_, ?_, ?_, ?_, ?_, ?_, ?_, fun _ _ => rfl, ?_, ?_, ?_, ?_, ?_⟩
  all_goals
    intros
    simp only [den, Pk.ofV, Pk.ofT, Pk.tru, wpR_bind, wp_opt, wp_if, blR]
    try rfl
/-- behind a body -/
def EndF (Q : R → List D → Prop) (n : Nat) : Fl → List D → Prop
  | .nx _, b => Q (.val .non) (b.take n)
  | .rt r, b => Q r (b.take n)
/-- behind a statement, the rest -/
def Sq (κ : Kp) (r : IS) (Q : Fl → List D → Prop) : Fl → List D → Prop
  | .nx env, b => Wp (evS κ r env) Q b
  | .rt x, b => Q (.rt x) b
theorem wp_run {κ : Kp} {fn : Fn} {as : List A} {Q : R → List D → Prop} {b : List D} (h : as.length = fn.np) : Wp (runF κ fn as) Q b = Wp (evS κ fn.body (as.map A.slot ++ List.replicate (fn.n - fn.np) .no)) (EndF Q b.length) b := by
  unfold Wp runF
  rw [if_pos h]
  cases evS κ fn.body (as.map A.slot ++ List.replicate (fn.n - fn.np) .no) b with
  | bad => rfl
  | exn c b' => rfl
  | ok fl b' => cases fl <;> rfl
theorem stms (κ : Kp) (env : List Slot) :
    (∀ Q b, Wp (evS κ .nil env) Q b = Q (.nx env) b) ∧
    (∀ s r Q b, Wp (evS κ (.cons s r) env) Q b = Wp (evS κ s env) (Sq κ r Q) b) ∧
    (∀ i e Q b, Wp (evS κ (.asg (.nm i) e) env) Q b = Wp ((den κ e).v env) (fun x b1 => Wp x.keep (fun d b2 => setN env i (.val d) fun env' => Q (.nx env') b2) b1) b) ∧
    (∀ i k e Q b, Wp (evS κ (.sub i k e) env) Q b = Wp (peek env i) (fun _ b0 => Wp ((den κ e).v env) (fun x b1 => Wp x.keep (fun d b2 => Wp ((den κ k).v env) (fun y b3 => Wp y.keep (fun dk b4 => Wp (modify env i (subD dk d)) (fun p b5 => Q (.nx p.2) b5) b4) b3) b2) b1) b0) b) ∧
    (∀ i e Q b, Wp (evS κ (.app i e) env) Q b = Wp (peek env i) (fun _ b0 => Wp ((den κ e).v env) (fun x b1 => Wp x.keep (fun d b2 => Wp (modify env i (appD d)) (fun p b5 => Q (.nx p.2) b5) b2) b1) b0) b) ∧
    (∀ c x y Q b, Wp (evS κ (.ite c x y) env) Q b = Wp ((den κ c).t env) (fun k b1 => if k then Wp (evS κ x env) Q b1 else Wp (evS κ y env) Q b1) b) ∧
    (∀ e Q b, Wp (evS κ (.ex e) env) Q b = Wp ((den κ e).v env) (fun _ b1 => Q (.nx env) b1) b) ∧
    (∀ d Q b n, Sq κ .nil Q (.nx d) b = Q (.nx d) b ∧ EndF (fun _ _ => True) n (.nx d) b = True) := by
  refine ⟨fun _ _ => rfl, fun s r Q b => ?_, fun i e Q b => ?_, fun i k e Q b => ?_, fun i e Q b => ?_, fun c x y Q b => ?_, fun e Q b => ?_, fun _ _ _ _ => ⟨rfl, rfl⟩⟩
  · show Wp (M.bind (evS κ s env) _) Q b = _
    rw [wpR_bind]
    congr
    funext fl b1
    cases fl <;> rfl
  all_goals
    simp only [evS, wpR_bind, wp_opt, wp_if, setT, setN]
    try rfl
theorem wp_ret {κ : Kp} {env : List Slot} {e : IE} {Q : Fl → List D → Prop} {b : List D} : Wp (evS κ (.ret e) env) Q b = Wp ((den κ e).v env) (fun x b1 => match x with | .val d => Q (.rt (.val d)) b1 | .fr d => Q (.rt (.fr d)) b1 | _ => False) b := by
  show Wp (M.bind ((den κ e).v env) _) Q b = _
  rw [wpR_bind]
  congr
  funext x b1
  cases x <;> rfl
theorem at_nat {α : Type} {xs : List α} {n : Nat} {K : α → Prop} : Op (atD xs (n : Int)) K = Op xs[n]? K := by
  unfold atD ixI
  rw [if_pos (Int.natCast_nonneg n)]
  by_cases h : n < xs.length
  · rw [if_pos (by omega)]
    rfl
  · rw [if_neg (by omega), List.getElem?_eq_none (by omega)]
    rfl
theorem ix_nat {l n : Nat} {K : Nat → Prop} : Op (ixI l (n : Int)) K = (n < l ∧ K n) := by
  unfold ixI
  rw [if_pos (Int.natCast_nonneg n)]
  by_cases h : n < l
  · rw [if_pos (by omega)]
    show K n = _
    simp [h]
  · rw [if_neg (by omega)]
    simp [Op, h]
theorem op_if {α : Type} {c : Prop} [Decidable c] {a : α} {K : α → Prop} : Op (if c then some a else none) K = (c ∧ K a) := by
  by_cases h : c
  · rw [if_pos h]; simp [Op, h]
  · rw [if_neg h]; simp [Op, h]
/-- the operators, by data -/
theorem ops :
    (∀ i j (K : R → Prop), Op (binD .add (.int i) (.int j)) K = K (.val (.int (i + j)))) ∧
    (∀ i j (K : R → Prop), Op (binD .sub (.int i) (.int j)) K = K (.val (.int (i - j)))) ∧
    (∀ i j (K : R → Prop), Op (binD .mul (.int i) (.int j)) K = ((small i || small j || (bnd i && bnd j)) = true ∧ K (.val (.int (i * j))))) ∧
    (∀ i j (K : R → Prop), Op (binD .fdiv (.int i) (.int j)) K = ((j ≠ 0 ∧ bnd j = true) ∧ K (.val (.int (i.fdiv j))))) ∧
    (∀ i j (K : R → Prop), Op (binD .mod (.int i) (.int j)) K = (j ≠ 0 ∧ K (.val (.int (i.fmod j))))) ∧
    (∀ i j (K : R → Prop), Op (binD .pow (.int i) (.int j)) K = ((0 ≤ j ∧ j ≤ 1000000 ∧ small i = true) ∧ K (.val (.int (i ^ j.toNat))))) ∧
    (∀ i j (K : Bool → Prop), Op (cmpD .eq (.int i) (.int j)) K = K (i == j)) ∧
    (∀ i j (K : Bool → Prop), Op (cmpD .ne (.int i) (.int j)) K = K (!(i == j))) ∧
    (∀ i j (K : Bool → Prop), Op (cmpD .lt (.int i) (.int j)) K = K (decide (i < j))) ∧
    (∀ i j (K : Bool → Prop), Op (cmpD .le (.int i) (.int j)) K = K (decide (i ≤ j))) ∧
    (∀ i j (K : Bool → Prop), Op (cmpD .gt (.int i) (.int j)) K = K (decide (j < i))) ∧
    (∀ i j (K : Bool → Prop), Op (cmpD .ge (.int i) (.int j)) K = K (decide (j ≤ i))) ∧
    (∀ ns (K : Bool → Prop), Op (cmpD .eq (.scr ns) (.lst [])) K = K ns.isEmpty) ∧
    (∀ xs i (K : D → Prop), Op (idxD (.lst xs) (.int i)) K = Op (atD xs i) K) ∧
    (∀ xs i (K : D → Prop), Op (idxD (.tup xs) (.int i)) K = Op (atD xs i) K) ∧
    (∀ ns i (K : D → Prop), Op (idxD (.scr ns) (.int i)) K = Op (atD ns i) fun n => K (.int n)) ∧
    (∀ xs (K : R → Prop), Op (biD .len [.lst xs]) K = K (.val (.int xs.length))) ∧
    (∀ xs (K : R → Prop), Op (biD .len [.tup xs]) K = K (.val (.int xs.length))) ∧
    (∀ ns (K : R → Prop), Op (biD .len [.scr ns]) K = K (.val (.int ns.length))) ∧
    (∀ x i xs (K : D × D → Prop), Op (subD (.int i) x (.lst xs)) K = Op (ixI xs.length i) fun j => K (.non, .lst (xs.set j x))) ∧
    (∀ k (K : Bool → Prop), Op (truD (.bl k)) K = K k) := by
  refine ⟨fun _ _ _ => rfl, fun _ _ _ => rfl, fun _ _ _ => op_if, fun _ _ _ => op_if, fun _ _ _ => op_if, fun _ _ _ => op_if, fun i j K => rfl, fun i j K => rfl, fun _ _ _ => rfl, fun _ _ _ => rfl, fun _ _ _ => rfl, fun _ _ _ => rfl, fun _ _ => rfl, fun _ _ _ => rfl, fun _ _ _ => rfl, fun ns i K => ?_, fun _ _ => rfl, fun _ _ => rfl, fun _ _ => rfl, fun x i xs K => ?_, fun _ _ => rfl⟩
  · show Op ((atD ns i).map .int) K = _
    cases atD ns i <;> rfl
  · show Op ((ixI xs.length i).map fun j => (D.non, D.lst (xs.set j x))) K = _
    cases ixI xs.length i <;> rfl
theorem nth :
    (∀ (α : Type) (a : α) (l : List α) (K : α → Prop), Op (a :: l)[1]? K = Op l[0]? K) ∧
    (∀ (α : Type) (a : α) (l : List α) (K : α → Prop), Op (a :: l)[2]? K = Op l[1]? K) ∧
    (∀ (α : Type) (a : α) (l : List α) (K : α → Prop), Op (a :: l)[3]? K = Op l[2]? K) ∧
    (∀ (α : Type) (a : α) (l : List α) (K : α → Prop), Op (a :: l)[4]? K = Op l[3]? K) ∧
    (∀ (α : Type) (a : α) (l : List α) (K : α → Prop), Op (a :: l)[5]? K = Op l[4]? K) ∧
    (∀ (α : Type) (a : α) (l : List α) (K : α → Prop), Op (a :: l)[6]? K = Op l[5]? K) ∧
    (∀ (α : Type) (a : α) (l : List α) (K : α → Prop), Op (a :: l)[7]? K = Op l[6]? K) ∧
    (∀ (α : Type) (a : α) (l : List α) (K : α → Prop), Op (a :: l)[8]? K = Op l[7]? K) ∧
    (∀ (α : Type) (a : α) (l : List α) (K : α → Prop), Op (a :: l)[9]? K = Op l[8]? K) ∧
    (∀ (α : Type) (a : α) (l : List α) (K : α → Prop), Op (a :: l)[10]? K = Op l[9]? K) ∧
    (∀ (α : Type) (a : α) (l : List α) (K : α → Prop), Op (a :: l)[11]? K = Op l[10]? K) ∧
    (∀ (α : Type) (a : α) (l : List α) (K : α → Prop), Op (a :: l)[12]? K = Op l[11]? K) ∧
    (∀ (α : Type) (a : α) (l : List α) (K : α → Prop), Op (a :: l)[13]? K = Op l[12]? K) ∧
    (∀ (α : Type) (a : α) (l : List α) (K : α → Prop), Op (a :: l)[14]? K = Op l[13]? K) ∧
    (∀ (α : Type) (a : α) (l : List α) (K : α → Prop), Op (a :: l)[15]? K = Op l[14]? K) ∧
    (∀ (α : Type) (a : α) (l : List α) (K : α → Prop), Op (a :: l)[16]? K = Op l[15]? K) ∧
    (∀ (α : Type) (a : α) (l : List α) (K : α → Prop), Op (a :: l)[17]? K = Op l[16]? K) ∧
    (∀ (α : Type) (a : α) (l : List α) (K : α → Prop), Op (a :: l)[18]? K = Op l[17]? K) ∧
    (∀ (α : Type) (a : α) (l : List α) (K : α → Prop), Op (a :: l)[19]? K = Op l[18]? K) ∧
    (∀ (α : Type) (a : α) (l : List α) (K : α → Prop), Op (a :: l)[20]? K = Op l[19]? K) ∧
    (∀ (α : Type) (a : α) (l : List α) (K : α → Prop), Op (a :: l)[21]? K = Op l[20]? K) ∧
    (∀ (α : Type) (a : α) (l : List α) (K : α → Prop), Op (a :: l)[22]? K = Op l[21]? K) ∧
    (∀ (α : Type) (a : α) (l : List α) (K : α → Prop), Op (a :: l)[23]? K = Op l[22]? K) ∧
    (∀ (α : Type) (a : α) (l : List α) (K : α → Prop), Op (a :: l)[24]? K = Op l[23]? K) ∧
    (∀ (α : Type) (a : α) (l : List α) (K : α → Prop), Op (a :: l)[25]? K = Op l[24]? K) ∧
    (∀ (α : Type) (a : α) (l : List α) (K : α → Prop), Op (a :: l)[26]? K = Op l[25]? K) ∧
    (∀ (α : Type) (a : α) (l : List α) (K : α → Prop), Op (a :: l)[27]? K = Op l[26]? K) ∧
    (∀ (α : Type) (a : α) (l : List α) (K : α → Prop), Op (a :: l)[28]? K = Op l[27]? K) ∧
    (∀ (α : Type) (a : α) (l : List α) (K : α → Prop), Op (a :: l)[29]? K = Op l[28]? K) ∧
    (∀ (α : Type) (a : α) (l : List α) (K : α → Prop), Op (a :: l)[30]? K = Op l[29]? K) ∧
    (∀ (α : Type) (a : α) (l : List α) (K : α → Prop), Op (a :: l)[31]? K = Op l[30]? K) ∧
    (∀ (α : Type) (a : α) (l : List α) (K : α → Prop), Op (a :: l)[32]? K = Op l[31]? K) ∧
    (∀ (α : Type) (a : α) (l : List α) (K : α → Prop), Op (a :: l)[33]? K = Op l[32]? K) ∧
    (∀ (α : Type) (a : α) (l : List α) (K : α → Prop), Op (a :: l)[34]? K = Op l[33]? K) ∧
    (∀ (α : Type) (a : α) (l : List α) (K : α → Prop), Op (a :: l)[35]? K = Op l[34]? K) ∧
    (∀ (α : Type) (a : α) (l : List α) (K : α → Prop), Op (a :: l)[36]? K = Op l[35]? K) ∧
    (∀ (α : Type) (a : α) (l : List α) (K : α → Prop), Op (a :: l)[37]? K = Op l[36]? K) ∧
    (∀ (α : Type) (a : α) (l : List α) (K : α → Prop), Op (a :: l)[38]? K = Op l[37]? K) ∧
    (∀ (α : Type) (a : α) (l : List α) (K : α → Prop), Op (a :: l)[39]? K = Op l[38]? K) ∧
    (∀ (α : Type) (a : α) (l : List α) (K : α → Prop), Op (a :: l)[40]? K = Op l[39]? K) := by
  refine ⟨?_, ?_, ?_, ?_, ?_, ?_, ?_, ?_, ?_, ?_, ?_, ?_, ?_, ?_, ?_, ?_, ?_, ?_, ?_, ?_, ?_, ?_, ?_, ?_, ?_, ?_, ?_, ?_, ?_, ?_, ?_, ?_, ?_, ?_, ?_, ?_, ?_, ?_, ?_, ?_⟩ <;> intros <;> rfl
theorem nsetR :
    (∀ (a : Slot) (l : List Slot) (s : Slot) (K : List Slot → Prop), setN (a :: l) 1 s K = setN l 0 s fun e => K (a :: e)) ∧
    (∀ (a : Slot) (l : List Slot) (s : Slot) (K : List Slot → Prop), setN (a :: l) 2 s K = setN l 1 s fun e => K (a :: e)) ∧
    (∀ (a : Slot) (l : List Slot) (s : Slot) (K : List Slot → Prop), setN (a :: l) 3 s K = setN l 2 s fun e => K (a :: e)) ∧
    (∀ (a : Slot) (l : List Slot) (s : Slot) (K : List Slot → Prop), setN (a :: l) 4 s K = setN l 3 s fun e => K (a :: e)) ∧
    (∀ (a : Slot) (l : List Slot) (s : Slot) (K : List Slot → Prop), setN (a :: l) 5 s K = setN l 4 s fun e => K (a :: e)) ∧
    (∀ (a : Slot) (l : List Slot) (s : Slot) (K : List Slot → Prop), setN (a :: l) 6 s K = setN l 5 s fun e => K (a :: e)) ∧
    (∀ (a : Slot) (l : List Slot) (s : Slot) (K : List Slot → Prop), setN (a :: l) 7 s K = setN l 6 s fun e => K (a :: e)) ∧
    (∀ (a : Slot) (l : List Slot) (s : Slot) (K : List Slot → Prop), setN (a :: l) 8 s K = setN l 7 s fun e => K (a :: e)) ∧
    (∀ (a : Slot) (l : List Slot) (s : Slot) (K : List Slot → Prop), setN (a :: l) 9 s K = setN l 8 s fun e => K (a :: e)) ∧
    (∀ (a : Slot) (l : List Slot) (s : Slot) (K : List Slot → Prop), setN (a :: l) 10 s K = setN l 9 s fun e => K (a :: e)) ∧
    (∀ (a : Slot) (l : List Slot) (s : Slot) (K : List Slot → Prop), setN (a :: l) 11 s K = setN l 10 s fun e => K (a :: e)) ∧
    (∀ (a : Slot) (l : List Slot) (s : Slot) (K : List Slot → Prop), setN (a :: l) 12 s K = setN l 11 s fun e => K (a :: e)) ∧
    (∀ (a : Slot) (l : List Slot) (s : Slot) (K : List Slot → Prop), setN (a :: l) 13 s K = setN l 12 s fun e => K (a :: e)) ∧
    (∀ (a : Slot) (l : List Slot) (s : Slot) (K : List Slot → Prop), setN (a :: l) 14 s K = setN l 13 s fun e => K (a :: e)) ∧
    (∀ (a : Slot) (l : List Slot) (s : Slot) (K : List Slot → Prop), setN (a :: l) 15 s K = setN l 14 s fun e => K (a :: e)) ∧
    (∀ (a : Slot) (l : List Slot) (s : Slot) (K : List Slot → Prop), setN (a :: l) 16 s K = setN l 15 s fun e => K (a :: e)) ∧
    (∀ (a : Slot) (l : List Slot) (s : Slot) (K : List Slot → Prop), setN (a :: l) 17 s K = setN l 16 s fun e => K (a :: e)) ∧
    (∀ (a : Slot) (l : List Slot) (s : Slot) (K : List Slot → Prop), setN (a :: l) 18 s K = setN l 17 s fun e => K (a :: e)) ∧
    (∀ (a : Slot) (l : List Slot) (s : Slot) (K : List Slot → Prop), setN (a :: l) 19 s K = setN l 18 s fun e => K (a :: e)) ∧
    (∀ (a : Slot) (l : List Slot) (s : Slot) (K : List Slot → Prop), setN (a :: l) 20 s K = setN l 19 s fun e => K (a :: e)) ∧
    (∀ (a : Slot) (l : List Slot) (s : Slot) (K : List Slot → Prop), setN (a :: l) 21 s K = setN l 20 s fun e => K (a :: e)) ∧
    (∀ (a : Slot) (l : List Slot) (s : Slot) (K : List Slot → Prop), setN (a :: l) 22 s K = setN l 21 s fun e => K (a :: e)) ∧
    (∀ (a : Slot) (l : List Slot) (s : Slot) (K : List Slot → Prop), setN (a :: l) 23 s K = setN l 22 s fun e => K (a :: e)) ∧
    (∀ (a : Slot) (l : List Slot) (s : Slot) (K : List Slot → Prop), setN (a :: l) 24 s K = setN l 23 s fun e => K (a :: e)) ∧
    (∀ (a : Slot) (l : List Slot) (s : Slot) (K : List Slot → Prop), setN (a :: l) 25 s K = setN l 24 s fun e => K (a :: e)) ∧
    (∀ (a : Slot) (l : List Slot) (s : Slot) (K : List Slot → Prop), setN (a :: l) 26 s K = setN l 25 s fun e => K (a :: e)) ∧
    (∀ (a : Slot) (l : List Slot) (s : Slot) (K : List Slot → Prop), setN (a :: l) 27 s K = setN l 26 s fun e => K (a :: e)) ∧
    (∀ (a : Slot) (l : List Slot) (s : Slot) (K : List Slot → Prop), setN (a :: l) 28 s K = setN l 27 s fun e => K (a :: e)) ∧
    (∀ (a : Slot) (l : List Slot) (s : Slot) (K : List Slot → Prop), setN (a :: l) 29 s K = setN l 28 s fun e => K (a :: e)) ∧
    (∀ (a : Slot) (l : List Slot) (s : Slot) (K : List Slot → Prop), setN (a :: l) 30 s K = setN l 29 s fun e => K (a :: e)) ∧
    (∀ (a : Slot) (l : List Slot) (s : Slot) (K : List Slot → Prop), setN (a :: l) 31 s K = setN l 30 s fun e => K (a :: e)) ∧
    (∀ (a : Slot) (l : List Slot) (s : Slot) (K : List Slot → Prop), setN (a :: l) 32 s K = setN l 31 s fun e => K (a :: e)) ∧
    (∀ (a : Slot) (l : List Slot) (s : Slot) (K : List Slot → Prop), setN (a :: l) 33 s K = setN l 32 s fun e => K (a :: e)) ∧
    (∀ (a : Slot) (l : List Slot) (s : Slot) (K : List Slot → Prop), setN (a :: l) 34 s K = setN l 33 s fun e => K (a :: e)) ∧
    (∀ (a : Slot) (l : List Slot) (s : Slot) (K : List Slot → Prop), setN (a :: l) 35 s K = setN l 34 s fun e => K (a :: e)) ∧
    (∀ (a : Slot) (l : List Slot) (s : Slot) (K : List Slot → Prop), setN (a :: l) 36 s K = setN l 35 s fun e => K (a :: e)) ∧
    (∀ (a : Slot) (l : List Slot) (s : Slot) (K : List Slot → Prop), setN (a :: l) 37 s K = setN l 36 s fun e => K (a :: e)) ∧
    (∀ (a : Slot) (l : List Slot) (s : Slot) (K : List Slot → Prop), setN (a :: l) 38 s K = setN l 37 s fun e => K (a :: e)) ∧
    (∀ (a : Slot) (l : List Slot) (s : Slot) (K : List Slot → Prop), setN (a :: l) 39 s K = setN l 38 s fun e => K (a :: e)) ∧
    (∀ (a : Slot) (l : List Slot) (s : Slot) (K : List Slot → Prop), setN (a :: l) 40 s K = setN l 39 s fun e => K (a :: e)) := by
  refine ⟨?_, ?_, ?_, ?_, ?_, ?_, ?_, ?_, ?_, ?_, ?_, ?_, ?_, ?_, ?_, ?_, ?_, ?_, ?_, ?_, ?_, ?_, ?_, ?_, ?_, ?_, ?_, ?_, ?_, ?_, ?_, ?_, ?_, ?_, ?_, ?_, ?_, ?_, ?_, ?_⟩ <;> intros <;> rfl
def PkD (d : D) (K : Prop) : Prop := match d with
  | .lst _ => K
  | _ => False
theorem chg :
    (∀ ds b K, Pk_ (.own (.lst ds)) b K = K) ∧
    (∀ n b K, Pk_ (.bx n) b K = Op b[n]? fun d => PkD d K) ∧
    (∀ ds K, PkD (.lst ds) K = K) ∧
    (∀ d env i f Q b, Md (.own d) env i f Q b = Op (f d) fun p => setN env i (.own p.2) fun e => Q (p.1, e) b) ∧
    (∀ n env i f Q b, Md (.bx n) env i f Q b = Op b[n]? fun d => Op (f d) fun p => Q (p.1, env) (b.set n p.2)) ∧
    (∀ (d : D) (l : List D) (x : D), (d :: l).set 0 x = x :: l) ∧
    (∀ κ r Q env b, Sq κ r Q (.nx env) b = Wp (evS κ r env) Q b) ∧
    (∀ κ r Q x b, Sq κ r Q (.rt x) b = Q (.rt x) b) ∧
    (∀ Q n env b, EndF Q n (.nx env) b = Q (.val .non) (b.take n)) ∧
    (∀ Q n r b, EndF Q n (.rt r) b = Q r (b.take n)) := by
  refine ⟨fun _ _ _ => rfl, fun _ _ _ => rfl, fun _ _ => rfl, fun _ _ _ _ _ _ => rfl, fun _ _ _ _ _ _ => rfl, fun _ _ _ => rfl, fun _ _ _ _ _ => rfl, fun _ _ _ _ _ => rfl, fun _ _ _ _ => rfl, fun _ _ _ _ => rfl⟩
theorem at_pos {α : Type} {xs : List α} {i : Int} {K : α → Prop} (h : 0 ≤ i) : Op (atD xs i) K = Op xs[i.toNat]? K := by
  obtain ⟨n, rfl⟩ := Int.eq_ofNat_of_zero_le h
  exact at_nat
theorem ix_pos {l : Nat} {i : Int} {K : Nat → Prop} (h : 0 ≤ i) : Op (ixI l i) K = (i.toNat < l ∧ K i.toNat) := by
  obtain ⟨n, rfl⟩ := Int.eq_ofNat_of_zero_le h
  exact ix_nat
theorem lits :
    (∀ (α : Type) (x : α) (xs : List α) (K : α → Prop), Op (atD (x :: xs) 0) K = K x) ∧
    (∀ (l : Nat) (K : Nat → Prop), Op (ixI (l + 1) 0) K = K 0) ∧
    (∀ (α : Type) (x : α) (xs : List α), (x :: xs).length = xs.length + 1) := by
  refine ⟨fun α x xs K => ?_, fun l K => ?_, fun _ _ _ => rfl⟩
  · rw [at_pos (Int.le_refl 0)]; rfl
  · rw [ix_pos (Int.le_refl 0)]; simp
theorem fmod_nat {i : Int} {m : Nat} (h : 1 ≤ m) : ∃ d : Nat, i.fmod m = d ∧ d < m := by
  have h1 : 0 ≤ i.fmod m := Int.fmod_nonneg_of_pos i (by omega)
  have h2 : i.fmod m < m := Int.fmod_lt_of_pos i (by omega)
  exact ⟨(i.fmod m).toNat, by omega, by omega⟩
/-! ### loops -/
theorem wp_nox {α : Type} {m : M α} {Q : α → List D → Prop} {b : List D} : Wp (M.nox m) Q b = Wp m Q b := by
  unfold Wp M.nox
  cases m b <;> rfl
theorem wp_lcGo {f : D → M (List D)} {xs : List D} {Q : List D → List D → Prop} {b : List D} (I : Nat → List D → List D → Prop) (h0 : I 0 [] b)
    (hs : ∀ (i : Nat) (hi : i < xs.length) acc b, I i acc b → Wp (f xs[i]) (fun r b' => I (i + 1) (acc ++ r) b') b) (he : ∀ ys b, I xs.length ys b → Q ys b) : Wp (lcGo f xs) Q b := by
  have key : ∀ (n i : Nat) (acc b : List D), i + n = xs.length → I i acc b → Wp (lcGo f (xs.drop i)) (fun ys b' => I xs.length (acc ++ ys) b') b := by
    intro n
    induction n with
    | zero =>
      intro i acc b e h
      have e : i = xs.length := by omega
      subst e
      rw [List.drop_length]
      show I xs.length (acc ++ []) b
      rw [List.append_nil]; exact h
    | succ n ih =>
      intro i acc b e h
      have hi : i < xs.length := by omega
      rw [List.drop_eq_getElem_cons hi]
      show Wp (M.bind (f xs[i]) fun r => M.bind (lcGo f (xs.drop (i + 1))) fun rs => M.pure (r ++ rs)) _ b
      rw [wpR_bind]
      refine (hs i hi acc b h).mono fun r b1 h1 => ?_
      rw [wpR_bind]
      refine (ih (i + 1) (acc ++ r) b1 (by omega) h1).mono fun ys b2 h2 => ?_
      show I xs.length (acc ++ (r ++ ys)) b2
      rw [← List.append_assoc]; exact h2
  refine (key xs.length 0 [] b (by omega) h0).mono fun ys b' h => he ys b' h
theorem wp_forGo {f : D → List Slot → M Fl} {xs : List D} {env : List Slot} {Q : Fl → List D → Prop} {b : List D} (I : Nat → List Slot → List D → Prop) (h0 : I 0 env b)
    (hs : ∀ (i : Nat) (hi : i < xs.length) env b, I i env b → Wp (f xs[i] env) (fun fl b' => match fl with | .nx env' => I (i + 1) env' b' | .rt r => Q (.rt r) b') b) (he : ∀ env b, I xs.length env b → Q (.nx env) b) : Wp (forGo f xs env) Q b := by
  have key : ∀ (n i : Nat) (env : List Slot) (b : List D), i + n = xs.length → I i env b → Wp (forGo f (xs.drop i) env) Q b := by
    intro n
    induction n with
    | zero =>
      intro i env b e h
      have e : i = xs.length := by omega
      subst e
      rw [List.drop_length]
      exact he env b h
    | succ n ih =>
      intro i env b e h
      have hi : i < xs.length := by omega
      rw [List.drop_eq_getElem_cons hi]
      show Wp (M.bind (f xs[i] env) fun r => match r with | .nx env' => forGo f (xs.drop (i + 1)) env' | .rt r => M.pure (.rt r)) _ b
      rw [wpR_bind]
      refine (hs i hi env b h).mono fun fl b1 h1 => ?_
      cases fl with
      | nx env' => exact ih (i + 1) env' b1 (by omega) h1
      | rt r => exact h1
  exact key xs.length 0 env b (by omega) h0
def wipN (env : List Slot) (vs : List Nat) (K : List Slot → Prop) : Prop := K (wipeE env vs)
/-- comprehensions, loops, unfolded -/
theorem loops (κ : Kp) (env : List Slot) :
    (∀ own t s c e Q b, Wp ((den κ (.lc own t s c e)).v env) Q b = Wp ((den κ s).i env) (fun xs b1 => Wp (lcGo (lcT (fun x => setT t x (wipeE env own)) (den κ c).t (keep1 (den κ e).v)) xs) (fun ys b2 => Q (.fr (.lst ys)) b2) b1) b) ∧
    (∀ t s bd Q b, Wp (evS κ (.for_ t s bd) env) Q b = Wp ((den κ s).i env) (fun xs b1 => Wp (forGo (fun x env => M.bind (M.opt (setT t x env)) fun env1 => evS κ bd env1) xs env) Q b1) b) ∧
    (∀ a Q b, Wp ((den κ (.rng1 a)).i env) Q b = Wp ((den κ a).v env) (fun x b1 => Wp (toI x) (fun i b2 => (big 0 && big i) = true ∧ Q (rngD 0 i) b2) b1) b) ∧
    (∀ i Q b, Wp ((den κ (.var i)).i env) Q b = Op env[i]? fun s => Wp (Slot.read s) (fun x b1 => Wp x.keep (fun d b2 => Op (itD d) fun xs => Q xs b2) b1) b) := by
  refine ⟨fun own t s c e Q b => ?_, fun t s bd Q b => ?_, fun a Q b => ?_, fun i Q b => ?_⟩
  · simp only [den, Pk.ofV, wpR_bind, wp_nox]; rfl
  · simp only [evS, wpR_bind]
  · simp only [den, Pk.ofI, wpR_bind, rngR, wp_if]
    congr; funext x b1; congr; funext i b2
    by_cases h : (big 0 && big i) = true
    · rw [if_pos h]; simp [h]; rfl
    · rw [if_neg h]; simp [h, Wp, M.bad]
  · simp only [den, Pk.ofV, Pk.itr, wpR_bind, wp_opt]
theorem turns :
    (∀ (g : D → Option (List Slot)) c e x (Q : List D → List D → Prop) b, Wp (lcT g c e x) Q b = Op (g x) fun env1 => Wp (c env1) (fun k b1 => if k then Wp (e env1) Q b1 else Q [] b1) b) ∧
    (∀ (v : List Slot → M R) env (Q : List D → List D → Prop) b, Wp (keep1 v env) Q b = Wp (v env) (fun y b1 => Wp y.keep (fun d b2 => Q [d] b2) b1) b) ∧
    (∀ i x env vs K, Op (setT (.nm i) x (wipeE env vs)) K = wipN env vs fun e => setN e i (.val x) K) ∧
    (∀ env K, wipN env [] K = K env) ∧
    (∀ env v vs K, wipN env (v :: vs) K = wipN env vs fun e => setN e v .no K) ∧
    (∀ i x a env K, Op (setT (.nm i) x (a :: env)) K = setN (a :: env) i (.val x) K) ∧
    (∀ t xs env K, Op (setT (.tup t) (.tup xs) env) K = Op (setTs t xs env) K) ∧
    (∀ env K, Op (setTs .nil [] env) K = K env) ∧
    (∀ t r x xs env K, Op (setTs (.cons t r) (x :: xs) env) K = Op (setT t x env) fun e => Op (setTs r xs e) K) := by
  refine ⟨fun g c e x Q b => ?_, fun v env Q b => ?_, fun _ _ _ _ _ => rfl, fun _ _ => rfl, fun _ _ _ _ => rfl, fun _ _ _ _ _ => rfl, fun _ _ _ _ => rfl, fun _ _ => rfl, fun t r x xs env K => ?_⟩
  · simp only [lcT, wpR_bind, wp_opt, wp_if]; rfl
  · simp only [keep1, wpR_bind]; rfl
  · show Op ((setT t x env).bind (setTs r xs)) K = _
    cases setT t x env <;> rfl
def FrO (x : R) (K : D → Prop) : Prop := match x with
  | .fr d => K d
  | _ => False
def Rt (x : R) (K : R → Prop) : Prop := match x with
  | .val d => K (.val d)
  | .fr d => K (.fr d)
  | _ => False
/-- further forms -/
theorem forms2 (κ : Kp) (env : List Slot) :
    (∀ m o as Q b, Wp ((den κ (.me m o as)).v env) Q b = Wp ((den κ o).v env) (fun x b1 => Wp x.get (fun d0 b2 => meOk m d0 = true ∧ Wp ((den κ as).r env) (fun rs b3 => Wp x.get (fun dx b4 => Wp (gets rs) (fun xs b5 => Op (meD m dx xs) fun r => Q r b5) b4) b3) b2) b1) b) ∧
    (∀ a lo hi Q b, Wp ((den κ (.slc a lo hi)).v env) Q b = Wp ((den κ a).v env) (fun x b1 => Wp ((den κ lo).p env) (fun l b2 => Wp ((den κ hi).p env) (fun h b3 => Wp x.get (fun dx b4 => Op (slcD dx l h) fun r => Q r b4) b3) b2) b1) b) ∧
    (∀ Q b, Wp ((den κ .nil).p env) Q b = Q none b) ∧
    (∀ i Q b, Wp ((den κ (.var i)).p env) Q b = Op env[i]? fun s => Wp (Slot.read s) (fun x b1 => Wp (toI x) (fun i b2 => Q (some i) b2) b1) b) ∧
    (∀ i Q b, Wp ((den κ (.int i)).p env) Q b = Q (some i) b) ∧
    (∀ o x y Q b, Wp ((den κ (.bin o x y)).p env) Q b = Wp ((den κ (.bin o x y)).v env) (fun r b1 => Wp (toI r) (fun i b2 => Q (some i) b2) b1) b) ∧
    (∀ ks vs k Q b, Wp ((den κ (.dix ks vs k)).v env) Q b = Wp ((den κ k).v env) (fun y b1 => Wp y.get (fun dy b2 => Op (lookD ks vs dy) fun d => Q (.val d) b2) b1) b) ∧
    (∀ g k Q b, Wp ((den κ (.gix g k)).v env) Q b = Wp ((den κ k).v env) (fun y b1 => Wp y.get (fun dy b2 => Op (lookD (κ.g g).1 (κ.g g).2 dy) fun d => Q (.val d) b2) b1) b) ∧
    (∀ i e Q b, Wp (evS κ (.asgo i e) env) Q b = Wp ((den κ e).v env) (fun x b1 => FrO x fun d => setN env i (.own d) fun env' => Q (.nx env') b1) b) ∧
    (∀ i e Q b, Wp (evS κ (.asgb i e) env) Q b = Wp ((den κ e).v env) (fun x b1 => FrO x fun d => setN env i (.bx b1.length) fun env' => Q (.nx env') (b1 ++ [d])) b) ∧
    (∀ t e Q b, Wp (evS κ (.asg (.tup t) e) env) Q b = Wp ((den κ e).v env) (fun x b1 => Wp x.keep (fun d b2 => Op (setT (.tup t) d env) fun env' => Q (.nx env') b2) b1) b) ∧
    (∀ d K, FrO (.fr d) K = K d) ∧
    (∀ Q b, Wp (evS κ .retn env) Q b = Q (.rt (.val .non)) b) := by
  refine ⟨fun m o as Q b => ?_, fun a lo hi Q b => ?_, fun _ _ => rfl, fun i Q b => ?_, fun _ _ _ => rfl, fun o x y Q b => ?_, fun ks vs k Q b => ?_, fun g k Q b => ?_, fun i e Q b => ?_, fun i e Q b => ?_, fun t e Q b => ?_, fun _ _ => rfl, fun _ _ => rfl⟩
  · simp only [den, Pk.ofV, wpR_bind, wp_opt, wp_if]
    congr; funext x b1; congr; funext d0 b2
    by_cases h : meOk m d0 = true
    · rw [if_pos h]; simp [h]
    · rw [if_neg h]; simp [h, Wp, M.bad]
  · simp only [den, Pk.ofV, wpR_bind, wp_opt]
  · simp only [den, Pk.ofV, Pk.prt, wpR_bind, wp_opt]; rfl
  · simp only [den, Pk.ofV, Pk.prt, wpR_bind, wp_opt]; rfl
  · simp only [den, Pk.ofV, wpR_bind, wp_opt, gvalR]; rfl
  · simp only [den, Pk.ofV, wpR_bind, wp_opt, gvalR]; rfl
  · show Wp (M.bind ((den κ e).v env) _) Q b = _
    rw [wpR_bind]; congr; funext x b1
    cases x <;> rfl
  · show Wp (M.bind ((den κ e).v env) _) Q b = _
    rw [wpR_bind]; congr; funext x b1
    cases x <;> rfl
  · simp only [evS, wpR_bind, wp_opt]; rfl
theorem ops2 :
    (∀ x xs (K : D × D → Prop), Op (appD x (.lst xs)) K = (xs.length < LIM ∧ K (.non, .lst (xs ++ [x])))) ∧
    (∀ xs (K : R → Prop), Op (biD .tuple [.lst xs]) K = K (.val (.tup xs))) ∧
    (∀ xs (K : R → Prop), Op (biD .tuple [.tup xs]) K = K (.val (.tup xs))) ∧
    (∀ s (K : R → Prop), Op (biD .list [.str s]) K = (s.length ≤ LIM ∧ K (.fr (.lst (s.map fun c => .str [c]))))) ∧
    (∀ s (K : R → Prop), Op (biD .len [.str s]) K = (s.length ≤ LIM ∧ K (.val (.int s.length)))) ∧
    (∀ s xs (K : R → Prop), Op (meD .join (.str s) [.lst xs]) K = Op (strsOf xs) fun ys => (sumLen ys + ys.length * s.length ≤ LIM ∧ K (.val (.str (joinS s ys))))) ∧
    (∀ s, meOk .join (.str s) = true) ∧
    (∀ xs (K : List D → Prop), Op (itD (.lst xs)) K = K xs) ∧
    (∀ xs (K : List D → Prop), Op (itD (.tup xs)) K = K xs) ∧
    (∀ s (K : List D → Prop), Op (itD (.str s)) K = (s.length ≤ LIM ∧ K (s.map fun c => .str [c]))) ∧
    (∀ x y (K : R → Prop), Op (binD .add (.str x) (.str y)) K = (x.length + y.length ≤ LIM ∧ K (.val (.str (x ++ y))))) ∧
    (∀ x y (K : R → Prop), Op (binD .add (.lst x) (.lst y)) K = (x.length + y.length ≤ LIM ∧ K (.fr (.lst (x ++ y))))) ∧
    (∀ x y (K : R → Prop), Op (binD .add (.tup x) (.tup y)) K = (x.length + y.length ≤ LIM ∧ K (.val (.tup (x ++ y))))) ∧
    (∀ xs lo hi (K : R → Prop), Op (slcD (.lst xs) lo hi) K = K (.fr (.lst (cutL xs lo hi)))) ∧
    (∀ xs lo hi (K : R → Prop), Op (slcD (.tup xs) lo hi) K = K (.val (.tup (cutL xs lo hi)))) ∧
    (∀ s lo hi (K : R → Prop), Op (slcD (.str s) lo hi) K = (s.length ≤ LIM ∧ K (.val (.str (cutL s lo hi))))) ∧
    (∀ s i (K : D → Prop), Op (idxD (.str s) (.int i)) K = (s.length ≤ LIM ∧ Op (atD s i) fun c => K (.str [c]))) := by
  refine ⟨fun _ _ _ => op_if, fun _ _ => rfl, fun _ _ => rfl, fun _ _ => op_if, fun s K => ?_, fun s xs K => ?_, fun _ => rfl, fun _ _ => rfl, fun _ _ => rfl, fun _ _ => op_if, fun _ _ _ => op_if, fun _ _ _ => op_if, fun _ _ _ => op_if, fun _ _ _ _ => rfl, fun _ _ _ _ => rfl, fun _ _ _ _ => op_if, fun s i K => ?_⟩
  · show Op ((lenD (.str s)).map fun n => R.val (.int n)) K = _
    by_cases h : s.length ≤ LIM
    · simp [lenD, h, Op]
    · simp [lenD, h, Op]
  · show Op ((strsOf xs).bind fun ys => if sumLen ys + ys.length * s.length ≤ LIM then some (R.val (.str (joinS s ys))) else none) K = _
    cases strsOf xs with
    | none => rfl
    | some ys => exact op_if
  · by_cases h : s.length ≤ LIM
    · simp only [idxD, if_pos h]
      cases atD s i <;> simp [Op, h]
    · simp [idxD, h, Op]
theorem ops3 :
    (∀ d K, FrO (.fr d) K = K d) ∧
    (∀ (κ : Kp) t bd x env (Q : Fl → List D → Prop) b, Wp (M.bind (M.opt (setT t x env)) fun env1 => evS κ bd env1) Q b = Op (setT t x env) fun e => Wp (evS κ bd e) Q b) := by
  refine ⟨fun _ _ => rfl, fun κ t bd x env Q b => ?_⟩
  rw [wpR_bind, wp_opt]
theorem rng_at {n i : Nat} (hi : i < (rngD 0 (n : Int)).length) : (rngD 0 (n : Int))[i] = .int (i : Int) := by
  simp [rngD]
theorem rng_length {n : Nat} : (rngD 0 (n : Int)).length = n := by simp [rngD]
theorem big_nat {n : Nat} (h : n ≤ 1000000) : (big 0 && big (n : Int)) = true := by
  unfold big
  simp only [Bool.and_eq_true, decide_eq_true_eq]
  omega
def SetK (is : List Nat) (sls : List Slot) (env : List Slot) (K : List Slot → Prop) : Prop := K (setSs is sls env)
theorem pars (κ : Kp) (env : List Slot) :
    (∀ os is es Q b, Wp (evS κ (.par os is es) env) Q b = Wp (parM κ os es env) (fun sls b1 => SetK is sls env fun e => Q (.nx e) b1) b) ∧
    (∀ Q b, Wp (parM κ [] [] env) Q b = Q [] b) ∧
    (∀ o os e es Q b, Wp (parM κ (o :: os) (e :: es) env) Q b = Wp ((den κ e).v env) (fun x b1 => Wp (toSlot o x) (fun sl b2 => Wp (parM κ os es env) (fun r b3 => Q (sl :: r) b3) b2) b1) b) := by
  refine ⟨fun os is es Q b => ?_, fun _ _ => rfl, fun o os e es Q b => ?_⟩
  · simp only [evS, wpR_bind]; rfl
  · simp only [parM, wpR_bind]; rfl
theorem pars2 :
    (∀ env K, SetK [] [] env K = K env) ∧
    (∀ i is sl sls env K, SetK (i :: is) (sl :: sls) env K = setN env i sl fun e => SetK is sls e K) ∧
    (∀ x (Q : Slot → List D → Prop) b, Wp (toSlot false x) Q b = Wp x.keep (fun d b1 => Q (.val d) b1) b) ∧
    (∀ d (Q : Slot → List D → Prop) b, Wp (toSlot true (.fr d)) Q b = Q (.own d) b) ∧
    (∀ x j (K : R → Prop), Op (binD .mul (.str x) (.int j)) K = ((x.length ≤ 1000 ∧ -1000 ≤ j ∧ j ≤ 1000) ∧ K (.val (.str (rep j.toNat x))))) ∧
    (∀ x j (K : R → Prop), Op (binD .mul (.lst x) (.int j)) K = ((x.length ≤ 1000 ∧ -1000 ≤ j ∧ j ≤ 1000) ∧ K (.fr (.lst (rep j.toNat x))))) ∧
    (∀ x j (K : R → Prop), Op (binD .mul (.tup x) (.int j)) K = ((x.length ≤ 1000 ∧ x.isEmpty = false ∧ 1 ≤ j ∧ j ≤ 1000) ∧ K (.val (.tup (rep j.toNat x))))) := by
  refine ⟨fun _ _ => rfl, fun _ _ _ _ _ _ => rfl, fun x Q b => ?_, fun _ _ _ => rfl, fun _ _ _ => op_if, fun _ _ _ => op_if, fun _ _ _ => op_if⟩
  show Wp (M.bind x.keep fun d => M.pure (Slot.val d)) Q b = _
  rw [wpR_bind]
  rfl
end Sg

-- SgDraw
/-! SgDraw: the laws' common small defs: town, draw, pick. -/
namespace Sg
def fTown : Fn := { np := 1, n := 1, body := (.cons (.ret (.bin .add (.lst (.cons (.int 0) .nil)) (.bi .list (.cons (.var 0) .nil)))) .nil) }
def fDraw : Fn := { np := 3, n := 6, body := (.cons (.sub 1 (.int 0) (.bin .add (.idx (.var 1) (.int 0)) (.int 1))) (.cons (.ite (.cmp .eq (.var 0) (.lst .nil)) (.cons (.ret (.bin .mod (.bin .fdiv (.bin .mul (.bin .mul (.idx (.var 1) (.int 0)) (.idx (.var 1) (.int 0))) (.int 7)) (.int 3)) (.var 2))) .nil) .nil) (.cons (.asg (.nm 3) (.bin .mod (.idx (.var 1) (.int 0)) (.bi .len (.cons (.var 0) .nil)))) (.cons (.asg (.nm 4) (.idx (.var 1) (.bin .add (.int 1) (.var 3)))) (.cons (.ite (.and (.cmp .ge (.idx (.var 0) (.var 3)) (.bin .pow (.int 10) (.int 18))) (.cmp .gt (.var 4) (.int 0))) (.cons (.sub 1 (.bin .add (.int 1) (.var 3)) (.bin .fdiv (.var 4) (.var 2))) (.cons (.ret (.bin .mod (.var 4) (.var 2))) .nil)) .nil) (.cons (.asg (.nm 5) (.bin .mod (.bin .add (.idx (.var 0) (.var 3)) (.bin .mul (.int 104729) (.idx (.var 1) (.int 0)))) (.int 4294967291))) (.cons (.asg (.nm 5) (.bin .mod (.bin .pow (.var 5) (.int 5)) (.int 4294967279))) (.cons (.ret (.bin .mod (.bin .fdiv (.bin .mod (.bin .add (.bin .mul (.bin .fdiv (.var 5) (.int 64)) (.int 69621)) (.var 5)) (.int 4294967231)) (.int 8)) (.var 2))) .nil)))))))) }
def fPick (iD : Nat) : Fn := { np := 3, n := 3, body := (.cons (.ret (.idx (.var 2) (.call iD (.cons (.var 0) (.cons (.var 1) (.cons (.bi .len (.cons (.var 2) .nil)) .nil)))))) .nil) }

def Town (ns : List Int) (c : Nat) (b : List D) : Prop := ∃ (t : Nat) (us : List Int), b = [.lst (.int t :: us.map .int)] ∧ us.length = ns.length ∧ t ≤ c
theorem small_nat {n : Nat} (h : n < 2 ^ 64) : small (n : Int) = true := by
  unfold small
  simp only [Bool.and_eq_true, decide_eq_true_eq]
  omega
theorem bnd_nat {n : Nat} (h : n < 2 ^ 64) : bnd (n : Int) = true := by
  unfold bnd
  rw [Int.natAbs_natCast]
  exact decide_eq_true (Nat.lt_of_lt_of_le h (Nat.pow_le_pow_right (by decide) (by decide)))
theorem small_of {i : Int} (h0 : 0 ≤ i) (h : i < 2 ^ 64) : small i = true := by
  unfold small
  simp only [Bool.and_eq_true, decide_eq_true_eq]
  omega
theorem fmod_lt {i : Int} {m : Int} (h : 0 < m) : 0 ≤ i.fmod m ∧ i.fmod m < m := ⟨Int.fmod_nonneg_of_pos i h, Int.fmod_lt_of_pos i h⟩
theorem draw_eq (κ : Kp) (ns : List Int) (m : Nat) (c : Nat) (b : List D) (hm : 1 ≤ m) (hm2 : m ≤ 1000000) (hc : c < 2 ^ 60) (h : Town ns c b) :
    Wp (runF κ fDraw [.val (.scr ns), .bx 0, .val (.int m)]) (fun r b' => (∃ d : Nat, r = .val (.int d) ∧ d < m) ∧ Town ns (c + 1) b') b := by
  obtain ⟨t, us, rfl, hl, ht⟩ := h
  rw [wp_run rfl]
  unfold fDraw
  have bm : bnd (m : Int) = true := bnd_nat (by omega)
  have m0 : (m : Int) ≠ 0 := by omega
  have st : small ((t : Int) + 1) = true := small_of (by omega) (by omega)
  have b3 : ∀ n : Nat, n < 1000 → bnd (n : Int) = true := fun n h => bnd_nat (by omega)
  have res : ∀ i : Int, ∃ d : Nat, R.val (D.int (i.fmod m)) = R.val (D.int d) ∧ d < m := fun i => by
    obtain ⟨d, h1, h2⟩ := fmod_nat (i := i) hm
    exact ⟨d, by rw [h1], h2⟩
  have tw : Town ns (c + 1) [.lst (.int ((t : Int) + 1) :: us.map .int)] := ⟨t + 1, us, by simp, hl, by omega⟩
  cases ns with
  | nil =>
    simp only [List.map_cons, List.map_nil, A.slot, List.replicate, List.cons_append, List.nil_append, ↓rules, ↓forms, ↓stms, ↓ops, ↓wp_peek, ↓wp_modify, ↓wp_getbx, ↓nth, ↓nsetR, ↓chg, ↓wp_ret, ↓lits, List.isEmpty_nil, ↓reduceIte, List.length_map]
    refine ⟨by rw [st]; rfl, ?_, ⟨by decide, b3 3 (by decide)⟩, m0, res _, tw⟩
    have : small 7 = true := by decide
    rw [this]
    simp
  | cons n0 nr =>
    simp only [List.map_cons, List.map_nil, A.slot, List.replicate, List.cons_append, List.nil_append, ↓rules, ↓forms, ↓stms, ↓ops, ↓wp_peek, ↓wp_modify, ↓wp_getbx, ↓nth, ↓nsetR, ↓chg, ↓wp_ret, ↓lits, List.isEmpty_cons, Bool.false_eq_true, ↓reduceIte]
    obtain ⟨a, ha, hlt⟩ := fmod_nat (i := (t : Int) + 1) (m := nr.length + 1) (by omega)
    have hu : a < us.length := by rw [hl]; simpa using hlt
    refine ⟨by omega, ?_⟩
    rw [ha]
    have e1 : (1 + (a : Int)) = ((a + 1 : Nat) : Int) := by omega
    rw [e1]
    simp only [at_nat, List.getElem?_cons_succ, List.getElem?_map, List.getElem?_eq_getElem hu, Option.map_some]
    have hn : a < (n0 :: nr).length := by simpa using hlt
    simp only [List.getElem?_eq_getElem hn]
    simp only [↓rules, ↓ops]
    refine ⟨⟨by decide, by decide, by decide⟩, ?_⟩
    have c1 : (small 104729 || small ((t : Int) + 1) || bnd 104729 && bnd ((t : Int) + 1)) = true := by rw [st]; simp
    have c2 : ∀ x : Int, (small x || small 69621 || bnd x && bnd 69621) = true := fun x => by
      have : small 69621 = true := by decide
      rw [this]; simp
    have c3 : ∀ x : Int, small (x.fmod 4294967291) = true := fun x => by
      have := fmod_lt (i := x) (m := 4294967291) (by decide)
      exact small_of this.1 (by omega)
    have late : ∀ z : Int, (small 104729 || small ((t : Int) + 1) || bnd 104729 && bnd ((t : Int) + 1)) = true ∧ (4294967291 : Int) ≠ 0 ∧ ((0 : Int) ≤ 5 ∧ (5 : Int) ≤ 1000000 ∧ small (z.fmod 4294967291) = true) ∧ (4294967279 : Int) ≠ 0 ∧ ((64 : Int) ≠ 0 ∧ bnd 64 = true) ∧
        (small (((z.fmod 4294967291 ^ Int.toNat 5).fmod 4294967279).fdiv 64) || small 69621 || bnd (((z.fmod 4294967291 ^ Int.toNat 5).fmod 4294967279).fdiv 64) && bnd 69621) = true ∧ (4294967231 : Int) ≠ 0 ∧ ((8 : Int) ≠ 0 ∧ bnd 8 = true) ∧ (m : Int) ≠ 0 ∧
        (∃ d : Nat, R.val (D.int ((((((z.fmod 4294967291 ^ Int.toNat 5).fmod 4294967279).fdiv 64 * 69621 + (z.fmod 4294967291 ^ Int.toNat 5).fmod 4294967279).fmod 4294967231).fdiv 8).fmod m)) = R.val (D.int d) ∧ d < m) ∧
        Town (n0 :: nr) (c + 1) (List.take (([] : List D).length + 1) [D.lst (D.int ((t : Int) + 1) :: List.map D.int us)]) := fun z =>
      ⟨c1, by decide, ⟨by decide, by decide, c3 z⟩, by decide, ⟨by decide, b3 64 (by decide)⟩, c2 _, by decide, ⟨by decide, b3 8 (by decide)⟩, m0, res _, tw⟩
    split
    · split
      · refine ⟨⟨m0, bm⟩, ?_⟩
        rw [ix_nat]
        refine ⟨by simpa using hu, m0, res _, ?_⟩
        refine ⟨t + 1, us.set a (us[a].fdiv m), ?_, by simpa using hl, by omega⟩
        simp [List.map_set]
      · exact late _
    · exact late _

theorem town_eq {κ : Kp} {ns : List Int} (h : ns.length ≤ 63) (b : List D) : runF κ fTown [.val (.scr ns)] b = .ok (.fr (.lst (.int 0 :: ns.map .int))) (b.take b.length) := by
  have h : 1 + ns.length ≤ LIM := by unfold LIM; omega
  simp [runF, fTown, evS, den, Pk.ofV, M.bind, M.pure, M.opt, A.slot, Slot.read, R.get, R.keep, keeps, gets, biD, binD, h]
/-- a name for what draws: the call at place iD -/
def Draws (κ : Kp) (iD : Nat) : Prop := ∃ κ0 : Kp, κ.f iD = runF κ0 fDraw
theorem Draws.wp {κ : Kp} {iD : Nat} (h : Draws κ iD) {ns : List Int} {m c : Nat} {b : List D} {Q : R → List D → Prop} (hm : 1 ≤ m) (hm2 : m ≤ 1000000) (hc : c < 2 ^ 60) (ht : Town ns c b)
    (k : ∀ (d : Nat) b', d < m → Town ns (c + 1) b' → Q (.val (.int d)) b') : Wp (κ.f iD [.val (.scr ns), .bx 0, .val (.int m)]) Q b := by
  obtain ⟨κ0, e⟩ := h
  rw [e]
  exact (draw_eq κ0 ns m c b hm hm2 hc ht).mono fun r b' ⟨⟨d, e1, e2⟩, t⟩ => by rw [e1]; exact k d b' e2 t
theorem pick_wp {κ : Kp} {iD : Nat} (h : Draws κ iD) {ns : List Int} {c : Nat} {b : List D} {cs : List D} {Q : R → List D → Prop} (hm : 1 ≤ cs.length) (hm2 : cs.length ≤ 1000000) (hc : c < 2 ^ 60) (ht : Town ns c b)
    (k : ∀ (d : D) b', d ∈ cs → Town ns (c + 1) b' → Q (.val d) b') : Wp (runF κ (fPick iD) [.val (.scr ns), .bx 0, .val (.lst cs)]) Q b := by
  rw [wp_run rfl]
  unfold fPick
  simp only [List.map_cons, List.map_nil, A.slot, List.replicate, List.cons_append, List.nil_append, ↓rules, ↓forms, ↓stms, ↓ops, ↓nth, ↓nsetR, ↓chg, ↓wp_ret]
  refine h.wp hm hm2 hc ht fun d b' hd ht' => ?_
  obtain ⟨t, us, rfl, hl, hle⟩ := id ht'
  obtain ⟨t0, us0, rfl, _, _⟩ := id ht
  simp only [↓rules, ↓ops, at_nat, List.getElem?_eq_getElem hd, ↓chg]
  exact k _ _ (List.getElem_mem hd) ht'
end Sg

-- SgT
/-! SgT: the typed layer: plain Lean functions with draws, and what it is to follow them. -/
namespace Sg
/-- a run with draws -/
inductive T (α : Type) where
  | ok (a : α) | bad | draw (m : Nat) (k : Nat → T α)
namespace T
variable {α β γ : Type}
def bind : T α → (α → T β) → T β
  | ok a, f => f a
  | bad, _ => bad
  | draw m k, f => draw m fun d => (k d).bind f
/-- n: how many draws there were -/
def wpD : T α → Nat → (α → Nat → Prop) → Prop
  | ok a, n, P => P a n
  | bad, _, _ => False
  | draw m k, n, P => (1 ≤ m ∧ m ≤ 1000000 ∧ n < 2 ^ 60) ∧ ∀ d, d < m → (k d).wpD (n + 1) P
structure wp (t : T α) (n : Nat) (P : α → Nat → Prop) : Prop where
  it : t.wpD n P
theorem wp_iff {t : T α} {n : Nat} {P : α → Nat → Prop} : t.wp n P ↔ t.wpD n P := ⟨fun h => h.it, fun h => ⟨h⟩⟩
@[simp] theorem wp_ok {a : α} {n : Nat} {P : α → Nat → Prop} : (ok a).wp n P ↔ P a n := wp_iff
theorem wp_bad {n : Nat} {P : α → Nat → Prop} : ¬ (bad : T α).wp n P := fun h => h.it
theorem wp_draw {m n : Nat} {k : Nat → T α} {P : α → Nat → Prop} : (draw m k).wp n P ↔ (1 ≤ m ∧ m ≤ 1000000 ∧ n < 2 ^ 60) ∧ ∀ d, d < m → (k d).wp (n + 1) P :=
  ⟨fun h => ⟨h.it.1, fun d hd => ⟨h.it.2 d hd⟩⟩, fun h => ⟨h.1, fun d hd => (h.2 d hd).it⟩⟩
theorem wp_bind {f : α → T β} {P : β → Nat → Prop} : ∀ {t : T α} {n : Nat}, (t.bind f).wp n P ↔ t.wp n fun a n' => (f a).wp n' P
  | ok a, n => by rw [wp_ok]; exact Iff.rfl
  | bad, n => ⟨fun h => (wp_bad h).elim, fun h => (wp_bad h).elim⟩
  | draw m k, n => by
    show (draw m fun d => (k d).bind f).wp n P ↔ _
    rw [wp_draw, wp_draw]
    constructor
    · exact fun ⟨h, k1⟩ => ⟨h, fun d hd => wp_bind.mp (k1 d hd)⟩
    · exact fun ⟨h, k1⟩ => ⟨h, fun d hd => wp_bind.mpr (k1 d hd)⟩
theorem wp_mono {P Q : α → Nat → Prop} (h : ∀ a n, P a n → Q a n) : ∀ {t : T α} {n : Nat}, t.wp n P → t.wp n Q
  | ok a, n, w => wp_ok.mpr (h _ _ (wp_ok.mp w))
  | bad, n, w => (wp_bad w).elim
  | draw m k, n, w => wp_draw.mpr ⟨(wp_draw.mp w).1, fun d hd => wp_mono h ((wp_draw.mp w).2 d hd)⟩
@[simp] theorem ok_bind {a : α} {f : α → T β} : (ok a).bind f = f a := rfl
@[simp] theorem bad_bind {f : α → T β} : (bad : T α).bind f = bad := rfl
@[simp] theorem bind_okT : ∀ {t : T α}, t.bind ok = t
  | ok a => rfl
  | bad => rfl
  | draw m k => by show draw m (fun d => (k d).bind ok) = _; congr; funext d; exact bind_okT
@[simp] theorem bind_assoc {f : α → T β} {g : β → T γ} : ∀ {t : T α}, (t.bind f).bind g = t.bind fun a => (f a).bind g
  | ok a => rfl
  | bad => rfl
  | draw m k => by
    show draw m (fun d => ((k d).bind f).bind g) = draw m (fun d => (k d).bind _)
    congr; funext d; exact bind_assoc
@[simp] theorem ite_bind {c : Prop} [Decidable c] {x y : T α} {f : α → T β} : (if c then x else y).bind f = if c then x.bind f else y.bind f := by
  by_cases h : c <;> simp [h]
def opt : Option α → T α
  | some a => ok a
  | none => bad
@[simp] theorem opt_some {a : α} : opt (some a) = ok a := rfl
/-- no draws: what it is -/
theorem wp_eq {t : T α} {a : α} (h : t = ok a) {n : Nat} {P : α → Nat → Prop} : t.wp n P ↔ P a n := by rw [h]; exact wp_ok
def mapT (f : α → T β) : List α → T (List β)
  | [] => ok []
  | x :: xs => (f x).bind fun y => (mapT f xs).bind fun ys => ok (y :: ys)
def filT (c : α → T Bool) (f : α → T β) : List α → T (List β)
  | [] => ok []
  | x :: xs => (c x).bind fun k => if k then (f x).bind fun y => (filT c f xs).bind fun ys => ok (y :: ys) else filT c f xs
/-- lists of lists, joined -/
def catT (f : α → T (List β)) : List α → T (List β)
  | [] => ok []
  | x :: xs => (f x).bind fun y => (catT f xs).bind fun ys => ok (y ++ ys)
def fcatT (c : α → T Bool) (f : α → T (List β)) : List α → T (List β)
  | [] => ok []
  | x :: xs => (c x).bind fun k => if k then (f x).bind fun y => (fcatT c f xs).bind fun ys => ok (y ++ ys) else fcatT c f xs
/-- a loop that never returns -/
def forT {σ : Type} (f : α → σ → T σ) : List α → σ → T σ
  | [], s => ok s
  | x :: xs, s => (f x s).bind fun s' => forT f xs s'
end T
/-- the end of a block: on, or returned -/
inductive Stp (σ ρ : Type) where
  | nx (s : σ) | rt (r : ρ)
namespace T
variable {α β γ : Type}
def forX {σ ρ : Type} (f : α → σ → T (Stp σ ρ)) : List α → σ → T (Stp σ ρ)
  | [], s => ok (.nx s)
  | x :: xs, s => (f x s).bind fun r => match r with
    | .nx s' => forX f xs s'
    | .rt r => ok (.rt r)
def whlT {σ : Type} (c : σ → T Bool) (f : σ → T σ) : Nat → σ → T σ
  | 0, _ => bad
  | n + 1, s => (c s).bind fun k => if k then (f s).bind fun s' => whlT c f n s' else ok s
def whlX {σ ρ : Type} (c : σ → T Bool) (f : σ → T (Stp σ ρ)) : Nat → σ → T (Stp σ ρ)
  | 0, _ => bad
  | n + 1, s => (c s).bind fun k => if k then (f s).bind fun r => match r with
      | .nx s' => whlX c f n s'
      | .rt r => ok (.rt r)
    else ok (.nx s)
/-- behind a block that may have returned -/
def stp {σ ρ : Type} (f : σ → T ρ) : Stp σ ρ → T ρ
  | .nx s => f s
  | .rt r => ok r
/-- the same, within a block that may return -/
def stpX {σ τ ρ : Type} (f : σ → T (Stp τ ρ)) : Stp σ ρ → T (Stp τ ρ)
  | .nx s => f s
  | .rt r => ok (.rt r)
end T
/-! ### following -/
/-- box 0 is the town -/
def Bx (ns : List Int) (n : Nat) (rest b : List D) : Prop := ∃ (t : Nat) (us : List Int), b = .lst (.int t :: us.map .int) :: rest ∧ us.length = ns.length ∧ t ≤ n
def Sim (ns : List Int) {α β : Type} (m : M β) (t : T α) (R : α → β → Prop) : Prop :=
  ∀ (n : Nat) (rest b : List D) (P : α → Nat → Prop), Bx ns n rest b → t.wp n P → ∃ (x : β) (b' : List D) (a : α) (n' : Nat), m b = .ok x b' ∧ R a x ∧ P a n' ∧ Bx ns n' rest b'
section
variable {ns : List Int} {α α' β β' : Type} {R : α → β → Prop}
theorem sim_bind {m : M β} {g : β → M β'} {t : T α} {f : α → T α'} {R' : α' → β' → Prop} (h : Sim ns m t R) (k : ∀ a x, R a x → Sim ns (g x) (f a) R') : Sim ns (M.bind m g) (t.bind f) R' := by
  intro n rest b P hb hw
  obtain ⟨x, b1, a, n1, e, r, w, hb1⟩ := h n rest b _ hb (T.wp_bind.mp hw)
  obtain ⟨x2, b2, a2, n2, e2, r2, w2, hb2⟩ := k a x r n1 rest b1 P hb1 w
  exact ⟨x2, b2, a2, n2, by show (match m b with | .ok a b' => g a b' | .exn c b' => .exn c b' | .bad => .bad) = _; rw [e]; exact e2, r2, w2, hb2⟩
theorem sim_pure {x : β} {a : α} (h : R a x) : Sim ns (M.pure x) (T.ok a) R := fun n rest b P hb hw => ⟨x, b, a, n, rfl, h, T.wp_ok.mp hw, hb⟩
theorem sim_bad {m : M β} : Sim ns m T.bad R := fun _ _ _ _ _ hw => (T.wp_bad hw).elim
theorem sim_mono {m : M β} {t : T α} {R' : α → β → Prop} (h : Sim ns m t R) (k : ∀ a x, R a x → R' a x) : Sim ns m t R' := by
  intro n rest b P hb hw
  obtain ⟨x, b1, a, n1, e, r, w, hb1⟩ := h n rest b P hb hw
  exact ⟨x, b1, a, n1, e, k _ _ r, w, hb1⟩
theorem sim_some {o : Option β} {x : β} {a : α} (e : o = some x) (h : R a x) : Sim ns (M.opt o) (T.ok a) R := by rw [e]; exact sim_pure h
/-- the typed side changed at its end -/
theorem sim_map {m : M β} {t : T α} {f : α → α'} {R' : α' → β → Prop} (h : Sim ns m t R) (k : ∀ a x, R a x → R' (f a) x) : Sim ns m (t.bind fun a => T.ok (f a)) R' := by
  intro n rest b P hb hw
  obtain ⟨x, b1, a, n1, e, r, w, hb1⟩ := h n rest b _ hb (T.wp_bind.mp hw)
  exact ⟨x, b1, f a, n1, e, k _ _ r, T.wp_ok.mp w, hb1⟩
theorem sim_bind0 {m : M β} {g : β → M β'} {x : β} {t : T α} {R' : α → β' → Prop} (e : ∀ b, m b = .ok x b) (k : Sim ns (g x) t R') : Sim ns (M.bind m g) t R' := by
  intro n rest b P hb hw
  obtain ⟨x2, b2, a2, n2, e2, r2, w2, hb2⟩ := k n rest b P hb hw
  exact ⟨x2, b2, a2, n2, by show (match m b with | .ok a b' => g a b' | .exn c b' => .exn c b' | .bad => .bad) = _; rw [e]; exact e2, r2, w2, hb2⟩
theorem sim_ite {m m' : M β} {t t' : T α} {c : Bool} (h : Sim ns m t R) (h' : Sim ns m' t' R) : Sim ns (if c = true then m else m') (if c = true then t else t') R := by
  cases c
  · exact h'
  · exact h
theorem sim_eq {m : M β} {t t' : T α} (e : t = t') (h : Sim ns m t' R) : Sim ns m t R := by rw [e]; exact h
end
/-! ### how a value lies -/
inductive KR : D → R → Prop where
  | val (d : D) : KR d (.val d)
  | fr (xs : List D) : KR (.lst xs) (.fr (.lst xs))
inductive GR : D → R → Prop where
  | val (d : D) : GR d (.val d)
  | fr (d : D) : GR d (.fr d)
  | own (d : D) : GR d (.own d)
section
variable {α β γ : Type}
/-- may be kept -/
def KRe (e : α → D) (a : α) (r : R) : Prop := KR (e a) r
/-- fresh -/
def FRe (e : α → D) (a : α) (r : R) : Prop := r = .fr (e a)
/-- may be read -/
def GRe (e : α → D) (a : α) (r : R) : Prop := GR (e a) r
theorem KR.g {d : D} {r : R} (h : KR d r) : GR d r := by cases h <;> constructor
theorem KRe.g {e : α → D} {a : α} {r : R} (h : KRe e a r) : GRe e a r := KR.g h
theorem FRe.g {e : α → D} {a : α} {r : R} (h : FRe e a r) : GRe e a r := by unfold FRe at h; subst h; exact .fr _
theorem GR.get {d : D} {r : R} (h : GR d r) (b : List D) : r.get b = .ok d b := by cases h <;> rfl
theorem KR.keep {d : D} {r : R} (h : KR d r) (b : List D) : r.keep b = .ok d b := by cases h <;> rfl
theorem KR.arg {d : D} {r : R} (h : KR d r) (b : List D) : r.arg b = .ok (.val d) b := by cases h <;> rfl
/-! ### encoders -/
def eI (i : Int) : D := .int i
def eB (b : Bool) : D := .bl b
def eS (s : List Char) : D := .str s
def eC (c : Char) : D := .str [c]
def eN (_ : Unit) : D := .non
def eL (e : α → D) (xs : List α) : D := .lst (xs.map e)
def eT (e : α → D) (xs : List α) : D := .tup (xs.map e)
def eO (e : α → D) : Option α → D
  | none => .non
  | some a => e a
def eP (e : α → D) (e' : β → D) (p : α × β) : D := .tup [e p.1, e' p.2]
def eP3 (e : α → D) (e' : β → D) (e'' : γ → D) (p : α × β × γ) : D := .tup [e p.1, e' p.2.1, e'' p.2.2]
theorem FRe.k {e : α → D} {a : List α} {r : R} (h : FRe (eL e) a r) : KRe (eL e) a r := by unfold FRe at h; subst h; exact .fr _
theorem KR.int {i : Int} {r : R} (h : KR (.int i) r) : r = .val (.int i) := by cases h; rfl
theorem KR.bl {i : Bool} {r : R} (h : KR (.bl i) r) : r = .val (.bl i) := by cases h; rfl
theorem KR.str {i : List Char} {r : R} (h : KR (.str i) r) : r = .val (.str i) := by cases h; rfl
/-- equality is equality -/
structure FE [DecidableEq α] (e : α → D) (n : Nat) : Prop where
  eq : ∀ x y, eqD (e x) (e y) = decide (x = y)
  pl : ∀ x, (e x).plain = true
  dp : ∀ x, (e x).dep ≤ n
end
theorem fe_I : FE eI 0 := ⟨fun x y => by unfold eI eqD; exact Bool.beq_eq_decide_eq x y, fun _ => rfl, fun _ => Nat.le_refl _⟩
theorem fe_B : FE eB 0 := ⟨fun x y => by unfold eB eqD; exact Bool.beq_eq_decide_eq x y, fun _ => rfl, fun _ => Nat.le_refl _⟩
theorem fe_S : FE eS 0 := ⟨fun x y => by unfold eS eqD; exact Bool.beq_eq_decide_eq x y, fun _ => rfl, fun _ => Nat.le_refl _⟩
theorem fe_C : FE eC 0 := ⟨fun x y => by unfold eC eqD; rw [Bool.beq_eq_decide_eq]; simp, fun _ => rfl, fun _ => Nat.le_refl _⟩
theorem fe_N : FE eN 0 := ⟨fun x y => by unfold eN eqD; simp, fun _ => rfl, fun _ => Nat.le_refl _⟩
section
variable {α β γ : Type} [DecidableEq α] [DecidableEq β] [DecidableEq γ]
theorem fe_L_eq {e : α → D} {n : Nat} (h : FE e n) : ∀ xs ys : List α, eqL (xs.map e) (ys.map e) = decide (xs = ys)
  | [], [] => rfl
  | [], _ :: _ => rfl
  | _ :: _, [] => rfl
  | x :: xs, y :: ys => by
    show (eqD (e x) (e y) && eqL (xs.map e) (ys.map e)) = _
    rw [h.eq, fe_L_eq h xs ys]; simp
theorem fe_L_pl {e : α → D} {n : Nat} (h : FE e n) : ∀ xs : List α, plainL (xs.map e) = true
  | [] => rfl
  | x :: xs => by show ((e x).plain && plainL (xs.map e)) = true; rw [h.pl, fe_L_pl h xs]; rfl
theorem fe_L_dp {e : α → D} {n : Nat} (h : FE e n) : ∀ xs : List α, depL (xs.map e) ≤ n
  | [] => Nat.zero_le _
  | x :: xs => by
    show max (e x).dep (depL (xs.map e)) ≤ n
    have := h.dp x
    have := fe_L_dp h xs
    omega
theorem fe_L {e : α → D} {n : Nat} (h : FE e n) : FE (eL e) (n + 1) := ⟨fun x y => by unfold eL eqD; exact fe_L_eq h x y, fun x => fe_L_pl h x, fun x => Nat.succ_le_succ (fe_L_dp h x)⟩
theorem fe_T {e : α → D} {n : Nat} (h : FE e n) : FE (eT e) (n + 1) := ⟨fun x y => by unfold eT eqD; exact fe_L_eq h x y, fun x => fe_L_pl h x, fun x => Nat.succ_le_succ (fe_L_dp h x)⟩
theorem fe_P {e : α → D} {e' : β → D} {n m : Nat} (h : FE e n) (h' : FE e' m) : FE (eP e e') (max n m + 1) := by
  refine ⟨fun x y => ?_, fun x => ?_, fun x => ?_⟩
  · obtain ⟨x1, x2⟩ := x
    obtain ⟨y1, y2⟩ := y
    show (eqD (e x1) (e y1) && (eqD (e' x2) (e' y2) && true)) = _
    rw [h.eq, h'.eq]; simp
  · show ((e x.1).plain && ((e' x.2).plain && true)) = true
    rw [h.pl, h'.pl]; rfl
  · show max (e x.1).dep (max (e' x.2).dep 0) + 1 ≤ _
    have := h.dp x.1
    have := h'.dp x.2
    omega
theorem fe_P3 {e : α → D} {e' : β → D} {e'' : γ → D} {n m k : Nat} (h : FE e n) (h' : FE e' m) (h'' : FE e'' k) : FE (eP3 e e' e'') (max n (max m k) + 1) := by
  refine ⟨fun x y => ?_, fun x => ?_, fun x => ?_⟩
  · obtain ⟨x1, x2, x3⟩ := x
    obtain ⟨y1, y2, y3⟩ := y
    show (eqD (e x1) (e y1) && (eqD (e' x2) (e' y2) && (eqD (e'' x3) (e'' y3) && true))) = _
    rw [h.eq, h'.eq, h''.eq]; simp
  · show ((e x.1).plain && ((e' x.2.1).plain && ((e'' x.2.2).plain && true))) = true
    rw [h.pl, h'.pl, h''.pl]; rfl
  · show max (e x.1).dep (max (e' x.2.1).dep (max (e'' x.2.2).dep 0)) + 1 ≤ _
    have := h.dp x.1
    have := h'.dp x.2.1
    have := h''.dp x.2.2
    omega
/-- none is no such value -/
def NoN {α : Type} (e : α → D) : Prop := ∀ a, (e a).isNon = false
theorem non_ne {d : D} (h : d.isNon = false) : eqD .non d = false ∧ eqD d .non = false := by
  cases d <;> first | exact ⟨rfl, rfl⟩ | (cases h)
theorem fe_O {e : α → D} {n : Nat} (h : FE e n) (hn : NoN e) : FE (eO e) n := by
  refine ⟨fun x y => ?_, fun x => ?_, fun x => ?_⟩
  · cases x with
    | none => cases y with
      | none => rfl
      | some y => show eqD .non (e y) = _; rw [(non_ne (hn y)).1]; rfl
    | some x => cases y with
      | none => show eqD (e x) .non = _; rw [(non_ne (hn x)).2]; rfl
      | some y => show eqD (e x) (e y) = _; rw [h.eq]; simp
  · cases x with
    | none => rfl
    | some x => exact h.pl x
  · cases x with
    | none => exact Nat.zero_le _
    | some x => exact h.dp x
end
theorem nn_I : NoN eI := fun _ => rfl
theorem nn_B : NoN eB := fun _ => rfl
theorem nn_S : NoN eS := fun _ => rfl
theorem nn_C : NoN eC := fun _ => rfl
theorem nn_L {α : Type} {e : α → D} : NoN (eL e) := fun _ => rfl
theorem nn_T {α : Type} {e : α → D} : NoN (eT e) := fun _ => rfl
theorem nn_P {α β : Type} {e : α → D} {e' : β → D} : NoN (eP e e') := fun _ => rfl
theorem nn_P3 {α β γ : Type} {e : α → D} {e' : β → D} {e'' : γ → D} : NoN (eP3 e e' e'') := fun _ => rfl
end Sg

-- SgE
/-! SgE: rules: an expression is followed by a typed one. -/
namespace Sg
section
variable {ns : List Int} {κ : Kp} {env : List Slot} {α β γ ρ : Type}
/-- an operator followed, in all runs -/
def OSim {α β : Type} (o : Option β) (t : T α) (R : α → β → Prop) : Prop := ∀ ns, Sim ns (M.opt o) t R
theorem osim_some {o : Option β} {x : β} {a : α} {R : α → β → Prop} (e : o = some x) (h : R a x) : OSim o (T.ok a) R := fun ns => sim_some e h
theorem osim_bad {o : Option β} {R : α → β → Prop} : OSim o T.bad R := fun ns => sim_bad
theorem osim_if {o : Option β} {c : Prop} [Decidable c] {t : T α} {R : α → β → Prop} (h : c → OSim o t R) : OSim o (if c then t else T.bad) R := by
  by_cases k : c
  · rw [if_pos k]; exact h k
  · rw [if_neg k]; exact osim_bad
/-! ### expressions -/
theorem e_k {m : M R} {e : α → D} {t : T (List α)} (h : Sim ns m t (FRe (eL e))) : Sim ns m t (KRe (eL e)) := sim_mono h fun _ _ => FRe.k
theorem e_fg {m : M R} {e : α → D} {t : T α} (h : Sim ns m t (FRe e)) : Sim ns m t (GRe e) := sim_mono h fun _ _ => FRe.g
theorem e_g {m : M R} {e : α → D} {t : T α} (h : Sim ns m t (KRe e)) : Sim ns m t (GRe e) := sim_mono h fun _ _ => KRe.g
/-- something, where none may stand -/
theorem e_so {m : M R} {e : α → D} {t : T α} (h : Sim ns m t (KRe e)) : Sim ns m (t.bind fun a => T.ok (some a)) (KRe (eO e)) := sim_map h fun _ _ r => r
theorem e_no {e : α → D} : Sim ns ((den κ .non).v env) (T.ok none) (KRe (eO e)) := sim_pure (.val _)
theorem e_var {i : Nat} {e : α → D} {a : α} (h : env[i]? = some (.val (e a))) : Sim ns ((den κ (.var i)).v env) (T.ok a) (KRe e) := by
  show Sim ns (M.bind (M.opt env[i]?) Slot.read) _ _
  rw [h]; exact sim_pure (.val _)
theorem e_own {i : Nat} {e : α → D} {a : α} (h : env[i]? = some (.own (e a))) : Sim ns ((den κ (.var i)).v env) (T.ok a) (GRe e) := by
  show Sim ns (M.bind (M.opt env[i]?) Slot.read) _ _
  rw [h]; exact sim_pure (.own _)
theorem e_int {i : Int} : Sim ns ((den κ (.int i)).v env) (T.ok i) (KRe eI) := sim_pure (.val _)
theorem e_bl {i : Bool} : Sim ns ((den κ (.bl i)).v env) (T.ok i) (KRe eB) := sim_pure (.val _)
theorem e_str {s : List Char} : Sim ns ((den κ (.str s)).v env) (T.ok s) (KRe eS) := sim_pure (.val _)
theorem e_chr {c : Char} : Sim ns ((den κ (.str [c])).v env) (T.ok c) (KRe eC) := sim_pure (.val _)
theorem e_non : Sim ns ((den κ .non).v env) (T.ok ()) (KRe eN) := sim_pure (.val _)
/-- a sign as a text -/
theorem e_cs {m : M R} {t : T Char} (h : Sim ns m t (KRe eC)) : Sim ns m (t.bind fun a => T.ok [a]) (KRe eS) := sim_map h fun _ _ r => r
theorem e_bin {o : Bop} {x y : IE} {ta : T α} {tb : T β} {f : α → β → T γ} {ea : α → D} {eb : β → D} {Q : γ → R → Prop} (h1 : Sim ns ((den κ x).v env) ta (GRe ea)) (h2 : Sim ns ((den κ y).v env) tb (GRe eb)) (h : ∀ a b, OSim (binD o (ea a) (eb b)) (f a b) Q) :
    Sim ns ((den κ (.bin o x y)).v env) (ta.bind fun a => tb.bind fun b => f a b) Q :=
  sim_bind h1 fun a rx hx => sim_bind h2 fun b ry hy => sim_bind0 (GR.get hx) (sim_bind0 (GR.get hy) (h a b ns))
theorem e_neg {x : IE} {ta : T Int} (h1 : Sim ns ((den κ x).v env) ta (KRe eI)) : Sim ns ((den κ (.neg x)).v env) (ta.bind fun a => T.ok (-a)) (KRe eI) :=
  sim_bind h1 fun a rx hx => by
    rw [KR.int hx]
    exact sim_pure (.val _)
theorem e_cmp {o : Cop} {x y : IE} {ta : T α} {tb : T β} {f : α → β → T Bool} {ea : α → D} {eb : β → D} (h1 : Sim ns ((den κ x).v env) ta (GRe ea)) (h2 : Sim ns ((den κ y).v env) tb (GRe eb)) (h : ∀ a b, OSim (cmpD o (ea a) (eb b)) (f a b) Eq) :
    Sim ns ((den κ (.cmp o x y)).v env) (ta.bind fun a => tb.bind fun b => f a b) (KRe eB) :=
  sim_bind h1 fun a rx hx => sim_bind h2 fun b ry hy => sim_bind0 (GR.get hx) (sim_bind0 (GR.get hy) (by
    have := sim_bind (g := fun k => blR k) (f := fun k => T.ok k) (R' := KRe eB) (h a b ns) fun k k' e => by subst e; exact sim_pure (.val _)
    rwa [T.bind_okT] at this))
theorem e_cmp3 {o p : Cop} {x y z : IE} {ta : T α} {tb : T β} {tc : T γ} {f : α → β → T Bool} {g : β → γ → T Bool} {ea : α → D} {eb : β → D} {ec : γ → D} (h1 : Sim ns ((den κ x).v env) ta (GRe ea)) (h2 : Sim ns ((den κ y).v env) tb (GRe eb)) (h3 : Sim ns ((den κ z).v env) tc (GRe ec))
    (h : ∀ a b, OSim (cmpD o (ea a) (eb b)) (f a b) Eq) (k : ∀ b c, OSim (cmpD p (eb b) (ec c)) (g b c) Eq) :
    Sim ns ((den κ (.cmp3 o p x y z)).v env) (ta.bind fun a => tb.bind fun b => (f a b).bind fun q => if q = true then tc.bind fun c => g b c else T.ok false) (KRe eB) :=
  sim_bind h1 fun a rx hx => sim_bind h2 fun b ry hy => sim_bind0 (GR.get hx) (sim_bind0 (GR.get hy) (sim_bind (h a b ns) fun q q' e => by
    subst e
    refine sim_ite ?_ (sim_pure (.val _))
    refine sim_bind h3 fun c rz hz => sim_bind0 (GR.get hy) (sim_bind0 (GR.get hz) ?_)
    have := sim_bind (g := fun k => blR k) (f := fun k => T.ok k) (R' := KRe eB) (k b c ns) fun k k' e => by subst e; exact sim_pure (.val _)
    rwa [T.bind_okT] at this))
theorem e_not {x : IE} {ta : T Bool} (h1 : Sim ns ((den κ x).v env) ta (KRe eB)) : Sim ns ((den κ (.not x)).v env) (ta.bind fun a => T.ok (!a)) (KRe eB) :=
  sim_bind h1 fun a rx hx => by
    rw [KR.bl hx]
    exact sim_pure (.val _)
theorem e_and {x y : IE} {ta tb : T Bool} (h1 : Sim ns ((den κ x).v env) ta (KRe eB)) (h2 : Sim ns ((den κ y).v env) tb (KRe eB)) : Sim ns ((den κ (.and x y)).v env) (ta.bind fun a => if a = true then tb else T.ok false) (KRe eB) :=
  sim_bind h1 fun a rx hx => by
    rw [KR.bl hx]
    exact sim_bind0 (fun _ => rfl) (sim_ite h2 (sim_pure (.val _)))
theorem e_or {x y : IE} {ta tb : T Bool} (h1 : Sim ns ((den κ x).v env) ta (KRe eB)) (h2 : Sim ns ((den κ y).v env) tb (KRe eB)) : Sim ns ((den κ (.or x y)).v env) (ta.bind fun a => if a = true then T.ok true else tb) (KRe eB) :=
  sim_bind h1 fun a rx hx => by
    rw [KR.bl hx]
    exact sim_bind0 (fun _ => rfl) (sim_ite (sim_pure (.val _)) h2)
/-! tests -/
theorem t_not {x : IE} {ta : T Bool} (h1 : Sim ns ((den κ x).t env) ta Eq) : Sim ns ((den κ (.not x)).t env) (ta.bind fun a => T.ok (!a)) Eq :=
  sim_bind h1 fun a rx hx => by subst hx; exact sim_pure rfl
theorem t_and {x y : IE} {ta tb : T Bool} (h1 : Sim ns ((den κ x).t env) ta Eq) (h2 : Sim ns ((den κ y).t env) tb Eq) : Sim ns ((den κ (.and x y)).t env) (ta.bind fun a => if a = true then tb else T.ok false) Eq :=
  sim_bind h1 fun a rx hx => by subst hx; exact sim_ite h2 (sim_pure rfl)
theorem t_or {x y : IE} {ta tb : T Bool} (h1 : Sim ns ((den κ x).t env) ta Eq) (h2 : Sim ns ((den κ y).t env) tb Eq) : Sim ns ((den κ (.or x y)).t env) (ta.bind fun a => if a = true then T.ok true else tb) Eq :=
  sim_bind h1 fun a rx hx => by subst hx; exact sim_ite (sim_pure rfl) h2
theorem t_bl {i : Bool} : Sim ns ((den κ (.bl i)).t env) (T.ok i) Eq := sim_pure rfl
theorem t_v {x : IE} {ta : T Bool} (h : (den κ x).t = Pk.tru (den κ x).v) (h1 : Sim ns ((den κ x).v env) ta (GRe eB)) : Sim ns ((den κ x).t env) ta Eq := by
  rw [h]
  have := sim_bind (g := fun x => M.bind x.get fun d => M.opt (truD d)) (f := fun k => T.ok k) (R' := Eq) h1 fun a rx hx => sim_bind0 (GR.get hx) (sim_some rfl rfl)
  rwa [T.bind_okT] at this
theorem t_vl {e : α → D} {x : IE} {ta : T (List α)} (h : (den κ x).t = Pk.tru (den κ x).v) (h1 : Sim ns ((den κ x).v env) ta (GRe (eL e))) : Sim ns ((den κ x).t env) (ta.bind fun xs => T.ok (!xs.isEmpty)) Eq := by
  rw [h]
  exact sim_bind h1 fun a rx hx => sim_bind0 (GR.get hx) (sim_some rfl (by simp))
theorem e_ite {c x y : IE} {tc : T Bool} {ta tb : T α} {Q : α → R → Prop} (h0 : Sim ns ((den κ c).t env) tc Eq) (h1 : Sim ns ((den κ x).v env) ta Q) (h2 : Sim ns ((den κ y).v env) tb Q) : Sim ns ((den κ (.ite c x y)).v env) (tc.bind fun k => if k = true then ta else tb) Q :=
  sim_bind h0 fun a rx hx => by subst hx; exact sim_ite h1 h2
/-! rows: arguments, tuples, lists -/
def AC (ns : List Int) (κ : Kp) (env : List Slot) (as : IE) (t : T γ) (G : List A → M R) (Q : γ → R → Prop) : Prop := Sim ns (M.bind ((den κ as).r env) fun rs => M.bind (argsOf rs) G) t Q
theorem M.bind_assoc {α β γ : Type} (m : M α) (f : α → M β) (g : β → M γ) : M.bind (M.bind m f) g = M.bind m fun a => M.bind (f a) g := by
  funext b
  show (match (match m b with | .ok a b' => f a b' | .exn c b' => .exn c b' | .bad => .bad) with | .ok a b' => g a b' | .exn c b' => .exn c b' | .bad => .bad) = (match m b with | .ok a b' => M.bind (f a) g b' | .exn c b' => .exn c b' | .bad => .bad)
  cases m b <;> rfl
theorem a_nil {t : T γ} {G : List A → M R} {Q : γ → R → Prop} (h : Sim ns (G []) t Q) : AC ns κ env .nil t G Q := sim_bind0 (fun _ => rfl) (sim_bind0 (fun _ => rfl) h)
theorem M.pure_bind {α β : Type} (a : α) (f : α → M β) : M.bind (M.pure a) f = f a := rfl
theorem a_cons {x as : IE} {ta : T α} {f : α → T γ} {e : α → D} {G : List A → M R} {Q : γ → R → Prop} (h1 : Sim ns ((den κ x).v env) ta (KRe e)) (h : ∀ a, AC ns κ env as (f a) (fun xs => G (.val (e a) :: xs)) Q) : AC ns κ env (.cons x as) (ta.bind f) G Q := by
  show Sim ns (M.bind (M.bind ((den κ x).v env) fun x => M.bind ((den κ as).r env) fun xs => M.pure (x :: xs)) fun rs => M.bind (argsOf rs) G) _ _
  rw [M.bind_assoc]
  refine sim_bind h1 fun a rx hx => ?_
  rw [M.bind_assoc]
  have := h a
  unfold AC at this
  simp only [M.pure_bind]
  have e2 : ∀ rs : List R, M.bind (argsOf (rx :: rs)) G = M.bind (argsOf rs) fun xs => G (.val (e a) :: xs) := fun rs => by
    funext b
    show M.bind (M.bind rx.arg fun d => M.bind (argsOf rs) fun ds => M.pure (d :: ds)) G b = _
    have e3 : rx.arg = M.pure (.val (e a)) := by funext b; exact KR.arg hx b
    rw [e3, M.pure_bind, M.bind_assoc]; rfl
  simp only [e2]
  exact this
/-- a known slot handed on: no typed argument -/
theorem a_var {i : Nat} {d : D} {as : IE} {t : T γ} {G : List A → M R} {Q : γ → R → Prop} (h1 : env[i]? = some (.val d)) (h : AC ns κ env as t (fun xs => G (.val d :: xs)) Q) : AC ns κ env (.cons (.var i) as) t G Q := by
  have := a_cons (x := .var i) (e := fun _ : Unit => d) (f := fun _ => t) (ta := T.ok ()) (e_var h1) fun _ => h
  exact this
theorem a_box {i n : Nat} {as : IE} {t : T γ} {G : List A → M R} {Q : γ → R → Prop} (h1 : env[i]? = some (.bx n)) (h : AC ns κ env as t (fun xs => G (.bx n :: xs)) Q) : AC ns κ env (.cons (.var i) as) t G Q := by
  show Sim ns (M.bind (M.bind (M.bind (M.opt env[i]?) Slot.read) fun x => M.bind ((den κ as).r env) fun xs => M.pure (x :: xs)) fun rs => M.bind (argsOf rs) G) _ _
  rw [h1]
  show Sim ns (M.bind (M.bind ((den κ as).r env) fun xs => M.pure (R.bx n :: xs)) fun rs => M.bind (argsOf rs) G) _ _
  rw [M.bind_assoc]
  simp only [M.pure_bind]
  have e2 : ∀ rs : List R, M.bind (argsOf (R.bx n :: rs)) G = M.bind (argsOf rs) fun xs => G (.bx n :: xs) := fun rs => by
    show M.bind (M.bind (M.pure (A.bx n)) fun d => M.bind (argsOf rs) fun ds => M.pure (d :: ds)) G = _
    rw [M.pure_bind, M.bind_assoc]; rfl
  simp only [e2]
  exact h
theorem e_call {f : Nat} {as : IE} {t : T γ} {Q : γ → R → Prop} (h : AC ns κ env as t (κ.f f) Q) : Sim ns ((den κ (.call f as)).v env) t Q := h
/-- items kept -/
def KC (ns : List Int) (κ : Kp) (env : List Slot) (as : IE) (t : T γ) (G : List D → M R) (Q : γ → R → Prop) : Prop := Sim ns (M.bind ((den κ as).r env) fun rs => M.bind (keeps rs) G) t Q
theorem k_nil {a : γ} {G : List D → M R} {Q : γ → R → Prop} {r : R} (h1 : G [] = M.pure r) (h : Q a r) : KC ns κ env .nil (T.ok a) G Q := sim_bind0 (fun _ => rfl) (sim_bind0 (fun _ => rfl) (by rw [h1]; exact sim_pure h))
theorem k_cons {x as : IE} {ta : T α} {f : α → T γ} {e : α → D} {G : List D → M R} {Q : γ → R → Prop} (h1 : Sim ns ((den κ x).v env) ta (KRe e)) (h : ∀ a, KC ns κ env as (f a) (fun xs => G (e a :: xs)) Q) : KC ns κ env (.cons x as) (ta.bind f) G Q := by
  show Sim ns (M.bind (M.bind ((den κ x).v env) fun x => M.bind ((den κ as).r env) fun xs => M.pure (x :: xs)) fun rs => M.bind (keeps rs) G) _ _
  rw [M.bind_assoc]
  refine sim_bind h1 fun a rx hx => ?_
  rw [M.bind_assoc]
  have := h a
  unfold KC at this
  simp only [M.pure_bind]
  have e2 : ∀ rs : List R, M.bind (keeps (rx :: rs)) G = M.bind (keeps rs) fun xs => G (e a :: xs) := fun rs => by
    show M.bind (M.bind rx.keep fun d => M.bind (keeps rs) fun ds => M.pure (d :: ds)) G = _
    have e3 : rx.keep = M.pure (e a) := by funext b; exact KR.keep hx b
    rw [e3, M.pure_bind, M.bind_assoc]; rfl
  simp only [e2]
  exact this
theorem e_tup {as : IE} {t : T γ} {e : γ → D} (h : KC ns κ env as t (fun xs => M.pure (.val (.tup xs))) (KRe e)) : Sim ns ((den κ (.tup as)).v env) t (KRe e) := h
theorem e_lst {as : IE} {t : T γ} {e : γ → D} (h : KC ns κ env as t (fun xs => M.pure (.fr (.lst xs))) (FRe e)) : Sim ns ((den κ (.lst as)).v env) t (FRe e) := h
/-- the end of a tuple display -/
theorem k_tup {a : γ} {e : γ → D} {xs : List D} (h : e a = .tup xs) : KC ns κ env .nil (T.ok a) (fun ys => M.pure (.val (.tup (xs ++ ys)))) (KRe e) := k_nil (r := .val (e a)) (by simp [h]) (.val _)
theorem e_bi {f : Bi} {x : IE} {ta : T α} {e : α → D} {g : α → T γ} {Q : γ → R → Prop} (h1 : Sim ns ((den κ x).v env) ta (GRe e)) (h : ∀ a, OSim (biD f [e a]) (g a) Q) : Sim ns ((den κ (.bi f (.cons x .nil))).v env) (ta.bind g) Q := by
  show Sim ns (M.bind (M.bind ((den κ x).v env) fun x => M.bind (M.pure []) fun xs => M.pure (x :: xs)) fun rs => M.bind (gets rs) fun xs => M.opt (biD f xs)) _ _
  rw [M.bind_assoc]
  refine sim_bind h1 fun a rx hx => ?_
  show Sim ns (M.bind (gets [rx]) fun xs => M.opt (biD f xs)) _ _
  refine sim_bind0 (x := [e a]) (fun b => ?_) (h a ns)
  show M.bind rx.get (fun d => M.pure [d]) b = _
  have e3 : rx.get = M.pure (e a) := by funext b; exact GR.get hx b
  rw [e3]; rfl
theorem e_me {m : Me} {x y : IE} {ta : T α} {tb : T β} {ea : α → D} {eb : β → D} {g : α → β → T γ} {Q : γ → R → Prop} (h1 : Sim ns ((den κ x).v env) ta (GRe ea)) (h2 : Sim ns ((den κ y).v env) tb (GRe eb)) (hm : ∀ a, meOk m (ea a) = true) (h : ∀ a b, OSim (meD m (ea a) [eb b]) (g a b) Q) :
    Sim ns ((den κ (.me m x (.cons y .nil))).v env) (ta.bind fun a => tb.bind fun b => g a b) Q := by
  refine sim_bind h1 fun a rx hx => sim_bind0 (GR.get hx) ?_
  rw [if_pos (hm a)]
  show Sim ns (M.bind (M.bind ((den κ y).v env) fun x => M.bind (M.pure []) fun xs => M.pure (x :: xs)) fun rs => M.bind rx.get fun dx => M.bind (gets rs) fun xs => M.opt (meD m dx xs)) _ _
  rw [M.bind_assoc]
  refine sim_bind h2 fun b' ry hy => ?_
  show Sim ns (M.bind rx.get fun dx => M.bind (gets [ry]) fun xs => M.opt (meD m dx xs)) _ _
  refine sim_bind0 (GR.get hx) (sim_bind0 (x := [eb b']) (fun b => ?_) (h a b' ns))
  show M.bind ry.get (fun d => M.pure [d]) b = _
  have e3 : ry.get = M.pure (eb b') := by funext b; exact GR.get hy b
  rw [e3]; rfl
theorem e_idx {x y : IE} {ta : T α} {tb : T β} {ea : α → D} {eb : β → D} {ec : γ → D} {g : α → β → T γ} (h1 : Sim ns ((den κ x).v env) ta (GRe ea)) (h2 : Sim ns ((den κ y).v env) tb (GRe eb)) (h : ∀ a b, OSim (idxD (ea a) (eb b)) (g a b) (fun c d => d = ec c)) :
    Sim ns ((den κ (.idx x y)).v env) (ta.bind fun a => tb.bind fun b => g a b) (KRe ec) := by
  refine sim_bind h1 fun a rx hx => sim_bind h2 fun b ry hy => sim_bind0 (GR.get hx) (sim_bind0 (GR.get hy) ?_)
  have := sim_bind (g := fun d => M.pure (R.val d)) (f := fun k => T.ok k) (R' := KRe ec) (h a b ns) fun k k' e => by subst e; exact sim_pure (.val _)
  rwa [T.bind_okT] at this
/-! parts of slices -/
theorem p_no : Sim ns ((den κ .nil).p env) (T.ok none) Eq := sim_pure rfl
theorem p_v {x : IE} {ta : T Int} (h : (den κ x).p = Pk.prt (den κ x).v) (h1 : Sim ns ((den κ x).v env) ta (KRe eI)) : Sim ns ((den κ x).p env) (ta.bind fun a => T.ok (some a)) Eq := by
  rw [h]
  refine sim_bind h1 fun a rx hx => ?_
  rw [KR.int hx]
  exact sim_pure rfl
theorem e_slc {x lo hi : IE} {ta : T α} {tl th : T (Option Int)} {ea : α → D} {g : α → Option Int → Option Int → T γ} {Q : γ → R → Prop} (h1 : Sim ns ((den κ x).v env) ta (GRe ea)) (h2 : Sim ns ((den κ lo).p env) tl Eq) (h3 : Sim ns ((den κ hi).p env) th Eq) (h : ∀ a l u, OSim (slcD (ea a) l u) (g a l u) Q) :
    Sim ns ((den κ (.slc x lo hi)).v env) (ta.bind fun a => tl.bind fun l => th.bind fun u => g a l u) Q := by
  refine sim_bind h1 fun a rx hx => sim_bind h2 fun l l' el => sim_bind h3 fun u u' eu => sim_bind0 (GR.get hx) ?_
  subst el; subst eu
  exact h a l u ns
/-! constant dicts -/
theorem kap_gg {p : List Fn} {g : Nat → List D × List D} {k : Nat} : (kap p g k).g = g := by cases k <;> rfl
theorem e_gix {G : Nat → List D × List D} {g : Nat} {x : IE} {ta : T α} {ea : α → D} {ec : γ → D} {f : α → T γ} (hg : κ.g = G) (h1 : Sim ns ((den κ x).v env) ta (GRe ea)) (h : ∀ a, OSim (lookD (G g).1 (G g).2 (ea a)) (f a) (fun c d => d = ec c)) : Sim ns ((den κ (.gix g x)).v env) (ta.bind f) (KRe ec) := by
  subst hg
  refine sim_bind h1 fun a rx hx => sim_bind0 (GR.get hx) ?_
  have := sim_bind (g := fun d => M.pure (R.val d)) (f := fun k => T.ok k) (R' := KRe ec) (h a ns) fun k k' e => by subst e; exact sim_pure (.val _)
  rwa [T.bind_okT] at this
theorem e_dix {ks vs : List D} {x : IE} {ta : T α} {ea : α → D} {ec : γ → D} {f : α → T γ} (h1 : Sim ns ((den κ x).v env) ta (GRe ea)) (h : ∀ a, OSim (lookD ks vs (ea a)) (f a) (fun c d => d = ec c)) : Sim ns ((den κ (.dix ks vs x)).v env) (ta.bind f) (KRe ec) := by
  refine sim_bind h1 fun a rx hx => sim_bind0 (GR.get hx) ?_
  have := sim_bind (g := fun d => M.pure (R.val d)) (f := fun k => T.ok k) (R' := KRe ec) (h a ns) fun k k' e => by subst e; exact sim_pure (.val _)
  rwa [T.bind_okT] at this
theorem e_gin {G : Nat → List D × List D} {g : Nat} {n : Bool} {x : IE} {ta : T α} {ea : α → D} {f : α → Bool} (hg : κ.g = G) (h1 : Sim ns ((den κ x).v env) ta (KRe ea)) (hs : ∀ a, ∃ s, ea a = .str s) (h : ∀ a, (lookD (G g).1 (G g).2 (ea a)).isSome = f a) : Sim ns ((den κ (.gin g n x)).v env) (ta.bind fun a => T.ok (n != f a)) (KRe eB) := by
  subst hg
  refine sim_bind h1 fun a rx hx => ?_
  obtain ⟨s, es⟩ := hs a
  have hh := h a
  unfold KRe at hx
  rw [es] at hx hh
  rw [KR.str hx]
  show Sim ns (blR (n != (lookD (κ.g g).1 (κ.g g).2 (.str s)).isSome)) _ _
  rw [hh]
  exact sim_pure (.val _)
/-! what is walked -/
def SI (ns : List Int) (κ : Kp) (env : List Slot) (x : IE) (t : T (List α)) (e : α → D) : Prop := Sim ns ((den κ x).i env) t fun xs ds => ds = xs.map e
/-- a value that is walked -/
def IT (e : β → D) (g : β → T (List α)) (ec : α → D) : Prop := ∀ a, OSim (itD (e a)) (g a) fun xs ds => ds = xs.map ec
theorem i_v {x : IE} {ta : T β} {e : β → D} {g : β → T (List α)} {ec : α → D} (h : (den κ x).i = Pk.itr (den κ x).v) (h1 : Sim ns ((den κ x).v env) ta (KRe e)) (hi : IT e g ec) : SI ns κ env x (ta.bind g) ec := by
  unfold SI
  rw [h]
  exact sim_bind h1 fun a rx hx => sim_bind0 (KR.keep hx) (hi a ns)
def rngI (lo hi : Int) : List Int := (List.range (hi - lo).toNat).map fun (i : Nat) => lo + (i : Int)
def rngT (lo hi : Int) : T (List Int) := if (big lo && big hi) = true then T.ok (rngI lo hi) else T.bad
theorem rngI_map (lo hi : Int) : (rngI lo hi).map eI = rngD lo hi := by unfold rngI rngD; rw [List.map_map]; rfl
theorem i_rng1 {x : IE} {ta : T Int} (h1 : Sim ns ((den κ x).v env) ta (KRe eI)) : SI ns κ env (.rng1 x) (ta.bind fun a => rngT 0 a) eI := by
  refine sim_bind h1 fun a rx hx => ?_
  rw [KR.int hx]
  refine sim_bind0 (fun _ => rfl) ?_
  unfold rngR rngT
  refine sim_ite (sim_pure (rngI_map _ _).symm) sim_bad
theorem i_rng2 {x y : IE} {ta tb : T Int} (h1 : Sim ns ((den κ x).v env) ta (KRe eI)) (h2 : Sim ns ((den κ y).v env) tb (KRe eI)) : SI ns κ env (.rng2 x y) (ta.bind fun a => tb.bind fun b => rngT a b) eI := by
  refine sim_bind h1 fun a rx hx => sim_bind h2 fun b ry hy => ?_
  rw [KR.int hx, KR.int hy]
  refine sim_bind0 (fun _ => rfl) (sim_bind0 (fun _ => rfl) ?_)
  unfold rngR rngT
  refine sim_ite (sim_pure (rngI_map _ _).symm) sim_bad
theorem e_lr1 {x : IE} {ta : T Int} (h1 : Sim ns ((den κ x).v env) ta (KRe eI)) : Sim ns ((den κ (.lr1 false x)).v env) (ta.bind fun a => rngT 0 a) (FRe (eL eI)) := by
  refine sim_bind h1 fun a rx hx => ?_
  rw [KR.int hx]
  refine sim_bind0 (fun _ => rfl) ?_
  unfold rngV rngT
  refine sim_ite (sim_pure ?_) sim_bad
  unfold FRe eL; rw [rngI_map]; rfl
theorem e_lr1t {x : IE} {ta : T Int} (h1 : Sim ns ((den κ x).v env) ta (KRe eI)) : Sim ns ((den κ (.lr1 true x)).v env) (ta.bind fun a => rngT 0 a) (KRe (eT eI)) := by
  refine sim_bind h1 fun a rx hx => ?_
  rw [KR.int hx]
  refine sim_bind0 (fun _ => rfl) ?_
  unfold rngV rngT
  refine sim_ite (sim_pure ?_) sim_bad
  unfold KRe eT; rw [rngI_map]; exact .val _
theorem e_lr2 {x y : IE} {ta tb : T Int} (h1 : Sim ns ((den κ x).v env) ta (KRe eI)) (h2 : Sim ns ((den κ y).v env) tb (KRe eI)) : Sim ns ((den κ (.lr2 false x y)).v env) (ta.bind fun a => tb.bind fun b => rngT a b) (FRe (eL eI)) := by
  refine sim_bind h1 fun a rx hx => sim_bind h2 fun b ry hy => ?_
  rw [KR.int hx, KR.int hy]
  refine sim_bind0 (fun _ => rfl) (sim_bind0 (fun _ => rfl) ?_)
  unfold rngV rngT
  refine sim_ite (sim_pure ?_) sim_bad
  unfold FRe eL; rw [rngI_map]; rfl
theorem e_lr2t {x y : IE} {ta tb : T Int} (h1 : Sim ns ((den κ x).v env) ta (KRe eI)) (h2 : Sim ns ((den κ y).v env) tb (KRe eI)) : Sim ns ((den κ (.lr2 true x y)).v env) (ta.bind fun a => tb.bind fun b => rngT a b) (KRe (eT eI)) := by
  refine sim_bind h1 fun a rx hx => sim_bind h2 fun b ry hy => ?_
  rw [KR.int hx, KR.int hy]
  refine sim_bind0 (fun _ => rfl) (sim_bind0 (fun _ => rfl) ?_)
  unfold rngV rngT
  refine sim_ite (sim_pure ?_) sim_bad
  unfold KRe eT; rw [rngI_map]; exact .val _
theorem i_zip {α' β' : Type} {x y : IE} {ta : T β} {tb : T β'} {e : β → D} {e' : β' → D} {g : β → T (List α)} {g' : β' → T (List α')} {ec : α → D} {ec' : α' → D} (h1 : Sim ns ((den κ x).v env) ta (KRe e)) (h2 : Sim ns ((den κ y).v env) tb (KRe e')) (hi : IT e g ec) (hi' : IT e' g' ec') :
    SI ns κ env (.zip x y) (ta.bind fun a => tb.bind fun b => (g a).bind fun xs => (g' b).bind fun ys => T.ok (xs.zip ys)) (eP ec ec') := by
  refine sim_bind h1 fun a rx hx => sim_bind h2 fun b ry hy => sim_bind0 (KR.keep hx) (sim_bind0 (KR.keep hy) (sim_bind (hi a ns) fun xs ds e1 => sim_bind (hi' b ns) fun ys ds' e2 => sim_pure ?_))
  subst e1; subst e2
  unfold zipD
  rw [List.zip_map, List.map_map]; rfl
def enumI (xs : List α) : List (Int × α) := xs.zipIdx.map fun p => ((p.2 : Int), p.1)
theorem i_enum {x : IE} {ta : T β} {e : β → D} {g : β → T (List α)} {ec : α → D} (h1 : Sim ns ((den κ x).v env) ta (KRe e)) (hi : IT e g ec) : SI ns κ env (.enum x) (ta.bind fun a => (g a).bind fun xs => T.ok (enumI xs)) (eP eI ec) := by
  refine sim_bind h1 fun a rx hx => sim_bind0 (KR.keep hx) (sim_bind (hi a ns) fun xs ds e1 => sim_pure ?_)
  subst e1
  unfold enumD enumI
  rw [List.zipIdx_map, List.map_map, List.map_map]; rfl
theorem it_L {e : α → D} : IT (eL e) T.ok e := fun a => osim_some rfl rfl
theorem it_T {e : α → D} : IT (eT e) T.ok e := fun a => osim_some rfl rfl
def chkT (n : Nat) (a : α) : T α := if n ≤ LIM then T.ok a else T.bad
theorem it_S : IT eS (fun s => chkT s.length s) eC := fun s => osim_if fun h => osim_some (if_pos h) rfl
theorem it_ns {e : Unit → D} {xs : List Int} (h : e () = .scr xs) : IT e (fun _ => T.ok xs) eI := fun s => osim_some (by cases s; rw [h]; rfl) rfl
/-! comprehensions -/
theorem sim_nox {m : M β} {t : T α} {R : α → β → Prop} (h : Sim ns m t R) : Sim ns (M.nox m) t R := by
  intro n rest b P hb hw
  obtain ⟨x, b1, a, n1, e, r, w, hb1⟩ := h n rest b P hb hw
  exact ⟨x, b1, a, n1, by unfold M.nox; rw [e], r, w, hb1⟩
theorem lc_go {g : D → Option (List Slot)} {c : List Slot → M Bool} {v : List Slot → M (List D)} {e : α → D} {ec : β → D} {tc : α → T Bool} {tf : α → T (List β)} (env1 : α → List Slot) (he : ∀ a, g (e a) = some (env1 a)) (hc : ∀ a, Sim ns (c (env1 a)) (tc a) Eq) (hf : ∀ a, Sim ns (v (env1 a)) (tf a) fun ys ds => ds = ys.map ec) :
    ∀ xs : List α, Sim ns (lcGo (lcT g c v) (xs.map e)) (T.fcatT tc tf xs) fun ys ds => ds = ys.map ec
  | [] => sim_pure rfl
  | x :: xs => by
    show Sim ns (M.bind (lcT g c v (e x)) fun r => M.bind (lcGo (lcT g c v) (xs.map e)) fun rs => M.pure (r ++ rs)) _ _
    have : lcT g c v (e x) = M.bind (c (env1 x)) fun k => if k then v (env1 x) else M.pure [] := by
      unfold lcT; rw [he]; rfl
    rw [this, M.bind_assoc]
    refine sim_bind (hc x) fun k k' ek => ?_
    subst ek
    cases k
    · show Sim ns (M.bind (M.pure []) fun r => M.bind (lcGo (lcT g c v) (xs.map e)) fun rs => M.pure (r ++ rs)) (T.fcatT tc tf xs) _
      have := sim_bind (g := fun rs => M.pure ([] ++ rs)) (f := fun ys => T.ok ys) (R' := fun (ys : List β) (ds : List D) => ds = ys.map ec) (lc_go env1 he hc hf xs) fun ys ds e => sim_pure (by simpa using e)
      rw [T.bind_okT] at this
      exact this
    · refine sim_bind (hf x) fun ys ds e1 => sim_bind (lc_go env1 he hc hf xs) fun zs ds' e2 => sim_pure ?_
      rw [e1, e2, List.map_append]
theorem fcat_fil {tc : α → T Bool} {tf : α → T β} : ∀ xs : List α, T.fcatT tc (fun a => (tf a).bind fun y => T.ok [y]) xs = T.filT tc tf xs
  | [] => rfl
  | x :: xs => by
    show (tc x).bind _ = (tc x).bind _
    congr; funext k
    cases k
    · exact fcat_fil xs
    · show ((tf x).bind fun y => T.ok [y]).bind _ = (tf x).bind _
      rw [T.bind_assoc]
      congr; funext y
      show (T.fcatT tc _ xs).bind _ = _
      rw [fcat_fil xs]; rfl
theorem fil_map {tf : α → T β} : ∀ xs : List α, T.filT (fun _ => T.ok true) tf xs = T.mapT tf xs
  | [] => rfl
  | x :: xs => by
    show (tf x).bind _ = (tf x).bind _
    congr; funext y
    rw [fil_map xs]
theorem fcat_cat {tf : α → T (List β)} : ∀ xs : List α, T.fcatT (fun _ => T.ok true) tf xs = T.catT tf xs
  | [] => rfl
  | x :: xs => by
    show (tf x).bind _ = (tf x).bind _
    congr; funext y
    rw [fcat_cat xs]
theorem keep_1 {v : List Slot → M R} {env : List Slot} {t : T β} {ec : β → D} (h : Sim ns (v env) t (KRe ec)) : Sim ns (keep1 v env) (t.bind fun y => T.ok [y]) fun ys ds => ds = ys.map ec :=
  sim_bind h fun a rx hx => sim_bind0 (KR.keep hx) (sim_pure rfl)
/-- with a test -/
theorem e_lcf {own : List Nat} {tg : Tg} {s c x : IE} {ts : T (List α)} {e : α → D} {ec : β → D} {tc : α → T Bool} {tf : α → T β} (env1 : α → List Slot) (hs : SI ns κ env s ts e) (he : ∀ a, setT tg (e a) (wipeE env own) = some (env1 a)) (hc : ∀ a, Sim ns ((den κ c).t (env1 a)) (tc a) Eq) (hf : ∀ a, Sim ns ((den κ x).v (env1 a)) (tf a) (KRe ec)) :
    Sim ns ((den κ (.lc own tg s c x)).v env) (ts.bind fun xs => T.filT tc tf xs) (FRe (eL ec)) := by
  refine sim_bind hs fun xs ds e1 => ?_
  subst e1
  have := sim_bind (g := fun ys => M.pure (R.fr (.lst ys))) (f := fun ys => T.ok ys) (R' := FRe (eL ec)) (sim_nox (lc_go (e := e) (g := fun x => setT tg x (wipeE env own)) env1 he hc (fun a => keep_1 (hf a)) xs)) fun ys ds e => by subst e; exact sim_pure rfl
  rw [T.bind_okT, fcat_fil] at this
  exact this
/-- without -/
theorem e_lc {own : List Nat} {tg : Tg} {s x : IE} {ts : T (List α)} {e : α → D} {ec : β → D} {tf : α → T β} (env1 : α → List Slot) (hs : SI ns κ env s ts e) (he : ∀ a, setT tg (e a) (wipeE env own) = some (env1 a)) (hf : ∀ a, Sim ns ((den κ x).v (env1 a)) (tf a) (KRe ec)) :
    Sim ns ((den κ (.lc own tg s (.bl true) x)).v env) (ts.bind fun xs => T.mapT tf xs) (FRe (eL ec)) := by
  have := e_lcf (tc := fun _ => T.ok true) env1 hs he (fun a => t_bl) hf
  simp only [fil_map] at this
  exact this
def fitT (xs : List α) : T (List α) := if xs.length ≤ LIM then T.ok xs else T.bad
theorem e_lc2f {own own2 : List Nat} {tg tg2 : Tg} {s c s2 c2 x : IE} {ts : T (List α)} {e : α → D} {e2 : γ → D} {ec : β → D} {tc : α → T Bool} {ts2 : α → T (List γ)} {tc2 : α → γ → T Bool} {tf : α → γ → T β} (env1 : α → List Slot) (env2 : α → γ → List Slot)
    (hs : SI ns κ env s ts e) (he : ∀ a, setT tg (e a) (wipeE env own) = some (env1 a)) (hc : ∀ a, Sim ns ((den κ c).t (env1 a)) (tc a) Eq) (hs2 : ∀ a, SI ns κ (env1 a) s2 (ts2 a) e2) (he2 : ∀ a a2, setT tg2 (e2 a2) (wipeE (env1 a) own2) = some (env2 a a2))
    (hc2 : ∀ a a2, Sim ns ((den κ c2).t (env2 a a2)) (tc2 a a2) Eq) (hf : ∀ a a2, Sim ns ((den κ x).v (env2 a a2)) (tf a a2) (KRe ec)) :
    Sim ns ((den κ (.lc2 own own2 tg s c tg2 s2 c2 x)).v env) (ts.bind fun xs => (T.fcatT tc (fun a => (ts2 a).bind fun ys => T.filT (tc2 a) (tf a) ys) xs).bind fitT) (FRe (eL ec)) := by
  refine sim_bind hs fun xs ds e1 => ?_
  subst e1
  refine sim_bind (R := fun ys ds => ds = ys.map ec) (sim_nox (lc_go (e := e) (g := fun x => setT tg x (wipeE env own)) env1 he hc (fun a => ?_) xs)) fun ys ds e => ?_
  · refine sim_bind (hs2 a) fun ys ds e3 => ?_
    subst e3
    have := lc_go (ns := ns) (e := e2) (g := fun x => setT tg2 x (wipeE (env1 a) own2)) (env2 a) (he2 a) (hc2 a) (fun a2 => keep_1 (hf a a2)) ys
    rw [fcat_fil] at this
    exact this
  · subst e
    unfold fits fitT
    by_cases h : ys.length ≤ LIM
    · rw [if_pos (by simpa using h), if_pos h]; exact sim_pure rfl
    · rw [if_neg h]; exact sim_bad
theorem e_lc2 {own own2 : List Nat} {tg tg2 : Tg} {s s2 x : IE} {ts : T (List α)} {e : α → D} {e2 : γ → D} {ec : β → D} {ts2 : α → T (List γ)} {tf : α → γ → T β} (env1 : α → List Slot) (env2 : α → γ → List Slot)
    (hs : SI ns κ env s ts e) (he : ∀ a, setT tg (e a) (wipeE env own) = some (env1 a)) (hs2 : ∀ a, SI ns κ (env1 a) s2 (ts2 a) e2) (he2 : ∀ a a2, setT tg2 (e2 a2) (wipeE (env1 a) own2) = some (env2 a a2)) (hf : ∀ a a2, Sim ns ((den κ x).v (env2 a a2)) (tf a a2) (KRe ec)) :
    Sim ns ((den κ (.lc2 own own2 tg s (.bl true) tg2 s2 (.bl true) x)).v env) (ts.bind fun xs => (T.catT (fun a => (ts2 a).bind fun ys => T.mapT (tf a) ys) xs).bind fitT) (FRe (eL ec)) := by
  have := e_lc2f (tc := fun _ => T.ok true) (tc2 := fun _ _ => T.ok true) env1 env2 hs he (fun a => t_bl) hs2 he2 (fun _ _ => t_bl) hf
  simp only [fcat_cat, fil_map] at this
  exact this
theorem e_lc2c {own own2 : List Nat} {tg tg2 : Tg} {s s2 c2 x : IE} {ts : T (List α)} {e : α → D} {e2 : γ → D} {ec : β → D} {ts2 : α → T (List γ)} {tc2 : α → γ → T Bool} {tf : α → γ → T β} (env1 : α → List Slot) (env2 : α → γ → List Slot)
    (hs : SI ns κ env s ts e) (he : ∀ a, setT tg (e a) (wipeE env own) = some (env1 a)) (hs2 : ∀ a, SI ns κ (env1 a) s2 (ts2 a) e2) (he2 : ∀ a a2, setT tg2 (e2 a2) (wipeE (env1 a) own2) = some (env2 a a2)) (hc2 : ∀ a a2, Sim ns ((den κ c2).t (env2 a a2)) (tc2 a a2) Eq) (hf : ∀ a a2, Sim ns ((den κ x).v (env2 a a2)) (tf a a2) (KRe ec)) :
    Sim ns ((den κ (.lc2 own own2 tg s (.bl true) tg2 s2 c2 x)).v env) (ts.bind fun xs => (T.catT (fun a => (ts2 a).bind fun ys => T.filT (tc2 a) (tf a) ys) xs).bind fitT) (FRe (eL ec)) := by
  have := e_lc2f (tc := fun _ => T.ok true) (tc2 := tc2) env1 env2 hs he (fun a => t_bl) hs2 he2 hc2 hf
  simp only [fcat_cat] at this
  exact this
end
end Sg

-- SgO
/-! SgO: the operators, typed. -/
namespace Sg
def mulT (i j : Int) : T Int := if (small i || small j || (bnd i && bnd j)) = true then T.ok (i * j) else T.bad
def fdivT (i j : Int) : T Int := if j ≠ 0 ∧ bnd j = true then T.ok (i.fdiv j) else T.bad
def modT (i j : Int) : T Int := if j ≠ 0 then T.ok (i.fmod j) else T.bad
def powT (i j : Int) : T Int := if 0 ≤ j ∧ j ≤ 1000000 ∧ small i = true then T.ok (i ^ j.toNat) else T.bad
section
variable {α β : Type}
def appT (x y : List α) : T (List α) := if x.length + y.length ≤ LIM then T.ok (x ++ y) else T.bad
def repT (x : List α) (j : Int) : T (List α) := if x.length ≤ 1000 ∧ -1000 ≤ j ∧ j ≤ 1000 then T.ok (rep j.toNat x) else T.bad
def rep1T (x : List α) (j : Int) : T (List α) := if x.length ≤ 1000 ∧ x.isEmpty = false ∧ 1 ≤ j ∧ j ≤ 1000 then T.ok (rep j.toNat x) else T.bad
theorem osim_v {e : α → D} {a : α} {o : Option R} {d : D} (h : o = some (.val d)) (h2 : e a = d) : OSim o (T.ok a) (KRe e) := osim_some h (by rw [← h2]; exact KR.val _)
theorem o_addI (i j : Int) : OSim (binD .add (eI i) (eI j)) (T.ok (i + j)) (KRe eI) := osim_some rfl (.val _)
theorem o_subI (i j : Int) : OSim (binD .sub (eI i) (eI j)) (T.ok (i - j)) (KRe eI) := osim_some rfl (.val _)
theorem o_mulI (i j : Int) : OSim (binD .mul (eI i) (eI j)) (mulT i j) (KRe eI) := osim_if fun h => osim_some (if_pos h) (.val _)
theorem o_fdiv (i j : Int) : OSim (binD .fdiv (eI i) (eI j)) (fdivT i j) (KRe eI) := osim_if fun h => osim_some (if_pos h) (.val _)
theorem o_mod (i j : Int) : OSim (binD .mod (eI i) (eI j)) (modT i j) (KRe eI) := osim_if fun h => osim_some (if_pos h) (.val _)
theorem o_pow (i j : Int) : OSim (binD .pow (eI i) (eI j)) (powT i j) (KRe eI) := osim_if fun h => osim_some (if_pos h) (.val _)
theorem o_addS (x y : List Char) : OSim (binD .add (eS x) (eS y)) (appT x y) (KRe eS) := osim_if fun h => osim_some (if_pos h) (.val _)
theorem o_addL {e : α → D} (x y : List α) : OSim (binD .add (eL e x) (eL e y)) (appT x y) (FRe (eL e)) := osim_if fun h => osim_some (if_pos (by simpa using h)) (by unfold FRe eL; rw [List.map_append])
theorem o_addT {e : α → D} (x y : List α) : OSim (binD .add (eT e x) (eT e y)) (appT x y) (KRe (eT e)) := osim_if fun h => osim_v (d := .tup (x.map e ++ y.map e)) (if_pos (c := (x.map e).length + (y.map e).length ≤ LIM) (by simpa using h)) (by unfold eT; rw [List.map_append])
theorem rep_map {e : α → β} (n : Nat) (x : List α) : (rep n x).map e = rep n (x.map e) := by
  unfold rep; rw [List.map_flatten, List.map_replicate]
theorem o_mulS (x : List Char) (j : Int) : OSim (binD .mul (eS x) (eI j)) (repT x j) (KRe eS) := osim_if fun h => osim_some (if_pos h) (.val _)
theorem o_mulL {e : α → D} (x : List α) (j : Int) : OSim (binD .mul (eL e x) (eI j)) (repT x j) (FRe (eL e)) := osim_if fun h => osim_some (if_pos (by simpa using h)) (by unfold FRe eL; rw [rep_map])
theorem o_mulT {e : α → D} (x : List α) (j : Int) : OSim (binD .mul (eT e x) (eI j)) (rep1T x j) (KRe (eT e)) := osim_if fun h => osim_v (d := (.tup (rep j.toNat (x.map e)))) (if_pos (c := (x.map e).length ≤ 1000 ∧ (x.map e).isEmpty = false ∧ 1 ≤ j ∧ j ≤ 1000) (by simpa using h)) (by unfold eT; rw [rep_map])
/-! comparisons -/
theorem cmpD_eq {x y : D} (hx : x.okc = true) (hy : y.okc = true) : cmpD .eq x y = some (eqD x y) := by
  have h : (x.okc && y.okc) = true := by rw [hx, hy]; rfl
  cases x with
  | scr ns => cases hx
  | _ => unfold cmpD; simp only [h, if_true]
theorem cmpD_ne {x y : D} (hx : x.okc = true) (hy : y.okc = true) : cmpD .ne x y = some (!eqD x y) := by
  show (if _ then _ else _) = _; rw [hx, hy]; rfl
theorem fe_okc [DecidableEq α] {e : α → D} {n : Nat} (h : FE e n) (hn : n ≤ 60) (x : α) : (e x).okc = true := by
  unfold D.okc
  rw [h.pl, Bool.true_and]
  exact decide_eq_true (Nat.le_trans (h.dp x) hn)
theorem c_eq [DecidableEq α] {e : α → D} {n : Nat} (h : FE e n) (hn : n ≤ 60) (x y : α) : OSim (cmpD .eq (e x) (e y)) (T.ok (decide (x = y))) Eq :=
  osim_some (by rw [cmpD_eq (fe_okc h hn x) (fe_okc h hn y), h.eq]) rfl
theorem c_ne [DecidableEq α] {e : α → D} {n : Nat} (h : FE e n) (hn : n ≤ 60) (x y : α) : OSim (cmpD .ne (e x) (e y)) (T.ok (!decide (x = y))) Eq :=
  osim_some (by rw [cmpD_ne (fe_okc h hn x) (fe_okc h hn y), h.eq]) rfl
theorem c_lt (i j : Int) : OSim (cmpD .lt (eI i) (eI j)) (T.ok (decide (i < j))) Eq := osim_some rfl rfl
theorem c_le (i j : Int) : OSim (cmpD .le (eI i) (eI j)) (T.ok (decide (i ≤ j))) Eq := osim_some rfl rfl
theorem c_gt (i j : Int) : OSim (cmpD .gt (eI i) (eI j)) (T.ok (decide (j < i))) Eq := osim_some rfl rfl
theorem c_ge (i j : Int) : OSim (cmpD .ge (eI i) (eI j)) (T.ok (decide (j ≤ i))) Eq := osim_some rfl rfl
theorem c_inS (c : Char) (s : List Char) : OSim (cmpD .isin (eC c) (eS s)) (T.ok (decide (c ∈ s))) Eq := osim_some rfl rfl
theorem c_ninS (c : Char) (s : List Char) : OSim (cmpD .notin (eC c) (eS s)) (T.ok (!decide (c ∈ s))) Eq := osim_some rfl rfl
theorem cmp_inL {x : D} {ys : List D} (hx : x.okc = true) (hy : (D.lst ys).okc = true) : cmpD .isin x (.lst ys) = some (inD x ys) := by
  have h : (x.okc && (D.lst ys).okc) = true := by rw [hx, hy]; rfl
  unfold cmpD
  split <;> simp_all
theorem cmp_ninL {x : D} {ys : List D} (hx : x.okc = true) (hy : (D.lst ys).okc = true) : cmpD .notin x (.lst ys) = some (!inD x ys) := by
  have h : (x.okc && (D.lst ys).okc) = true := by rw [hx, hy]; rfl
  unfold cmpD
  split <;> simp_all
theorem cmp_inT {x : D} {ys : List D} (hx : x.okc = true) (hy : (D.tup ys).okc = true) : cmpD .isin x (.tup ys) = some (inD x ys) := by
  have h : (x.okc && (D.tup ys).okc) = true := by rw [hx, hy]; rfl
  unfold cmpD
  split <;> simp_all
theorem cmp_ninT {x : D} {ys : List D} (hx : x.okc = true) (hy : (D.tup ys).okc = true) : cmpD .notin x (.tup ys) = some (!inD x ys) := by
  have h : (x.okc && (D.tup ys).okc) = true := by rw [hx, hy]; rfl
  unfold cmpD
  split <;> simp_all
theorem in_map [DecidableEq α] {e : α → D} {n : Nat} (h : FE e n) (x : α) (ys : List α) : inD (e x) (ys.map e) = decide (x ∈ ys) := by
  unfold inD
  rw [List.any_map]
  induction ys with
  | nil => simp
  | cons y ys ih =>
    rw [List.any_cons, ih]
    show (eqD (e y) (e x) || _) = _
    rw [h.eq]
    by_cases k : y = x
    · subst k; simp
    · have : ¬ x = y := fun q => k q.symm
      simp [k, this]
theorem c_inL [DecidableEq α] {e : α → D} {n : Nat} (h : FE e n) (hn : n + 1 ≤ 60) (x : α) (ys : List α) : OSim (cmpD .isin (e x) (eL e ys)) (T.ok (decide (x ∈ ys))) Eq :=
  osim_some (by have := fe_okc (fe_L h) hn ys; unfold eL at this ⊢; rw [cmp_inL (fe_okc h (by omega) x) this, in_map h]) rfl
theorem c_ninL [DecidableEq α] {e : α → D} {n : Nat} (h : FE e n) (hn : n + 1 ≤ 60) (x : α) (ys : List α) : OSim (cmpD .notin (e x) (eL e ys)) (T.ok (!decide (x ∈ ys))) Eq :=
  osim_some (by have := fe_okc (fe_L h) hn ys; unfold eL at this ⊢; rw [cmp_ninL (fe_okc h (by omega) x) this, in_map h]) rfl
theorem c_inT [DecidableEq α] {e : α → D} {n : Nat} (h : FE e n) (hn : n + 1 ≤ 60) (x : α) (ys : List α) : OSim (cmpD .isin (e x) (eT e ys)) (T.ok (decide (x ∈ ys))) Eq :=
  osim_some (by have := fe_okc (fe_T h) hn ys; unfold eT at this ⊢; rw [cmp_inT (fe_okc h (by omega) x) this, in_map h]) rfl
theorem c_ninT [DecidableEq α] {e : α → D} {n : Nat} (h : FE e n) (hn : n + 1 ≤ 60) (x : α) (ys : List α) : OSim (cmpD .notin (e x) (eT e ys)) (T.ok (!decide (x ∈ ys))) Eq :=
  osim_some (by have := fe_okc (fe_T h) hn ys; unfold eT at this ⊢; rw [cmp_ninT (fe_okc h (by omega) x) this, in_map h]) rfl
theorem c_isO {e : α → D} (h : NoN e) (x : Option α) (u : Unit) : OSim (cmpD .is (eO e x) (eN u)) (T.ok x.isNone) Eq :=
  osim_some (by cases x with | none => rfl | some a => show some (e a).isNon = _; rw [h a]; rfl) rfl
theorem c_isnO {e : α → D} (h : NoN e) (x : Option α) (u : Unit) : OSim (cmpD .isnot (eO e x) (eN u)) (T.ok x.isSome) Eq :=
  osim_some (by cases x with | none => rfl | some a => show some (!(e a).isNon) = _; rw [h a]; rfl) rfl
theorem c_isNN {e : α → D} (h : NoN e) (x : α) (u : Unit) : OSim (cmpD .is (e x) (eN u)) (T.ok false) Eq := osim_some (by show some (e x).isNon = _; rw [h x]) rfl
theorem c_isnNN {e : α → D} (h : NoN e) (x : α) (u : Unit) : OSim (cmpD .isnot (e x) (eN u)) (T.ok true) Eq := osim_some (by show some (!(e x).isNon) = _; rw [h x]; rfl) rfl
theorem c_isB (x y : Bool) : OSim (cmpD .is (eB x) (eB y)) (T.ok (x == y)) Eq := osim_some rfl rfl
theorem c_isnB (x y : Bool) : OSim (cmpD .isnot (eB x) (eB y)) (T.ok (!(x == y))) Eq := osim_some rfl rfl
/-! indices -/
def atT (xs : List α) (i : Int) : T α := T.opt (atD xs i)
theorem atD_map {e : α → β} (xs : List α) (i : Int) : atD (xs.map e) i = (atD xs i).map e := by
  unfold atD
  rw [List.length_map]
  cases ixI xs.length i <;> simp
theorem osim_opt {o : Option α} {f : α → β} {Q : α → β → Prop} (h : ∀ a, Q a (f a)) : OSim (o.map f) (T.opt o) Q := by
  cases o with
  | none => exact osim_bad
  | some a => exact osim_some rfl (h a)
theorem x_L {e : α → D} (xs : List α) (i : Int) : OSim (idxD (eL e xs) (eI i)) (atT xs i) (fun c d => d = e c) := by
  show OSim (atD (xs.map e) i) _ _
  rw [atD_map]; exact osim_opt fun _ => rfl
theorem x_T {e : α → D} (xs : List α) (i : Int) : OSim (idxD (eT e xs) (eI i)) (atT xs i) (fun c d => d = e c) := by
  show OSim (atD (xs.map e) i) _ _
  rw [atD_map]; exact osim_opt fun _ => rfl
def atS (xs : List Char) (i : Int) : T Char := if xs.length ≤ LIM then atT xs i else T.bad
theorem x_S (xs : List Char) (i : Int) : OSim (idxD (eS xs) (eI i)) (atS xs i) (fun c d => d = eC c) := osim_if fun h => by
  show OSim (if _ then _ else _) _ _
  rw [if_pos h]; exact osim_opt fun _ => rfl
/-! slices -/
theorem cut_map {e : α → β} (xs : List α) (l h : Option Int) : (cutL xs l h).map e = cutL (xs.map e) l h := by
  unfold cutL
  rw [List.map_take, List.map_drop, List.length_map]
theorem s_L {e : α → D} (xs : List α) (l h : Option Int) : OSim (slcD (eL e xs) l h) (T.ok (cutL xs l h)) (FRe (eL e)) := osim_some rfl (by unfold FRe eL; rw [cut_map])
theorem s_T {e : α → D} (xs : List α) (l h : Option Int) : OSim (slcD (eT e xs) l h) (T.ok (cutL xs l h)) (KRe (eT e)) := osim_some rfl (by unfold KRe eT; rw [cut_map]; exact .val _)
def cutS (xs : List Char) (l h : Option Int) : T (List Char) := if xs.length ≤ LIM then T.ok (cutL xs l h) else T.bad
theorem s_S (xs : List Char) (l h : Option Int) : OSim (slcD (eS xs) l h) (cutS xs l h) (KRe eS) := osim_if fun k => osim_some (if_pos k) (.val _)
/-! built-in functions -/
def lenT (xs : List α) : T Int := T.ok (xs.length : Int)
def lenS (xs : List Char) : T Int := if xs.length ≤ LIM then T.ok (xs.length : Int) else T.bad
theorem b_lenL {e : α → D} (xs : List α) : OSim (biD .len [eL e xs]) (lenT xs) (KRe eI) := osim_v (d := (.int (xs.length : Int))) (by unfold eL; simp [biD, lenD]) rfl
theorem b_lenT {e : α → D} (xs : List α) : OSim (biD .len [eT e xs]) (lenT xs) (KRe eI) := osim_v (d := (.int (xs.length : Int))) (by unfold eT; simp [biD, lenD]) rfl
theorem b_lenS (xs : List Char) : OSim (biD .len [eS xs]) (lenS xs) (KRe eI) := osim_if fun h => osim_v (d := (.int (xs.length : Int))) (by unfold eS; simp [biD, lenD, h]) rfl
theorem b_tupL {e : α → D} (xs : List α) : OSim (biD .tuple [eL e xs]) (T.ok xs) (KRe (eT e)) := osim_some rfl (.val _)
theorem b_tupT {e : α → D} (xs : List α) : OSim (biD .tuple [eT e xs]) (T.ok xs) (KRe (eT e)) := osim_some rfl (.val _)
theorem b_lstL {e : α → D} (xs : List α) : OSim (biD .list [eL e xs]) (T.ok xs) (FRe (eL e)) := osim_some rfl rfl
theorem b_lstT {e : α → D} (xs : List α) : OSim (biD .list [eT e xs]) (T.ok xs) (FRe (eL e)) := osim_some rfl rfl
theorem b_lstS (xs : List Char) : OSim (biD .list [eS xs]) (chkT xs.length xs) (FRe (eL eC)) := osim_if fun h => osim_some (if_pos h) rfl
theorem bools_map : ∀ bs : List Bool, boolsOf (bs.map eB) = some bs
  | [] => rfl
  | b :: bs => by show (boolsOf (bs.map eB)).map _ = _; rw [bools_map]; rfl
theorem ints_map : ∀ bs : List Int, intsOf (bs.map eI) = some bs
  | [] => rfl
  | b :: bs => by show (intsOf (bs.map eI)).map _ = _; rw [ints_map]; rfl
theorem strs_map : ∀ bs : List (List Char), strsOf (bs.map eS) = some bs
  | [] => rfl
  | b :: bs => by show (strsOf (bs.map eS)).map _ = _; rw [strs_map]; rfl
theorem chrs_map : ∀ bs : List Char, strsOf (bs.map eC) = some (bs.map fun c => [c])
  | [] => rfl
  | b :: bs => by show (strsOf (bs.map eC)).map _ = _; rw [chrs_map]; rfl
theorem b_all (bs : List Bool) : OSim (biD .all [eL eB bs]) (T.ok (bs.all id)) (KRe eB) := osim_v (d := (.bl (bs.all id))) (by show (boolsOf (bs.map eB)).map _ = _; rw [bools_map]; rfl) rfl
theorem b_any (bs : List Bool) : OSim (biD .any [eL eB bs]) (T.ok (bs.any id)) (KRe eB) := osim_v (d := (.bl (bs.any id))) (by show (boolsOf (bs.map eB)).map _ = _; rw [bools_map]; rfl) rfl
theorem b_sum (bs : List Int) : OSim (biD .sum [eL eI bs]) (T.ok bs.sum) (KRe eI) := osim_v (d := (.int bs.sum)) (by show (intsOf (bs.map eI)).map _ = _; rw [ints_map]; rfl) rfl
theorem b_abs (i : Int) : OSim (biD .abs [eI i]) (T.ok (if i < 0 then -i else i)) (KRe eI) := osim_some rfl (.val _)
theorem b_intI (i : Int) : OSim (biD .int [eI i]) (T.ok i) (KRe eI) := osim_some rfl (.val _)
theorem b_intB (b : Bool) : OSim (biD .int [eB b]) (T.ok (if b = true then 1 else 0)) (KRe eI) := osim_some rfl (by cases b <;> exact .val _)
theorem b_isint {e : α → D} {n : String} (h : ∀ a, tyN (e a) = some n) (a : α) : OSim (biD .isint [e a]) (T.ok (n == "int" || n == "bool")) (KRe eB) := osim_v (d := (.bl (n == "int" || n == "bool"))) (by show (tyN (e a)).map _ = _; rw [h]; rfl) rfl
theorem b_isbool {e : α → D} {n : String} (h : ∀ a, tyN (e a) = some n) (a : α) : OSim (biD .isbool [e a]) (T.ok (n == "bool")) (KRe eB) := osim_v (d := (.bl (n == "bool"))) (by show (tyN (e a)).map _ = _; rw [h]; rfl) rfl
theorem b_isstr {e : α → D} {n : String} (h : ∀ a, tyN (e a) = some n) (a : α) : OSim (biD .isstr [e a]) (T.ok (n == "str")) (KRe eB) := osim_v (d := (.bl (n == "str"))) (by show (tyN (e a)).map _ = _; rw [h]; rfl) rfl
theorem b_istup {e : α → D} {n : String} (h : ∀ a, tyN (e a) = some n) (a : α) : OSim (biD .istuple [e a]) (T.ok (n == "tuple")) (KRe eB) := osim_v (d := (.bl (n == "tuple"))) (by show (tyN (e a)).map _ = _; rw [h]; rfl) rfl
/-! methods -/
def joinT (s : List Char) (xs : List (List Char)) : T (List Char) := if sumLen xs + xs.length * s.length ≤ LIM then T.ok (joinS s xs) else T.bad
theorem m_joinL (s : List Char) (xs : List (List Char)) : OSim (meD .join (eS s) [eL eS xs]) (joinT s xs) (KRe eS) := osim_if fun h => osim_v (d := (.str (joinS s xs))) (by show (strsOf (xs.map eS)).bind _ = _; rw [strs_map]; exact if_pos h) rfl
theorem m_joinT (s : List Char) (xs : List (List Char)) : OSim (meD .join (eS s) [eT eS xs]) (joinT s xs) (KRe eS) := osim_if fun h => osim_v (d := (.str (joinS s xs))) (by show (strsOf (xs.map eS)).bind _ = _; rw [strs_map]; exact if_pos h) rfl
def joinC (s : List Char) (xs : List Char) : T (List Char) := joinT s (xs.map fun c => [c])
theorem m_joinLC (s : List Char) (xs : List Char) : OSim (meD .join (eS s) [eL eC xs]) (joinC s xs) (KRe eS) := osim_if fun h => osim_v (d := (.str (joinS s (xs.map fun c => [c])))) (by show (strsOf (xs.map eC)).bind _ = _; rw [chrs_map]; exact if_pos h) rfl
theorem mk_join (s : List Char) : meOk .join (eS s) = true := rfl
theorem mk_cntL {e : α → D} (xs : List α) : meOk .count (eL e xs) = true := rfl
theorem mk_idxL {e : α → D} (xs : List α) : meOk .index (eL e xs) = true := rfl
def cntI [DecidableEq α] (xs : List α) (x : α) : Int := (xs.countP fun y => decide (y = x) : Nat)
theorem cnt_map [DecidableEq α] {e : α → D} {n : Nat} (h : FE e n) (xs : List α) (x : α) : (xs.map e).countP (fun y => eqD y (e x)) = xs.countP fun y => decide (y = x) := by
  rw [List.countP_map]; congr; funext y; exact h.eq y x
theorem m_cntL [DecidableEq α] {e : α → D} {n : Nat} (h : FE e n) (hn : n + 1 ≤ 60) (xs : List α) (x : α) : OSim (meD .count (eL e xs) [e x]) (T.ok (cntI xs x)) (KRe eI) :=
  osim_v (d := (.int (cntI xs x))) (by
    have := fe_okc (fe_L h) hn xs
    have h2 := fe_okc h (by omega) x
    unfold eL at this ⊢
    show (if _ then some (R.val (D.int ((xs.map e).countP fun y => eqD y (e x) : Nat))) else none) = _
    rw [this, h2, cnt_map h]; rfl) rfl
def idxI [DecidableEq α] (x : α) : List α → Option Nat
  | [] => none
  | y :: r => if decide (y = x) = true then some 0 else (idxI x r).map (· + 1)
theorem idx_map [DecidableEq α] {e : α → D} {n : Nat} (h : FE e n) (x : α) : ∀ xs : List α, indexD (e x) (xs.map e) = idxI x xs
  | [] => rfl
  | y :: r => by
    show (if eqD (e y) (e x) = true then some 0 else (indexD (e x) (r.map e)).map (· + 1)) = _
    rw [h.eq, idx_map h x r]; rfl
def indT [DecidableEq α] (xs : List α) (x : α) : T Int := T.opt ((idxI x xs).map fun n => (n : Int))
theorem m_idxL [DecidableEq α] {e : α → D} {n : Nat} (h : FE e n) (hn : n + 1 ≤ 60) (xs : List α) (x : α) : OSim (meD .index (eL e xs) [e x]) (indT xs x) (KRe eI) := by
  have h1 := fe_okc (fe_L h) hn xs
  have h2 := fe_okc h (by omega) x
  unfold eL at h1 ⊢
  have : meD .index (.lst (xs.map e)) [e x] = (idxI x xs).map fun n => R.val (.int n) := by
    show (if _ then _ else _) = _
    rw [h1, h2, idx_map h]; rfl
  rw [this]
  unfold indT
  cases idxI x xs with
  | none => exact osim_bad
  | some n => exact osim_some rfl (.val _)
/-! constant dicts -/
def lookT [DecidableEq α] : List α → List β → α → Option β
  | k :: ks, v :: vs, x => if decide (k = x) = true then some v else lookT ks vs x
  | _, _, _ => none
theorem look_map [DecidableEq α] {e : α → D} {ec : β → D} {n : Nat} (h : FE e n) (x : α) : ∀ (ks : List α) (vs : List β), lookD (ks.map e) (vs.map ec) (e x) = (lookT ks vs x).map ec
  | [], _ => by cases ‹List β› <;> rfl
  | _ :: _, [] => rfl
  | k :: ks, v :: vs => by
    show (if eqD (e k) (e x) = true then some (ec v) else lookD (ks.map e) (vs.map ec) (e x)) = _
    rw [h.eq, look_map h x ks vs]
    by_cases q : k = x <;> simp [lookT, q]
theorem d_look [DecidableEq α] {e : α → D} {ec : β → D} {n : Nat} (h : FE e n) {ks : List α} {vs : List β} {ks' vs' : List D} (h1 : ks' = ks.map e) (h2 : vs' = vs.map ec) (x : α) : OSim (lookD ks' vs' (e x)) (T.opt (lookT ks vs x)) (fun c d => d = ec c) := by
  rw [h1, h2, look_map h]; exact osim_opt fun _ => rfl
theorem look_some [DecidableEq α] {e : α → D} {n : Nat} (h : FE e n) {ks : List α} {ks' vs' : List D} (h1 : ks' = ks.map e) (hl : ks.length = vs'.length) (x : α) : (lookD ks' vs' (e x)).isSome = decide (x ∈ ks) := by
  subst h1
  induction ks generalizing vs' with
  | nil => cases vs' with
    | nil => simp [lookD]
    | cons v vs => cases hl
  | cons k ks ih =>
    cases vs' with
    | nil => cases hl
    | cons v vs =>
      show (if eqD (e k) (e x) = true then some v else lookD (ks.map e) vs (e x)).isSome = _
      rw [h.eq]
      by_cases q : k = x
      · simp [q]
      · have q2 : ¬ x = k := fun z => q z.symm
        simp only [q, decide_false, Bool.false_eq_true, if_false, ih (Nat.succ.inj hl), List.mem_cons, q2, false_or]
end
/-! pairs -/
section
variable {ns : List Int} {κ : Kp} {env : List Slot} {α β γ : Type} {e : α → D} {e' : β → D} {e'' : γ → D}
theorem at_lit {d : D} {xs : List D} {i : Int} (h : atD xs i = some d) : idxD (.tup xs) (.int i) = some d := h
theorem e_ix0 {x : IE} {ta : T α} {j : Int} {f : α → β} (h1 : Sim ns ((den κ x).v env) ta (GRe e)) (h : ∀ a, idxD (e a) (.int j) = some (e' (f a))) : Sim ns ((den κ (.idx x (.int j))).v env) (ta.bind fun a => T.ok (f a)) (KRe e') :=
  e_idx (g := fun a _ => T.ok (f a)) (tb := T.ok ()) (eb := fun _ => .int j) h1 (sim_pure (GR.val _)) fun a _ => osim_some (h a) rfl
end
end Sg

-- SgS
/-! SgS: rules: a statement is followed. -/
namespace Sg
section
variable {ns : List Int} {κ : Kp} {env : List Slot} {α β γ ρ σ τ : Type}
/-- the names no longer known -/
abbrev Jk := Nat → Slot
def sl (xs : List Slot) : Jk := fun i => xs.getD i .no
def NxE (E : Jk → σ → List Slot) (st : σ) (fl : Fl) : Prop := ∃ j, fl = .nx (E j st)
def RtQ (q : ρ → R → Prop) (a : ρ) (fl : Fl) : Prop := ∃ r, fl = .rt r ∧ q a r
def StpR (E : Jk → σ → List Slot) (q : ρ → R → Prop) : Stp σ ρ → Fl → Prop
  | .nx st, fl => ∃ j, fl = .nx (E j st)
  | .rt a, fl => ∃ r, fl = .rt r ∧ q a r
def contS (κ : Kp) (rest : IS) : Fl → M Fl := fun f => match f with
  | .nx env' => evS κ rest env'
  | .rt x => M.pure (.rt x)
theorem ev_cons {s rest : IS} : evS κ (.cons s rest) env = M.bind (evS κ s env) (contS κ rest) := rfl
/-- one statement that goes on to a known state -/
theorem seq1 {s rest : IS} {t : T α} {f : α → T β} {Q : β → Fl → Prop} (env' : α → List Slot) (h1 : Sim ns (evS κ s env) t fun a fl => fl = .nx (env' a)) (h2 : ∀ a, Sim ns (evS κ rest (env' a)) (f a) Q) : Sim ns (evS κ (.cons s rest) env) (t.bind f) Q := by
  rw [ev_cons]
  refine sim_bind h1 fun a fl e => ?_
  subst e
  exact h2 a
theorem seq0 {s rest : IS} {t : T β} {Q : β → Fl → Prop} {env' : List Slot} (h1 : ∀ b, evS κ s env b = .ok (.nx env') b) (h2 : Sim ns (evS κ rest env') t Q) : Sim ns (evS κ (.cons s rest) env) t Q := by
  rw [ev_cons]
  exact sim_bind0 h1 h2
theorem seqN {s rest : IS} {t : T σ} {f : σ → T β} {Q : β → Fl → Prop} (E : Jk → σ → List Slot) (h1 : Sim ns (evS κ s env) t (NxE E)) (h2 : ∀ j st, Sim ns (evS κ rest (E j st)) (f st) Q) : Sim ns (evS κ (.cons s rest) env) (t.bind f) Q := by
  rw [ev_cons]
  refine sim_bind h1 fun a fl ⟨j, e⟩ => ?_
  subst e
  exact h2 j a
theorem seqXR {s rest : IS} {t : T (Stp σ ρ)} {f : σ → T ρ} {q : ρ → R → Prop} (E : Jk → σ → List Slot) (h1 : Sim ns (evS κ s env) t (StpR E q)) (h2 : ∀ j st, Sim ns (evS κ rest (E j st)) (f st) (RtQ q)) : Sim ns (evS κ (.cons s rest) env) (t.bind (T.stp f)) (RtQ q) := by
  rw [ev_cons]
  refine sim_bind h1 fun a fl h => ?_
  cases a with
  | nx st => obtain ⟨j, e⟩ := h; subst e; exact h2 j st
  | rt r => obtain ⟨r', e, hq⟩ := h; subst e; exact sim_pure ⟨r', rfl, hq⟩
theorem seqXX {s rest : IS} {t : T (Stp σ ρ)} {f : σ → T (Stp τ ρ)} {q : ρ → R → Prop} {E' : Jk → τ → List Slot} (E : Jk → σ → List Slot) (h1 : Sim ns (evS κ s env) t (StpR E q)) (h2 : ∀ j st, Sim ns (evS κ rest (E j st)) (f st) (StpR E' q)) : Sim ns (evS κ (.cons s rest) env) (t.bind (T.stpX f)) (StpR E' q) := by
  rw [ev_cons]
  refine sim_bind h1 fun a fl h => ?_
  cases a with
  | nx st => obtain ⟨j, e⟩ := h; subst e; exact h2 j st
  | rt r => obtain ⟨r', e, hq⟩ := h; subst e; exact sim_pure ⟨r', rfl, hq⟩
/-- a statement that returns -/
theorem seqR {s rest : IS} {t : T ρ} {q : ρ → R → Prop} (h1 : Sim ns (evS κ s env) t (RtQ q)) : Sim ns (evS κ (.cons s rest) env) t (RtQ q) := by
  rw [ev_cons]
  have := sim_bind (g := contS κ rest) (f := fun a => T.ok a) (R' := RtQ q) h1 fun a fl ⟨r, e, hq⟩ => by subst e; exact sim_pure ⟨r, rfl, hq⟩
  rwa [T.bind_okT] at this
theorem liftR {m : M Fl} {t : T ρ} {q : ρ → R → Prop} {E : Jk → σ → List Slot} (h : Sim ns m t (RtQ q)) : Sim ns m (t.bind fun a => T.ok (.rt a)) (StpR E q) := sim_map h fun _ _ k => k
theorem liftN {m : M Fl} {t : T σ} {q : ρ → R → Prop} {E : Jk → σ → List Slot} (h : Sim ns m t (NxE E)) : Sim ns m (t.bind fun a => T.ok (.nx a)) (StpR E q) := sim_map h fun _ _ k => k
theorem nilN {st : σ} {E : Jk → σ → List Slot} (j : Jk) (h : env = E j st) : Sim ns (evS κ .nil env) (T.ok st) (NxE E) := sim_pure ⟨j, by rw [h]⟩
theorem nilX {st : σ} {E : Jk → σ → List Slot} {q : ρ → R → Prop} (j : Jk) (h : env = E j st) : Sim ns (evS κ .nil env) (T.ok (.nx st)) (StpR E q) := sim_pure ⟨j, by rw [h]⟩
/-! simple statements -/
theorem s_asg {i : Nat} {e : IE} {t : T α} {enc : α → D} {rest : IS} {f : α → T β} {Q : β → Fl → Prop} (env' : α → List Slot) (h1 : Sim ns ((den κ e).v env) t (KRe enc)) (he : ∀ a, env.set i (.val (enc a)) = env' a) (h2 : ∀ a, Sim ns (evS κ rest (env' a)) (f a) Q) : Sim ns (evS κ (.cons (.asg (.nm i) e) rest) env) (t.bind f) Q := by
  refine seq1 env' ?_ h2
  have := sim_map (f := fun a => a) (R' := fun a fl => fl = Fl.nx (env' a)) (sim_bind (g := fun x => M.bind x.keep fun d => M.bind (M.opt (setT (.nm i) d env)) fun env' => M.pure (.nx env')) (f := T.ok) (R' := fun a fl => fl = Fl.nx (env' a)) h1 fun a rx hx => sim_bind0 (KR.keep hx) (sim_pure (by rw [← he]))) fun _ _ k => k
  simp only [T.bind_okT] at this
  exact this
theorem s_asgT {tg : Tg} {e : IE} {t : T α} {enc : α → D} {rest : IS} {f : α → T β} {Q : β → Fl → Prop} (env' : α → List Slot) (h1 : Sim ns ((den κ e).v env) t (KRe enc)) (he : ∀ a, setT tg (enc a) env = some (env' a)) (h2 : ∀ a, Sim ns (evS κ rest (env' a)) (f a) Q) : Sim ns (evS κ (.cons (.asg tg e) rest) env) (t.bind f) Q := by
  refine seq1 env' ?_ h2
  have := sim_bind (g := fun x => M.bind x.keep fun d => M.bind (M.opt (setT tg d env)) fun env' => M.pure (.nx env')) (f := T.ok) (R' := fun a fl => fl = Fl.nx (env' a)) h1 fun a rx hx => sim_bind0 (KR.keep hx) (by rw [he a]; exact sim_pure rfl)
  simp only [T.bind_okT] at this
  exact this
theorem s_asgo {i : Nat} {e : IE} {t : T α} {enc : α → D} {rest : IS} {f : α → T β} {Q : β → Fl → Prop} (env' : α → List Slot) (h1 : Sim ns ((den κ e).v env) t (FRe enc)) (he : ∀ a, env.set i (.own (enc a)) = env' a) (h2 : ∀ a, Sim ns (evS κ rest (env' a)) (f a) Q) : Sim ns (evS κ (.cons (.asgo i e) rest) env) (t.bind f) Q := by
  refine seq1 env' ?_ h2
  have := sim_bind (g := fun x => match x with | .fr d => M.pure (.nx (env.set i (.own d))) | _ => M.bad) (f := T.ok) (R' := fun a fl => fl = Fl.nx (env' a)) h1 fun a rx hx => by
    unfold FRe at hx; subst hx
    exact sim_pure (by rw [he])
  simp only [T.bind_okT] at this
  exact this
/-- a name's list changes kind -/
theorem s_frz {i : Nat} {d : D} {rest : IS} {t : T β} {Q : β → Fl → Prop} (env' : List Slot) (h1 : env[i]? = some (.own d)) (he : env.set i (.val d) = env') (h2 : Sim ns (evS κ rest env') t Q) : Sim ns (evS κ (.cons (.frz i) rest) env) t Q := by
  refine seq0 (env' := env') (fun b => ?_) h2
  show (match env[i]? with | some (.own d) => M.pure (Fl.nx (env.set i (.val d))) | _ => M.pure (Fl.nx env)) b = _
  rw [h1, ← he]; rfl
theorem s_frz0 {i : Nat} {s : Slot} {rest : IS} {t : T β} {Q : β → Fl → Prop} (h1 : env[i]? = some s) (hs : ∀ d, s ≠ .own d) (h2 : Sim ns (evS κ rest env) t Q) : Sim ns (evS κ (.cons (.frz i) rest) env) t Q := by
  refine seq0 (env' := env) (fun b => ?_) h2
  show (match env[i]? with | some (.own d) => M.pure (Fl.nx (env.set i (.val d))) | _ => M.pure (Fl.nx env)) b = _
  rw [h1]
  cases s with
  | own d => exact (hs d rfl).elim
  | _ => rfl
theorem s_pas {rest : IS} {t : T β} {Q : β → Fl → Prop} (h2 : Sim ns (evS κ rest env) t Q) : Sim ns (evS κ (.cons .pas rest) env) t Q := seq0 (fun _ => rfl) h2
theorem s_ex {e : IE} {t : T α} {q : α → R → Prop} {rest : IS} {f : α → T β} {Q : β → Fl → Prop} (h1 : Sim ns ((den κ e).v env) t q) (h2 : ∀ a, Sim ns (evS κ rest env) (f a) Q) : Sim ns (evS κ (.cons (.ex e) rest) env) (t.bind f) Q := by
  refine seq1 (fun _ => env) ?_ h2
  have := sim_bind (g := fun _ => M.pure (.nx env)) (f := T.ok) (R' := fun a fl => fl = Fl.nx env) h1 fun a rx hx => sim_pure rfl
  simp only [T.bind_okT] at this
  exact this
/-! lists changed -/
theorem peek_own {i : Nat} {xs : List D} (h : env[i]? = some (.own (.lst xs))) (b : List D) : peek env i b = .ok () b := by unfold peek; rw [h]
def pushT (xs : List α) (a : α) : T (List α) := if xs.length < LIM then T.ok (xs ++ [a]) else T.bad
theorem mod_own {i : Nat} {d : D} {f : D → Option (D × D)} (h : env[i]? = some (.own d)) : modify env i f = M.bind (M.opt (f d)) fun p => M.pure (p.1, env.set i (.own p.2)) := by
  unfold modify; rw [h]
  show (match f d with | some (r, d') => M.pure (r, env.set i (Slot.own d')) | none => M.bad) = _
  cases f d with
  | none => rfl
  | some p => rfl
theorem push_sim {e : α → D} {xs : List α} {a : α} : OSim (appD (e a) (eL e xs)) (pushT xs a) fun ys p => p = (.non, eL e ys) := osim_if fun h => osim_some (if_pos (by simpa using h)) (by unfold eL; simp)
theorem s_app {i : Nat} {e : IE} {ta : T α} {enc : α → D} {xs : List α} {rest : IS} {f : List α → T β} {Q : β → Fl → Prop} (env' : List α → List Slot) (h0 : env[i]? = some (.own (eL enc xs))) (h1 : Sim ns ((den κ e).v env) ta (KRe enc)) (he : ∀ ys, env.set i (.own (eL enc ys)) = env' ys) (h2 : ∀ ys, Sim ns (evS κ rest (env' ys)) (f ys) Q) : Sim ns (evS κ (.cons (.app i e) rest) env) (ta.bind fun a => (pushT xs a).bind f) Q := by
  have := seq1 (ns := ns) (κ := κ) (env := env) (s := .app i e) (rest := rest) (t := ta.bind fun a => pushT xs a) (f := f) (Q := Q) env' ?_ h2
  · rwa [T.bind_assoc] at this
  · show Sim ns (M.bind (peek env i) fun _ => M.bind ((den κ e).v env) fun x => M.bind x.keep fun d => M.bind (modify env i (appD d)) fun p => M.pure (Fl.nx p.2)) _ _
    refine sim_bind0 (peek_own h0) (sim_bind h1 fun a rx hx => sim_bind0 (KR.keep hx) ?_)
    rw [mod_own h0, M.bind_assoc]
    have := sim_bind (g := fun p => M.bind (M.pure (p.1, env.set i (.own p.2))) fun p => M.pure (Fl.nx p.2)) (f := T.ok) (R' := fun a fl => fl = Fl.nx (env' a)) (push_sim (e := enc) (xs := xs) (a := a) ns) fun ys p ep => by subst ep; exact sim_pure (by rw [he])
    rwa [T.bind_okT] at this
theorem ext_sim {e : α → D} {xs ys : List α} : OSim (extD (eL e ys) (eL e xs)) (appT xs ys) fun zs p => p = (.non, eL e zs) := osim_if fun h => osim_some (x := (.non, .lst (xs.map e ++ ys.map e))) (by unfold eL; exact if_pos (c := (xs.map e).length + (ys.map e).length ≤ LIM) (by simpa using h)) (by unfold eL; simp)
theorem s_ext {i : Nat} {e : IE} {ta : T (List α)} {enc : α → D} {xs : List α} {rest : IS} {f : List α → T β} {Q : β → Fl → Prop} (env' : List α → List Slot) (h0 : env[i]? = some (.own (eL enc xs))) (h1 : Sim ns ((den κ e).v env) ta (KRe (eL enc))) (he : ∀ ys, env.set i (.own (eL enc ys)) = env' ys) (h2 : ∀ ys, Sim ns (evS κ rest (env' ys)) (f ys) Q) : Sim ns (evS κ (.cons (.ext i e) rest) env) (ta.bind fun a => (appT xs a).bind f) Q := by
  have := seq1 (ns := ns) (κ := κ) (env := env) (s := .ext i e) (rest := rest) (t := ta.bind fun a => appT xs a) (f := f) (Q := Q) env' ?_ h2
  · rwa [T.bind_assoc] at this
  · show Sim ns (M.bind (peek env i) fun _ => M.bind ((den κ e).v env) fun x => M.bind x.keep fun d => M.bind (modify env i (extD d)) fun p => M.pure (Fl.nx p.2)) _ _
    refine sim_bind0 (peek_own h0) (sim_bind h1 fun a rx hx => sim_bind0 (KR.keep hx) ?_)
    rw [mod_own h0, M.bind_assoc]
    have := sim_bind (g := fun p => M.bind (M.pure (p.1, env.set i (.own p.2))) fun p => M.pure (Fl.nx p.2)) (f := T.ok) (R' := fun a fl => fl = Fl.nx (env' a)) (ext_sim (e := enc) (xs := xs) (ys := a) ns) fun ys p ep => by subst ep; exact sim_pure (by rw [he])
    rwa [T.bind_okT] at this
def popT (xs : List α) : T (α × List α) := T.opt (xs.getLast?.map fun y => (y, xs.dropLast))
theorem pop_sim {e : α → D} {xs : List α} : OSim (popD (eL e xs)) (popT xs) fun q p => p = (e q.1, eL e q.2) := by
  have : popD (eL e xs) = (xs.getLast?.map fun y => (y, xs.dropLast)).map fun q => (e q.1, eL e q.2) := by
    show (match (xs.map e).getLast? with | some y => some (y, D.lst (xs.map e).dropLast) | none => none) = _
    rw [List.getLast?_map]
    cases xs.getLast? with
    | none => rfl
    | some y => simp [eL]
  rw [this]
  exact osim_opt fun _ => rfl
theorem s_pop {i : Nat} {tg : Tg} {enc : α → D} {xs : List α} {rest : IS} {f : α × List α → T β} {Q : β → Fl → Prop} (env' : α × List α → List Slot) (h0 : env[i]? = some (.own (eL enc xs))) (he : ∀ p : α × List α, setT tg (enc p.1) (env.set i (.own (eL enc p.2))) = some (env' p)) (h2 : ∀ p, Sim ns (evS κ rest (env' p)) (f p) Q) : Sim ns (evS κ (.cons (.pop tg i) rest) env) ((popT xs).bind f) Q := by
  refine seq1 env' ?_ h2
  show Sim ns (M.bind (peek env i) fun _ => M.bind (modify env i popD) fun p => M.bind (M.opt (setT tg p.1 p.2)) fun env' => M.pure (Fl.nx env')) _ _
  refine sim_bind0 (peek_own h0) ?_
  rw [mod_own h0, M.bind_assoc]
  have := sim_bind (g := fun p => M.bind (M.pure (p.1, env.set i (.own p.2))) fun p => M.bind (M.opt (setT tg p.1 p.2)) fun env' => M.pure (Fl.nx env')) (f := T.ok) (R' := fun a fl => fl = Fl.nx (env' a)) (pop_sim (e := enc) (xs := xs) ns) fun q p ep => by
    subst ep
    show Sim ns (M.bind (M.opt (setT tg (enc q.1) (env.set i (.own (eL enc q.2))))) fun env' => M.pure (Fl.nx env')) _ _
    rw [he]; exact sim_pure rfl
  rwa [T.bind_okT] at this
def popAtT (xs : List α) (k : Int) : T (α × List α) := if xs.length ≤ LIM then T.opt ((ixI xs.length k).bind fun j => (xs[j]?).map fun y => (y, xs.eraseIdx j)) else T.bad
theorem erase_map {e : α → D} : ∀ (xs : List α) (j : Nat), (xs.map e).eraseIdx j = (xs.eraseIdx j).map e
  | [], _ => rfl
  | x :: xs, 0 => rfl
  | x :: xs, j + 1 => by show e x :: (xs.map e).eraseIdx j = e x :: (xs.eraseIdx j).map e; rw [erase_map xs j]
theorem popat_sim {e : α → D} {xs : List α} {k : Int} : OSim (popAtD (eI k) (eL e xs)) (popAtT xs k) fun q p => p = (e q.1, eL e q.2) := osim_if fun h => by
  have : popAtD (eI k) (eL e xs) = ((ixI xs.length k).bind fun j => (xs[j]?).map fun y => (y, xs.eraseIdx j)).map fun q => (e q.1, eL e q.2) := by
    show (if (xs.map e).length ≤ LIM then (ixI (xs.map e).length k).bind fun j => ((xs.map e)[j]?).map fun y => (y, D.lst ((xs.map e).eraseIdx j)) else none) = _
    rw [List.length_map, if_pos h]
    cases ixI xs.length k with
    | none => rfl
    | some j =>
      simp only [Option.bind_some, List.getElem?_map]
      cases xs[j]? with
      | none => rfl
      | some y => simp [eL, erase_map]
  rw [this]
  exact osim_opt fun _ => rfl
theorem s_popApp {i j : Nat} {k : IE} {tk : T Int} {enc : α → D} {xs ys : List α} {rest : IS} {f : List α → List α → T β} {Q : β → Fl → Prop} (env' : List α → List α → List Slot) (hij : i ≠ j) (h0 : env[i]? = some (.own (eL enc xs))) (h0' : env[j]? = some (.own (eL enc ys))) (h1 : Sim ns ((den κ k).v env) tk (KRe eI)) (he : ∀ as bs, (env.set j (.own (eL enc bs))).set i (.own (eL enc as)) = env' as bs) (h2 : ∀ as bs, Sim ns (evS κ rest (env' as bs)) (f as bs) Q) :
    Sim ns (evS κ (.cons (.popApp i j k) rest) env) (tk.bind fun n => (popAtT ys n).bind fun p => (pushT xs p.1).bind fun as => f as p.2) Q := by
  have := seq1 (ns := ns) (κ := κ) (env := env) (s := .popApp i j k) (rest := rest) (t := tk.bind fun n => (popAtT ys n).bind fun p => (pushT xs p.1).bind fun as => T.ok (as, p.2)) (f := fun z => f z.1 z.2) (Q := Q) (fun z => env' z.1 z.2) ?_ (fun z => h2 z.1 z.2)
  · simpa only [T.bind_assoc, T.ok_bind] using this
  · show Sim ns (M.bind (peek env i) fun _ => M.bind (peek env j) fun _ => M.bind ((den κ k).v env) fun y => M.bind y.keep fun dk => M.bind (modify env j (popAtD dk)) fun p => M.bind (modify p.2 i (appD p.1)) fun q => M.pure (Fl.nx q.2)) _ _
    refine sim_bind0 (peek_own h0) (sim_bind0 (peek_own h0') (sim_bind h1 fun n rx hx => sim_bind0 (KR.keep hx) ?_))
    rw [mod_own h0', M.bind_assoc]
    refine sim_bind (popat_sim (e := enc) (xs := ys) (k := n) ns) fun q p ep => ?_
    subst ep
    show Sim ns (M.bind (modify (env.set j (.own (eL enc q.2))) i (appD (enc q.1))) fun q => M.pure (Fl.nx q.2)) _ _
    have h3 : (env.set j (.own (eL enc q.2)))[i]? = some (.own (eL enc xs)) := by rw [List.getElem?_set_ne (fun h => hij h.symm)]; exact h0
    rw [mod_own h3, M.bind_assoc]
    refine sim_bind (push_sim (e := enc) (xs := xs) (a := q.1) ns) fun as p ep => ?_
    subst ep
    exact sim_pure (by rw [← he])
def setIT (xs : List α) (k : Int) (x : α) : T (List α) := T.opt ((ixI xs.length k).map fun j => xs.set j x)
theorem sub_sim {e : α → D} {xs : List α} {k : Int} {x : α} : OSim (subD (eI k) (e x) (eL e xs)) (setIT xs k x) fun ys p => p = (.non, eL e ys) := by
  have : subD (eI k) (e x) (eL e xs) = ((ixI xs.length k).map fun j => xs.set j x).map fun ys => (.non, eL e ys) := by
    show (ixI (xs.map e).length k).map (fun j => (D.non, D.lst ((xs.map e).set j (e x)))) = _
    rw [List.length_map]
    cases ixI xs.length k with
    | none => rfl
    | some j => simp [eL, List.map_set]
  rw [this]
  exact osim_opt fun _ => rfl
theorem s_sub {i : Nat} {k e : IE} {tk : T Int} {ta : T α} {enc : α → D} {xs : List α} {rest : IS} {f : List α → T β} {Q : β → Fl → Prop} (env' : List α → List Slot) (h0 : env[i]? = some (.own (eL enc xs))) (h1 : Sim ns ((den κ e).v env) ta (KRe enc)) (hk : Sim ns ((den κ k).v env) tk (KRe eI)) (he : ∀ ys, env.set i (.own (eL enc ys)) = env' ys) (h2 : ∀ ys, Sim ns (evS κ rest (env' ys)) (f ys) Q) : Sim ns (evS κ (.cons (.sub i k e) rest) env) (ta.bind fun a => tk.bind fun n => (setIT xs n a).bind f) Q := by
  have := seq1 (ns := ns) (κ := κ) (env := env) (s := .sub i k e) (rest := rest) (t := ta.bind fun a => tk.bind fun n => setIT xs n a) (f := f) (Q := Q) env' ?_ h2
  · simpa only [T.bind_assoc] using this
  · show Sim ns (M.bind (peek env i) fun _ => M.bind ((den κ e).v env) fun x => M.bind x.keep fun d => M.bind ((den κ k).v env) fun y => M.bind y.keep fun dk => M.bind (modify env i (subD dk d)) fun p => M.pure (Fl.nx p.2)) _ _
    refine sim_bind0 (peek_own h0) (sim_bind h1 fun a rx hx => sim_bind0 (KR.keep hx) (sim_bind hk fun n ry hy => sim_bind0 (KR.keep hy) ?_))
    rw [mod_own h0, M.bind_assoc]
    have := sim_bind (g := fun p => M.bind (M.pure (p.1, env.set i (.own p.2))) fun p => M.pure (Fl.nx p.2)) (f := T.ok) (R' := fun a fl => fl = Fl.nx (env' a)) (sub_sim (e := enc) (xs := xs) (k := n) (x := a) ns) fun ys p ep => by subst ep; exact sim_pure (by rw [he])
    rwa [T.bind_okT] at this
/-! several names at once -/
def PC (ns : List Int) (κ : Kp) (env : List Slot) (os : List Bool) (es : List IE) (t : T γ) (G : List Slot → M Fl) (Q : γ → Fl → Prop) : Prop := Sim ns (M.bind (parM κ os es env) G) t Q
theorem pc_nil {t : T γ} {G : List Slot → M Fl} {Q : γ → Fl → Prop} (h : Sim ns (G []) t Q) : PC ns κ env [] [] t G Q := sim_bind0 (fun _ => rfl) h
theorem pc_v {e : IE} {os : List Bool} {es : List IE} {ta : T α} {f : α → T γ} {enc : α → D} {G : List Slot → M Fl} {Q : γ → Fl → Prop} (h1 : Sim ns ((den κ e).v env) ta (KRe enc)) (h : ∀ a, PC ns κ env os es (f a) (fun sls => G (.val (enc a) :: sls)) Q) : PC ns κ env (false :: os) (e :: es) (ta.bind f) G Q := by
  show Sim ns (M.bind (M.bind ((den κ e).v env) fun x => M.bind (toSlot false x) fun sl => M.bind (parM κ os es env) fun r => M.pure (sl :: r)) G) _ _
  rw [M.bind_assoc]
  refine sim_bind h1 fun a rx hx => ?_
  have e3 : toSlot false rx = M.pure (.val (enc a)) := by
    show (M.bind rx.keep fun d => M.pure (Slot.val d)) = _
    have : rx.keep = M.pure (enc a) := by funext b; exact KR.keep hx b
    rw [this]; rfl
  rw [e3, M.pure_bind, M.bind_assoc]
  exact h a
theorem pc_o {e : IE} {os : List Bool} {es : List IE} {ta : T α} {f : α → T γ} {enc : α → D} {G : List Slot → M Fl} {Q : γ → Fl → Prop} (h1 : Sim ns ((den κ e).v env) ta (FRe enc)) (h : ∀ a, PC ns κ env os es (f a) (fun sls => G (.own (enc a) :: sls)) Q) : PC ns κ env (true :: os) (e :: es) (ta.bind f) G Q := by
  show Sim ns (M.bind (M.bind ((den κ e).v env) fun x => M.bind (toSlot true x) fun sl => M.bind (parM κ os es env) fun r => M.pure (sl :: r)) G) _ _
  rw [M.bind_assoc]
  refine sim_bind h1 fun a rx hx => ?_
  unfold FRe at hx; subst hx
  show Sim ns (M.bind (M.bind (M.pure (Slot.own (enc a))) fun sl => M.bind (parM κ os es env) fun r => M.pure (sl :: r)) G) _ _
  rw [M.pure_bind, M.bind_assoc]
  exact h a
theorem s_par {os : List Bool} {is : List Nat} {es : List IE} {rest : IS} {t : T γ} {Q : γ → Fl → Prop} (h : PC ns κ env os es t (fun sls => evS κ rest (setSs is sls env)) Q) : Sim ns (evS κ (.cons (.par os is es) rest) env) t Q := by
  rw [ev_cons]
  show Sim ns (M.bind (M.bind (parM κ os es env) fun sls => M.pure (.nx (setSs is sls env))) (contS κ rest)) t Q
  rw [M.bind_assoc]
  exact h
theorem s_env {s : IS} {t : T γ} {Q : γ → Fl → Prop} (env' : List Slot) (h : env = env') (k : Sim ns (evS κ s env') t Q) : Sim ns (evS κ s env) t Q := by rw [h]; exact k
/-! branches -/
theorem s_ite {c : IE} {x y : IS} {tc : T Bool} {ta tb : T γ} {Q : γ → Fl → Prop} (h0 : Sim ns ((den κ c).t env) tc Eq) (h1 : Sim ns (evS κ x env) ta Q) (h2 : Sim ns (evS κ y env) tb Q) : Sim ns (evS κ (.ite c x y) env) (tc.bind fun k => if k = true then ta else tb) Q :=
  sim_bind h0 fun a rx hx => by subst hx; exact sim_ite h1 h2
/-- a branch that returns, else on -/
theorem s_ifR {c : IE} {x rest : IS} {tc : T Bool} {ta tb : T ρ} {q : ρ → R → Prop} (h0 : Sim ns ((den κ c).t env) tc Eq) (h1 : Sim ns (evS κ x env) ta (RtQ q)) (h2 : Sim ns (evS κ rest env) tb (RtQ q)) : Sim ns (evS κ (.cons (.ite c x .nil) rest) env) (tc.bind fun k => if k = true then ta else tb) (RtQ q) := by
  rw [ev_cons]
  show Sim ns (M.bind (M.bind ((den κ c).t env) fun k => if k then evS κ x env else evS κ .nil env) (contS κ rest)) _ _
  rw [M.bind_assoc]
  refine sim_bind h0 fun a rx hx => ?_
  subst hx
  cases a
  · exact h2
  · have := sim_bind (g := contS κ rest) (f := fun a => T.ok a) (R' := RtQ q) h1 fun a fl ⟨r, e, hq⟩ => by subst e; exact sim_pure ⟨r, rfl, hq⟩
    rwa [T.bind_okT] at this
theorem s_ifX {c : IE} {x rest : IS} {tc : T Bool} {ta : T ρ} {tb : T (Stp σ ρ)} {q : ρ → R → Prop} {E : Jk → σ → List Slot} (h0 : Sim ns ((den κ c).t env) tc Eq) (h1 : Sim ns (evS κ x env) ta (RtQ q)) (h2 : Sim ns (evS κ rest env) tb (StpR E q)) : Sim ns (evS κ (.cons (.ite c x .nil) rest) env) (tc.bind fun k => if k = true then ta.bind fun a => T.ok (.rt a) else tb) (StpR E q) := by
  rw [ev_cons]
  show Sim ns (M.bind (M.bind ((den κ c).t env) fun k => if k then evS κ x env else evS κ .nil env) (contS κ rest)) _ _
  rw [M.bind_assoc]
  refine sim_bind h0 fun a rx hx => ?_
  subst hx
  cases a
  · exact h2
  · exact sim_bind (g := contS κ rest) h1 fun a fl ⟨r, e, hq⟩ => by subst e; exact sim_pure ⟨r, rfl, hq⟩
/-- a branch that raises -/
theorem s_ifB {c : IE} {x rest : IS} {tc : T Bool} {tb : T γ} {Q : γ → Fl → Prop} (h0 : Sim ns ((den κ c).t env) tc Eq) (h2 : Sim ns (evS κ rest env) tb Q) : Sim ns (evS κ (.cons (.ite c x .nil) rest) env) (tc.bind fun k => if k = true then T.bad else tb) Q := by
  rw [ev_cons]
  show Sim ns (M.bind (M.bind ((den κ c).t env) fun k => if k then evS κ x env else evS κ .nil env) (contS κ rest)) _ _
  rw [M.bind_assoc]
  refine sim_bind h0 fun a rx hx => ?_
  subst hx
  cases a
  · exact h2
  · exact sim_bad
/-! loops -/
theorem for_go {e : α → D} {tg : Tg} {bd : IS} {E : Jk → σ → List Slot} {body : α → σ → T σ} (env1 : α → Jk → σ → List Slot) (he : ∀ a j st, setT tg (e a) (E j st) = some (env1 a j st)) (hb : ∀ a j st, Sim ns (evS κ bd (env1 a j st)) (body a st) (NxE E)) :
    ∀ (xs : List α) (j : Jk) (st : σ), Sim ns (forGo (fun x env => M.bind (M.opt (setT tg x env)) fun env1 => evS κ bd env1) (xs.map e) (E j st)) (T.forT body xs st) (NxE E)
  | [], j, st => sim_pure ⟨j, rfl⟩
  | x :: xs, j, st => by
    show Sim ns (M.bind (M.bind (M.opt (setT tg (e x) (E j st))) fun env1 => evS κ bd env1) fun r => match r with | .nx env' => forGo (fun x env => M.bind (M.opt (setT tg x env)) fun env1 => evS κ bd env1) (xs.map e) env' | .rt r => M.pure (.rt r)) _ _
    rw [he x j st]
    refine sim_bind (hb x j st) fun st' fl ⟨j', e'⟩ => ?_
    subst e'
    exact for_go env1 he hb xs j' st'
theorem s_for {e : α → D} {tg : Tg} {s : IE} {bd : IS} {E : Jk → σ → List Slot} {body : α → σ → T σ} {ts : T (List α)} {st0 : σ} (j0 : Jk) (env1 : α → Jk → σ → List Slot) (h0 : env = E j0 st0) (hs : SI ns κ env s ts e) (he : ∀ a j st, setT tg (e a) (E j st) = some (env1 a j st)) (hb : ∀ a j st, Sim ns (evS κ bd (env1 a j st)) (body a st) (NxE E)) :
    Sim ns (evS κ (.for_ tg s bd) env) (ts.bind fun xs => T.forT body xs st0) (NxE E) := by
  refine sim_bind hs fun xs ds e1 => ?_
  subst e1; subst h0
  exact for_go env1 he hb xs j0 st0
theorem forX_go {e : α → D} {tg : Tg} {bd : IS} {E : Jk → σ → List Slot} {q : ρ → R → Prop} {body : α → σ → T (Stp σ ρ)} (env1 : α → Jk → σ → List Slot) (he : ∀ a j st, setT tg (e a) (E j st) = some (env1 a j st)) (hb : ∀ a j st, Sim ns (evS κ bd (env1 a j st)) (body a st) (StpR E q)) :
    ∀ (xs : List α) (j : Jk) (st : σ), Sim ns (forGo (fun x env => M.bind (M.opt (setT tg x env)) fun env1 => evS κ bd env1) (xs.map e) (E j st)) (T.forX body xs st) (StpR E q)
  | [], j, st => sim_pure ⟨j, rfl⟩
  | x :: xs, j, st => by
    show Sim ns (M.bind (M.bind (M.opt (setT tg (e x) (E j st))) fun env1 => evS κ bd env1) fun r => match r with | .nx env' => forGo (fun x env => M.bind (M.opt (setT tg x env)) fun env1 => evS κ bd env1) (xs.map e) env' | .rt r => M.pure (.rt r)) _ _
    rw [he x j st]
    refine sim_bind (hb x j st) fun r fl h => ?_
    cases r with
    | nx st' => obtain ⟨j', e'⟩ := h; subst e'; exact forX_go env1 he hb xs j' st'
    | rt a => obtain ⟨r', e', hq⟩ := h; subst e'; exact sim_pure ⟨r', rfl, hq⟩
theorem s_forX {e : α → D} {tg : Tg} {s : IE} {bd : IS} {E : Jk → σ → List Slot} {q : ρ → R → Prop} {body : α → σ → T (Stp σ ρ)} {ts : T (List α)} {st0 : σ} (j0 : Jk) (env1 : α → Jk → σ → List Slot) (h0 : env = E j0 st0) (hs : SI ns κ env s ts e) (he : ∀ a j st, setT tg (e a) (E j st) = some (env1 a j st)) (hb : ∀ a j st, Sim ns (evS κ bd (env1 a j st)) (body a st) (StpR E q)) :
    Sim ns (evS κ (.for_ tg s bd) env) (ts.bind fun xs => T.forX body xs st0) (StpR E q) := by
  refine sim_bind hs fun xs ds e1 => ?_
  subst e1; subst h0
  exact forX_go env1 he hb xs j0 st0
theorem whl_go {c : IE} {bd : IS} {E : Jk → σ → List Slot} {tc : σ → T Bool} {body : σ → T σ} (hc : ∀ j st, Sim ns ((den κ c).t (E j st)) (tc st) Eq) (hb : ∀ j st, Sim ns (evS κ bd (E j st)) (body st) (NxE E)) :
    ∀ (n : Nat) (j : Jk) (st : σ), Sim ns (whlGo (den κ c).t (evS κ bd) n (E j st)) (T.whlT tc body n st) (NxE E)
  | 0, j, st => sim_bad
  | n + 1, j, st => by
    refine sim_bind (hc j st) fun k k' ek => ?_
    subst ek
    cases k
    · exact sim_pure ⟨j, rfl⟩
    · refine sim_bind (hb j st) fun st' fl ⟨j', e'⟩ => ?_
      subst e'
      exact whl_go hc hb n j' st'
theorem s_whl {c : IE} {bd : IS} {E : Jk → σ → List Slot} {tc : σ → T Bool} {body : σ → T σ} {st0 : σ} (j0 : Jk) (h0 : env = E j0 st0) (hc : ∀ j st, Sim ns ((den κ c).t (E j st)) (tc st) Eq) (hb : ∀ j st, Sim ns (evS κ bd (E j st)) (body st) (NxE E)) : Sim ns (evS κ (.whl c bd) env) (T.whlT tc body 1000000 st0) (NxE E) := by
  subst h0
  exact whl_go hc hb 1000000 j0 st0
theorem whlX_go {c : IE} {bd : IS} {E : Jk → σ → List Slot} {q : ρ → R → Prop} {tc : σ → T Bool} {body : σ → T (Stp σ ρ)} (hc : ∀ j st, Sim ns ((den κ c).t (E j st)) (tc st) Eq) (hb : ∀ j st, Sim ns (evS κ bd (E j st)) (body st) (StpR E q)) :
    ∀ (n : Nat) (j : Jk) (st : σ), Sim ns (whlGo (den κ c).t (evS κ bd) n (E j st)) (T.whlX tc body n st) (StpR E q)
  | 0, j, st => sim_bad
  | n + 1, j, st => by
    refine sim_bind (hc j st) fun k k' ek => ?_
    subst ek
    cases k
    · exact sim_pure ⟨j, rfl⟩
    · refine sim_bind (hb j st) fun r fl h => ?_
      cases r with
      | nx st' => obtain ⟨j', e'⟩ := h; subst e'; exact whlX_go hc hb n j' st'
      | rt a => obtain ⟨r', e', hq⟩ := h; subst e'; exact sim_pure ⟨r', rfl, hq⟩
theorem s_whlX {c : IE} {bd : IS} {E : Jk → σ → List Slot} {q : ρ → R → Prop} {tc : σ → T Bool} {body : σ → T (Stp σ ρ)} {st0 : σ} (j0 : Jk) (h0 : env = E j0 st0) (hc : ∀ j st, Sim ns ((den κ c).t (E j st)) (tc st) Eq) (hb : ∀ j st, Sim ns (evS κ bd (E j st)) (body st) (StpR E q)) : Sim ns (evS κ (.whl c bd) env) (T.whlX tc body 1000000 st0) (StpR E q) := by
  subst h0
  exact whlX_go hc hb 1000000 j0 st0
/-! ends -/
theorem s_ret {e : IE} {t : T α} {enc : α → D} (h : Sim ns ((den κ e).v env) t (KRe enc)) : Sim ns (evS κ (.ret e) env) t (RtQ (KRe enc)) := by
  have := sim_bind (g := fun x => match x with | .val d => M.pure (.rt (.val d)) | .fr d => M.pure (.rt (.fr d)) | _ => M.bad) (f := fun a => T.ok a) (R' := RtQ (KRe enc)) h fun a rx hx => by
    have hx2 : KR (enc a) rx := hx
    generalize enc a = z at hx2
    cases rx with
    | val d => exact sim_pure ⟨_, rfl, hx⟩
    | fr d => exact sim_pure ⟨_, rfl, hx⟩
    | own d => cases hx2
    | bx n => cases hx2
  rwa [T.bind_okT] at this
theorem s_retF {e : IE} {t : T α} {enc : α → D} (h : Sim ns ((den κ e).v env) t (FRe enc)) : Sim ns (evS κ (.ret e) env) t (RtQ (FRe enc)) := by
  have := sim_bind (g := fun x => match x with | .val d => M.pure (.rt (.val d)) | .fr d => M.pure (.rt (.fr d)) | _ => M.bad) (f := fun a => T.ok a) (R' := RtQ (FRe enc)) h fun a rx hx => by
    unfold FRe at hx; subst hx
    exact sim_pure ⟨_, rfl, rfl⟩
  rwa [T.bind_okT] at this
theorem s_retn : Sim ns (evS κ .retn env) (T.ok ()) (RtQ (KRe eN)) := sim_pure ⟨_, rfl, .val _⟩
theorem s_nev {t : T γ} {Q : γ → Fl → Prop} : Sim ns (evS κ .nev env) (T.bad : T γ) Q := sim_bad
/-! defs -/
theorem take_bx {n n' : Nat} {rest b b' : List D} (h : Bx ns n rest b) (h' : Bx ns n' rest b') : b'.take b.length = b' := by
  obtain ⟨_, _, rfl, _⟩ := h
  obtain ⟨_, _, rfl, _⟩ := h'
  exact List.take_of_length_le (by simp)
theorem f_R {fn : Fn} {as : List A} {t : T ρ} {q : ρ → R → Prop} (hl : as.length = fn.np) (h : Sim ns (evS κ fn.body (as.map A.slot ++ List.replicate (fn.n - fn.np) .no)) t (RtQ q)) : Sim ns (runF κ fn as) t q := by
  intro n rest b P hb hw
  obtain ⟨fl, b1, a, n1, e, ⟨r, e2, hq⟩, w, hb1⟩ := h n rest b P hb hw
  subst e2
  refine ⟨r, b1, a, n1, ?_, hq, w, hb1⟩
  unfold runF
  rw [if_pos hl, e]
  show Res.ok r (b1.take b.length) = _
  rw [take_bx hb hb1]
theorem f_N {fn : Fn} {as : List A} {t : T σ} {E : Jk → σ → List Slot} (hl : as.length = fn.np) (h : Sim ns (evS κ fn.body (as.map A.slot ++ List.replicate (fn.n - fn.np) .no)) t (NxE E)) : Sim ns (runF κ fn as) (t.bind fun _ => T.ok ()) (KRe eN) := by
  intro n rest b P hb hw
  obtain ⟨fl, b1, a, n1, e, ⟨r, e2⟩, w, hb1⟩ := h n rest b _ hb (T.wp_bind.mp hw)
  subst e2
  refine ⟨.val .non, b1, (), n1, ?_, .val _, T.wp_ok.mp w, hb1⟩
  unfold runF
  rw [if_pos hl, e]
  show Res.ok (R.val .non) (b1.take b.length) = _
  rw [take_bx hb hb1]
theorem kap_f {p : List Fn} {g : Nat → List D × List D} {k i : Nat} {fn : Fn} {as : List A} (h : p[i]? = some fn) : (kap p g (k + 1)).f i as = runF (kap p g k) fn as := by
  show (match p[i]? with | some fn => runF (kap p g k) fn as | none => M.bad) = _
  rw [h]
end
end Sg

-- SgD
/-! SgD: draws, and the law's begin. -/
namespace Sg
theorem draw_bx (κ : Kp) (ns : List Int) (m : Nat) (c : Nat) (rest b : List D) (hm : 1 ≤ m) (hm2 : m ≤ 1000000) (hc : c < 2 ^ 60) (h : Bx ns c rest b) :
    Wp (runF κ fDraw [.val (.scr ns), .bx 0, .val (.int m)]) (fun r b' => (∃ d : Nat, r = .val (.int d) ∧ d < m) ∧ Bx ns (c + 1) rest b') b := by
  obtain ⟨t, us, rfl, hl, ht⟩ := h
  rw [wp_run rfl]
  unfold fDraw
  have bm : bnd (m : Int) = true := bnd_nat (by omega)
  have m0 : (m : Int) ≠ 0 := by omega
  have st : small ((t : Int) + 1) = true := small_of (by omega) (by omega)
  have b3 : ∀ n : Nat, n < 1000 → bnd (n : Int) = true := fun n h => bnd_nat (by omega)
  have res : ∀ i : Int, ∃ d : Nat, R.val (D.int (i.fmod m)) = R.val (D.int d) ∧ d < m := fun i => by
    obtain ⟨d, h1, h2⟩ := fmod_nat (i := i) hm
    exact ⟨d, by rw [h1], h2⟩
  have tk : ∀ (x : D), (x :: rest).take (rest.length + 1) = x :: rest := fun x => List.take_of_length_le (by simp)
  have tw : Bx ns (c + 1) rest (.lst (.int ((t : Int) + 1) :: us.map .int) :: rest) := ⟨t + 1, us, by simp, hl, by omega⟩
  cases ns with
  | nil =>
    simp only [List.map_cons, List.map_nil, A.slot, List.replicate, List.cons_append, List.nil_append, ↓rules, ↓forms, ↓stms, ↓ops, ↓wp_peek, ↓wp_modify, ↓wp_getbx, ↓nth, ↓nsetR, ↓chg, ↓wp_ret, ↓lits, List.isEmpty_nil, ↓reduceIte, List.length_map]
    refine ⟨by rw [st]; rfl, ?_, ⟨by decide, b3 3 (by decide)⟩, m0, res _, by simpa only [tk] using tw⟩
    have : small 7 = true := by decide
    rw [this]
    simp
  | cons n0 nr =>
    simp only [List.map_cons, List.map_nil, A.slot, List.replicate, List.cons_append, List.nil_append, ↓rules, ↓forms, ↓stms, ↓ops, ↓wp_peek, ↓wp_modify, ↓wp_getbx, ↓nth, ↓nsetR, ↓chg, ↓wp_ret, ↓lits, List.isEmpty_cons, Bool.false_eq_true, ↓reduceIte]
    obtain ⟨a, ha, hlt⟩ := fmod_nat (i := (t : Int) + 1) (m := nr.length + 1) (by omega)
    have hu : a < us.length := by rw [hl]; simpa using hlt
    refine ⟨by omega, ?_⟩
    rw [ha]
    have e1 : (1 + (a : Int)) = ((a + 1 : Nat) : Int) := by omega
    rw [e1]
    simp only [at_nat, List.getElem?_cons_succ, List.getElem?_map, List.getElem?_eq_getElem hu, Option.map_some]
    have hn : a < (n0 :: nr).length := by simpa using hlt
    simp only [List.getElem?_eq_getElem hn]
    simp only [↓rules, ↓ops]
    refine ⟨⟨by decide, by decide, by decide⟩, ?_⟩
    have c1 : (small 104729 || small ((t : Int) + 1) || bnd 104729 && bnd ((t : Int) + 1)) = true := by rw [st]; simp
    have c2 : ∀ x : Int, (small x || small 69621 || bnd x && bnd 69621) = true := fun x => by
      have : small 69621 = true := by decide
      rw [this]; simp
    have c3 : ∀ x : Int, small (x.fmod 4294967291) = true := fun x => by
      have := fmod_lt (i := x) (m := 4294967291) (by decide)
      exact small_of this.1 (by omega)
    have late : ∀ z : Int, (small 104729 || small ((t : Int) + 1) || bnd 104729 && bnd ((t : Int) + 1)) = true ∧ (4294967291 : Int) ≠ 0 ∧ ((0 : Int) ≤ 5 ∧ (5 : Int) ≤ 1000000 ∧ small (z.fmod 4294967291) = true) ∧ (4294967279 : Int) ≠ 0 ∧ ((64 : Int) ≠ 0 ∧ bnd 64 = true) ∧
        (small (((z.fmod 4294967291 ^ Int.toNat 5).fmod 4294967279).fdiv 64) || small 69621 || bnd (((z.fmod 4294967291 ^ Int.toNat 5).fmod 4294967279).fdiv 64) && bnd 69621) = true ∧ (4294967231 : Int) ≠ 0 ∧ ((8 : Int) ≠ 0 ∧ bnd 8 = true) ∧ (m : Int) ≠ 0 ∧
        (∃ d : Nat, R.val (D.int ((((((z.fmod 4294967291 ^ Int.toNat 5).fmod 4294967279).fdiv 64 * 69621 + (z.fmod 4294967291 ^ Int.toNat 5).fmod 4294967279).fmod 4294967231).fdiv 8).fmod m)) = R.val (D.int d) ∧ d < m) ∧
        Bx (n0 :: nr) (c + 1) rest (List.take (rest.length + 1) (D.lst (D.int ((t : Int) + 1) :: List.map D.int us) :: rest)) := fun z =>
      ⟨c1, by decide, ⟨by decide, by decide, c3 z⟩, by decide, ⟨by decide, b3 64 (by decide)⟩, c2 _, by decide, ⟨by decide, b3 8 (by decide)⟩, m0, res _, by rw [tk]; exact tw⟩
    split
    · split
      · refine ⟨⟨m0, bm⟩, ?_⟩
        rw [ix_nat]
        refine ⟨by simpa using hu, m0, res _, ?_⟩
        refine ⟨t + 1, us.set a (us[a].fdiv m), ?_, by simpa using hl, by omega⟩
        simp [List.map_set]
      · exact late _
    · exact late _
def drawI (i : Int) : T Int := T.draw i.toNat fun d => T.ok (d : Int)
def pickT {α : Type} (cs : List α) : T α := (drawI (cs.length : Int)).bind fun d => atT cs d
theorem drawI_wp {i : Int} {n : Nat} {P : Int → Nat → Prop} (h1 : 1 ≤ i) (h2 : i ≤ 1000000) (hn : n < 2 ^ 60) (h : ∀ d : Nat, d < i.toNat → P (d : Int) (n + 1)) : (drawI i).wp n P := T.wp_draw.mpr ⟨⟨by omega, by omega, hn⟩, fun d hd => T.wp_ok.mpr (h d hd)⟩
section
variable {p : List Fn} {g : Nat → List D × List D}
theorem sim_draw {ns : List Int} {iD : Nat} (h : p[iD]? = some fDraw) (k : Nat) (i : Int) : Sim ns ((kap p g (k + 1)).f iD [.val (.scr ns), .bx 0, .val (eI i)]) (drawI i) (KRe eI) := by
  rw [kap_f h]
  intro n rest b P hb hw
  obtain ⟨⟨h1, h2, h3⟩, h4⟩ := T.wp_draw.mp hw
  have hi : i = (i.toNat : Int) := by omega
  have := draw_bx (kap p g k) ns i.toNat n rest b h1 h2 h3 hb
  obtain ⟨r, b', e, ⟨d, e2, hd⟩, hb'⟩ := wp_ex this
  subst e2
  have e : runF (kap p g k) fDraw [.val (.scr ns), .bx 0, .val (eI i)] b = .ok (.val (.int d)) b' := by unfold eI; rw [hi]; exact e
  exact ⟨.val (.int d), b', (d : Int), n + 1, e, .val _, T.wp_ok.mp (h4 d hd), hb'⟩
theorem sim_pick {α : Type} {ns : List Int} {iD iP : Nat} (h : p[iD]? = some fDraw) (h' : p[iP]? = some (fPick iD)) (k : Nat) {e : α → D} (cs : List α) : Sim ns ((kap p g (k + 2)).f iP [.val (.scr ns), .bx 0, .val (eL e cs)]) (pickT cs) (KRe e) := by
  rw [kap_f (k := k + 1) h']
  have hd := sim_draw (g := g) (ns := ns) h k
  refine f_R rfl (seqR (s_ret ?_))
  have := e_idx (ns := ns) (κ := kap p g (k + 1)) (env := [.val (.scr ns), .bx 0, .val (eL e cs)]) (x := .var 2) (y := .call iD (.cons (.var 0) (.cons (.var 1) (.cons (.bi .len (.cons (.var 2) .nil)) .nil)))) (g := fun (a : List α) b => atT a b) (ta := T.ok cs) (tb := drawI (cs.length : Int)) (e_g (e_var (e := eL e) rfl)) (e_g (e_call (a_var rfl <| a_box rfl <| a_cons (ta := T.ok (cs.length : Int)) (f := drawI) (e_bi (g := lenT) (e_g (e_var (e := eL e) (a := cs) rfl)) fun a => b_lenL a) fun a => a_nil (hd a)))) fun a b => x_L a b
  exact this
/-- the law's begin: the town -/
theorem law_go {ns : List Int} {iL iT it k : Nat} {fn : Fn} {rest : IS} {t : T Bool} (hfn : p[iL]? = some fn) (hb : fn.body = .cons (.asgb it (.call iT (.cons (.var 0) .nil))) rest) (hnp : fn.np = 1) (hT : p[iT]? = some fTown) (hl : ns.length ≤ 63)
    (hs : Sim ns (evS (kap p g (k + 1)) rest (([A.val (.scr ns)].map A.slot ++ List.replicate (fn.n - fn.np) Slot.no).set it (.bx 0))) t (RtQ (KRe eB))) (hw : t.wp 0 fun r _ => r = true) : ∃ b', (kap p g (k + 2)).f iL [.val (.scr ns)] [] = .ok (.val (.bl true)) b' := by
  rw [kap_f (k := k + 1) hfn]
  unfold runF
  rw [if_pos (by rw [hnp]; rfl), hb]
  have e1 : (kap p g (k + 1)).f iT [.val (.scr ns)] [] = .ok (.fr (.lst (.int 0 :: ns.map .int))) [] := by
    rw [kap_f hT, town_eq hl]; rfl
  have e2 : evS (kap p g (k + 1)) (.asgb it (.call iT (.cons (.var 0) .nil))) ([A.val (.scr ns)].map A.slot ++ List.replicate (fn.n - fn.np) Slot.no) [] = .ok (.nx (([A.val (.scr ns)].map A.slot ++ List.replicate (fn.n - fn.np) Slot.no).set it (.bx 0))) [.lst (.int 0 :: ns.map .int)] := by
    show M.bind ((kap p g (k + 1)).f iT [.val (.scr ns)]) _ [] = _
    unfold M.bind
    rw [e1]; rfl
  obtain ⟨fl, b1, a, n1, e3, ⟨r, e4, hq⟩, w, hb1⟩ := hs 0 [] [.lst (.int 0 :: ns.map .int)] _ ⟨0, ns, rfl, rfl, Nat.le_refl 0⟩ hw
  subst w
  have hr := KR.bl hq
  subst hr; subst e4
  refine ⟨b1.take ([] : List D).length, ?_⟩
  have e5 : evS (kap p g (k + 1)) (.cons (.asgb it (.call iT (.cons (.var 0) .nil))) rest) ([A.val (.scr ns)].map A.slot ++ List.replicate (fn.n - fn.np) Slot.no) [] = .ok (.rt (.val (.bl true))) b1 := by
    rw [ev_cons]
    unfold M.bind
    rw [e2]; exact e3
  show (match evS (kap p g (k + 1)) (.cons (.asgb it (.call iT (.cons (.var 0) .nil))) rest) ([A.val (.scr ns)].map A.slot ++ List.replicate (fn.n - fn.np) Slot.no) [] with | .ok (.nx _) b' => Res.ok (R.val .non) (b'.take _) | .ok (.rt r) b' => .ok r (b'.take _) | .exn c b' => .exn c (b'.take _) | .bad => .bad) = _
  rw [e5]
end
end Sg

-- SgL
/-! SgL: the typed layer's laws: what loops, rows and operators give. -/
namespace Sg
namespace T
variable {α β γ σ ρ : Type}
theorem mapT_eq {f : α → T β} {g : α → β} : ∀ {xs : List α}, (∀ x ∈ xs, f x = ok (g x)) → mapT f xs = ok (xs.map g)
  | [], _ => rfl
  | x :: xs, h => by
    show (f x).bind _ = _
    rw [h x (by simp), ok_bind, mapT_eq (xs := xs) fun y hy => h y (by simp [hy])]; rfl
@[simp] theorem mapT_ok {g : α → β} {xs : List α} : mapT (fun x => ok (g x)) xs = ok (xs.map g) := mapT_eq fun _ _ => rfl
theorem filT_eq {c : α → T Bool} {f : α → T β} {p : α → Bool} {g : α → β} : ∀ {xs : List α}, (∀ x ∈ xs, c x = ok (p x)) → (∀ x ∈ xs, p x = true → f x = ok (g x)) → filT c f xs = ok ((xs.filter p).map g)
  | [], _, _ => rfl
  | x :: xs, h, k => by
    show (c x).bind _ = _
    rw [h x (by simp), ok_bind]
    have ih := filT_eq (xs := xs) (fun y hy => h y (by simp [hy])) (fun y hy => k y (by simp [hy]))
    cases e : p x
    · simp only [Bool.false_eq_true, if_false, List.filter_cons, e]; exact ih
    · simp only [if_true, List.filter_cons, e, List.map_cons]
      rw [k x (by simp) e, ok_bind, ih]; rfl
theorem catT_eq {f : α → T (List β)} {g : α → List β} : ∀ {xs : List α}, (∀ x ∈ xs, f x = ok (g x)) → catT f xs = ok (xs.map g).flatten
  | [], _ => rfl
  | x :: xs, h => by
    show (f x).bind _ = _
    rw [h x (by simp), ok_bind, catT_eq (xs := xs) fun y hy => h y (by simp [hy])]; rfl
/-- a loop, by its state at each turn -/
theorem forT_inv {f : α → σ → T σ} (I : Nat → σ) : ∀ {xs : List α}, (∀ i (h : i < xs.length), f xs[i] (I i) = ok (I (i + 1))) → forT f xs (I 0) = ok (I xs.length)
  | [], _ => rfl
  | x :: xs, h => by
    show (f x (I 0)).bind _ = _
    have h0 := h 0 (by simp)
    simp only [List.getElem_cons_zero] at h0
    rw [h0, ok_bind]
    have := forT_inv (f := f) (fun i => I (i + 1)) (xs := xs) fun i hi => by
      have := h (i + 1) (by simpa using hi)
      simpa using this
    exact this
theorem forT_fold {f : α → σ → T σ} {g : σ → α → σ} : ∀ {xs : List α} {s : σ}, (∀ x ∈ xs, ∀ s, f x s = ok (g s x)) → forT f xs s = ok (xs.foldl g s)
  | [], _, _ => rfl
  | x :: xs, s, h => by
    show (f x s).bind _ = _
    rw [h x (by simp), ok_bind]
    exact forT_fold fun y hy => h y (by simp [hy])
/-- the same, while something holds of the state -/
theorem forT_foldI {f : α → σ → T σ} {g : σ → α → σ} (P : σ → Prop) : ∀ {xs : List α} {s : σ}, P s → (∀ x ∈ xs, ∀ s, P s → f x s = ok (g s x) ∧ P (g s x)) → forT f xs s = ok (xs.foldl g s) ∧ P (xs.foldl g s)
  | [], _, hp, _ => ⟨rfl, hp⟩
  | x :: xs, s, hp, h => by
    have h1 := h x (by simp) s hp
    show (f x s).bind _ = _ ∧ _
    rw [h1.1, ok_bind]
    exact forT_foldI P h1.2 fun y hy => h y (by simp [hy])
theorem forX_nx {f : α → σ → T (Stp σ ρ)} {s : σ} : ∀ {xs : List α}, (∀ x ∈ xs, f x s = ok (.nx s)) → forX f xs s = ok (.nx s)
  | [], _ => rfl
  | x :: xs, h => by
    show (f x s).bind _ = _
    rw [h x (by simp), ok_bind]
    exact forX_nx fun y hy => h y (by simp [hy])
/-- a loop that goes on or returns one value: all or not all -/
theorem forX_all {f : α → σ → T (Stp σ ρ)} {s : σ} {p : α → Bool} {r : ρ} : ∀ {xs : List α}, (∀ x ∈ xs, f x s = if p x = true then ok (.nx s) else ok (.rt r)) → forX f xs s = if xs.all p = true then ok (.nx s) else ok (.rt r)
  | [], _ => rfl
  | x :: xs, h => by
    show (f x s).bind _ = _
    rw [h x (by simp)]
    cases e : p x
    · simp [e]
    · have := forX_all (f := f) (s := s) (p := p) (r := r) (xs := xs) fun y hy => h y (by simp [hy])
      simpa [e] using this
@[simp] theorem stp_nx {f : σ → T ρ} {s : σ} : stp f (.nx s) = f s := rfl
@[simp] theorem stp_rt {f : σ → T ρ} {r : ρ} : stp f (.rt r) = ok r := rfl
@[simp] theorem stpX_nx {τ : Type} {f : σ → T (Stp τ ρ)} {s : σ} : stpX f (.nx s) = f s := rfl
@[simp] theorem stpX_rt {τ : Type} {f : σ → T (Stp τ ρ)} {r : ρ} : stpX f (.rt r) = ok (.rt r) := rfl
/-- with draws -/
theorem mapT_wp {f : α → T β} {R : α → β → Prop} {k : Nat} : ∀ {xs : List α} {n : Nat} {P : List β → Nat → Prop}, n + k * xs.length < 2 ^ 60 → (∀ x ∈ xs, ∀ n, n + k < 2 ^ 60 → (f x).wp n fun y n' => R x y ∧ n' ≤ n + k) → (∀ ys n', ys.length = xs.length → (∀ i (h : i < xs.length) (h' : i < ys.length), R xs[i] ys[i]) → n' ≤ n + k * xs.length → P ys n') → (mapT f xs).wp n P
  | [], n, P, _, _, h => wp_ok.mpr <| h [] n rfl (fun i h => absurd h (Nat.not_lt_zero _)) (Nat.le_add_right _ _)
  | x :: xs, n, P, hn, hf, h => by
    simp only [List.length_cons, Nat.mul_succ] at hn
    show ((f x).bind _).wp n P
    rw [wp_bind]
    refine wp_mono (fun y n1 ⟨hr, hn1⟩ => ?_) (hf x (by simp) n (by omega))
    rw [wp_bind]
    refine mapT_wp (R := R) (k := k) (xs := xs) (n := n1) (by omega) (fun z hz => hf z (by simp [hz])) fun ys n2 hl hR hn2 => ?_
    rw [wp_ok]
    refine h (y :: ys) n2 (by simp [hl]) (fun i hi hi' => ?_) (by simp only [List.length_cons, Nat.mul_succ]; omega)
    cases i with
    | zero => exact hr
    | succ i => exact hR i (by simpa using hi) (by simpa using hi')
theorem forT_wp {f : α → σ → T σ} {k : Nat} (I : Nat → σ → Prop) : ∀ {xs : List α} {i n : Nat} {s : σ} {P : σ → Nat → Prop}, n + k * xs.length < 2 ^ 60 → I i s → (∀ j (h : j < xs.length) s n, n + k < 2 ^ 60 → I (i + j) s → (f xs[j] s).wp n fun s' n' => I (i + j + 1) s' ∧ n' ≤ n + k) → (∀ s n', I (i + xs.length) s → n' ≤ n + k * xs.length → P s n') → (forT f xs s).wp n P
  | [], i, n, s, P, _, h0, _, h => wp_ok.mpr <| h s n h0 (Nat.le_add_right _ _)
  | x :: xs, i, n, s, P, hn, h0, hf, h => by
    simp only [List.length_cons, Nat.mul_succ] at hn
    show ((f x s).bind _).wp n P
    rw [wp_bind]
    have h1 := hf 0 (by simp) s n (by omega) h0
    refine wp_mono (fun s1 n1 ⟨hI, hn1⟩ => ?_) h1
    refine forT_wp (k := k) I (i := i + 1) (xs := xs) (n := n1) (by omega) hI (fun j hj s n hn hI => ?_) fun s2 n2 hI2 hn2 => h s2 n2 ?_ (by simp only [List.length_cons, Nat.mul_succ]; omega)
    · have := hf (j + 1) (by simpa using hj) s n hn (by rw [show i + (j + 1) = i + 1 + j by omega]; exact hI)
      rw [show i + (j + 1) + 1 = i + 1 + j + 1 by omega] at this
      simpa using this
    · rw [List.length_cons, show i + (xs.length + 1) = i + 1 + xs.length by omega]; exact hI2
end T
open T
variable {α β : Type}
theorem lim_eq : LIM = 1000000 := rfl
/-- 0, 1, .. as whole numbers -/
def nats (n : Nat) : List Int := (List.range n).map fun (i : Nat) => (i : Int)
theorem rngT_nat {n : Nat} (h : n ≤ 1000000) : rngT 0 (n : Int) = ok (nats n) := by
  have : (big 0 && big (n : Int)) = true := by
    unfold big
    simp only [Bool.and_eq_true, decide_eq_true_eq]
    omega
  unfold rngT
  rw [if_pos this]
  unfold rngI nats
  rw [Int.sub_zero, Int.toNat_natCast]
  congr 1
  refine List.map_congr_left fun i _ => ?_
  show (0 : Int) + i = i
  omega
@[simp] theorem nats_length {n : Nat} : (nats n).length = n := by simp [nats]
@[simp] theorem nats_get {n i : Nat} (h : i < (nats n).length) : (nats n)[i] = (i : Int) := by simp [nats]
theorem nats_mem {n : Nat} {x : Int} : x ∈ nats n ↔ ∃ i : Nat, i < n ∧ x = i := by
  unfold nats
  rw [List.mem_map]
  exact ⟨fun ⟨i, h, e⟩ => ⟨i, List.mem_range.mp h, e.symm⟩, fun ⟨i, h, e⟩ => ⟨i, List.mem_range.mpr h, e.symm⟩⟩
theorem atD_nat {xs : List α} {i : Nat} : atD xs (i : Int) = xs[i]? := by
  unfold atD ixI
  rw [if_pos (Int.natCast_nonneg i)]
  by_cases h : i < xs.length
  · rw [if_pos (by omega)]; rfl
  · rw [if_neg (by omega), List.getElem?_eq_none (by omega)]; rfl
theorem atT_nat {xs : List α} {i : Nat} (h : i < xs.length) : atT xs (i : Int) = ok xs[i] := by
  unfold atT
  rw [atD_nat, List.getElem?_eq_getElem h]; rfl
theorem atS_nat {xs : List Char} {i : Nat} (h : i < xs.length) (hl : xs.length ≤ LIM) : atS xs (i : Int) = ok xs[i] := by
  unfold atS
  rw [if_pos hl, atT_nat h]
theorem sIx_nat {n d j : Nat} : sIx n d (some (j : Int)) = min j n := by
  show (if (j : Int) < 0 then ((j : Int) + n).toNat else min (j : Int).toNat n) = _
  rw [if_neg (by omega), Int.toNat_natCast]
theorem cut_to {xs : List α} {j : Nat} : cutL xs none (some (j : Int)) = xs.take j := by
  show (xs.drop 0).take (sIx xs.length xs.length (some (j : Int)) - 0) = _
  rw [sIx_nat, List.drop_zero, Nat.sub_zero]
  by_cases h : j ≤ xs.length
  · rw [Nat.min_eq_left h]
  · rw [Nat.min_eq_right (by omega), List.take_length, List.take_of_length_le (by omega)]
theorem cut_from {xs : List α} {j : Nat} : cutL xs (some (j : Int)) none = xs.drop j := by
  show (xs.drop (sIx xs.length 0 (some (j : Int)))).take (xs.length - sIx xs.length 0 (some (j : Int))) = _
  rw [sIx_nat]
  by_cases h : j ≤ xs.length
  · rw [Nat.min_eq_left h, List.take_of_length_le (by rw [List.length_drop]; exact Nat.le_refl _)]
  · rw [Nat.min_eq_right (by omega), List.drop_length, List.drop_of_length_le (by omega)]
    simp
theorem cast_succ (j : Nat) : (j : Int) + 1 = ((j + 1 : Nat) : Int) := by omega
theorem appT_ok {x y : List α} (h : x.length + y.length ≤ 1000000) : appT x y = ok (x ++ y) := if_pos h
theorem pushT_ok {x : List α} {a : α} (h : x.length < 1000000) : pushT x a = ok (x ++ [a]) := if_pos h
theorem chkT_ok {n : Nat} {a : α} (h : n ≤ 1000000) : chkT n a = ok a := if_pos h
theorem lenS_ok {s : List Char} (h : s.length ≤ 1000000) : lenS s = ok (s.length : Int) := if_pos h
theorem fitT_ok {x : List α} (h : x.length ≤ 1000000) : fitT x = ok x := if_pos h
theorem cutS_ok {s : List Char} {l u : Option Int} (h : s.length ≤ 1000000) : cutS s l u = ok (cutL s l u) := if_pos h
theorem take_one_drop {xs : List α} {j : Nat} {x : α} (h : j < xs.length) : xs.take j ++ [x] ++ xs.drop (j + 1) = xs.set j x := by
  rw [List.set_eq_take_append_cons_drop, if_pos h]; simp
theorem take_drop_erase {xs : List α} {j : Nat} : xs.take j ++ xs.drop (j + 1) = xs.eraseIdx j := (List.eraseIdx_eq_take_drop_succ xs j).symm
/-- a loop that pushes one thing a turn -/
theorem push_loop {f : α → List β → T (List β)} {g : α → β} {xs : List α} {s0 : List β} (hl : s0.length + xs.length ≤ 1000000) (h : ∀ x ∈ xs, ∀ s : List β, s.length < 1000000 → f x s = ok (s ++ [g x])) : forT f xs s0 = ok (s0 ++ xs.map g) := by
  have := forT_inv (f := f) (fun i => s0 ++ (xs.take i).map g) (xs := xs) fun i hi => by
    rw [h xs[i] (List.getElem_mem hi) _ (by simp only [List.length_append, List.length_map, List.length_take]; omega)]
    rw [List.append_assoc, List.take_succ_eq_append_getElem hi, List.map_append]; rfl
  simpa using this
theorem nbnd {i : Int} (h : i.natAbs < 2 ^ 8000) : bnd i = true := decide_eq_true h
theorem mulT_ok {i j : Int} (hi : i.natAbs < 2 ^ 8000) (hj : j.natAbs < 2 ^ 8000) : mulT i j = ok (i * j) := by
  unfold mulT
  rw [nbnd hi, nbnd hj]; simp
theorem join_chars : ∀ r : List Char, joinS [] (r.map fun ch => [ch]) = r
  | [] => rfl
  | [c] => rfl
  | c :: d :: r => by
    have := join_chars (d :: r)
    simp only [List.map_cons] at this ⊢
    simp [joinS, this]
theorem sum_chars : ∀ r : List Char, sumLen (r.map fun ch => [ch]) = r.length
  | [] => rfl
  | c :: r => by
    have := sum_chars r
    unfold sumLen at this ⊢
    rw [List.map_cons, List.map_cons, List.sum_cons, this]
    simp; omega
theorem joinC_ok {r : List Char} (h : r.length ≤ 1000000) : joinC [] r = ok r := by
  unfold joinC joinT
  rw [if_pos (by rw [sum_chars, lim_eq]; simpa using h), join_chars]
theorem repT_ok {x : List α} {n : Nat} (h : x.length ≤ 1000) (hn : n ≤ 1000) : repT x (n : Int) = ok (rep n x) := by
  unfold repT
  rw [if_pos ⟨h, by omega, by omega⟩, Int.toNat_natCast]
theorem rep1T_ok {x : List α} {n : Nat} (h : x.length ≤ 1000) (h1 : x.isEmpty = false) (h2 : 1 ≤ n) (hn : n ≤ 1000) : rep1T x (n : Int) = ok (rep n x) := by
  unfold rep1T
  rw [if_pos ⟨h, h1, by omega, by omega⟩, Int.toNat_natCast]
theorem rep_one (n : Nat) (x : α) : rep n [x] = List.replicate n x := by
  unfold rep
  induction n with
  | zero => rfl
  | succ n ih => rw [List.replicate_succ, List.flatten_cons, ih]; rfl
/-! draws -/
theorem draw_wp {m n : Nat} {P : Int → Nat → Prop} (h1 : 1 ≤ m) (h2 : m ≤ 1000000) (hn : n < 2 ^ 60) (h : ∀ d : Nat, d < m → P (d : Int) (n + 1)) : (drawI (m : Int)).wp n P :=
  T.wp_draw.mpr ⟨⟨by rw [Int.toNat_natCast]; exact h1, by rw [Int.toNat_natCast]; exact h2, hn⟩, fun d hd => T.wp_ok.mpr (h d (by rwa [Int.toNat_natCast] at hd))⟩
theorem pick_wpT {cs : List α} {n : Nat} {P : α → Nat → Prop} (h1 : 1 ≤ cs.length) (h2 : cs.length ≤ 1000000) (hn : n < 2 ^ 60) (h : ∀ a ∈ cs, P a (n + 1)) : (pickT cs).wp n P := by
  unfold pickT
  rw [T.wp_bind]
  refine draw_wp h1 h2 hn fun d hd => ?_
  rw [atT_nat hd, T.wp_ok]
  exact h _ (List.getElem_mem hd)
end Sg

-- SgP
/-! SgP: sorted, min, max, sets, methods of tuples and texts, typed. -/
namespace Sg
section
variable {α β γ : Type}
/-- the order of what e encodes -/
structure OE (e : α → D) (lt : α → α → Bool) : Prop where
  lik : ∀ x y, likD (e x) (e y) = true
  lt : ∀ x y, ltb (e x) (e y) = lt x y
def ltC (x y : Char) : Bool := decide (x.toNat < y.toNat)
def ltBo (x y : Bool) : Bool := !x && y
def lexW [DecidableEq α] (lt : α → α → Bool) : List α → List α → Bool
  | [], [] => false
  | [], _ :: _ => true
  | _ :: _, [] => false
  | x :: xs, y :: ys => if x = y then lexW lt xs ys else lt x y
def ltP [DecidableEq α] [DecidableEq β] (lt : α → α → Bool) (lt' : β → β → Bool) (p q : α × β) : Bool := if p.1 = q.1 then (if p.2 = q.2 then false else lt' p.2 q.2) else lt p.1 q.1
def ltP3 [DecidableEq α] [DecidableEq β] [DecidableEq γ] (lt : α → α → Bool) (lt' : β → β → Bool) (lt'' : γ → γ → Bool) (p q : α × β × γ) : Bool := if p.1 = q.1 then ltP lt' lt'' p.2 q.2 else lt p.1 q.1
theorem oe_I : OE eI ltI := ⟨fun _ _ => rfl, fun _ _ => rfl⟩
theorem oe_B : OE eB ltBo := ⟨fun _ _ => rfl, fun _ _ => rfl⟩
theorem oe_S : OE eS ltS := ⟨fun _ _ => rfl, fun _ _ => rfl⟩
theorem oe_C : OE eC ltC := ⟨fun _ _ => rfl, fun x y => by
  show decide ([x.toNat] < [y.toNat]) = decide (x.toNat < y.toNat)
  simp [List.cons_lt_cons_iff]⟩
theorem lik_map {e : α → D} {lt : α → α → Bool} (o : OE e lt) : ∀ xs ys : List α, likL (xs.map e) (ys.map e) = true
  | [], _ => rfl
  | _ :: _, [] => rfl
  | x :: xs, y :: ys => by
    show (likD (e x) (e y) && likL (xs.map e) (ys.map e)) = true
    rw [o.lik, lik_map o xs ys]; rfl
theorem lex_map [DecidableEq α] {e : α → D} {lt : α → α → Bool} {n : Nat} (h : FE e n) (o : OE e lt) : ∀ xs ys : List α, ltbL (xs.map e) (ys.map e) = lexW lt xs ys
  | [], [] => rfl
  | [], _ :: _ => rfl
  | _ :: _, [] => rfl
  | x :: xs, y :: ys => by
    show (if eqD (e x) (e y) = true then ltbL (xs.map e) (ys.map e) else ltb (e x) (e y)) = _
    rw [h.eq, lex_map h o xs ys, o.lt]
    simp [lexW]
theorem oe_T [DecidableEq α] {e : α → D} {lt : α → α → Bool} {n : Nat} (h : FE e n) (o : OE e lt) : OE (eT e) (lexW lt) := ⟨lik_map o, lex_map h o⟩
theorem oe_L [DecidableEq α] {e : α → D} {lt : α → α → Bool} {n : Nat} (h : FE e n) (o : OE e lt) : OE (eL e) (lexW lt) := ⟨lik_map o, lex_map h o⟩
theorem oe_P [DecidableEq α] [DecidableEq β] {e : α → D} {e' : β → D} {lt : α → α → Bool} {lt' : β → β → Bool} {n m : Nat} (h : FE e n) (h' : FE e' m) (o : OE e lt) (o' : OE e' lt') : OE (eP e e') (ltP lt lt') := by
  refine ⟨fun x y => ?_, fun x y => ?_⟩
  · show (likD (e x.1) (e y.1) && (likD (e' x.2) (e' y.2) && true)) = true
    rw [o.lik, o'.lik]; rfl
  · show (if eqD (e x.1) (e y.1) = true then (if eqD (e' x.2) (e' y.2) = true then false else ltb (e' x.2) (e' y.2)) else ltb (e x.1) (e y.1)) = _
    rw [h.eq, h'.eq, o.lt, o'.lt]
    simp [ltP]
theorem oe_P3 [DecidableEq α] [DecidableEq β] [DecidableEq γ] {e : α → D} {e' : β → D} {e'' : γ → D} {lt : α → α → Bool} {lt' : β → β → Bool} {lt'' : γ → γ → Bool} {n m k : Nat} (h : FE e n) (h' : FE e' m) (h'' : FE e'' k) (o : OE e lt) (o' : OE e' lt') (o'' : OE e'' lt'') : OE (eP3 e e' e'') (ltP3 lt lt' lt'') := by
  refine ⟨fun x y => ?_, fun x y => ?_⟩
  · show (likD (e x.1) (e y.1) && (likD (e' x.2.1) (e' y.2.1) && (likD (e'' x.2.2) (e'' y.2.2) && true))) = true
    rw [o.lik, o'.lik, o''.lik]; rfl
  · show (if eqD (e x.1) (e y.1) = true then (if eqD (e' x.2.1) (e' y.2.1) = true then (if eqD (e'' x.2.2) (e'' y.2.2) = true then false else ltb (e'' x.2.2) (e'' y.2.2)) else ltb (e' x.2.1) (e' y.2.1)) else ltb (e x.1) (e y.1)) = _
    rw [h.eq, h'.eq, h''.eq, o.lt, o'.lt, o''.lt]
    simp [ltP3, ltP]
theorem insW_map {e : α → D} {lt : α → α → Bool} (o : OE e lt) (x : α) : ∀ r : List α, insW ltb (e x) (r.map e) = (insW lt x r).map e
  | [] => rfl
  | y :: r => by
    show (if ltb (e y) (e x) = true then e y :: insW ltb (e x) (r.map e) else e x :: e y :: r.map e) = _
    rw [o.lt, insW_map o x r]
    show _ = (if lt y x = true then y :: insW lt x r else x :: y :: r).map e
    split <;> rfl
theorem sortW_map {e : α → D} {lt : α → α → Bool} (o : OE e lt) : ∀ r : List α, sortW ltb (r.map e) = (sortW lt r).map e
  | [] => rfl
  | x :: r => by
    show insW ltb (e x) (sortW ltb (r.map e)) = _
    rw [sortW_map o r, insW_map o]; rfl
theorem alk_map [DecidableEq α] {e : α → D} {lt : α → α → Bool} {n : Nat} (h : FE e n) (hn : n ≤ 60) (o : OE e lt) (xs : List α) : alkL (xs.map e) = true := by
  unfold alkL
  rw [List.all_map, List.all_eq_true]
  intro x _
  show ((e x).okc && (xs.map e).all fun y => likD (e x) y) = true
  rw [fe_okc h hn, Bool.true_and, List.all_map, List.all_eq_true]
  exact fun y _ => o.lik x y
/-- what is no tuple -/
def NT (e : α → D) : Prop := ∀ a, (e a).ntn = true
/-- what is a tuple of something -/
def NE (e : α → D) : Prop := ∀ a, (e a).ne = true
theorem nt_I : NT eI := fun _ => rfl
theorem nt_B : NT eB := fun _ => rfl
theorem nt_S : NT eS := fun _ => rfl
theorem nt_C : NT eC := fun _ => rfl
theorem nt_L {e : α → D} : NT (eL e) := fun _ => rfl
theorem ne_P {e : α → D} {e' : β → D} : NE (eP e e') := fun _ => rfl
theorem ne_P3 {e : α → D} {e' : β → D} {e'' : γ → D} : NE (eP3 e e' e'') := fun _ => rfl
theorem srt_go [DecidableEq α] {e : α → D} {lt : α → α → Bool} {n : Nat} (h : FE e n) (hn : n ≤ 60) (o : OE e lt) {xs : List α} (k : ((xs.map e).all D.ne || (xs.map e).all D.ntn) = true) : biD .sorted [eL e xs] = some (.fr (eL e (sortW lt xs))) := by
  show (if srtOk (xs.map e) = true then some (R.fr (.lst (sortW ltb (xs.map e)))) else none) = _
  rw [if_pos (by unfold srtOk; rw [alk_map h hn o, k]; rfl), sortW_map o]; rfl
theorem b_srt [DecidableEq α] {e : α → D} {lt : α → α → Bool} {n : Nat} (h : FE e n) (hn : n ≤ 60) (o : OE e lt) (k : NT e) (xs : List α) : OSim (biD .sorted [eL e xs]) (T.ok (sortW lt xs)) (FRe (eL e)) :=
  osim_some (srt_go h hn o (by rw [Bool.or_eq_true]; exact .inr (by rw [List.all_map, List.all_eq_true]; exact fun x _ => k x))) rfl
theorem b_srtE [DecidableEq α] {e : α → D} {lt : α → α → Bool} {n : Nat} (h : FE e n) (hn : n ≤ 60) (o : OE e lt) (k : NE e) (xs : List α) : OSim (biD .sorted [eL e xs]) (T.ok (sortW lt xs)) (FRe (eL e)) :=
  osim_some (srt_go h hn o (by rw [Bool.or_eq_true]; exact .inl (by rw [List.all_map, List.all_eq_true]; exact fun x _ => k x))) rfl
theorem ne_T {e : α → D} : NE (eT e) := fun _ => rfl
def bestT (f : α → List α → α) : List α → T α
  | [] => T.bad
  | x :: xs => T.ok (f x xs)
theorem minW_map {e : α → D} {lt : α → α → Bool} (o : OE e lt) : ∀ (xs : List α) (x : α), minW ltb (e x) (xs.map e) = e (minW lt x xs)
  | [], _ => rfl
  | y :: r, x => by
    show minW ltb (if ltb (e y) (e x) = true then e y else e x) (r.map e) = e (minW lt (if lt y x = true then y else x) r)
    rw [o.lt]
    split <;> exact minW_map o r _
theorem maxW_map {e : α → D} {lt : α → α → Bool} (o : OE e lt) : ∀ (xs : List α) (x : α), maxW ltb (e x) (xs.map e) = e (maxW lt x xs)
  | [], _ => rfl
  | y :: r, x => by
    show maxW ltb (if ltb (e x) (e y) = true then e y else e x) (r.map e) = e (maxW lt (if lt x y = true then y else x) r)
    rw [o.lt]
    split <;> exact maxW_map o r _
theorem best_go [DecidableEq α] {e : α → D} {lt : α → α → Bool} {n : Nat} (h : FE e n) (hn : n ≤ 60) (o : OE e lt) (nn : NoN e) {f : D → List D → D} {g : α → List α → α} (hf : ∀ xs x, f (e x) (xs.map e) = e (g x xs)) : ∀ xs : List α, OSim (bestD f (xs.map e)) (bestT g xs) (KRe e)
  | [] => osim_bad
  | x :: xs => osim_v (d := e (g x xs)) (by
    show (if (alkL (e x :: xs.map e) && (e x :: xs.map e).all D.nn) = true then some (R.val (f (e x) (xs.map e))) else none) = _
    rw [if_pos, hf]
    rw [show (e x :: xs.map e) = (x :: xs).map e from rfl, alk_map h hn o, Bool.true_and, List.all_map, List.all_eq_true]
    intro y _
    have := nn y
    show (e y).nn = true
    cases q : e y <;> first | rfl | (rw [q] at this; cases this)) rfl
theorem b_minL [DecidableEq α] {e : α → D} {lt : α → α → Bool} {n : Nat} (h : FE e n) (hn : n ≤ 60) (o : OE e lt) (nn : NoN e) (xs : List α) : OSim (biD .min [eL e xs]) (bestT (minW lt) xs) (KRe e) := best_go h hn o nn (minW_map o) xs
theorem b_minT [DecidableEq α] {e : α → D} {lt : α → α → Bool} {n : Nat} (h : FE e n) (hn : n ≤ 60) (o : OE e lt) (nn : NoN e) (xs : List α) : OSim (biD .min [eT e xs]) (bestT (minW lt) xs) (KRe e) := best_go h hn o nn (minW_map o) xs
theorem b_maxL [DecidableEq α] {e : α → D} {lt : α → α → Bool} {n : Nat} (h : FE e n) (hn : n ≤ 60) (o : OE e lt) (nn : NoN e) (xs : List α) : OSim (biD .max [eL e xs]) (bestT (maxW lt) xs) (KRe e) := best_go h hn o nn (maxW_map o) xs
theorem b_maxT [DecidableEq α] {e : α → D} {lt : α → α → Bool} {n : Nat} (h : FE e n) (hn : n ≤ 60) (o : OE e lt) (nn : NoN e) (xs : List α) : OSim (biD .max [eT e xs]) (bestT (maxW lt) xs) (KRe e) := best_go h hn o nn (maxW_map o) xs
/-! methods -/
theorem mk_cntT {e : α → D} (xs : List α) : meOk .count (eT e xs) = true := rfl
theorem mk_idxT {e : α → D} (xs : List α) : meOk .index (eT e xs) = true := rfl
theorem mk_cntS (s : List Char) : meOk .count (eS s) = true := rfl
theorem m_cntT [DecidableEq α] {e : α → D} {n : Nat} (h : FE e n) (hn : n + 1 ≤ 60) (xs : List α) (x : α) : OSim (meD .count (eT e xs) [e x]) (T.ok (cntI xs x)) (KRe eI) :=
  osim_v (d := (.int (cntI xs x))) (by
    have := fe_okc (fe_T h) hn xs
    have h2 := fe_okc h (by omega) x
    unfold eT at this ⊢
    show (if _ then some (R.val (D.int ((xs.map e).countP fun y => eqD y (e x) : Nat))) else none) = _
    rw [this, h2, cnt_map h]; rfl) rfl
theorem m_idxT [DecidableEq α] {e : α → D} {n : Nat} (h : FE e n) (hn : n + 1 ≤ 60) (xs : List α) (x : α) : OSim (meD .index (eT e xs) [e x]) (indT xs x) (KRe eI) := by
  have h1 := fe_okc (fe_T h) hn xs
  have h2 := fe_okc h (by omega) x
  unfold eT at h1 ⊢
  have : meD .index (.tup (xs.map e)) [e x] = (idxI x xs).map fun n => R.val (.int n) := by
    show (if _ then _ else _) = _
    rw [h1, h2, idx_map h]; rfl
  rw [this]
  unfold indT
  cases idxI x xs with
  | none => exact osim_bad
  | some n => exact osim_some rfl (.val _)
def cntS (s : List Char) (c : Char) : T Int := if s.length ≤ LIM then T.ok (s.count c : Nat) else T.bad
theorem m_cntS (s : List Char) (c : Char) : OSim (meD .count (eS s) [eC c]) (cntS s c) (KRe eI) := osim_if fun q => osim_v (d := (.int (s.count c : Nat))) (if_pos q) rfl
/-! texts in order -/
theorem c_ltS (x y : List Char) : OSim (cmpD .lt (eS x) (eS y)) (T.ok (ltS x y)) Eq := osim_some rfl rfl
def memB [DecidableEq α] (a : α) (b : List α) : Bool := decide (a ∈ b)
theorem c_inLm [DecidableEq α] {e : α → D} {n : Nat} (h : FE e n) (hn : n + 1 ≤ 60) (x : α) (xs : List α) : OSim (cmpD .isin (e x) (eL e xs)) (T.ok (memB x xs)) Eq := c_inL h hn x xs
theorem c_inTm [DecidableEq α] {e : α → D} {n : Nat} (h : FE e n) (hn : n + 1 ≤ 60) (x : α) (xs : List α) : OSim (cmpD .isin (e x) (eT e xs)) (T.ok (memB x xs)) Eq := c_inT h hn x xs
theorem c_ninLm [DecidableEq α] {e : α → D} {n : Nat} (h : FE e n) (hn : n + 1 ≤ 60) (x : α) (xs : List α) : OSim (cmpD .notin (e x) (eL e xs)) (T.ok (!memB x xs)) Eq := c_ninL h hn x xs
theorem c_ninTm [DecidableEq α] {e : α → D} {n : Nat} (h : FE e n) (hn : n + 1 ≤ 60) (x : α) (xs : List α) : OSim (cmpD .notin (e x) (eT e xs)) (T.ok (!memB x xs)) Eq := c_ninT h hn x xs
/-! min, max of two; sets -/
variable {ns : List Int} {κ : Kp} {env : List Slot}
theorem e_mm {mx : Bool} {x y : IE} {ta tb : T Int} (h1 : Sim ns ((den κ x).v env) ta (KRe eI)) (h2 : Sim ns ((den κ y).v env) tb (KRe eI)) : Sim ns ((den κ (.mm mx x y)).v env) (ta.bind fun a => tb.bind fun b => T.ok (mmI mx a b)) (KRe eI) := by
  refine sim_bind h1 fun a rx hx => sim_bind h2 fun b ry hy => ?_
  rw [KR.int hx, KR.int hy]
  exact sim_bind0 (fun _ => rfl) (sim_bind0 (fun _ => rfl) (sim_pure (.val _)))
def sseT (lt : α → α → Bool) [DecidableEq α] (xs : List α) : T (List α) := if xs.length ≤ 4000 then T.ok (sortW lt (nub xs)) else T.bad
def lseT [DecidableEq α] (xs : List α) : T Int := if xs.length ≤ 4000 then T.ok ((nub xs).length : Nat) else T.bad
theorem e_sset {x : IE} {ta : T α} {e : α → D} {f : α → T β} {e' : β → D} (h1 : Sim ns ((den κ x).v env) ta (GRe e)) (h : ∀ a, OSim ((setD (e a)).map ssetD) (f a) (FRe e')) : Sim ns ((den κ (.sset x)).v env) (ta.bind fun a => f a) (FRe e') := by
  refine sim_bind h1 fun a rx hx => sim_bind0 (GR.get hx) ?_
  have := h a ns
  cases q : setD (e a) with
  | none => rw [q] at this; exact this
  | some z => rw [q] at this; exact this
theorem e_lset {x : IE} {ta : T α} {e : α → D} {f : α → T β} {e' : β → D} (h1 : Sim ns ((den κ x).v env) ta (GRe e)) (h : ∀ a, OSim ((setD (e a)).map lsetD) (f a) (KRe e')) : Sim ns ((den κ (.lset x)).v env) (ta.bind fun a => f a) (KRe e') := by
  refine sim_bind h1 fun a rx hx => sim_bind0 (GR.get hx) ?_
  have := h a ns
  cases q : setD (e a) with
  | none => rw [q] at this; exact this
  | some z => rw [q] at this; exact this
theorem nub_map [DecidableEq α] [DecidableEq β] {f : α → β} (hf : ∀ a b, f a = f b → a = b) : ∀ xs : List α, nub (xs.map f) = (nub xs).map f
  | [] => rfl
  | x :: r => by
    show (if f x ∈ r.map f then nub (r.map f) else f x :: nub (r.map f)) = (if x ∈ r then nub r else x :: nub r).map f
    have : f x ∈ r.map f ↔ x ∈ r := by
      rw [List.mem_map]
      exact ⟨fun ⟨y, h, e⟩ => hf _ _ e ▸ h, fun h => ⟨x, h, rfl⟩⟩
    rw [nub_map hf r]
    by_cases q : x ∈ r
    · rw [if_pos q, if_pos (this.mpr q)]
    · rw [if_neg q, if_neg fun z => q (this.mp z)]; rfl
theorem sortF_map {lt : α → α → Bool} {lt' : β → β → Bool} {f : α → β} (h : ∀ a b, lt' (f a) (f b) = lt a b) : ∀ r : List α, sortW lt' (r.map f) = (sortW lt r).map f := by
  have hi : ∀ (x : α) (r : List α), insW lt' (f x) (r.map f) = (insW lt x r).map f := by
    intro x r
    induction r with
    | nil => rfl
    | cons y r ih =>
      show (if lt' (f y) (f x) = true then f y :: insW lt' (f x) (r.map f) else f x :: f y :: r.map f) = _
      rw [h, ih]
      show _ = (if lt y x = true then y :: insW lt x r else x :: y :: r).map f
      split <;> rfl
  intro r
  induction r with
  | nil => rfl
  | cons x r ih =>
    show insW lt' (f x) (sortW lt' (r.map f)) = _
    rw [ih, hi]; rfl
theorem strs_none : ∀ {xs : List Int}, xs ≠ [] → strsOf (xs.map eI) = none
  | [], h => absurd rfl h
  | _ :: _, _ => rfl
theorem set_ints {xs : List Int} (h : xs ≠ []) (q : xs.length ≤ 4000) : setD (eL eI xs) = some (.inr xs) := by
  unfold eL; simp only [setD, strs_none h, ints_map, if_pos q]
theorem set_intsT {xs : List Int} (h : xs ≠ []) (q : xs.length ≤ 4000) : setD (eT eI xs) = some (.inr xs) := by
  unfold eT; simp only [setD, strs_none h, ints_map, if_pos q]
theorem z_S (xs : List (List Char)) : OSim ((setD (eL eS xs)).map ssetD) (sseT ltS xs) (FRe (eL eS)) := osim_if fun q => osim_some (x := R.fr (eL eS (sortW ltS (nub xs)))) (by
  show Option.map ssetD (match strsOf (xs.map eS) with | some ss => _ | none => _) = _
  rw [strs_map]; simp only [if_pos q]; rfl) rfl
theorem z_ST (xs : List (List Char)) : OSim ((setD (eT eS xs)).map ssetD) (sseT ltS xs) (FRe (eL eS)) := osim_if fun q => osim_some (x := R.fr (eL eS (sortW ltS (nub xs)))) (by
  show Option.map ssetD (match strsOf (xs.map eS) with | some ss => _ | none => _) = _
  rw [strs_map]; simp only [if_pos q]; rfl) rfl
theorem z_C (xs : List Char) : OSim ((setD (eL eC xs)).map ssetD) (sseT ltC xs) (FRe (eL eC)) := osim_if fun q => osim_some (x := R.fr (eL eC (sortW ltC (nub xs)))) (by
  show Option.map ssetD (match strsOf (xs.map eC) with | some ss => _ | none => _) = _
  rw [chrs_map]; simp only [List.length_map, if_pos q]
  show some (R.fr (.lst ((sortW ltS (nub (xs.map fun c => [c]))).map .str))) = _
  rw [nub_map (fun a b e => by simpa using e), sortF_map (lt := ltC) (lt' := ltS) (f := fun c => [c]) (fun a b => oe_C.lt a b), List.map_map]; rfl) rfl
theorem z_I (xs : List Int) : OSim ((setD (eL eI xs)).map ssetD) (sseT ltI xs) (FRe (eL eI)) := osim_if fun q => osim_some (x := R.fr (eL eI (sortW ltI (nub xs)))) (by
  cases xs with
  | nil => rfl
  | cons x r =>
    rw [set_ints (by simp) q]; rfl) rfl
theorem z_IT (xs : List Int) : OSim ((setD (eT eI xs)).map ssetD) (sseT ltI xs) (FRe (eL eI)) := osim_if fun q => osim_some (x := R.fr (eL eI (sortW ltI (nub xs)))) (by
  cases xs with
  | nil => rfl
  | cons x r =>
    rw [set_intsT (by simp) q]; rfl) rfl
theorem y_I (xs : List Int) : OSim ((setD (eL eI xs)).map lsetD) (lseT xs) (KRe eI) := osim_if fun q => osim_v (d := .int (nub xs).length) (by
  cases xs with
  | nil => rfl
  | cons x r =>
    rw [set_ints (by simp) q]; rfl) rfl
theorem y_IT (xs : List Int) : OSim ((setD (eT eI xs)).map lsetD) (lseT xs) (KRe eI) := osim_if fun q => osim_v (d := .int (nub xs).length) (by
  cases xs with
  | nil => rfl
  | cons x r =>
    rw [set_intsT (by simp) q]; rfl) rfl
/-! tuples in order -/
theorem ord_map [DecidableEq α] {e : α → D} {lt : α → α → Bool} {n : Nat} (h : FE e n) (hn : n + 1 ≤ 60) (o : OE e lt) (k : Bool) (xs ys : List α) : ordT k (xs.map e) (ys.map e) = some k := by
  have h1 : (D.tup (xs.map e)).okc = true := fe_okc (fe_T h) hn xs
  have h2 : (D.tup (ys.map e)).okc = true := fe_okc (fe_T h) hn ys
  unfold ordT
  rw [h1, h2, lik_map o]; rfl
theorem c_ltT [DecidableEq α] {e : α → D} {lt : α → α → Bool} {n : Nat} (h : FE e n) (hn : n + 1 ≤ 60) (o : OE e lt) (xs ys : List α) : OSim (cmpD .lt (eT e xs) (eT e ys)) (T.ok (lexW lt xs ys)) Eq :=
  osim_some (show ordT (ltbL (xs.map e) (ys.map e)) _ _ = _ by rw [ord_map h hn o, lex_map h o]) rfl
theorem c_gtT [DecidableEq α] {e : α → D} {lt : α → α → Bool} {n : Nat} (h : FE e n) (hn : n + 1 ≤ 60) (o : OE e lt) (xs ys : List α) : OSim (cmpD .gt (eT e xs) (eT e ys)) (T.ok (lexW lt ys xs)) Eq :=
  osim_some (show ordT (ltbL (ys.map e) (xs.map e)) _ _ = _ by rw [ord_map h hn o, lex_map h o]) rfl
theorem c_leT [DecidableEq α] {e : α → D} {lt : α → α → Bool} {n : Nat} (h : FE e n) (hn : n + 1 ≤ 60) (o : OE e lt) (xs ys : List α) : OSim (cmpD .le (eT e xs) (eT e ys)) (T.ok (!lexW lt ys xs)) Eq :=
  osim_some (show ordT (!ltbL (ys.map e) (xs.map e)) _ _ = _ by rw [ord_map h hn o, lex_map h o]) rfl
theorem c_geT [DecidableEq α] {e : α → D} {lt : α → α → Bool} {n : Nat} (h : FE e n) (hn : n + 1 ≤ 60) (o : OE e lt) (xs ys : List α) : OSim (cmpD .ge (eT e xs) (eT e ys)) (T.ok (!lexW lt xs ys)) Eq :=
  osim_some (show ordT (!ltbL (xs.map e) (ys.map e)) _ _ = _ by rw [ord_map h hn o, lex_map h o]) rfl
/-- a perhaps none, taken as a value -/
theorem e_uno {m : M R} {e : α → D} {t : T (Option α)} {ns : List Int} (h : Sim ns m t (KRe (eO e))) : Sim ns m (t.bind T.opt) (KRe e) := by
  have := sim_bind (g := fun x => M.pure x) (f := T.opt) (R' := KRe e) h fun a x r => by
    cases a with
    | none => exact sim_bad
    | some a => exact sim_pure r
  have e2 : (M.bind m fun x => M.pure x) = m := by
    funext b; unfold M.bind M.pure; cases m b <;> rfl
  rwa [e2] at this
/-- the number of a set of signs -/
theorem y_C (xs : List Char) : OSim ((setD (eL eC xs)).map lsetD) (lseT xs) (KRe eI) := osim_if fun q => osim_v (d := .int (nub xs).length) (by
  show Option.map lsetD (match strsOf (xs.map eC) with | some ss => _ | none => _) = _
  rw [chrs_map]; simp only [List.length_map, if_pos q]
  show some (R.val (.int (nub (xs.map fun c => [c])).length)) = _
  rw [nub_map (fun a b e => by simpa using e), List.length_map]) rfl
end
end Sg

-- typed
namespace Sg
def t_l_random (x_many : Int) (x_signs : List Char) : T (List (List Char)) := ((T.ok []).bind fun x_found => ((((T.ok x_many).bind fun a => rngT 0 a).bind fun xs => T.forT (fun x_i s1 => (((T.ok []).bind fun a => (((T.ok x_many).bind fun a => rngT 0 a).bind fun xs => T.mapT (fun x_j => (((T.ok x_signs).bind (fun s => chkT s.length s)).bind fun a => pickT a)) xs).bind fun b => joinC a b).bind fun a => (pushT s1 a).bind fun x_found => (T.ok x_found))) xs x_found).bind fun (s1 : (List (List Char))) => ((T.ok s1).bind T.ok)))
def t_l_put (x_web_here : List (List Char)) (x_i : Int) (x_j : Int) (x_sign : Char) : T (List (List Char)) := ((((((T.ok x_web_here).bind fun a => (T.ok x_i).bind fun b => atT a b).bind fun a => (T.ok none).bind fun l => ((T.ok x_j).bind fun a => T.ok (some a)).bind fun u => cutS a l u).bind fun a => ((T.ok x_sign).bind fun a => T.ok [a]).bind fun b => appT a b).bind fun a => (((T.ok x_web_here).bind fun a => (T.ok x_i).bind fun b => atT a b).bind fun a => (((T.ok x_j).bind fun a => (T.ok 1).bind fun b => T.ok (a + b)).bind fun a => T.ok (some a)).bind fun l => (T.ok none).bind fun u => cutS a l u).bind fun b => appT a b).bind fun x_line => ((((T.ok x_web_here).bind fun a => (T.ok none).bind fun l => ((T.ok x_i).bind fun a => T.ok (some a)).bind fun u => T.ok (cutL a l u)).bind fun a => ((T.ok x_line).bind fun a1 => T.ok [a1]).bind fun b => appT a b).bind fun a => ((T.ok x_web_here).bind fun a => (((T.ok x_i).bind fun a => (T.ok 1).bind fun b => T.ok (a + b)).bind fun a => T.ok (some a)).bind fun l => (T.ok none).bind fun u => T.ok (cutL a l u)).bind fun b => appT a b))
def t_l_opposite (x_sign : Char) : T Char := ((T.ok x_sign).bind fun a => T.opt (lookT ['+', '-', '0'] ['-', '+', '0'] a))
def t_l_tree (x_many : Int) : T (List (List Char)) := (((((T.ok ['0']).bind fun a => (T.ok x_many).bind fun b => repT a b).bind fun a1 => T.ok [a1]).bind fun a => (T.ok x_many).bind fun b => rep1T a b).bind fun x_web_here => ((((T.ok x_many).bind fun a => rngT 0 a).bind fun xs => T.forT (fun x_i s2 => (((T.ok s2).bind fun a3 => (T.ok x_i).bind fun a4 => (T.ok x_i).bind fun a5 => (((T.ok '-').bind fun a6 => (T.ok '-').bind fun a7 => (T.ok '0').bind fun a8 => T.ok [a6, a7, a8]).bind fun a => pickT a).bind fun a9 => t_l_put a3 a4 a5 a9).bind fun x_web_here => (((((T.ok x_i).bind fun a => (T.ok 0).bind fun b => T.ok (decide (b < a))).bind fun a => if a = true then (((T.ok 6).bind fun a => drawI a).bind fun a => (T.ok 0).bind fun b => T.ok (decide (b < a))) else T.ok false).bind fun k => if k = true then (((T.ok x_i).bind fun a => drawI a).bind fun x_j => (((T.ok '+').bind fun a11 => (T.ok '-').bind fun a12 => T.ok [a11, a12]).bind fun a => pickT a).bind fun x_sign => ((((T.ok x_web_here).bind fun a13 => (T.ok x_i).bind fun a14 => (T.ok x_j).bind fun a15 => (T.ok x_sign).bind fun a16 => t_l_put a13 a14 a15 a16).bind fun a17 => (T.ok x_j).bind fun a18 => (T.ok x_i).bind fun a19 => ((T.ok x_sign).bind fun a20 => t_l_opposite a20).bind fun a21 => t_l_put a17 a18 a19 a21).bind fun x_web_here => (T.ok x_web_here))) else (T.ok x_web_here)).bind fun (s10 : (List (List Char))) => (T.ok s10)))) xs x_web_here).bind fun (s2 : (List (List Char))) => (T.ok s2)))
def t_l_web (x_most : Int) : T (List (List Char)) := (((T.ok 1).bind fun a => ((T.ok x_most).bind fun a => drawI a).bind fun b => T.ok (a + b)).bind fun x_many => ((T.ok 8).bind fun a => drawI a).bind fun x_how => (((T.ok x_how).bind fun a => (T.ok 3).bind fun b => T.ok (decide (a < b))).bind fun k => if k = true then ((T.ok x_many).bind fun a1 => (((T.ok ['+', '-', '0']).bind fun a2 => (T.ok ['+', '-', '0', '0', '0']).bind fun a3 => (T.ok ['-', '0']).bind fun a4 => (T.ok ['+', '-', '0', '-', '0']).bind fun a5 => T.ok [a2, a3, a4, a5]).bind fun a => pickT a).bind fun a6 => t_l_random a1 a6) else (((T.ok x_many).bind fun a7 => t_l_tree a7).bind fun x_web_here => ((((T.ok x_how).bind fun a => (T.ok 5).bind fun b => T.ok (decide (a < b))).bind fun k => if k = true then (((T.ok x_many).bind fun a => drawI a).bind fun x_i => ((T.ok x_many).bind fun a => drawI a).bind fun x_j => (((T.ok x_web_here).bind fun a9 => (T.ok x_i).bind fun a10 => (T.ok x_j).bind fun a11 => (((T.ok '+').bind fun a12 => (T.ok '-').bind fun a13 => (T.ok '0').bind fun a14 => T.ok [a12, a13, a14]).bind fun a => pickT a).bind fun a15 => t_l_put a9 a10 a11 a15).bind fun x_web_here => (T.ok x_web_here))) else (T.ok x_web_here)).bind fun (s8 : (List (List Char))) => (T.ok s8)))))
def t_l_sizes (x_rows : List (List Char)) (x_far : Int) : T (List (List Int)) := ((T.ok []).bind fun x_found => ((((T.ok x_rows).bind T.ok).bind fun xs => T.forT (fun x_line s1 => (((((T.ok x_line).bind (fun s => chkT s.length s)).bind fun xs => T.mapT (fun x_sign => (((T.ok x_sign).bind fun a => (T.ok '0').bind fun b => T.ok (decide (a = b))).bind fun k => if k = true then (T.ok 0) else ((T.ok 1).bind fun a => ((T.ok x_far).bind fun a => drawI a).bind fun b => T.ok (a + b)))) xs).bind T.ok).bind fun a => (pushT s1 a).bind fun x_found => (T.ok x_found))) xs x_found).bind fun (s1 : (List (List Int))) => ((T.ok s1).bind T.ok)))
def t_are_rows (x_value : List (List Char)) (x_signs : List Char) : T Bool := (((((T.ok x_value).bind fun a => T.ok ("tuple" == "tuple")).bind fun a => T.ok (!a)).bind fun a => if a = true then T.ok true else (((T.ok 1).bind fun a => ((T.ok x_value).bind lenT).bind fun b => (T.ok (decide (a ≤ b))).bind fun q => if q = true then (T.ok 5).bind fun c => T.ok (decide (b ≤ c)) else T.ok false).bind fun a => T.ok (!a))).bind fun k => if k = true then (T.ok false) else ((((((T.ok x_value).bind T.ok).bind fun xs => T.mapT (fun x_row => (((T.ok x_row).bind fun a => T.ok ("str" == "str")).bind fun a => if a = true then (((T.ok x_row).bind lenS).bind fun a => ((T.ok x_value).bind lenT).bind fun b => T.ok (decide (a = b))) else T.ok false)) xs).bind fun bs => T.ok (bs.all id)).bind fun a => T.ok (!a)).bind fun k => if k = true then (T.ok false) else ((((T.ok x_value).bind T.ok).bind fun xs => (T.catT (fun x_row => ((T.ok x_row).bind (fun s => chkT s.length s)).bind fun ys => T.mapT (fun x_sign => ((T.ok x_sign).bind fun a => (T.ok x_signs).bind fun b => T.ok (decide (a ∈ b)))) ys) xs).bind fitT).bind fun bs => T.ok (bs.all id))))
def t_is_web (x_value : List (List Char)) : T Bool := ((T.ok x_value).bind fun a1 => (T.ok ['+', '-', '0']).bind fun a2 => t_are_rows a1 a2)
def t_check_web (x_web : List (List Char)) : T Unit := (((((T.ok x_web).bind fun a1 => t_is_web a1).bind fun a => T.ok (!a)).bind fun k => if k = true then T.bad else (T.ok ())).bind fun _ => T.ok ())
def t_is_between (x_value : Int) (x_low : Int) (x_high : Int) : T Bool := (((T.ok x_value).bind fun a => T.ok ("int" == "int" || "int" == "bool")).bind fun a => if a = true then ((((T.ok x_value).bind fun a => T.ok ("int" == "bool")).bind fun a => T.ok (!a)).bind fun a => if a = true then ((T.ok x_low).bind fun a => (T.ok x_value).bind fun b => (T.ok (decide (a ≤ b))).bind fun q => if q = true then (T.ok x_high).bind fun c => T.ok (decide (b ≤ c)) else T.ok false) else T.ok false) else T.ok false)
def t_are_sizes (x_rows : List (List Char)) (x_value : List (List Int)) : T Bool := (((((T.ok x_value).bind fun a => T.ok ("tuple" == "tuple")).bind fun a => T.ok (!a)).bind fun a => if a = true then T.ok true else (((T.ok x_value).bind lenT).bind fun a => ((T.ok x_rows).bind lenT).bind fun b => T.ok (!decide (a = b)))).bind fun k => if k = true then (T.ok false) else ((((T.ok x_rows).bind fun a => (T.ok x_value).bind fun b => (T.ok a).bind fun xs => (T.ok b).bind fun ys => T.ok (xs.zip ys)).bind fun xs => T.forX (fun a2 s1 => (((((T.ok a2.2).bind fun a => T.ok ("tuple" == "tuple")).bind fun a => T.ok (!a)).bind fun a => if a = true then T.ok true else (((T.ok a2.2).bind lenT).bind fun a => ((T.ok a2.1).bind lenS).bind fun b => T.ok (!decide (a = b)))).bind fun k => if k = true then (T.ok false).bind fun a => T.ok (.rt a) else ((((T.ok a2.1).bind fun a => (T.ok a2.2).bind fun b => ((fun s => chkT s.length s) a).bind fun xs => (T.ok b).bind fun ys => T.ok (xs.zip ys)).bind fun xs => T.forX (fun a4 s3 => ((((T.ok a4.2).bind fun a5 => (((T.ok a4.1).bind fun a => (T.ok '0').bind fun b => T.ok (!decide (a = b))).bind (fun b => T.ok (if b = true then 1 else 0))).bind fun a6 => (((T.ok 10).bind fun a => (T.ok 30).bind fun b => powT a b).bind fun a => (((T.ok a4.1).bind fun a => (T.ok '0').bind fun b => T.ok (!decide (a = b))).bind (fun b => T.ok (if b = true then 1 else 0))).bind fun b => mulT a b).bind fun a7 => t_is_between a5 a6 a7).bind fun a => T.ok (!a)).bind fun k => if k = true then (T.ok false).bind fun a => T.ok (.rt a) else (T.ok (.nx ())))) xs ()).bind (T.stpX fun (s3 : Unit) => (T.ok (.nx ())))))) xs ()).bind (T.stp fun (s1 : Unit) => (T.ok true))))
def t_check_sizes (x_web : List (List Char)) (x_sizes : List (List Int)) : T Unit := ((((T.ok x_web).bind fun a1 => t_check_web a1).bind fun _ => ((((T.ok x_web).bind fun a2 => (T.ok x_sizes).bind fun a3 => t_are_sizes a2 a3).bind fun a => T.ok (!a)).bind fun k => if k = true then T.bad else (T.ok ()))).bind fun _ => T.ok ())
def t_found_matrix (x_rows : List (List Char)) (x_sizes : List (List Int)) : T (List (List Int)) := ((T.ok []).bind fun x_found => ((((T.ok x_rows).bind fun a => (T.ok x_sizes).bind fun b => (T.ok a).bind fun xs => (T.ok b).bind fun ys => T.ok (xs.zip ys)).bind fun xs => T.forT (fun a2 s1 => (((((T.ok a2.1).bind fun a => (T.ok a2.2).bind fun b => ((fun s => chkT s.length s) a).bind fun xs => (T.ok b).bind fun ys => T.ok (xs.zip ys)).bind fun xs => T.mapT (fun a3 => (((T.ok a3.1).bind fun a => T.opt (lookT ['+', '-', '0'] [1, -1, 0] a)).bind fun a => (T.ok a3.2).bind fun b => mulT a b)) xs).bind T.ok).bind fun a => (pushT s1 a).bind fun x_found => (T.ok x_found))) xs x_found).bind fun (s1 : (List (List Int))) => ((T.ok s1).bind T.ok)))
def t_matrix (x_web : List (List Char)) (x_sizes : List (List Int)) : T (List (List Int)) := (((T.ok x_web).bind fun a1 => (T.ok x_sizes).bind fun a2 => t_check_sizes a1 a2).bind fun _ => ((T.ok x_web).bind fun a3 => (T.ok x_sizes).bind fun a4 => t_found_matrix a3 a4))
def t_det_of : Nat → (List (List Int)) → T Int
  | 0, _ => T.bad
  | K + 1, x_rows => ((((T.ok x_rows).bind lenT).bind fun a => (T.ok 0).bind fun b => T.ok (decide (a = b))).bind fun k => if k = true then (T.ok 1) else ((T.ok 0).bind fun x_found => (((((T.ok x_rows).bind fun a => (T.ok 0).bind fun b => atT a b).bind fun a => (T.ok a).bind fun xs => T.ok (enumI xs)).bind fun xs => T.forT (fun a2 s1 => ((((T.ok a2.2).bind fun a => (T.ok 0).bind fun b => T.ok (!decide (a = b))).bind fun k => if k = true then (((((T.ok x_rows).bind fun a => ((T.ok 1).bind fun a => T.ok (some a)).bind fun l => (T.ok none).bind fun u => T.ok (cutL a l u)).bind T.ok).bind fun xs => T.mapT (fun x_row => (((T.ok x_row).bind fun a => (T.ok none).bind fun l => ((T.ok a2.1).bind fun a => T.ok (some a)).bind fun u => T.ok (cutL a l u)).bind fun a => ((T.ok x_row).bind fun a => (((T.ok a2.1).bind fun a => (T.ok 1).bind fun b => T.ok (a + b)).bind fun a => T.ok (some a)).bind fun l => (T.ok none).bind fun u => T.ok (cutL a l u)).bind fun b => appT a b)) xs).bind fun x_rest => (((T.ok s1).bind fun a => (((((T.ok a2.1).bind fun a => (T.ok 2).bind fun b => modT a b).bind fun a => (T.ok 0).bind fun b => T.ok (decide (a = b))).bind fun k => if k = true then (T.ok a2.2) else ((T.ok a2.2).bind fun a => T.ok (-a))).bind fun a => ((T.ok x_rest).bind fun a4 => t_det_of K a4).bind fun b => mulT a b).bind fun b => T.ok (a + b)).bind fun x_found => (T.ok x_found))) else (T.ok s1)).bind fun (s3 : Int) => (T.ok s3))) xs x_found).bind fun (s1 : Int) => (T.ok s1))))
def t_det (x_web : List (List Char)) (x_sizes : List (List Int)) : T Int := (((T.ok x_web).bind fun a1 => (T.ok x_sizes).bind fun a2 => t_check_sizes a1 a2).bind fun _ => (((T.ok x_web).bind fun a3 => (T.ok x_sizes).bind fun a4 => t_found_matrix a3 a4).bind fun a5 => t_det_of 8 a5))
def t_l_orders (x_many : Int) : T (List ((List Int) × Bool)) := ((((T.ok []).bind fun a1 => (T.ok false).bind fun a2 => T.ok (a1, a2)).bind fun a3 => T.ok [a3]).bind fun x_found => ((((T.ok x_many).bind fun a => rngT 0 a).bind fun xs => T.forT (fun x_k s4 => ((T.ok []).bind fun x_later => ((((T.ok s4).bind T.ok).bind fun xs => T.forT (fun a6 s5 => (((T.ok s5).bind fun a => ((((T.ok x_k).bind fun a => (T.ok 1).bind fun b => T.ok (a + b)).bind fun a => rngT 0 a).bind fun xs => T.mapT (fun x_at => (((((T.ok a6.1).bind fun a => (T.ok none).bind fun l => ((T.ok x_at).bind fun a => T.ok (some a)).bind fun u => T.ok (cutL a l u)).bind fun a => ((T.ok x_k).bind fun a7 => T.ok [a7]).bind fun b => appT a b).bind fun a => ((T.ok a6.1).bind fun a => ((T.ok x_at).bind fun a => T.ok (some a)).bind fun l => (T.ok none).bind fun u => T.ok (cutL a l u)).bind fun b => appT a b).bind fun a8 => ((T.ok a6.2).bind fun a => ((((T.ok x_k).bind fun a => (T.ok x_at).bind fun b => T.ok (a - b)).bind fun a => (T.ok 2).bind fun b => modT a b).bind fun a => (T.ok 1).bind fun b => T.ok (decide (a = b))).bind fun b => T.ok (!decide (a = b))).bind fun a9 => T.ok (a8, a9))) xs).bind fun b => appT a b).bind fun x_later => (T.ok x_later))) xs x_later).bind fun (s5 : (List ((List Int) × Bool))) => ((T.ok s5).bind fun x_found => (T.ok x_found))))) xs x_found).bind fun (s4 : (List ((List Int) × Bool))) => (T.ok s4)))
def t_l_det (x_rows : List (List Int)) : T Int := ((T.ok 0).bind fun x_whole => ((((((T.ok x_rows).bind lenT).bind fun a1 => t_l_orders a1).bind T.ok).bind fun xs => T.forT (fun a3 s2 => (((T.ok a3.2).bind fun k => if k = true then ((T.ok 1).bind fun a => T.ok (-a)) else (T.ok 1)).bind fun x_part => (((((T.ok x_rows).bind lenT).bind fun a => rngT 0 a).bind fun xs => T.forT (fun x_i s4 => (((T.ok s4).bind fun a => (((T.ok x_rows).bind fun a => (T.ok x_i).bind fun b => atT a b).bind fun a => ((T.ok a3.1).bind fun a => (T.ok x_i).bind fun b => atT a b).bind fun b => atT a b).bind fun b => mulT a b).bind fun x_part => (T.ok x_part))) xs x_part).bind fun (s4 : Int) => (((T.ok s2).bind fun a => (T.ok s4).bind fun b => T.ok (a + b)).bind fun x_whole => (T.ok x_whole))))) xs x_whole).bind fun (s2 : Int) => (T.ok s2)))
def t_l_rest (x_rows : List (List Int)) (x_i : Int) (x_j : Int) : T Int := (((((((T.ok x_rows).bind fun a => (T.ok none).bind fun l => ((T.ok x_i).bind fun a => T.ok (some a)).bind fun u => T.ok (cutL a l u)).bind fun a => ((T.ok x_rows).bind fun a => (((T.ok x_i).bind fun a => (T.ok 1).bind fun b => T.ok (a + b)).bind fun a => T.ok (some a)).bind fun l => (T.ok none).bind fun u => T.ok (cutL a l u)).bind fun b => appT a b).bind T.ok).bind fun xs => T.mapT (fun x_row => (((T.ok x_row).bind fun a => (T.ok none).bind fun l => ((T.ok x_j).bind fun a => T.ok (some a)).bind fun u => T.ok (cutL a l u)).bind fun a => ((T.ok x_row).bind fun a => (((T.ok x_j).bind fun a => (T.ok 1).bind fun b => T.ok (a + b)).bind fun a => T.ok (some a)).bind fun l => (T.ok none).bind fun u => T.ok (cutL a l u)).bind fun b => appT a b)) xs).bind fun a1 => t_l_det a1).bind fun x_part => (((((T.ok x_i).bind fun a => (T.ok x_j).bind fun b => T.ok (a + b)).bind fun a => (T.ok 2).bind fun b => modT a b).bind fun a => (T.ok 0).bind fun b => T.ok (decide (a = b))).bind fun k => if k = true then (T.ok x_part) else ((T.ok 0).bind fun a => (T.ok x_part).bind fun b => T.ok (a - b))))
def t_all_orders (x_many : Int) : T (List (List Int)) := (((T.ok []).bind fun a1 => T.ok [a1]).bind fun x_rows => ((((T.ok x_many).bind fun a => rngT 0 a).bind fun xs => T.forT (fun x_time s2 => ((((T.ok s2).bind T.ok).bind fun xs => (T.catT (fun x_row => ((T.ok x_many).bind fun a => rngT 0 a).bind fun ys => T.filT (fun x_one => ((T.ok x_one).bind fun a => (T.ok x_row).bind fun b => T.ok (!decide (a ∈ b)))) (fun x_one => ((T.ok x_row).bind fun a => ((T.ok x_one).bind fun a3 => T.ok [a3]).bind fun b => appT a b)) ys) xs).bind fitT).bind fun x_rows => (T.ok x_rows))) xs x_rows).bind fun (s2 : (List (List Int))) => (T.ok s2)))
def t_is_uneven (x_order : List Int) : T Bool := ((T.ok 0).bind fun x_many => ((((T.ok x_order).bind fun a => (T.ok a).bind fun xs => T.ok (enumI xs)).bind fun xs => T.forT (fun a2 s1 => (((T.ok s1).bind fun a => (((((T.ok x_order).bind fun a => ((T.ok a2.1).bind fun a => T.ok (some a)).bind fun l => (T.ok none).bind fun u => T.ok (cutL a l u)).bind T.ok).bind fun xs => T.filT (fun x_other => ((T.ok x_other).bind fun a => (T.ok a2.2).bind fun b => T.ok (decide (a < b)))) (fun x_other => (T.ok x_other)) xs).bind lenT).bind fun b => T.ok (a + b)).bind fun x_many => (T.ok x_many))) xs x_many).bind fun (s1 : Int) => (((T.ok s1).bind fun a => (T.ok 2).bind fun b => modT a b).bind fun a => (T.ok 1).bind fun b => T.ok (decide (a = b)))))
def t_found_terms (x_rows : List (List Char)) : T (List ((List Int) × Char)) := ((T.ok []).bind fun x_found => ((((((T.ok x_rows).bind lenT).bind fun a1 => t_all_orders a1).bind T.ok).bind fun xs => T.forT (fun x_order s2 => ((((T.ok x_order).bind fun a => (T.ok a).bind fun xs => T.ok (enumI xs)).bind fun xs => T.mapT (fun a3 => (((T.ok x_rows).bind fun a => (T.ok a3.1).bind fun b => atT a b).bind fun a => (T.ok a3.2).bind fun b => atS a b)) xs).bind fun x_signs => ((((T.ok '0').bind fun a => (T.ok x_signs).bind fun b => T.ok (!decide (a ∈ b))).bind fun k => if k = true then (((T.ok x_order).bind fun a6 => ((((T.ok x_order).bind fun a5 => t_is_uneven a5).bind fun a => ((((T.ok x_signs).bind fun a => (T.ok '-').bind fun b => T.ok (cntI a b)).bind fun a => (T.ok 2).bind fun b => modT a b).bind fun a => (T.ok 1).bind fun b => T.ok (decide (a = b))).bind fun b => T.ok (!decide (a = b))).bind fun k => if k = true then (T.ok '-') else (T.ok '+')).bind fun a7 => T.ok (a6, a7)).bind fun a => (pushT s2 a).bind fun x_found => (T.ok x_found)) else (T.ok s2)).bind fun (s4 : (List ((List Int) × Char))) => (T.ok s4)))) xs x_found).bind fun (s2 : (List ((List Int) × Char))) => (T.ok s2)))
def t_terms (x_web : List (List Char)) : T (List ((List Int) × Char)) := (((T.ok x_web).bind fun a1 => t_check_web a1).bind fun _ => (((T.ok x_web).bind fun a2 => t_found_terms a2).bind T.ok))
def t_naive_det (x_web : List (List Char)) (x_sizes : List (List Int)) : T Int := (((T.ok x_web).bind fun a1 => (T.ok x_sizes).bind fun a2 => t_check_sizes a1 a2).bind fun _ => ((T.ok 0).bind fun x_whole => (((((T.ok x_web).bind fun a3 => t_terms a3).bind T.ok).bind fun xs => T.forT (fun a5 s4 => ((((T.ok a5.2).bind fun a => (T.ok '+').bind fun b => T.ok (decide (a = b))).bind fun k => if k = true then (T.ok 1) else ((T.ok 1).bind fun a => T.ok (-a))).bind fun x_product => ((((T.ok a5.1).bind fun a => (T.ok a).bind fun xs => T.ok (enumI xs)).bind fun xs => T.forT (fun a7 s6 => (((T.ok s6).bind fun a => (((T.ok x_sizes).bind fun a => (T.ok a7.1).bind fun b => atT a b).bind fun a => (T.ok a7.2).bind fun b => atT a b).bind fun b => mulT a b).bind fun x_product => (T.ok x_product))) xs x_product).bind fun (s6 : Int) => (((T.ok s4).bind fun a => (T.ok s6).bind fun b => T.ok (a + b)).bind fun x_whole => (T.ok x_whole))))) xs x_whole).bind fun (s4 : Int) => (T.ok s4))))
def t_without (x_rows : List (List Int)) (x_i : Int) (x_j : Int) : T (List (List Int)) := (((T.ok x_rows).bind fun a => (T.ok a).bind fun xs => T.ok (enumI xs)).bind fun xs => T.filT (fun a1 => ((T.ok a1.1).bind fun a => (T.ok x_i).bind fun b => T.ok (!decide (a = b)))) (fun a1 => (((T.ok a1.2).bind fun a => (T.ok none).bind fun l => ((T.ok x_j).bind fun a => T.ok (some a)).bind fun u => T.ok (cutL a l u)).bind fun a => ((T.ok a1.2).bind fun a => (((T.ok x_j).bind fun a => (T.ok 1).bind fun b => T.ok (a + b)).bind fun a => T.ok (some a)).bind fun l => (T.ok none).bind fun u => T.ok (cutL a l u)).bind fun b => appT a b)) xs)
def t_divisor_of (x_one : Int) (x_other : Int) : T Int := (((T.ok x_one).bind (fun i => T.ok (if i < 0 then -i else i))).bind fun x_one => ((T.ok x_other).bind (fun i => T.ok (if i < 0 then -i else i))).bind fun x_other => ((T.whlT (fun s1 => ((T.ok s1.2).bind fun a => (T.ok 0).bind fun b => T.ok (!decide (a = b)))) (fun s1 => ((T.ok s1.2).bind fun x_one => ((T.ok s1.1).bind fun a => (T.ok s1.2).bind fun b => modT a b).bind fun x_other => (T.ok (x_one, x_other)))) 1000000 (x_one, x_other)).bind fun (s1 : Int × Int) => (T.ok s1.1)))
def t_fraction (x_top : Int) (x_bottom : Int) : T (Int × Int) := (((T.ok x_top).bind fun a1 => (T.ok x_bottom).bind fun a2 => t_divisor_of a1 a2).bind fun x_by => ((((T.ok x_bottom).bind fun a => (T.ok 0).bind fun b => T.ok (decide (b < a))).bind fun k => if k = true then (T.ok x_by) else ((T.ok x_by).bind fun a => T.ok (-a))).bind fun x_by => (((T.ok x_top).bind fun a => (T.ok x_by).bind fun b => fdivT a b).bind fun a3 => ((T.ok x_bottom).bind fun a => (T.ok x_by).bind fun b => fdivT a b).bind fun a4 => T.ok (a3, a4))))
def t_answers (x_web : List (List Char)) (x_sizes : List (List Int)) : T (List (List (Int × Int))) := (((T.ok x_web).bind fun a1 => (T.ok x_sizes).bind fun a2 => t_check_sizes a1 a2).bind fun _ => (((T.ok x_web).bind fun a3 => (T.ok x_sizes).bind fun a4 => t_found_matrix a3 a4).bind fun x_rows => (T.ok []).bind fun x_found => (((T.ok x_rows).bind fun a5 => t_det_of 8 a5).bind fun x_bottom => (((T.ok x_bottom).bind fun a => (T.ok 0).bind fun b => T.ok (decide (a = b))).bind fun k => if k = true then T.bad else (((((T.ok x_rows).bind lenT).bind fun a => rngT 0 a).bind fun xs => T.forT (fun x_i s6 => ((T.ok []).bind fun x_row => (((((T.ok x_rows).bind lenT).bind fun a => rngT 0 a).bind fun xs => T.forT (fun x_j s7 => ((((T.ok x_rows).bind fun a8 => (T.ok x_j).bind fun a9 => (T.ok x_i).bind fun a10 => t_without a8 a9 a10).bind fun a11 => t_det_of 8 a11).bind fun x_minor => (((((((T.ok x_i).bind fun a => (T.ok x_j).bind fun b => T.ok (a + b)).bind fun a => (T.ok 2).bind fun b => modT a b).bind fun a => (T.ok 1).bind fun b => T.ok (decide (a = b))).bind fun k => if k = true then (T.ok x_minor) else ((T.ok x_minor).bind fun a => T.ok (-a))).bind fun a12 => (T.ok x_bottom).bind fun a13 => t_fraction a12 a13).bind fun a => (pushT s7 a).bind fun x_row => (T.ok x_row)))) xs x_row).bind fun (s7 : (List (Int × Int))) => (((T.ok s7).bind T.ok).bind fun a => (pushT s6 a).bind fun x_found => (T.ok x_found))))) xs x_found).bind fun (s6 : (List (List (Int × Int)))) => ((T.ok s6).bind T.ok))))))
def t_l_matrix (x_rows : List (List Char)) (x_sizes_here : List (List Int)) : T (List (List Int)) := ((T.ok []).bind fun x_found => ((((T.ok x_rows).bind fun a => (T.ok x_sizes_here).bind fun b => (T.ok a).bind fun xs => (T.ok b).bind fun ys => T.ok (xs.zip ys)).bind fun xs => T.forT (fun a2 s1 => ((((((T.ok a2.1).bind lenS).bind fun a => rngT 0 a).bind fun xs => T.mapT (fun x_k => ((((T.ok a2.1).bind fun a => (T.ok x_k).bind fun b => atS a b).bind fun a => T.opt (lookT ['+', '-', '0'] [1, -1, 0] a)).bind fun a => ((T.ok a2.2).bind fun a => (T.ok x_k).bind fun b => atT a b).bind fun b => mulT a b)) xs).bind T.ok).bind fun a => (pushT s1 a).bind fun x_found => (T.ok x_found))) xs x_found).bind fun (s1 : (List (List Int))) => ((T.ok s1).bind T.ok)))
def t_sign_of (x_some : List ((List Int) × Char)) : T (Option Char) := (((((T.ok x_some).bind T.ok).bind fun xs => T.mapT (fun a1 => (T.ok a1.2)) xs).bind fun a => sseT ltC a).bind fun x_signs => (((T.ok x_signs).bind fun a => (T.ok []).bind fun b => T.ok (decide (a = b))).bind fun k => if k = true then ((T.ok '0').bind fun a => T.ok (some a)) else ((((T.ok x_signs).bind lenT).bind fun a => (T.ok 1).bind fun b => T.ok (decide (a = b))).bind fun k => if k = true then (((T.ok x_signs).bind fun a => (T.ok 0).bind fun b => atT a b).bind fun a => T.ok (some a)) else (T.ok none))))
def t_found_sure (x_rows : List (List Char)) : T (Option Char) := (((T.ok x_rows).bind fun a1 => t_found_terms a1).bind fun a2 => t_sign_of a2)
def t_sure_det (x_web : List (List Char)) : T (Option Char) := (((T.ok x_web).bind fun a1 => t_check_web a1).bind fun _ => ((T.ok x_web).bind fun a2 => t_found_sure a2))
def t_l_table (x_many : Int) (x_wide : Int) : T (List (List Char)) := ((T.ok []).bind fun x_found => ((((T.ok x_many).bind fun a => rngT 0 a).bind fun xs => T.forT (fun x_i s1 => (((T.ok []).bind fun a => (((T.ok x_wide).bind fun a => rngT 0 a).bind fun xs => T.mapT (fun x_j => (((T.ok ['+', '-', '0', '+', '-']).bind (fun s => chkT s.length s)).bind fun a => pickT a)) xs).bind fun b => joinC a b).bind fun a => (pushT s1 a).bind fun x_found => (T.ok x_found))) xs x_found).bind fun (s1 : (List (List Char))) => ((T.ok s1).bind T.ok)))
def t_is_table (x_value : List (List Char)) : T Bool := (((((T.ok x_value).bind fun a => T.ok ("tuple" == "tuple")).bind fun a => T.ok (!a)).bind fun a => if a = true then T.ok true else (((T.ok 1).bind fun a => ((T.ok x_value).bind lenT).bind fun b => (T.ok (decide (a ≤ b))).bind fun q => if q = true then (T.ok 4).bind fun c => T.ok (decide (b ≤ c)) else T.ok false).bind fun a => T.ok (!a))).bind fun k => if k = true then (T.ok false) else ((((((T.ok x_value).bind T.ok).bind fun xs => T.mapT (fun x_row => (((T.ok x_row).bind fun a => T.ok ("str" == "str")).bind fun a => if a = true then ((T.ok 1).bind fun a => ((T.ok x_row).bind lenS).bind fun b => (T.ok (decide (a ≤ b))).bind fun q => if q = true then (T.ok 6).bind fun c => T.ok (decide (b ≤ c)) else T.ok false) else T.ok false)) xs).bind fun bs => T.ok (bs.all id)).bind fun a => T.ok (!a)).bind fun k => if k = true then (T.ok false) else (((((T.ok x_value).bind T.ok).bind fun xs => T.mapT (fun x_row => (((T.ok x_row).bind lenS).bind fun a => (((T.ok x_value).bind fun a => (T.ok 0).bind fun b => atT a b).bind lenS).bind fun b => T.ok (decide (a = b)))) xs).bind fun bs => T.ok (bs.all id)).bind fun a => if a = true then ((((T.ok x_value).bind T.ok).bind fun xs => (T.catT (fun x_row => ((T.ok x_row).bind (fun s => chkT s.length s)).bind fun ys => T.mapT (fun x_sign => ((T.ok x_sign).bind fun a => (T.ok ['+', '-', '0']).bind fun b => T.ok (decide (a ∈ b)))) ys) xs).bind fitT).bind fun bs => T.ok (bs.all id)) else T.ok false)))
def t_check_table (x_table : List (List Char)) : T Unit := (((((T.ok x_table).bind fun a1 => t_is_table a1).bind fun a => T.ok (!a)).bind fun k => if k = true then T.bad else (T.ok ())).bind fun _ => T.ok ())
def t_all_choices (x_many : Int) : T (List (List Char)) := (((T.ok []).bind fun a1 => T.ok [a1]).bind fun x_rows => ((((T.ok x_many).bind fun a => rngT 0 a).bind fun xs => T.forT (fun x_time s2 => ((((T.ok s2).bind T.ok).bind fun xs => (T.catT (fun x_row => ((T.ok ['+', '-', '0']).bind (fun s => chkT s.length s)).bind fun ys => T.mapT (fun x_sign => ((T.ok x_row).bind fun a => ((T.ok x_sign).bind fun a => T.ok [a]).bind fun b => appT a b)) ys) xs).bind fitT).bind fun x_rows => (T.ok x_rows))) xs x_rows).bind fun (s2 : (List (List Char))) => (((T.ok s2).bind T.ok).bind fun xs => T.filT (fun x_row => ((T.ok x_row).bind fun a => ((T.ok ['0']).bind fun a => (T.ok x_many).bind fun b => repT a b).bind fun b => T.ok (!decide (a = b)))) (fun x_row => (T.ok x_row)) xs)))
def t_column_counts (x_table : List (List Char)) (x_choice : List Char) (x_place : Int) : T (Int × Int) := ((((T.ok x_choice).bind fun a => (T.ok x_table).bind fun b => ((fun s => chkT s.length s) a).bind fun xs => (T.ok b).bind fun ys => T.ok (xs.zip ys)).bind fun xs => T.mapT (fun a1 => (((T.ok a1.1).bind fun a => T.opt (lookT ['+', '-', '0'] [1, -1, 0] a)).bind fun a => (((T.ok a1.2).bind fun a => (T.ok x_place).bind fun b => atS a b).bind fun a => T.opt (lookT ['+', '-', '0'] [1, -1, 0] a)).bind fun b => mulT a b)) xs).bind fun x_some => (((T.ok x_some).bind fun a => (T.ok 1).bind fun b => T.ok (cntI a b)).bind fun a2 => ((T.ok x_some).bind fun a => ((T.ok 1).bind fun a => T.ok (-a)).bind fun b => T.ok (cntI a b)).bind fun a3 => T.ok (a2, a3)))
def t_does_balance (x_table : List (List Char)) (x_choice : List Char) : T Bool := ((((((T.ok x_table).bind fun a => (T.ok 0).bind fun b => atT a b).bind lenS).bind fun a => rngT 0 a).bind fun xs => T.forX (fun x_place s1 => (((T.ok x_table).bind fun a2 => (T.ok x_choice).bind fun a3 => (T.ok x_place).bind fun a4 => t_column_counts a2 a3 a4).bind fun a5 => ((((T.ok a5.1).bind fun a => (T.ok 0).bind fun b => T.ok (decide (a = b))).bind fun a => ((T.ok a5.2).bind fun a => (T.ok 0).bind fun b => T.ok (decide (a = b))).bind fun b => T.ok (!decide (a = b))).bind fun k => if k = true then (T.ok false).bind fun a => T.ok (.rt a) else (T.ok (.nx ()))))) xs ()).bind (T.stp fun (s1 : Unit) => (T.ok true)))
def t_found_balancing (x_table : List (List Char)) : T (List (List Char)) := (((((T.ok x_table).bind lenT).bind fun a1 => t_all_choices a1).bind T.ok).bind fun xs => T.filT (fun x_choice => ((T.ok x_table).bind fun a2 => (T.ok x_choice).bind fun a3 => t_does_balance a2 a3)) (fun x_choice => (T.ok x_choice)) xs)
def t_surely_independent (x_table : List (List Char)) : T Bool := (((T.ok x_table).bind fun a1 => t_check_table a1).bind fun _ => (((T.ok x_table).bind fun a2 => t_found_balancing a2).bind fun a => (T.ok []).bind fun b => T.ok (decide (a = b))))
def t_balancing_choices (x_table : List (List Char)) : T (List (List Char)) := (((T.ok x_table).bind fun a1 => t_check_table a1).bind fun _ => (((T.ok x_table).bind fun a2 => t_found_balancing a2).bind T.ok))
def t_l_table_d  : T (List (List Char)) := (((T.ok 1).bind fun a => ((T.ok 4).bind fun a => drawI a).bind fun b => T.ok (a + b)).bind fun x_many => ((T.ok 1).bind fun a => ((T.ok 6).bind fun a => drawI a).bind fun b => T.ok (a + b)).bind fun x_wide => ((((T.ok ['+', '-', '0']).bind fun a1 => (T.ok ['+', '-']).bind fun a2 => (T.ok ['+', '-', '0', '0', '0']).bind fun a3 => (T.ok ['+', '0']).bind fun a4 => T.ok [a1, a2, a3, a4]).bind fun a => pickT a).bind fun x_signs => (T.ok []).bind fun x_found => ((((T.ok x_many).bind fun a => rngT 0 a).bind fun xs => T.forT (fun x_i s5 => (((T.ok []).bind fun a => (((T.ok x_wide).bind fun a => rngT 0 a).bind fun xs => T.mapT (fun x_j => (((T.ok x_signs).bind (fun s => chkT s.length s)).bind fun a => pickT a)) xs).bind fun b => joinC a b).bind fun a => (pushT s5 a).bind fun x_found => (T.ok x_found))) xs x_found).bind fun (s5 : (List (List Char))) => ((T.ok s5).bind T.ok))))
def t_l_balances (x_table_here : List (List Char)) (x_choice : List Char) : T Bool := ((((((T.ok x_table_here).bind fun a => (T.ok 0).bind fun b => atT a b).bind lenS).bind fun a => rngT 0 a).bind fun xs => T.forX (fun x_j s1 => ((T.ok []).bind fun x_some => (((((T.ok x_table_here).bind lenT).bind fun a => rngT 0 a).bind fun xs => T.forT (fun x_i s2 => ((((((T.ok x_choice).bind fun a => (T.ok x_i).bind fun b => atS a b).bind fun a => (T.ok '0').bind fun b => T.ok (!decide (a = b))).bind fun a => if a = true then ((((T.ok x_table_here).bind fun a => (T.ok x_i).bind fun b => atT a b).bind fun a => (T.ok x_j).bind fun b => atS a b).bind fun a => (T.ok '0').bind fun b => T.ok (!decide (a = b))) else T.ok false).bind fun k => if k = true then (((((T.ok x_choice).bind fun a => (T.ok x_i).bind fun b => atS a b).bind fun a => (((T.ok x_table_here).bind fun a => (T.ok x_i).bind fun b => atT a b).bind fun a => (T.ok x_j).bind fun b => atS a b).bind fun b => T.ok (decide (a = b))).bind fun k => if k = true then (T.ok '+') else (T.ok '-')).bind fun a => (pushT s2 a).bind fun x_some => (T.ok x_some)) else (T.ok s2)).bind fun (s3 : (List Char)) => (T.ok s3))) xs x_some).bind fun (s2 : (List Char)) => ((((T.ok s2).bind fun a => lseT a).bind fun a => (T.ok 1).bind fun b => T.ok (decide (a = b))).bind fun k => if k = true then (T.ok false).bind fun a => T.ok (.rt a) else (T.ok (.nx ())))))) xs ()).bind (T.stp fun (s1 : Unit) => (T.ok true)))
def t_dependent_sizes (x_table : List (List Char)) : T (Option ((List (List Int)) × (List Int))) := (((T.ok x_table).bind fun a1 => t_check_table a1).bind fun _ => (((T.ok x_table).bind fun a2 => t_found_balancing a2).bind fun x_some => (((T.ok x_some).bind fun a => (T.ok []).bind fun b => T.ok (decide (a = b))).bind fun k => if k = true then (T.ok none) else (((T.ok x_some).bind fun a => (T.ok 0).bind fun b => atT a b).bind fun x_choice => (T.ok []).bind fun x_rows => ((((T.ok x_table).bind fun a => (T.ok a).bind fun xs => T.ok (enumI xs)).bind fun xs => T.forT (fun a4 s3 => ((T.ok []).bind fun x_found => ((((T.ok a4.2).bind fun a => ((fun s => chkT s.length s) a).bind fun xs => T.ok (enumI xs)).bind fun xs => T.forT (fun a6 s5 => (((T.ok x_table).bind fun a7 => (T.ok x_choice).bind fun a8 => (T.ok a6.1).bind fun a9 => t_column_counts a7 a8 a9).bind fun a10 => (((((T.ok x_choice).bind fun a => (T.ok a4.1).bind fun b => atS a b).bind fun a => T.opt (lookT ['+', '-', '0'] [1, -1, 0] a)).bind fun a => ((T.ok a6.2).bind fun a => T.opt (lookT ['+', '-', '0'] [1, -1, 0] a)).bind fun b => mulT a b).bind fun x_factor => ((((T.ok x_factor).bind fun a => (T.ok 1).bind fun b => T.ok (decide (a = b))).bind fun k => if k = true then (T.ok a10.2) else (((T.ok x_factor).bind fun a => ((T.ok 1).bind fun a => T.ok (-a)).bind fun b => T.ok (decide (a = b))).bind fun k => if k = true then (T.ok a10.1) else (((T.ok a6.2).bind fun a => (T.ok '0').bind fun b => T.ok (!decide (a = b))).bind (fun b => T.ok (if b = true then 1 else 0))))).bind fun a => (pushT s5 a).bind fun x_found => (T.ok x_found))))) xs x_found).bind fun (s5 : (List Int)) => (((T.ok s5).bind T.ok).bind fun a => (pushT s3 a).bind fun x_rows => (T.ok x_rows))))) xs x_rows).bind fun (s3 : (List (List Int))) => ((((T.ok s3).bind T.ok).bind fun a11 => ((((T.ok x_choice).bind (fun s => chkT s.length s)).bind fun xs => T.mapT (fun x_one => ((T.ok x_one).bind fun a => T.opt (lookT ['+', '-', '0'] [1, -1, 0] a))) xs).bind T.ok).bind fun a12 => T.ok (a11, a12)).bind fun a => T.ok (some a)))))))
def t_is_dependent (x_table : List (List Char)) (x_sizes : List (List Int)) (x_mix : List Int) : T Bool := (((T.ok x_table).bind fun a1 => t_check_table a1).bind fun _ => ((((T.ok x_table).bind fun a2 => (T.ok x_sizes).bind fun a3 => t_are_sizes a2 a3).bind fun a => T.ok (!a)).bind fun k => if k = true then T.bad else (((((T.ok x_mix).bind fun a => T.ok ("tuple" == "tuple")).bind fun a => T.ok (!a)).bind fun a => if a = true then T.ok true else ((((T.ok x_mix).bind lenT).bind fun a => ((T.ok x_table).bind lenT).bind fun b => T.ok (!decide (a = b))).bind fun a => if a = true then T.ok true else (((((T.ok x_mix).bind T.ok).bind fun xs => T.mapT (fun x_one => ((T.ok x_one).bind fun a4 => ((T.ok 1).bind fun a => T.ok (-a)).bind fun a5 => (T.ok 1).bind fun a6 => t_is_between a4 a5 a6)) xs).bind fun bs => T.ok (bs.all id)).bind fun a => T.ok (!a)))).bind fun k => if k = true then (T.ok false) else ((((((T.ok x_mix).bind T.ok).bind fun xs => T.mapT (fun x_one => ((T.ok x_one).bind fun a => (T.ok 0).bind fun b => T.ok (!decide (a = b)))) xs).bind fun bs => T.ok (bs.any id)).bind fun a => T.ok (!a)).bind fun k => if k = true then (T.ok false) else (((T.ok x_table).bind fun a7 => (T.ok x_sizes).bind fun a8 => t_found_matrix a7 a8).bind fun x_rows => ((((((T.ok x_table).bind fun a => (T.ok 0).bind fun b => atT a b).bind lenS).bind fun a => rngT 0 a).bind fun xs => T.mapT (fun x_place => (((((T.ok x_mix).bind fun a => (T.ok x_rows).bind fun b => (T.ok a).bind fun xs => (T.ok b).bind fun ys => T.ok (xs.zip ys)).bind fun xs => T.mapT (fun a9 => ((T.ok a9.1).bind fun a => ((T.ok a9.2).bind fun a => (T.ok x_place).bind fun b => atT a b).bind fun b => mulT a b)) xs).bind fun bs => T.ok bs.sum).bind fun a => (T.ok 0).bind fun b => T.ok (decide (a = b)))) xs).bind fun bs => T.ok (bs.all id)))))))

end Sg

namespace Sg
def t_law : T Bool := ((t_l_table_d).bind fun x_table_here => (((T.ok []).bind fun a1 => T.ok [a1]).bind fun x_level => ((((T.ok x_table_here).bind T.ok).bind fun xs => T.forT (fun x_line s2 => ((T.ok []).bind fun x_later => ((((T.ok s2).bind T.ok).bind fun xs => T.forT (fun x_row s3 => (((T.ok s3).bind fun a => (((T.ok ['+', '-', '0']).bind (fun s => chkT s.length s)).bind fun xs => T.mapT (fun x_sign => ((T.ok x_row).bind fun a => ((T.ok x_sign).bind fun a => T.ok [a]).bind fun b => appT a b)) xs).bind fun b => appT a b).bind fun x_later => (T.ok x_later))) xs x_later).bind fun (s3 : (List (List Char))) => ((T.ok s3).bind fun x_level => (T.ok x_level))))) xs x_level).bind fun (s2 : (List (List Char))) => (((((T.ok s2).bind fun xs => T.ok (sortW ltS xs)).bind T.ok).bind fun xs => T.filT (fun x_row => (((T.ok x_row).bind fun a => ((T.ok ['0']).bind fun a => ((T.ok x_table_here).bind lenT).bind fun b => repT a b).bind fun b => T.ok (!decide (a = b))).bind fun a => if a = true then ((T.ok x_table_here).bind fun a4 => (T.ok x_row).bind fun a5 => t_l_balances a4 a5) else T.ok false)) (fun x_row => (T.ok x_row)) xs).bind fun x_due => (((((T.ok x_table_here).bind fun a7 => t_balancing_choices a7).bind fun a => ((T.ok x_due).bind T.ok).bind fun b => T.ok (!decide (a = b))).bind fun a => if a = true then T.ok true else (((T.ok x_table_here).bind fun a6 => t_surely_independent a6).bind fun a => ((T.ok x_due).bind fun a => (T.ok []).bind fun b => T.ok (decide (a = b))).bind fun b => T.ok (!decide (a = b)))).bind fun k => if k = true then (T.ok false) else (((T.ok x_table_here).bind fun a8 => t_dependent_sizes a8).bind fun x_told => ((((T.ok x_told).bind fun a => (T.ok ()).bind fun b => T.ok a.isNone).bind fun a => ((T.ok x_due).bind fun a => (T.ok []).bind fun b => T.ok (decide (a = b))).bind fun b => T.ok (!decide (a = b))).bind fun k => if k = true then (T.ok false) else (((T.ok x_told).bind fun a => (T.ok ()).bind fun b => T.ok a.isSome).bind fun k => if k = true then (((T.ok x_told).bind T.opt).bind fun a9 => (((T.ok x_table_here).bind fun a10 => (T.ok a9.1).bind fun a11 => t_l_matrix a10 a11).bind fun x_rows => ((((((T.ok x_table_here).bind fun a => (T.ok 0).bind fun b => atT a b).bind lenS).bind fun a => rngT 0 a).bind fun xs => T.forX (fun x_j s12 => (((((((T.ok x_table_here).bind lenT).bind fun a => rngT 0 a).bind fun xs => T.mapT (fun x_i => (((T.ok a9.2).bind fun a => (T.ok x_i).bind fun b => atT a b).bind fun a => (((T.ok x_rows).bind fun a => (T.ok x_i).bind fun b => atT a b).bind fun a => (T.ok x_j).bind fun b => atT a b).bind fun b => mulT a b)) xs).bind fun bs => T.ok bs.sum).bind fun a => (T.ok 0).bind fun b => T.ok (!decide (a = b))).bind fun k => if k = true then (T.ok false).bind fun a => T.ok (.rt a) else (T.ok (.nx ())))) xs ()).bind (T.stp fun (s12 : Unit) => (((T.ok x_table_here).bind fun a13 => (T.ok a9.1).bind fun a14 => (T.ok a9.2).bind fun a15 => t_is_dependent a13 a14 a15).bind fun a => if a = true then ((((T.ok a9.2).bind T.ok).bind fun xs => T.filT (fun x_one => ((T.ok x_one).bind fun a => (T.ok 0).bind fun b => T.ok (!decide (a = b)))) (fun x_one => (T.ok x_one)) xs).bind fun a => (T.ok []).bind fun b => T.ok (!decide (a = b))) else T.ok false))))) else ((((T.ok 4).bind fun a => rngT 0 a).bind fun xs => T.forX (fun x_k s16 => (((T.ok x_table_here).bind fun a17 => (T.ok 4).bind fun a18 => t_l_sizes a17 a18).bind fun x_sizes_here => (((T.ok x_table_here).bind fun a19 => (T.ok x_sizes_here).bind fun a20 => t_l_matrix a19 a20).bind fun x_rows => (((T.ok x_table_here).bind T.ok).bind fun xs => T.mapT (fun x_line => (((T.ok 9).bind fun a => drawI a).bind fun a => (T.ok 4).bind fun b => T.ok (a - b))) xs).bind fun x_mix => ((((((T.ok x_table_here).bind fun a => (T.ok 0).bind fun b => atT a b).bind lenS).bind fun a => rngT 0 a).bind fun xs => T.mapT (fun x_j => (((((T.ok x_table_here).bind lenT).bind fun a => rngT 0 a).bind fun xs => T.mapT (fun x_i => (((T.ok x_mix).bind fun a => (T.ok x_i).bind fun b => atT a b).bind fun a => (((T.ok x_rows).bind fun a => (T.ok x_i).bind fun b => atT a b).bind fun a => (T.ok x_j).bind fun b => atT a b).bind fun b => mulT a b)) xs).bind fun bs => T.ok bs.sum)) xs).bind fun x_whole => ((((((T.ok x_whole).bind T.ok).bind fun xs => T.filT (fun x_one => ((T.ok x_one).bind fun a => (T.ok 0).bind fun b => T.ok (!decide (a = b)))) (fun x_one => (T.ok x_one)) xs).bind fun a => (T.ok []).bind fun b => T.ok (decide (a = b))).bind fun a => if a = true then ((((T.ok x_mix).bind T.ok).bind fun xs => T.filT (fun x_one => ((T.ok x_one).bind fun a => (T.ok 0).bind fun b => T.ok (!decide (a = b)))) (fun x_one => (T.ok x_one)) xs).bind fun a => (T.ok []).bind fun b => T.ok (!decide (a = b))) else T.ok false).bind fun k => if k = true then (T.ok false).bind fun a => T.ok (.rt a) else (T.ok (.nx ()))))))) xs ()).bind (T.stp fun (s16 : Unit) => (T.ok true)))))))))))
end Sg

-- SgW
/-! SgW: drawn webs and sizes. -/
namespace Sg
open T
/-- signs of a row -/
def Row (cs : List Char) (n : Nat) (r : List Char) : Prop := r.length = n ∧ ∀ c ∈ r, c ∈ cs
def Web (n : Nat) (rows : List (List Char)) : Prop := rows.length = n ∧ ∀ r ∈ rows, Row ['+', '-', '0'] n r
theorem Web.get {n : Nat} {rows : List (List Char)} (w : Web n rows) {i : Nat} (h : i < n) : ∃ r, rows[i]? = some r ∧ Row ['+', '-', '0'] n r := by
  have hi : i < rows.length := by rw [w.1]; exact h
  exact ⟨rows[i], List.getElem?_eq_getElem hi, w.2 _ (List.getElem_mem hi)⟩
theorem random_wp {m : Nat} {cs : List Char} {n : Nat} {P : List (List Char) → Nat → Prop} (hm : m ≤ 5) (h1 : 1 ≤ cs.length) (h2 : cs.length ≤ 1000) (hn : n < 2 ^ 59) (h : ∀ rows n', rows.length = m → (∀ r ∈ rows, Row cs m r) → n' ≤ n + 25 → P rows n') : (t_l_random (m : Int) cs).wp n P := by
  unfold t_l_random
  simp only [ok_bind, rngT_nat (show m ≤ 1000000 by omega), chkT_ok (show cs.length ≤ 1000000 by omega)]
  rw [T.wp_bind]
  have hmm : m * m ≤ 25 := Nat.mul_le_mul hm hm
  refine forT_wp (k := m) (fun i (s : List (List Char)) => s.length = i ∧ ∀ r ∈ s, Row cs m r) (i := 0) (by rw [nats_length]; omega) ⟨rfl, fun _ h => by cases h⟩ (fun j hj s n hn ⟨hs1, hs2⟩ => ?_) fun s n' ⟨hs1, hs2⟩ hn' => ?_
  · rw [nats_length] at hj
    rw [T.wp_bind, T.wp_bind]
    refine mapT_wp (R := fun _ c => c ∈ cs) (k := 1) (by rw [nats_length]; omega) (fun x _ n hn => pick_wpT h1 (by omega) (by omega) fun a ha => ⟨ha, Nat.le_refl _⟩) fun ys n' hl hR hn' => ?_
    rw [nats_length] at hl hn'
    rw [joinC_ok (by omega)]
    simp only [T.wp_ok]
    rw [pushT_ok (by omega)]
    refine ⟨⟨by simp [hs1], fun r hr => ?_⟩, by omega⟩
    rcases List.mem_append.mp hr with hr | hr
    · exact hs2 r hr
    · rw [List.mem_singleton.mp hr]
      refine ⟨hl, fun c hc => ?_⟩
      obtain ⟨i, hi, rfl⟩ := List.getElem_of_mem hc
      exact hR i (by rw [nats_length]; omega) hi
  · rw [nats_length] at hs1 hn'
    rw [T.wp_ok]
    exact h s n' (by omega) hs2 (by omega)
theorem put_ok {rows : List (List Char)} {r : List Char} {i j : Nat} {c : Char} (hr : rows[i]? = some r) (hl : rows.length ≤ 1000) (hj : j < r.length) (hrl : r.length ≤ 1000) : t_l_put rows (i : Int) (j : Int) c = ok (rows.set i (r.set j c)) := by
  have hi : i < rows.length := (List.getElem?_eq_some_iff.mp hr).1
  have hg : rows[i] = r := (List.getElem?_eq_some_iff.mp hr).2
  unfold t_l_put
  simp only [ok_bind, atT_nat hi, hg, cast_succ, cutS_ok (show r.length ≤ 1000000 by omega), cut_to, cut_from]
  rw [appT_ok (by simp only [List.length_take, List.length_cons, List.length_nil]; omega), ok_bind, appT_ok (by simp only [List.length_append, List.length_drop, List.length_take, List.length_cons, List.length_nil]; omega), ok_bind,
    appT_ok (by simp only [List.length_take, List.length_cons, List.length_nil]; omega), ok_bind, appT_ok (by simp only [List.length_append, List.length_drop, List.length_take, List.length_cons, List.length_nil]; omega), take_one_drop hj, take_one_drop hi]
theorem Web.set {n i j : Nat} {rows : List (List Char)} {r : List Char} {ch : Char} (w : Web n rows) (hr : rows[i]? = some r) (hc : ch ∈ ['+', '-', '0']) : Web n (rows.set i (r.set j ch)) := by
  refine ⟨by rw [List.length_set]; exact w.1, fun x hx => ?_⟩
  rcases List.mem_or_eq_of_mem_set hx with h | h
  · exact w.2 x h
  · subst h
    have hR := w.2 r (List.mem_of_getElem? hr)
    refine ⟨by rw [List.length_set]; exact hR.1, fun c hcm => ?_⟩
    rcases List.mem_or_eq_of_mem_set hcm with h | h
    · exact hR.2 c h
    · rw [h]; exact hc
/-- a sign put into a web -/
theorem putw {n i j : Nat} {rows : List (List Char)} {c : Char} (hn : n ≤ 5) (w : Web n rows) (hi : i < n) (hj : j < n) (hc : c ∈ ['+', '-', '0']) : ∃ rows', t_l_put rows (i : Int) (j : Int) c = ok rows' ∧ Web n rows' := by
  obtain ⟨r, hr, hR⟩ := w.get hi
  exact ⟨_, put_ok hr (by rw [w.1]; omega) (by rw [hR.1]; exact hj) (by rw [hR.1]; omega), w.set hr hc⟩
theorem opp_ok {c : Char} (h : c ∈ ['+', '-', '0']) : ∃ d, t_l_opposite c = ok d ∧ d ∈ ['+', '-', '0'] := by
  simp only [List.mem_cons, List.not_mem_nil, or_false] at h
  rcases h with rfl | rfl | rfl
  · exact ⟨'-', rfl, by simp⟩
  · exact ⟨'+', rfl, by simp⟩
  · exact ⟨'0', rfl, by simp⟩
theorem web0 (n : Nat) : Web n (List.replicate n (List.replicate n '0')) := ⟨by simp, fun r hr => by
  rw [(List.mem_replicate.mp hr).2]
  exact ⟨by simp, fun c hc => by rw [(List.mem_replicate.mp hc).2]; simp⟩⟩
theorem tree_wp {m n : Nat} {P : List (List Char) → Nat → Prop} (h1 : 1 ≤ m) (hm : m ≤ 5) (hn : n < 2 ^ 59) (h : ∀ rows n', Web m rows → n' ≤ n + 20 → P rows n') : (t_l_tree (m : Int)).wp n P := by
  unfold t_l_tree
  simp only [ok_bind]
  rw [repT_ok (by simp) (by omega)]
  simp only [ok_bind]
  rw [rep1T_ok (by simp) rfl h1 (by omega), rep_one, rep_one]
  simp only [ok_bind, rngT_nat (show m ≤ 1000000 by omega), bind_okT]
  refine forT_wp (k := 4) (fun _ s => Web m s) (i := 0) (by rw [nats_length]; omega) (web0 m) (fun j hj s n hn w => ?_) fun s n' w hn' => h s n' w (by rw [nats_length] at hn'; omega)
  rw [nats_length] at hj
  rw [nats_get, T.wp_bind, T.wp_bind]
  refine pick_wpT (by simp) (by simp) (by omega) fun c hc => ?_
  have hc : c ∈ ['+', '-', '0'] := by
    simp only [List.mem_cons, List.not_mem_nil, or_false] at hc ⊢
    rcases hc with rfl | rfl | rfl <;> simp
  obtain ⟨rows1, e1, w1⟩ := putw hm w hj hj hc
  rw [e1]
  simp only [T.wp_ok]
  rw [T.wp_bind]
  by_cases hj0 : 0 < j
  · rw [if_pos (decide_eq_true (by omega)), T.wp_bind]
    refine draw_wp (m := 6) (by omega) (by omega) (by omega) fun d hd => ?_
    simp only [T.wp_ok]
    split
    · rw [T.wp_bind]
      refine draw_wp (m := j) (by omega) (by omega) (by omega) fun k hk => ?_
      rw [T.wp_bind]
      refine pick_wpT (by simp) (by simp) (by omega) fun c2 hc2 => ?_
      have hc2 : c2 ∈ ['+', '-', '0'] := by
        simp only [List.mem_cons, List.not_mem_nil, or_false] at hc2 ⊢
        rcases hc2 with rfl | rfl <;> simp
      obtain ⟨rows2, e2, w2⟩ := putw hm w1 hj (show k < m by omega) hc2
      obtain ⟨c3, e3, hc3⟩ := opp_ok hc2
      obtain ⟨rows3, e4, w3⟩ := putw hm w2 (show k < m by omega) hj hc3
      rw [e2, e3]
      simp only [ok_bind]
      rw [e4]
      exact ⟨w3, by omega⟩
    · exact ⟨w1, by omega⟩
  · rw [if_neg (by simp; omega)]
    simp only [T.wp_ok, Bool.false_eq_true, if_false]
    exact ⟨w1, by omega⟩
theorem web_wp {most n : Nat} {P : List (List Char) → Nat → Prop} (h1 : 1 ≤ most) (hm : most ≤ 5) (hn : n < 2 ^ 58) (h : ∀ m rows n', 1 ≤ m → m ≤ most → Web m rows → n' ≤ n + 40 → P rows n') : (t_l_web (most : Int)).wp n P := by
  unfold t_l_web
  simp only [ok_bind]
  rw [T.wp_bind, T.wp_bind]
  refine draw_wp h1 (by omega) (by omega) fun d hd => ?_
  simp only [T.wp_ok]
  rw [show (1 : Int) + (d : Int) = ((d + 1 : Nat) : Int) by omega, T.wp_bind]
  refine draw_wp (m := 8) (by omega) (by omega) (by omega) fun how hh => ?_
  split
  · rw [T.wp_bind]
    refine pick_wpT (by simp) (by simp) (by omega) fun cs hcs => ?_
    have hcs : 1 ≤ cs.length ∧ cs.length ≤ 1000 ∧ ∀ c ∈ cs, c ∈ ['+', '-', '0'] := by
      simp only [List.mem_cons, List.not_mem_nil, or_false] at hcs
      rcases hcs with rfl | rfl | rfl | rfl <;> simp
    refine random_wp (m := d + 1) (by omega) hcs.1 hcs.2.1 (by omega) fun rows n' a b c => ?_
    exact h (d + 1) rows n' (by omega) (by omega) ⟨a, fun r hr => ⟨(b r hr).1, fun x hx => hcs.2.2 x ((b r hr).2 x hx)⟩⟩ (by omega)
  · rw [T.wp_bind]
    refine tree_wp (m := d + 1) (by omega) (by omega) (by omega) fun rows n' w hn' => ?_
    rw [T.wp_bind]
    split
    · rw [T.wp_bind]
      refine draw_wp (by omega) (by omega) (by omega) fun i hi => ?_
      rw [T.wp_bind]
      refine draw_wp (by omega) (by omega) (by omega) fun j hj => ?_
      simp only [bind_okT]
      rw [T.wp_bind]
      refine pick_wpT (by simp) (by simp) (by omega) fun c hc => ?_
      obtain ⟨rows2, e2, w2⟩ := putw (show d + 1 ≤ 5 by omega) w hi hj hc
      rw [e2]
      simp only [T.wp_ok, ok_bind]
      exact h (d + 1) rows2 _ (by omega) (by omega) w2 (by omega)
    · simp only [T.wp_ok, ok_bind]
      exact h (d + 1) rows _ (by omega) (by omega) w (by omega)
/-- sizes of a web, at most so great -/
def Sz (far : Nat) (rows : List (List Char)) (sz : List (List Int)) : Prop :=
  sz.length = rows.length ∧ ∀ i (h : i < rows.length) (h' : i < sz.length), sz[i].length = rows[i].length ∧ ∀ j (k : j < rows[i].length) (k' : j < sz[i].length), if rows[i][j] = '0' then sz[i][j] = 0 else 1 ≤ sz[i][j] ∧ sz[i][j] ≤ far
theorem sizes_wp {far n m : Nat} {rows : List (List Char)} {P : List (List Int) → Nat → Prop} (hw : Web m rows) (hm : m ≤ 5) (h1 : 1 ≤ far) (h2 : far ≤ 1000000) (hn : n < 2 ^ 58) (h : ∀ sz n', Sz far rows sz → n' ≤ n + 25 → P sz n') : (t_l_sizes rows (far : Int)).wp n P := by
  have hmm : m * m ≤ 25 := Nat.mul_le_mul hm hm
  have hl := hw.1
  unfold t_l_sizes
  simp only [ok_bind]
  rw [T.wp_bind]
  refine forT_wp (k := m) (fun i (s : List (List Int)) => s.length = i ∧ ∀ a (ha : a < rows.length) (hb : a < s.length), s[a].length = rows[a].length ∧ ∀ j (k : j < rows[a].length) (k' : j < s[a].length), if rows[a][j] = '0' then s[a][j] = 0 else 1 ≤ s[a][j] ∧ s[a][j] ≤ far) (i := 0) (by rw [hl]; omega) ⟨rfl, fun _ _ h => by cases h⟩ (fun i hi s n hn ⟨hs1, hs2⟩ => ?_) fun s n' ⟨hs1, hs2⟩ hn' => ?_
  · have hR := hw.2 rows[i] (List.getElem_mem hi)
    rw [chkT_ok (by rw [hR.1]; omega)]
    simp only [ok_bind]
    rw [T.wp_bind]
    simp only [bind_okT]
    refine mapT_wp (R := fun c (x : Int) => if c = '0' then x = 0 else 1 ≤ x ∧ x ≤ far) (k := 1) (by rw [hR.1]; omega) (fun c _ n hn => ?_) fun ys n' hyl hR2 hn' => ?_
    · by_cases hc : c = '0'
      · rw [if_pos (decide_eq_true hc)]; exact ⟨by rw [if_pos hc], by omega⟩
      · rw [if_neg (by simp [hc]), T.wp_bind]
        refine draw_wp h1 h2 (by omega) fun d hd => ?_
        simp only [T.wp_ok]
        exact ⟨by rw [if_neg hc]; omega, Nat.le_refl _⟩
    · rw [pushT_ok (by omega)]
      refine ⟨⟨by simp [hs1], fun a ha hb => ?_⟩, by rw [hR.1] at hn'; omega⟩
      by_cases hai : a < s.length
      · rw [List.getElem_append_left hai]; exact hs2 a ha hai
      · have e : a = i := by
          simp only [List.length_append, List.length_cons, List.length_nil] at hb; omega
        subst e
        have e2 : (s ++ [ys])[a] = ys := by simp [hs1]
        rw [e2]
        exact ⟨hyl, fun j k k' => hR2 j k k'⟩
  · simp only [T.wp_ok]
    refine h s n' ⟨by omega, fun i hi hi' => hs2 i hi hi'⟩ (by rw [hl] at hn'; omega)
end Sg

-- SgM
/-! SgM: polynomials with whole coefficients, normal forms that the kernel computes; what holds of them holds of all numbers. -/
namespace Sg.M
/-- what sums and products are made with -/
structure Ops (R : Type) where
  zero : R
  one : R
  add : R → R → R
  neg : R → R
  mul : R → R → R
def ZZ : Ops Int := ⟨0, 1, (· + ·), (- ·), (· * ·)⟩
structure RelOps {R S : Type} (o : Ops R) (p : Ops S) (Q : R → S → Prop) : Prop where
  zero : Q o.zero p.zero
  one : Q o.one p.one
  add : ∀ a b c d, Q a b → Q c d → Q (o.add a c) (p.add b d)
  neg : ∀ a b, Q a b → Q (o.neg a) (p.neg b)
  mul : ∀ a b c d, Q a b → Q c d → Q (o.mul a c) (p.mul b d)
/-! ### monomials: digits of base 16 -/
def ev : List Int → Nat → Int
  | [], _ => 1
  | x :: xs, m => x ^ (m % 16) * ev xs (m / 16)
/-- all digits at most d -/
def low (d : Nat) : Nat → Nat → Prop
  | 0, m => m = 0
  | n + 1, m => m % 16 ≤ d ∧ low d n (m / 16)
theorem low_mono {d e : Nat} (h : d ≤ e) : ∀ {n m : Nat}, low d n m → low e n m
  | 0, _, l => l
  | n + 1, _, l => ⟨Nat.le_trans l.1 h, low_mono h l.2⟩
theorem low_add {d e : Nat} (h : d + e ≤ 15) : ∀ {n a b : Nat}, low d n a → low e n b → low (d + e) n (a + b)
  | 0, a, b, l, k => by
    have l : a = 0 := l
    have k : b = 0 := k
    show a + b = 0; omega
  | n + 1, a, b, l, k => by
    have l1 := l.1
    have k1 := k.1
    refine ⟨by omega, ?_⟩
    have e1 : (a + b) / 16 = a / 16 + b / 16 := by omega
    rw [e1]
    exact low_add h l.2 k.2
theorem ev_add {d e : Nat} (h : d + e ≤ 15) : ∀ {xs : List Int} {a b : Nat}, low d xs.length a → low e xs.length b → ev xs (a + b) = ev xs a * ev xs b
  | [], a, b, l, k => by simp [ev]
  | x :: xs, a, b, l, k => by
    have l1 := l.1
    have k1 := k.1
    have e1 : (a + b) / 16 = a / 16 + b / 16 := by omega
    have e2 : (a + b) % 16 = a % 16 + b % 16 := by omega
    show x ^ ((a + b) % 16) * ev xs ((a + b) / 16) = x ^ (a % 16) * ev xs (a / 16) * (x ^ (b % 16) * ev xs (b / 16))
    rw [e1, e2, Int.pow_add, ev_add h l.2 k.2]
    simp only [Int.mul_assoc, Int.mul_left_comm]
theorem ev_zero : ∀ xs : List Int, ev xs 0 = 1
  | [] => rfl
  | x :: xs => by
    show x ^ (0 % 16) * ev xs (0 / 16) = 1
    rw [show 0 / 16 = 0 from rfl, ev_zero xs, show 0 % 16 = 0 from rfl, Int.pow_zero]; rfl
theorem low_zero {d : Nat} : ∀ n : Nat, low d n 0
  | 0 => rfl
  | n + 1 => ⟨Nat.zero_le _, low_zero n⟩
/-! ### polynomials -/
/-- terms ascending; d: no digit is above; bad: the digits might have run over -/
structure P where
  bad : Bool
  d : Nat
  ts : List (Nat × Int)
def evs (xs : List Int) : List (Nat × Int) → Int
  | [] => 0
  | t :: r => t.2 * ev xs t.1 + evs xs r
def addF : Nat → List (Nat × Int) → List (Nat × Int) → List (Nat × Int)
  | 0, l, k => l ++ k
  | _ + 1, [], k => k
  | _ + 1, a :: r, [] => a :: r
  | n + 1, a :: r, b :: s => bif Nat.beq a.1 b.1 then (bif (a.2 + b.2 == 0) then addF n r s else (a.1, a.2 + b.2) :: addF n r s) else bif Nat.ble a.1 b.1 then a :: addF n r (b :: s) else b :: addF n (a :: r) s
def addL (l k : List (Nat × Int)) : List (Nat × Int) := addF (l.length + k.length) l k
def negL (l : List (Nat × Int)) : List (Nat × Int) := l.map fun t => (t.1, -t.2)
def mulT (t : Nat × Int) (l : List (Nat × Int)) : List (Nat × Int) := l.map fun u => (t.1 + u.1, t.2 * u.2)
def mulL : List (Nat × Int) → List (Nat × Int) → List (Nat × Int)
  | [], _ => []
  | t :: r, l => addL (mulT t l) (mulL r l)
def PP : Ops P := ⟨⟨false, 0, []⟩, ⟨false, 0, [(0, 1)]⟩, fun p q => ⟨p.bad || q.bad, max p.d q.d, addL p.ts q.ts⟩, fun p => ⟨p.bad, p.d, negL p.ts⟩,
  fun p q => ⟨p.bad || q.bad || decide (15 < p.d + q.d), p.d + q.d, mulL p.ts q.ts⟩⟩
def var (i : Nat) : P := ⟨false, 1, [(16 ^ i, 1)]⟩
def lows (d n : Nat) (l : List (Nat × Int)) : Prop := ∀ t ∈ l, low d n t.1
theorem addF_lows {d m : Nat} : ∀ (n : Nat) (l k : List (Nat × Int)), lows d m l → lows d m k → lows d m (addF n l k)
  | 0, l, k, h1, h2 => fun t ht => (List.mem_append.mp ht).elim (h1 t) (h2 t)
  | n + 1, [], k, _, h => h
  | n + 1, a :: r, [], h, _ => h
  | n + 1, a :: r, b :: s, h1, h2 => by
    have ha := h1 a (by simp)
    have hr : lows d m r := fun t ht => h1 t (by simp [ht])
    have hb := h2 b (by simp)
    have hs : lows d m s := fun t ht => h2 t (by simp [ht])
    have cons : ∀ (x : Nat × Int) (y : List (Nat × Int)), low d m x.1 → lows d m y → lows d m (x :: y) := fun x y hx hy t ht => by
      rcases List.mem_cons.mp ht with e | ht
      · rw [e]; exact hx
      · exact hy t ht
    unfold addF
    cases Nat.beq a.1 b.1
    · cases Nat.ble a.1 b.1
      · exact cons _ _ hb (addF_lows n _ s h1 hs)
      · exact cons _ _ ha (addF_lows n r _ hr h2)
    · cases (a.2 + b.2 == 0)
      · exact cons _ _ ha (addF_lows n r s hr hs)
      · exact addF_lows n r s hr hs
theorem evs_app {xs : List Int} : ∀ l k : List (Nat × Int), evs xs (l ++ k) = evs xs l + evs xs k
  | [], k => by simp [evs]
  | a :: r, k => by
    show a.2 * ev xs a.1 + evs xs (r ++ k) = a.2 * ev xs a.1 + evs xs r + evs xs k
    rw [evs_app r k]; omega
theorem addF_ev {xs : List Int} : ∀ (n : Nat) (l k : List (Nat × Int)), evs xs (addF n l k) = evs xs l + evs xs k
  | 0, l, k => evs_app l k
  | n + 1, [], k => by show evs xs k = 0 + evs xs k; omega
  | n + 1, a :: r, [] => by show evs xs (a :: r) = evs xs (a :: r) + 0; omega
  | n + 1, a :: r, b :: s => by
    unfold addF
    cases e : Nat.beq a.1 b.1
    · cases Nat.ble a.1 b.1
      · show b.2 * ev xs b.1 + evs xs (addF n (a :: r) s) = _
        rw [addF_ev n _ s]
        simp only [evs]; omega
      · show a.2 * ev xs a.1 + evs xs (addF n r (b :: s)) = _
        rw [addF_ev n r _]
        simp only [evs]; omega
    · have e : a.1 = b.1 := Nat.eq_of_beq_eq_true e
      cases e2 : (a.2 + b.2 == 0)
      · show (a.2 + b.2) * ev xs a.1 + evs xs (addF n r s) = _
        rw [addF_ev n r s, Int.add_mul]
        simp only [evs]
        rw [← e]; omega
      · have e2 : a.2 + b.2 = 0 := by simpa using e2
        show evs xs (addF n r s) = _
        rw [addF_ev n r s]
        simp only [evs]
        have : a.2 * ev xs a.1 + b.2 * ev xs b.1 = 0 := by
          rw [← e, ← Int.add_mul, e2, Int.zero_mul]
        omega
theorem addL_lows {d m : Nat} (l k : List (Nat × Int)) (h : lows d m l) (h' : lows d m k) : lows d m (addL l k) := addF_lows _ l k h h'
theorem addL_ev {xs : List Int} (l k : List (Nat × Int)) : evs xs (addL l k) = evs xs l + evs xs k := addF_ev _ l k
theorem negL_ev {xs : List Int} : ∀ l : List (Nat × Int), evs xs (negL l) = - evs xs l
  | [] => rfl
  | t :: r => by
    show -t.2 * ev xs t.1 + evs xs (negL r) = -(t.2 * ev xs t.1 + evs xs r)
    rw [negL_ev r, Int.neg_mul]; omega
theorem mulT_ev {xs : List Int} {d e : Nat} (h : d + e ≤ 15) {t : Nat × Int} (ht : low d xs.length t.1) : ∀ l : List (Nat × Int), lows e xs.length l → evs xs (mulT t l) = t.2 * ev xs t.1 * evs xs l
  | [], _ => by simp [mulT, evs]
  | u :: r, hl => by
    show t.2 * u.2 * ev xs (t.1 + u.1) + evs xs (mulT t r) = t.2 * ev xs t.1 * (u.2 * ev xs u.1 + evs xs r)
    rw [mulT_ev h ht r (fun v hv => hl v (by simp [hv])), ev_add h ht (hl u (by simp)), Int.mul_add]
    congr 1
    simp only [Int.mul_assoc, Int.mul_left_comm]
theorem mulT_lows {n d e : Nat} (h : d + e ≤ 15) {t : Nat × Int} (ht : low d n t.1) {l : List (Nat × Int)} (hl : lows e n l) : lows (d + e) n (mulT t l) := by
  intro v hv
  obtain ⟨u, hu, rfl⟩ := List.mem_map.mp hv
  exact low_add h ht (hl u hu)
theorem mulL_lows {n d e : Nat} (h : d + e ≤ 15) {l : List (Nat × Int)} (hl : lows e n l) : ∀ k : List (Nat × Int), lows d n k → lows (d + e) n (mulL k l)
  | [], _ => fun _ h => by cases h
  | t :: r, hk => addL_lows _ _ (mulT_lows h (hk t (by simp)) hl) (mulL_lows h hl r fun v hv => hk v (by simp [hv]))
theorem mulL_ev {xs : List Int} {d e : Nat} (h : d + e ≤ 15) {l : List (Nat × Int)} (hl : lows e xs.length l) : ∀ k : List (Nat × Int), lows d xs.length k → evs xs (mulL k l) = evs xs k * evs xs l
  | [], _ => by simp [mulL, evs]
  | t :: r, hk => by
    show evs xs (addL (mulT t l) (mulL r l)) = (t.2 * ev xs t.1 + evs xs r) * evs xs l
    rw [addL_ev, mulT_ev h (hk t (by simp)) l hl, mulL_ev h hl r (fun v hv => hk v (by simp [hv])), Int.add_mul]
/-- p stands for x, where the names stand for xs (or p is bad) -/
def Is (xs : List Int) (p : P) (x : Int) : Prop := p.bad = true ∨ (lows p.d xs.length p.ts ∧ evs xs p.ts = x)
theorem is_ops (xs : List Int) : RelOps PP ZZ (Is xs) where
  zero := .inr ⟨(fun _ h => nomatch h), rfl⟩
  one := .inr ⟨(fun t h => by rw [List.mem_singleton.mp h]; exact low_zero _), (by
    show 1 * ev xs 0 + 0 = 1
    rw [ev_zero]; rfl)⟩
  add := fun a b c d h k => by
    rcases h with h | ⟨h1, h2⟩
    · left; show (a.bad || c.bad) = true; rw [h]; rfl
    · rcases k with k | ⟨k1, k2⟩
      · left; show (a.bad || c.bad) = true; rw [k, Bool.or_true]
      · right
        exact ⟨addL_lows _ _ (fun t ht => low_mono (Nat.le_max_left _ _) (h1 t ht)) (fun t ht => low_mono (Nat.le_max_right _ _) (k1 t ht)), by
          show evs xs (addL a.ts c.ts) = b + d
          rw [addL_ev, h2, k2]⟩
  neg := fun a b h => by
    rcases h with h | ⟨h1, h2⟩
    · exact .inl h
    · exact .inr ⟨fun t ht => by
        obtain ⟨u, hu, rfl⟩ := List.mem_map.mp ht
        exact h1 u hu, by
        show evs xs (negL a.ts) = -b
        rw [negL_ev, h2]⟩
  mul := fun a b c d h k => by
    rcases h with h | ⟨h1, h2⟩
    · left; show (a.bad || c.bad || _) = true; rw [h]; rfl
    · rcases k with k | ⟨k1, k2⟩
      · left; show (a.bad || c.bad || _) = true; rw [k, Bool.or_true]; rfl
      · by_cases hd : 15 < a.d + c.d
        · left; show (a.bad || c.bad || decide _) = true; rw [decide_eq_true hd, Bool.or_true]
        · right
          exact ⟨mulL_lows (by omega) k1 _ h1, by
            show evs xs (mulL a.ts c.ts) = b * d
            rw [mulL_ev (by omega) k1 _ h1, h2, k2]⟩
theorem low_var : ∀ {n i : Nat}, i < n → low 1 n (16 ^ i)
  | 0, i, h => by omega
  | n + 1, 0, _ => ⟨by decide, low_zero n⟩
  | n + 1, i + 1, h => by
    have e1 : 16 ^ (i + 1) / 16 = 16 ^ i := by rw [Nat.pow_succ]; omega
    have e2 : 16 ^ (i + 1) % 16 = 0 := by rw [Nat.pow_succ]; omega
    exact ⟨by rw [e2]; omega, by rw [e1]; exact low_var (by omega)⟩
theorem ev_var : ∀ {xs : List Int} {i : Nat} (h : i < xs.length), ev xs (16 ^ i) = xs[i]
  | x :: xs, 0, _ => by
    show x ^ (16 ^ 0 % 16) * ev xs (16 ^ 0 / 16) = x
    rw [show 16 ^ 0 / 16 = 0 from rfl, ev_zero, show 16 ^ 0 % 16 = 1 from rfl, Int.pow_succ, Int.pow_zero]; simp
  | x :: xs, i + 1, h => by
    have e1 : 16 ^ (i + 1) / 16 = 16 ^ i := by rw [Nat.pow_succ]; omega
    have e2 : 16 ^ (i + 1) % 16 = 0 := by rw [Nat.pow_succ]; omega
    have hi : i < xs.length := by simpa using h
    show x ^ (16 ^ (i + 1) % 16) * ev xs (16 ^ (i + 1) / 16) = xs[i]
    rw [e1, e2, ev_var hi, Int.pow_zero, Int.one_mul]
theorem is_var {xs : List Int} {i : Nat} (h : i < xs.length) : Is xs (var i) xs[i] := .inr ⟨(fun t ht => by rw [List.mem_singleton.mp ht]; exact low_var h), (by
  show 1 * ev xs (16 ^ i) + 0 = _
  rw [ev_var h]; omega)⟩
/-- the same polynomial -/
def same (p q : P) : Bool := !p.bad && !q.bad && decide (p.ts = q.ts)
theorem same_eq {xs : List Int} {p q : P} {x y : Int} (h : Is xs p x) (k : Is xs q y) (e : same p q = true) : x = y := by
  unfold same at e
  simp only [Bool.and_eq_true, Bool.not_eq_true', decide_eq_true_eq] at e
  obtain ⟨⟨e1, e2⟩, e3⟩ := e
  rcases h with h | ⟨_, h⟩
  · rw [e1] at h; cases h
  · rcases k with k | ⟨_, k⟩
    · rw [e2] at k; cases k
    · rw [← h, ← k, e3]
def nil (p : P) : Bool := !p.bad && p.ts.isEmpty
end Sg.M

-- SgM2
/-! SgM2: determinants, by orders and by rows, of numbers and of polynomials; what holds of both. -/
namespace Sg.M
inductive All2 {R S : Type} (Q : R → S → Prop) : List R → List S → Prop where
  | nil : All2 Q [] []
  | cons {a : R} {b : S} {l : List R} {k : List S} : Q a b → All2 Q l k → All2 Q (a :: l) (b :: k)
abbrev Mx (R : Type) := Nat → Nat → R
section
variable {R S : Type} (o : Ops R) (p : Ops S) {Q : R → S → Prop}
def ordsStep (k : Nat) (l : List (List Nat × Bool)) : List (List Nat × Bool) := (l.map fun p => (List.range (k + 1)).map fun at_ => (p.1.take at_ ++ [k] ++ p.1.drop at_, p.2 != decide ((k - at_) % 2 = 1))).flatten
def ords : Nat → List (List Nat × Bool)
  | 0 => [([], false)]
  | k + 1 => ordsStep k (ords k)
def goP (M : Mx R) : Nat → List Nat → R → R
  | _, [], acc => acc
  | i, j :: r, acc => goP M (i + 1) r (o.mul acc (M i j))
def termG (M : Mx R) (q : List Nat × Bool) : R := goP o M 0 q.1 (if q.2 = true then o.neg o.one else o.one)
def sumG (l : List R) : R := l.foldl o.add o.zero
def leibG (n : Nat) (M : Mx R) : R := sumG o ((ords n).map (termG o M))
def minor (M : Mx R) (i j : Nat) : Mx R := fun a b => M (if a < i then a else a + 1) (if b < j then b else b + 1)
def sgG (k : Nat) (x : R) : R := if k % 2 = 0 then x else o.neg x
def lapG : Nat → Mx R → R
  | 0, _ => o.one
  | n + 1, M => sumG o ((List.range (n + 1)).map fun j => o.mul (sgG o j (M 0 j)) (lapG n (minor M 0 j)))
/-- the rest of a cell, with its sign -/
def cofG (n : Nat) (M : Mx R) (i j : Nat) : R := sgG o (i + j) (leibG o (n - 1) (minor M i j))
def rowG (n i k : Nat) (M : Mx R) : R := sumG o ((List.range n).map fun j => o.mul (M i j) (cofG o n M k j))
def colG (n j k : Nat) (M : Mx R) : R := sumG o ((List.range n).map fun i => o.mul (M i j) (cofG o n M i k))
def setRow (M : Mx R) (i k : Nat) : Mx R := fun a b => if a = k then M i b else M a b
def setCol (M : Mx R) (j k : Nat) : Mx R := fun a b => if b = k then M a j else M a b
variable {o p}
theorem sum_rel (h : RelOps o p Q) : ∀ {l : List R} {k : List S}, All2 Q l k → Q (sumG o l) (sumG p k) := by
  have : ∀ {l : List R} {k : List S}, All2 Q l k → ∀ a b, Q a b → Q (l.foldl o.add a) (k.foldl p.add b) := by
    intro l k f
    induction f with
    | nil => exact fun a b h => h
    | cons h1 _ ih => exact fun a b h2 => ih _ _ (h.add _ _ _ _ h2 h1)
  intro l k f
  exact this f _ _ h.zero
theorem forall_map {α : Type} {f : α → R} {g : α → S} (h : ∀ a, Q (f a) (g a)) : ∀ l : List α, All2 Q (l.map f) (l.map g)
  | [] => .nil
  | a :: l => .cons (h a) (forall_map h l)
theorem goP_rel (h : RelOps o p Q) {M : Mx R} {N : Mx S} (hM : ∀ i j, Q (M i j) (N i j)) : ∀ (l : List Nat) (i : Nat) (a : R) (b : S), Q a b → Q (goP o M i l a) (goP p N i l b)
  | [], _, _, _, k => k
  | j :: r, i, a, b, k => goP_rel h hM r (i + 1) _ _ (h.mul _ _ _ _ k (hM i j))
theorem term_rel (h : RelOps o p Q) {M : Mx R} {N : Mx S} (hM : ∀ i j, Q (M i j) (N i j)) (q : List Nat × Bool) : Q (termG o M q) (termG p N q) := by
  refine goP_rel h hM _ _ _ _ ?_
  split
  · exact h.neg _ _ h.one
  · exact h.one
theorem leib_rel (h : RelOps o p Q) {M : Mx R} {N : Mx S} (hM : ∀ i j, Q (M i j) (N i j)) (n : Nat) : Q (leibG o n M) (leibG p n N) := sum_rel h (forall_map (term_rel h hM) _)
theorem minor_rel {M : Mx R} {N : Mx S} (hM : ∀ i j, Q (M i j) (N i j)) (i j : Nat) : ∀ a b, Q (minor M i j a b) (minor N i j a b) := fun a b => hM _ _
theorem sg_rel (h : RelOps o p Q) (k : Nat) {x : R} {y : S} (hx : Q x y) : Q (sgG o k x) (sgG p k y) := by
  unfold sgG
  split
  · exact hx
  · exact h.neg _ _ hx
theorem lap_rel (h : RelOps o p Q) : ∀ (n : Nat) {M : Mx R} {N : Mx S}, (∀ i j, Q (M i j) (N i j)) → Q (lapG o n M) (lapG p n N)
  | 0, _, _, _ => h.one
  | n + 1, M, N, hM => sum_rel h (forall_map (fun j => h.mul _ _ _ _ (sg_rel h j (hM 0 j)) (lap_rel h n (minor_rel hM 0 j))) _)
theorem cof_rel (h : RelOps o p Q) {M : Mx R} {N : Mx S} (hM : ∀ i j, Q (M i j) (N i j)) (n i j : Nat) : Q (cofG o n M i j) (cofG p n N i j) := sg_rel h _ (leib_rel h (minor_rel hM i j) _)
theorem row_rel (h : RelOps o p Q) {M : Mx R} {N : Mx S} (hM : ∀ i j, Q (M i j) (N i j)) (n i k : Nat) : Q (rowG o n i k M) (rowG p n i k N) := sum_rel h (forall_map (fun j => h.mul _ _ _ _ (hM i j) (cof_rel h hM n k j)) _)
theorem col_rel (h : RelOps o p Q) {M : Mx R} {N : Mx S} (hM : ∀ i j, Q (M i j) (N i j)) (n i k : Nat) : Q (colG o n i k M) (colG p n i k N) := sum_rel h (forall_map (fun j => h.mul _ _ _ _ (hM j i) (cof_rel h hM n j k)) _)
theorem setRow_rel {M : Mx R} {N : Mx S} (hM : ∀ i j, Q (M i j) (N i j)) (i k : Nat) : ∀ a b, Q (setRow M i k a b) (setRow N i k a b) := fun a b => by
  unfold setRow
  split
  · exact hM _ _
  · exact hM _ _
theorem setCol_rel {M : Mx R} {N : Mx S} (hM : ∀ i j, Q (M i j) (N i j)) (i k : Nat) : ∀ a b, Q (setCol M i k a b) (setCol N i k a b) := fun a b => by
  unfold setCol
  split
  · exact hM _ _
  · exact hM _ _
end
/-- what is made of a matrix's cells by sums and products -/
structure Gen where
  run : ∀ (R : Type), Ops R → Mx R → R
  rel : ∀ (R S : Type) (o : Ops R) (p : Ops S) (Q : R → S → Prop), RelOps o p Q → ∀ (M : Mx R) (N : Mx S), (∀ i j, Q (M i j) (N i j)) → Q (run R o M) (run S p N)
def X (n : Nat) : Mx P := fun i j => if i < n ∧ j < n then var (n * i + j) else PP.zero
def cells (n : Nat) (M : Mx Int) : List Int := (List.range (n * n)).map fun v => M (v / n) (v % n)
/-- no cell beyond n -/
def Fit (n : Nat) (M : Mx Int) : Prop := ∀ i j, ¬ (i < n ∧ j < n) → M i j = 0
theorem x_is {n : Nat} {M : Mx Int} (h : Fit n M) (i j : Nat) : Is (cells n M) (X n i j) (M i j) := by
  unfold X
  split
  · rename_i hij
    have hl : (cells n M).length = n * n := by simp [cells]
    have hlt : n * i + j < n * n := by
      have : n * i + n ≤ n * n := by
        rw [← Nat.mul_succ]; exact Nat.mul_le_mul_left n hij.1
      omega
    have e := is_var (xs := cells n M) (i := n * i + j) (by rw [hl]; exact hlt)
    have e2 : (cells n M)[n * i + j]'(by rw [hl]; exact hlt) = M i j := by
      have d1 : (n * i + j) / n = i := by
        rw [Nat.mul_add_div (by omega), Nat.div_eq_of_lt hij.2]; rfl
      have d2 : (n * i + j) % n = j := by
        rw [Nat.mul_add_mod, Nat.mod_eq_of_lt hij.2]
      simp [cells, d1, d2]
    rw [e2] at e
    exact e
  · rename_i hij
    rw [h i j hij]
    exact (is_ops _).zero
theorem ident (f g : Gen) {n : Nat} (h : same (f.run P PP (X n)) (g.run P PP (X n)) = true) {M : Mx Int} (hM : Fit n M) : f.run Int ZZ M = g.run Int ZZ M :=
  same_eq (f.rel _ _ _ _ _ (is_ops (cells n M)) _ _ (x_is hM)) (g.rel _ _ _ _ _ (is_ops (cells n M)) _ _ (x_is hM)) h
def gLeib (n : Nat) : Gen := ⟨fun R o M => leibG o n M, fun _ _ _ _ _ h _ _ hM => leib_rel h hM n⟩
def gLap (n : Nat) : Gen := ⟨fun R o M => lapG o n M, fun _ _ _ _ _ h _ _ hM => lap_rel h n hM⟩
def gRow (n i k : Nat) : Gen := ⟨fun R o M => rowG o n i k M, fun _ _ _ _ _ h _ _ hM => row_rel h hM n i k⟩
def gCol (n i k : Nat) : Gen := ⟨fun R o M => colG o n i k M, fun _ _ _ _ _ h _ _ hM => col_rel h hM n i k⟩
def gEqR (n i k : Nat) : Gen := ⟨fun R o M => leibG o n (setRow M i k), fun _ _ _ _ _ h _ _ hM => leib_rel h (setRow_rel hM i k) n⟩
def gEqC (n i k : Nat) : Gen := ⟨fun R o M => leibG o n (setCol M i k), fun _ _ _ _ _ h _ _ hM => leib_rel h (setCol_rel hM i k) n⟩
def gZero : Gen := ⟨fun R o M => o.zero, fun _ _ _ _ _ h _ _ _ => h.zero⟩
/-- checked up to five -/
def chk (f g : Nat → Gen) : Bool := (List.range 6).all fun n => same ((f n).run P PP (X n)) ((g n).run P PP (X n))
theorem chk_eq {f g : Nat → Gen} (h : chk f g = true) {n : Nat} (hn : n ≤ 5) {M : Mx Int} (hM : Fit n M) : (f n).run Int ZZ M = (g n).run Int ZZ M :=
  ident _ _ ((List.all_eq_true.mp h) n (List.mem_range.mpr (by omega))) hM
def chk1 (f g : Nat → Nat → Gen) : Bool := (List.range 6).all fun n => (List.range n).all fun i => same ((f n i).run P PP (X n)) ((g n i).run P PP (X n))
theorem chk1_eq {f g : Nat → Nat → Gen} (h : chk1 f g = true) {n i : Nat} (hn : n ≤ 5) (hi : i < n) {M : Mx Int} (hM : Fit n M) : (f n i).run Int ZZ M = (g n i).run Int ZZ M :=
  ident _ _ ((List.all_eq_true.mp ((List.all_eq_true.mp h) n (List.mem_range.mpr (by omega)))) i (List.mem_range.mpr hi)) hM
def chk2 (f g : Nat → Nat → Nat → Gen) : Bool := (List.range 6).all fun n => (List.range n).all fun i => (List.range n).all fun k => i == k || same ((f n i k).run P PP (X n)) ((g n i k).run P PP (X n))
theorem chk2_eq {f g : Nat → Nat → Nat → Gen} (h : chk2 f g = true) {n i k : Nat} (hn : n ≤ 5) (hi : i < n) (hk : k < n) (hik : i ≠ k) {M : Mx Int} (hM : Fit n M) : (f n i k).run Int ZZ M = (g n i k).run Int ZZ M := by
  have := (List.all_eq_true.mp ((List.all_eq_true.mp ((List.all_eq_true.mp h) n (List.mem_range.mpr (by omega)))) i (List.mem_range.mpr hi))) k (List.mem_range.mpr hk)
  rw [Bool.or_eq_true] at this
  rcases this with h | h
  · exact (hik (by simpa using h)).elim
  · exact ident _ _ h hM
theorem lap_chk : chk gLap gLeib = true := by decide +kernel
theorem row_chk : chk1 (fun n i => gRow n i i) (fun n _ => gLeib n) = true := by decide +kernel
theorem col_chk : chk1 (fun n i => gCol n i i) (fun n _ => gLeib n) = true := by decide +kernel
theorem eqr_chk : chk2 gEqR (fun _ _ _ => gZero) = true := by decide +kernel
theorem eqc_chk : chk2 gEqC (fun _ _ _ => gZero) = true := by decide +kernel
end Sg.M

-- SgA
/-! SgA: the program's matrices and determinants. -/
namespace Sg
open T M
theorem bind_ite {α β : Type} {c : Bool} {x y : T α} {f : α → T β} : (if c = true then x else y).bind f = if c = true then x.bind f else y.bind f := by cases c <;> rfl
theorem all_true {α : Type} {p : α → Bool} {xs : List α} (h : ∀ x ∈ xs, p x = true) : (xs.map p).all id = true := by
  simp only [List.all_map]
  exact List.all_eq_true.mpr fun x hx => h x hx
theorem is_web_ok {n : Nat} {rows : List (List Char)} (w : Web n rows) (h1 : 1 ≤ n) (h5 : n ≤ 5) : t_is_web rows = ok true := by
  have hl := w.1
  unfold t_is_web t_are_rows
  simp only [ok_bind, beq_self_eq_true, Bool.not_true, Bool.false_eq_true, if_false, lenT]
  rw [if_pos (decide_eq_true (show (1 : Int) ≤ rows.length by omega))]
  simp only [ok_bind]
  rw [show (!decide ((rows.length : Int) ≤ 5)) = false by simp; omega]
  simp only [Bool.false_eq_true, if_false, if_true]
  rw [mapT_eq (g := fun _ => true) fun r hr => by
    have hR := w.2 r hr
    rw [lenS_ok (by rw [hR.1]; omega), ok_bind, hR.1, hl]; simp]
  simp only [ok_bind]
  rw [all_true (fun _ _ => rfl)]
  simp only [Bool.not_true, Bool.false_eq_true, if_false]
  rw [catT_eq (g := fun r => r.map fun _ => true) fun r hr => by
    have hR := w.2 r hr
    rw [chkT_ok (by rw [hR.1]; omega), ok_bind, mapT_eq (g := fun _ => true) fun c hc => by
      have := hR.2 c hc
      simp only [List.mem_cons, List.not_mem_nil, or_false] at this
      rcases this with rfl | rfl | rfl <;> simp]]
  have hlen : (rows.map fun r => r.map fun _ => true).flatten.length ≤ 1000000 := by
    rw [List.length_flatten]
    have : ∀ l : List (List Char), (∀ r ∈ l, r.length = n) → ((l.map fun r => r.map fun _ => true).map List.length).sum = l.length * n := by
      intro l hl
      induction l with
      | nil => simp
      | cons r l ih =>
        simp only [List.map_cons, List.sum_cons, List.length_map, List.length_cons, Nat.succ_mul]
        have e1 := ih fun r hr => hl r (by simp [hr])
        simp only [List.map_map] at e1 ⊢
        rw [e1, hl r (by simp)]; omega
    rw [this rows fun r hr => (w.2 r hr).1, hl]
    have : n * n ≤ 25 := Nat.mul_le_mul h5 h5
    omega
  simp only [ok_bind, fitT_ok hlen]
  congr 1
  rw [List.all_eq_true]
  intro b hb
  obtain ⟨l, hl2, hb2⟩ := List.mem_flatten.mp hb
  obtain ⟨r, _, rfl⟩ := List.mem_map.mp hl2
  obtain ⟨_, _, rfl⟩ := List.mem_map.mp hb2
  rfl
theorem check_web_ok {n : Nat} {rows : List (List Char)} (w : Web n rows) (h1 : 1 ≤ n) (h5 : n ≤ 5) : t_check_web rows = ok () := by
  unfold t_check_web
  simp only [ok_bind, is_web_ok w h1 h5, Bool.not_true, Bool.false_eq_true, if_false]
theorem between_ok (v lo hi : Int) : t_is_between v lo hi = ok (decide (lo ≤ v) && decide (v ≤ hi)) := by
  unfold t_is_between
  have h1 : ("int" == "int" || "int" == "bool") = true := by decide
  have h2 : ("int" == "bool") = false := by decide
  simp only [ok_bind, h1, h2, if_true, Bool.not_false]
  by_cases h : lo ≤ v
  · simp [h]
  · simp [h]
theorem pow30 : powT 10 30 = ok (10 ^ 30) := by
  unfold powT
  rw [if_pos ⟨by decide, by decide, by decide⟩]; rfl
theorem are_sizes_ok {far n : Nat} {rows : List (List Char)} {sz : List (List Int)} (w : Web n rows) (h5 : n ≤ 5) (s : Sz far rows sz) (hf : far ≤ 10000000) : t_are_sizes rows sz = ok true := by
  unfold t_are_sizes
  have hl : (!decide ((sz.length : Int) = (rows.length : Int))) = false := by rw [s.1]; simp
  simp only [ok_bind, beq_self_eq_true, Bool.not_true, Bool.false_eq_true, if_false, lenT, hl]
  rw [forX_nx fun p hp => ?_]
  · rfl
  obtain ⟨i, hi, rfl⟩ := List.getElem_of_mem hp
  rw [List.length_zip] at hi
  have hir : i < rows.length := by omega
  have his : i < sz.length := by omega
  simp only [List.getElem_zip]
  have hR := w.2 rows[i] (List.getElem_mem hir)
  obtain ⟨hle, hs⟩ := s.2 i hir his
  rw [lenS_ok (by rw [hR.1]; omega), chkT_ok (by rw [hR.1]; omega)]
  have hl2 : (!decide ((sz[i].length : Int) = (rows[i].length : Int))) = false := by rw [hle]; simp
  simp only [ok_bind, hl2, Bool.false_eq_true, if_false, pow30]
  rw [forX_nx fun q hq => ?_]
  · rfl
  obtain ⟨j, hj, rfl⟩ := List.getElem_of_mem hq
  rw [List.length_zip] at hj
  simp only [List.getElem_zip]
  have := hs j (by omega) (by omega)
  by_cases hc : rows[i][j] = '0'
  · rw [if_pos hc] at this
    have e : (if (!decide (rows[i][j] = '0')) = true then (1 : Int) else 0) = 0 := by simp [hc]
    rw [e, this, mulT_ok (by decide) (by decide)]
    simp only [ok_bind, between_ok]
    rfl
  · rw [if_neg hc] at this
    have e : (if (!decide (rows[i][j] = '0')) = true then (1 : Int) else 0) = 1 := by simp [hc]
    rw [e, mulT_ok (by decide) (by decide)]
    simp only [ok_bind, between_ok]
    have e1 : (decide (1 ≤ sz[i][j]) && decide (sz[i][j] ≤ 10 ^ 30 * 1)) = true := by
      simp only [Bool.and_eq_true, decide_eq_true_eq]
      have : (10000000 : Int) ≤ 10 ^ 30 * 1 := by decide
      omega
    rw [e1]; rfl
theorem check_sizes_ok {far n : Nat} {rows : List (List Char)} {sz : List (List Int)} (w : Web n rows) (h1 : 1 ≤ n) (h5 : n ≤ 5) (s : Sz far rows sz) (hf : far ≤ 10000000) : t_check_sizes rows sz = ok () := by
  unfold t_check_sizes
  simp only [ok_bind, check_web_ok w h1 h5, are_sizes_ok w h5 s hf, Bool.not_true, Bool.false_eq_true, if_false]
/-! ### the matrix -/
def fac (c : Char) : Int := if c = '+' then 1 else if c = '-' then -1 else 0
theorem look_fac {c : Char} (h : c ∈ ['+', '-', '0']) : lookT ['+', '-', '0'] [(1 : Int), -1, 0] c = some (fac c) := by
  simp only [List.mem_cons, List.not_mem_nil, or_false] at h
  rcases h with rfl | rfl | rfl <;> rfl
def matOf (rows : List (List Char)) (sz : List (List Int)) : List (List Int) := (rows.zip sz).map fun p => (p.1.zip p.2).map fun q => fac q.1 * q.2
/-- square, its cells at most so great -/
structure Sqm (n B : Nat) (A : List (List Int)) : Prop where
  len : A.length = n
  row : ∀ r ∈ A, r.length = n
  bd : ∀ r ∈ A, ∀ x ∈ r, x.natAbs ≤ B
theorem mat_sq {far n : Nat} {rows : List (List Char)} {sz : List (List Int)} (w : Web n rows) (s : Sz far rows sz) : Sqm n far (matOf rows sz) := by
  have h0 : ∀ r ∈ matOf rows sz, ∃ i, ∃ h : i < rows.length, ∃ h' : i < sz.length, r = (rows[i].zip sz[i]).map fun q => fac q.1 * q.2 := fun r hr => by
    obtain ⟨p, hp, rfl⟩ := List.mem_map.mp hr
    obtain ⟨i, hi, rfl⟩ := List.getElem_of_mem hp
    rw [List.length_zip] at hi
    exact ⟨i, by omega, by omega, by simp only [List.getElem_zip]⟩
  refine ⟨by rw [matOf, List.length_map, List.length_zip, s.1, w.1, Nat.min_self], fun r hr => ?_, fun r hr x hx => ?_⟩
  · obtain ⟨i, h, h', rfl⟩ := h0 r hr
    rw [List.length_map, List.length_zip, (s.2 i h h').1, Nat.min_self]
    exact (w.2 _ (List.getElem_mem h)).1
  · obtain ⟨i, h, h', rfl⟩ := h0 r hr
    obtain ⟨q, hq, rfl⟩ := List.mem_map.mp hx
    obtain ⟨j, hj, rfl⟩ := List.getElem_of_mem hq
    rw [List.length_zip] at hj
    simp only [List.getElem_zip]
    have := (s.2 i h h').2 j (by omega) (by omega)
    have hc := (w.2 _ (List.getElem_mem h)).2 rows[i][j] (List.getElem_mem _)
    simp only [List.mem_cons, List.not_mem_nil, or_false] at hc
    rcases hc with e | e | e
    · rw [if_neg (by rw [e]; decide)] at this
      rw [e]; simp only [fac, if_true]; omega
    · rw [if_neg (by rw [e]; decide)] at this
      rw [e]
      have : fac '-' = -1 := rfl
      rw [this]; omega
    · rw [e]
      have : fac '0' = 0 := rfl
      rw [this]; omega
theorem found_matrix_ok {far n : Nat} {rows : List (List Char)} {sz : List (List Int)} (w : Web n rows) (h5 : n ≤ 5) (s : Sz far rows sz) (hf : far ≤ 10000000) : t_found_matrix rows sz = ok (matOf rows sz) := by
  unfold t_found_matrix
  simp only [ok_bind, bind_okT]
  rw [push_loop (g := fun p : List Char × List Int => (p.1.zip p.2).map fun q => fac q.1 * q.2) (by rw [List.length_zip, w.1]; simp; omega) fun p hp st hst => ?_]
  · rfl
  obtain ⟨i, hi, rfl⟩ := List.getElem_of_mem hp
  rw [List.length_zip] at hi
  have hir : i < rows.length := by omega
  have his : i < sz.length := by omega
  simp only [List.getElem_zip]
  have hR := w.2 rows[i] (List.getElem_mem hir)
  obtain ⟨hle, hs⟩ := s.2 i hir his
  rw [chkT_ok (by rw [hR.1]; omega)]
  simp only [ok_bind]
  rw [mapT_eq (g := fun q : Char × Int => fac q.1 * q.2) fun q hq => ?_]
  · simp only [ok_bind]
    rw [pushT_ok hst]
  obtain ⟨j, hj, rfl⟩ := List.getElem_of_mem hq
  rw [List.length_zip] at hj
  simp only [List.getElem_zip]
  have hc := hR.2 rows[i][j] (List.getElem_mem _)
  rw [look_fac hc]
  simp only [opt_some, ok_bind]
  refine mulT_ok ?_ ?_
  · unfold fac
    split
    · decide
    · split <;> decide
  · have := hs j (by omega) (by omega)
    have h6 : (10000000 : Nat) < 2 ^ 8000 := Nat.lt_of_lt_of_le (show 10000000 < 2 ^ 24 by decide) (Nat.pow_le_pow_right (by decide) (by decide))
    by_cases e : rows[i][j] = '0'
    · rw [if_pos e] at this; rw [this]; exact Nat.lt_of_le_of_lt (by decide) h6
    · rw [if_neg e] at this
      exact Nat.lt_of_le_of_lt (show _ ≤ 10000000 by omega) h6
theorem matrix_ok {far n : Nat} {rows : List (List Char)} {sz : List (List Int)} (w : Web n rows) (h1 : 1 ≤ n) (h5 : n ≤ 5) (s : Sz far rows sz) (hf : far ≤ 10000000) : t_matrix rows sz = ok (matOf rows sz) := by
  unfold t_matrix
  simp only [ok_bind, check_sizes_ok w h1 h5 s hf, found_matrix_ok w h5 s hf]
end Sg

-- SgA2
/-! SgA2: determinants. -/
namespace Sg
open T M
/-- the cells as numbers -/
def Mt (A : List (List Int)) : Mx Int := fun i j => (A[i]?.getD [])[j]?.getD 0
theorem mt_at {A : List (List Int)} {i j : Nat} (hi : i < A.length) (hj : j < A[i].length) : Mt A i j = A[i][j] := by
  unfold Mt
  rw [List.getElem?_eq_getElem hi]
  show A[i][j]?.getD 0 = _
  rw [List.getElem?_eq_getElem hj]; rfl
theorem mt_fit {n B : Nat} {A : List (List Int)} (s : Sqm n B A) : Fit n (Mt A) := by
  intro i j h
  unfold Mt
  by_cases hi : i < A.length
  · rw [List.getElem?_eq_getElem hi]
    have := s.row _ (List.getElem_mem hi)
    rw [s.len] at hi
    show A[i][j]?.getD 0 = 0
    rw [List.getElem?_eq_none (by omega)]; rfl
  · rw [show A[i]? = none from List.getElem?_eq_none (by omega)]
    show ([] : List Int)[j]?.getD 0 = 0
    simp
theorem mt_bd {n B : Nat} {A : List (List Int)} (s : Sqm n B A) (i j : Nat) : (Mt A i j).natAbs ≤ B := by
  unfold Mt
  by_cases hi : i < A.length
  · rw [List.getElem?_eq_getElem hi]
    show (A[i][j]?.getD 0).natAbs ≤ B
    by_cases hj : j < A[i].length
    · rw [List.getElem?_eq_getElem hj]
      exact s.bd _ (List.getElem_mem hi) _ (List.getElem_mem hj)
    · rw [List.getElem?_eq_none (by omega)]; exact Nat.zero_le _
  · rw [show A[i]? = none from List.getElem?_eq_none (by omega)]
    show (([] : List Int)[j]?.getD 0).natAbs ≤ B
    simp
/-- without a row and a column -/
def cut2 (A : List (List Int)) (i j : Nat) : List (List Int) := (A.eraseIdx i).map fun r => r.eraseIdx j
theorem mt_cut {A : List (List Int)} {i j : Nat} : Mt (cut2 A i j) = minor (Mt A) i j := by
  funext a b
  unfold Mt cut2 minor
  rw [List.getElem?_map, List.getElem?_eraseIdx]
  by_cases h : a < i
  · simp only [if_pos h]
    cases e : A[a]? with
    | none => simp
    | some r =>
      simp only [Option.map_some, Option.getD_some, List.getElem?_eraseIdx]
      by_cases k : b < j <;> simp [k]
  · simp only [if_neg h]
    cases e : A[a + 1]? with
    | none => simp
    | some r =>
      simp only [Option.map_some, Option.getD_some, List.getElem?_eraseIdx]
      by_cases k : b < j <;> simp [k]
theorem cut_sq {n B i j : Nat} {A : List (List Int)} (s : Sqm (n + 1) B A) (hi : i ≤ n) (hj : j ≤ n) : Sqm n B (cut2 A i j) := by
  unfold cut2
  refine ⟨?_, fun r hr => ?_, fun r hr x hx => ?_⟩
  · rw [List.length_map, List.length_eraseIdx_of_lt (by rw [s.len]; omega), s.len]; rfl
  · obtain ⟨r', hr', rfl⟩ := List.mem_map.mp hr
    have := s.row r' (List.mem_of_mem_eraseIdx hr')
    rw [List.length_eraseIdx_of_lt (by omega), this]; rfl
  · obtain ⟨r', hr', rfl⟩ := List.mem_map.mp hr
    exact s.bd r' (List.mem_of_mem_eraseIdx hr') x (List.mem_of_mem_eraseIdx hx)
/-! bounds -/
theorem foldl_bd {l : List Int} {C : Nat} (h : ∀ x ∈ l, x.natAbs ≤ C) : ∀ a : Int, (l.foldl (· + ·) a).natAbs ≤ a.natAbs + l.length * C := by
  induction l with
  | nil => intro a; simp
  | cons x l ih =>
    intro a
    rw [List.foldl_cons]
    have h1 := ih (fun y hy => h y (by simp [hy])) (a + x)
    have h2 := h x (by simp)
    have h3 : (a + x).natAbs ≤ a.natAbs + x.natAbs := Int.natAbs_add_le a x
    rw [List.length_cons, Nat.succ_mul]
    omega
theorem sum_bd {l : List Int} {C : Nat} (h : ∀ x ∈ l, x.natAbs ≤ C) : (sumG ZZ l).natAbs ≤ l.length * C := by
  have := foldl_bd h 0
  simpa [sumG, ZZ] using this
theorem sg_abs (k : Nat) (x : Int) : (sgG ZZ k x).natAbs = x.natAbs := by
  unfold sgG
  split
  · rfl
  · exact Int.natAbs_neg x
theorem lap_bd {B : Nat} : ∀ (n : Nat) {N : Mx Int}, n ≤ 6 → (∀ i j, (N i j).natAbs ≤ B) → (lapG ZZ n N).natAbs ≤ (6 * B) ^ n
  | 0, N, _, _ => Nat.le_refl _
  | n + 1, N, hn, h => by
    show (sumG ZZ _).natAbs ≤ _
    have := sum_bd (C := B * (6 * B) ^ n) (l := (List.range (n + 1)).map fun j => ZZ.mul (sgG ZZ j (N 0 j)) (lapG ZZ n (minor N 0 j))) fun x hx => by
      obtain ⟨j, _, rfl⟩ := List.mem_map.mp hx
      show (sgG ZZ j (N 0 j) * lapG ZZ n (minor N 0 j)).natAbs ≤ _
      rw [Int.natAbs_mul, sg_abs]
      exact Nat.mul_le_mul (h 0 j) (lap_bd n (by omega) fun a b => h _ _)
    rw [List.length_map, List.length_range] at this
    refine Nat.le_trans this ?_
    rw [Nat.pow_succ, ← Nat.mul_assoc, Nat.mul_comm ((6 * B) ^ n)]
    refine Nat.mul_le_mul_right _ (Nat.mul_le_mul_right _ (by omega))
/-- small enough for all products here -/
def Bok (B : Nat) : Prop := B ≤ 2 ^ 200
theorem pow_ok {B n : Nat} (h : Bok B) (hn : n ≤ 6) : (6 * B) ^ n < 2 ^ 2000 := by
  have h1 : 6 * B ≤ 2 ^ 203 := Nat.le_trans (Nat.mul_le_mul_left 6 h) (by decide)
  refine Nat.lt_of_le_of_lt (Nat.pow_le_pow_left h1 n) ?_
  rw [← Nat.pow_mul]
  exact Nat.pow_lt_pow_right (by decide) (by omega)
theorem lt8000 {x : Nat} (h : x < 2 ^ 4000) : x < 2 ^ 8000 := Nat.lt_of_lt_of_le h (Nat.pow_le_pow_right (by decide) (by decide))
theorem lt4000 {x : Nat} (h : x < 2 ^ 2000) : x < 2 ^ 4000 := Nat.lt_of_lt_of_le h (Nat.pow_le_pow_right (by decide) (by decide))
theorem bok_lt {B : Nat} (h : Bok B) : B < 2 ^ 2000 := Nat.lt_of_le_of_lt h (Nat.pow_lt_pow_right (by decide) (by decide))
/-! ### det_of -/
theorem enum_eq {α : Type} (d : α) (xs : List α) : enumI xs = (List.range xs.length).map fun (j : Nat) => ((j : Int), xs[j]?.getD d) := by
  unfold enumI
  apply List.ext_getElem
  · simp
  · intro i h1 h2
    simp at h1
    simp [h1]
theorem mod2 (j : Nat) : modT (j : Int) 2 = ok (((j % 2 : Nat) : Int)) := by
  unfold modT
  rw [if_pos (by decide)]
  congr 1
  show Int.fmod (j : Int) ((2 : Nat) : Int) = _
  rw [Int.fmod_eq_emod_of_nonneg _ (by omega)]
  omega
theorem sgI (j : Nat) (x : Int) : (if decide (((j % 2 : Nat) : Int) = 0) = true then ok x else ok (-x)) = ok (sgG ZZ j x) := by
  unfold sgG
  by_cases h : j % 2 = 0
  · rw [h]; rfl
  · rw [if_neg h, if_neg (by simp; omega)]; rfl
theorem det_of_ok {B : Nat} (hB : Bok B) : ∀ (n K : Nat) {A : List (List Int)}, n ≤ 5 → n < K → Sqm n B A → t_det_of K A = ok (lapG ZZ n (Mt A))
  | 0, K + 1, A, _, _, s => by
    have : A = [] := List.eq_nil_of_length_eq_zero s.len
    subst this
    rfl
  | n + 1, K + 1, A, hn, hK, s => by
    have hl := s.len
    obtain ⟨r0, A', rfl⟩ : ∃ r A', A = r :: A' := by
      cases A with
      | nil => simp at hl
      | cons r A' => exact ⟨r, A', rfl⟩
    have hr0 : r0.length = n + 1 := s.row r0 (by simp)
    unfold t_det_of
    have h0 : decide (((r0 :: A').length : Int) = 0) = false := by simp; omega
    simp only [ok_bind, lenT, h0, Bool.false_eq_true, if_false]
    rw [show atT (r0 :: A') 0 = ok r0 from atT_nat (i := 0) (by simp)]
    simp only [ok_bind, bind_okT]
    rw [enum_eq 0 r0, hr0]
    have key : ∀ j : Nat, j ≤ n → t_det_of K (cut2 (r0 :: A') 0 j) = ok (lapG ZZ n (minor (Mt (r0 :: A')) 0 j)) := fun j hj => by
      rw [det_of_ok hB n K (by omega) (by omega) (cut_sq s (Nat.zero_le _) hj), mt_cut]
    rw [forT_fold (g := fun (a : Int) (p : Int × Int) => a + ZZ.mul (sgG ZZ p.1.toNat p.2) (lapG ZZ n (minor (Mt (r0 :: A')) 0 p.1.toNat))) fun p hp a => ?_]
    · congr 1
      show _ = sumG ZZ ((List.range (n + 1)).map _)
      unfold sumG
      rw [List.foldl_map, List.foldl_map]
      rfl
    · obtain ⟨j, hj, rfl⟩ := List.mem_map.mp hp
      rw [List.mem_range] at hj
      have hx : r0[j]?.getD 0 = Mt (r0 :: A') 0 j := rfl
      show _ = ok (a + sgG ZZ ((j : Int)).toNat (r0[j]?.getD 0) * lapG ZZ n (minor (Mt (r0 :: A')) 0 ((j : Int)).toNat))
      rw [Int.toNat_natCast]
      by_cases h00 : r0[j]?.getD 0 = 0
      · have e1 : (!decide (r0[j]?.getD 0 = 0)) = false := by simp [h00]
        simp only [e1, Bool.false_eq_true, if_false]
        have e2 : sgG ZZ j (0 : Int) = 0 := by unfold sgG; split <;> rfl
        rw [h00, e2, Int.zero_mul, Int.add_zero]
      · have e1 : (!decide (r0[j]?.getD 0 = 0)) = true := by simp [h00]
        simp only [e1, if_true]
        rw [show (1 : Int) = ((1 : Nat) : Int) from rfl, cut_from]
        rw [mapT_eq (g := fun r : List Int => r.eraseIdx j) fun r hr => by
          have hrl : r.length = n + 1 := s.row r (List.mem_of_mem_drop hr)
          simp only [ok_bind, cut_to]
          rw [show ((j : Int) + ((1 : Nat) : Int)) = ((j + 1 : Nat) : Int) by omega, cut_from, appT_ok (by simp only [List.length_take, List.length_drop]; omega), take_drop_erase]]
        simp only [ok_bind]
        have e3 : ((r0 :: A').drop 1).map (fun r : List Int => r.eraseIdx j) = cut2 (r0 :: A') 0 j := rfl
        rw [e3, key j (by omega), mod2]
        simp only [ok_bind]
        rw [sgI]
        simp only [ok_bind]
        rw [mulT_ok]
        · rfl
        · rw [sg_abs, hx]
          exact lt8000 (lt4000 (Nat.lt_of_le_of_lt (mt_bd s 0 j) (bok_lt hB)))
        · exact lt8000 (lt4000 (Nat.lt_of_le_of_lt (lap_bd n (by omega) fun a b => mt_bd s _ _) (pow_ok hB (by omega))))
end Sg

-- SgA3
/-! SgA3: determinants by orders; expansions. -/
namespace Sg
open T M
def T.eqOk {α : Type} [DecidableEq α] (t : T α) (a : α) : Bool := match t with
  | ok b => decide (b = a)
  | _ => false
theorem T.of_eqOk {α : Type} [DecidableEq α] {t : T α} {a : α} (h : t.eqOk a = true) : t = ok a := by
  cases t with
  | ok b => rw [of_decide_eq_true (show decide (b = a) = true from h)]
  | bad => cases h
  | draw m k => cases h
def ordsI (n : Nat) : List (List Int × Bool) := (ords n).map fun p => (p.1.map fun (i : Nat) => (i : Int), p.2)
theorem to5 {P : Nat → Prop} (h0 : P 0) (h1 : P 1) (h2 : P 2) (h3 : P 3) (h4 : P 4) (h5 : P 5) {n : Nat} (h : n ≤ 5) : P n := by
  rcases n with _ | _ | _ | _ | _ | _ | n
  · exact h0
  · exact h1
  · exact h2
  · exact h3
  · exact h4
  · exact h5
  · omega
theorem orders_ok {n : Nat} (h : n ≤ 5) : t_l_orders (n : Int) = ok (ordsI n) :=
  to5 (P := fun n => t_l_orders (n : Int) = ok (ordsI n)) (T.of_eqOk (by decide +kernel)) (T.of_eqOk (by decide +kernel)) (T.of_eqOk (by decide +kernel)) (T.of_eqOk (by decide +kernel)) (T.of_eqOk (by decide +kernel)) (T.of_eqOk (by decide +kernel)) h
def ordsFine (n : Nat) : Bool := (ords n).all fun p => decide (p.1.length = n) && p.1.all fun j => decide (j < n)
theorem ords_fine {n : Nat} (h : n ≤ 5) {p : List Nat × Bool} (hp : p ∈ ords n) : p.1.length = n ∧ ∀ j ∈ p.1, j < n := by
  have := to5 (P := fun n => ordsFine n = true) (by decide +kernel) (by decide +kernel) (by decide +kernel) (by decide +kernel) (by decide +kernel) (by decide +kernel) h
  have := List.all_eq_true.mp this p hp
  simp only [Bool.and_eq_true, decide_eq_true_eq] at this
  exact ⟨this.1, fun j hj => of_decide_eq_true (List.all_eq_true.mp this.2 j hj)⟩
theorem goP_snoc (N : Mx Int) (j : Nat) : ∀ (l : List Nat) (k : Nat) (a : Int), goP ZZ N k (l ++ [j]) a = goP ZZ N k l a * N (k + l.length) j
  | [], k, a => rfl
  | i :: l, k, a => by
    show goP ZZ N (k + 1) (l ++ [j]) _ = goP ZZ N (k + 1) l _ * N (k + (l.length + 1)) j
    rw [goP_snoc N j l (k + 1), show k + 1 + l.length = k + (l.length + 1) by omega]
theorem goP_bd {N : Mx Int} {B : Nat} (h : ∀ i j, (N i j).natAbs ≤ B) : ∀ (l : List Nat) (k : Nat) (a : Int), (goP ZZ N k l a).natAbs ≤ a.natAbs * B ^ l.length
  | [], k, a => by simp [goP]
  | i :: l, k, a => by
    show (goP ZZ N (k + 1) l (a * N k i)).natAbs ≤ _
    refine Nat.le_trans (goP_bd h l (k + 1) _) ?_
    rw [Int.natAbs_mul, List.length_cons, Nat.pow_succ, Nat.mul_assoc, Nat.mul_comm (B ^ l.length)]
    exact Nat.mul_le_mul_left _ (Nat.mul_le_mul_right _ (h k i))
theorem bpow {B n : Nat} (h : Bok B) (hn : n ≤ 6) : B ^ n < 2 ^ 2000 := Nat.lt_of_le_of_lt (Nat.pow_le_pow_left (Nat.le_mul_of_pos_left B (by decide)) n) (pow_ok h hn)
def oneG (b : Bool) : Int := if b = true then -1 else 1
theorem l_det_ok {n B : Nat} {A : List (List Int)} (hB : Bok B) (hn : n ≤ 5) (s : Sqm n B A) : t_l_det A = ok (leibG ZZ n (Mt A)) := by
  unfold t_l_det
  simp only [ok_bind, lenT, s.len, orders_ok hn, rngT_nat (show n ≤ 1000000 by omega), bind_okT]
  rw [forT_fold (g := fun (a : Int) (p : List Int × Bool) => a + goP ZZ (Mt A) 0 (p.1.map Int.toNat) (oneG p.2)) fun p hp a => ?_]
  · congr 1
    unfold ordsI leibG sumG
    rw [List.foldl_map, List.foldl_map]
    congr 1
    funext a q
    show a + goP ZZ (Mt A) 0 ((q.1.map fun (i : Nat) => (i : Int)).map Int.toNat) (oneG q.2) = a + termG ZZ (Mt A) q
    rw [List.map_map]
    have : (Int.toNat ∘ fun (i : Nat) => (i : Int)) = id := by funext i; exact Int.toNat_natCast i
    rw [this, List.map_id]; rfl
  · obtain ⟨q, hq, rfl⟩ := List.mem_map.mp hp
    obtain ⟨f1, f2⟩ := ords_fine hn hq
    simp only [List.map_map]
    have e0 : (Int.toNat ∘ fun (i : Nat) => (i : Int)) = id := by funext i; exact Int.toNat_natCast i
    rw [e0, List.map_id]
    have e1 : (if q.2 = true then ok (-(1 : Int)) else ok 1) = ok (oneG q.2) := by unfold oneG; cases q.2 <;> rfl
    rw [e1]
    simp only [ok_bind]
    have ob : (oneG q.2).natAbs = 1 := by unfold oneG; cases q.2 <;> rfl
    have := forT_inv (f := fun (x_i : Int) (s4 : Int) => (atT A x_i).bind fun a => (atT (q.1.map fun (i : Nat) => (i : Int)) x_i).bind fun b => (atT a b).bind fun b => mulT s4 b) (fun i => goP ZZ (Mt A) 0 (q.1.take i) (oneG q.2)) (xs := nats n) fun i hi => ?_
    · simp only [nats_length, List.take_zero] at this
      rw [List.take_of_length_le (by omega)] at this
      simp only [T.bind_assoc]
      show (forT _ _ (goP ZZ (Mt A) 0 [] (oneG q.2))).bind _ = _
      rw [this]; rfl
    · rw [nats_length] at hi
      have hiA : i < A.length := by rw [s.len]; exact hi
      have hiq : i < q.1.length := by rw [f1]; exact hi
      have hj : q.1[i] < n := f2 _ (List.getElem_mem hiq)
      have hjA : q.1[i] < A[i].length := by rw [s.row _ (List.getElem_mem hiA)]; exact hj
      rw [nats_get, atT_nat hiA, ok_bind, atT_nat (by rw [List.length_map]; exact hiq), ok_bind, List.getElem_map, atT_nat hjA, ok_bind]
      rw [List.take_succ_eq_append_getElem hiq, goP_snoc]
      have e2 : 0 + (q.1.take i).length = i := by rw [List.length_take]; omega
      rw [e2, mt_at hiA hjA]
      refine mulT_ok ?_ ?_
      · refine lt8000 (lt4000 (Nat.lt_of_le_of_lt (goP_bd (mt_bd s) _ _ _) ?_))
        rw [ob, Nat.one_mul]
        exact bpow hB (by rw [List.length_take]; omega)
      · rw [← mt_at hiA hjA]
        exact lt8000 (lt4000 (Nat.lt_of_le_of_lt (mt_bd s _ _) (bok_lt hB)))
/-! ### what holds of determinants up to five -/
theorem lap_leib {n : Nat} (hn : n ≤ 5) {N : Mx Int} (h : Fit n N) : lapG ZZ n N = leibG ZZ n N := chk_eq lap_chk hn h
theorem row_leib {n i : Nat} (hn : n ≤ 5) (hi : i < n) {N : Mx Int} (h : Fit n N) : rowG ZZ n i i N = leibG ZZ n N := chk1_eq row_chk hn hi h
theorem col_leib {n i : Nat} (hn : n ≤ 5) (hi : i < n) {N : Mx Int} (h : Fit n N) : colG ZZ n i i N = leibG ZZ n N := chk1_eq col_chk hn hi h
theorem eqr_leib {n i k : Nat} (hn : n ≤ 5) (hi : i < n) (hk : k < n) (hik : i ≠ k) {N : Mx Int} (h : Fit n N) : leibG ZZ n (setRow N i k) = 0 := chk2_eq eqr_chk hn hi hk hik h
theorem eqc_leib {n i k : Nat} (hn : n ≤ 5) (hi : i < n) (hk : k < n) (hik : i ≠ k) {N : Mx Int} (h : Fit n N) : leibG ZZ n (setCol N i k) = 0 := chk2_eq eqc_chk hn hi hk hik h
theorem fit_setRow {n i k : Nat} {N : Mx Int} (h : Fit n N) (hi : i < n) (hk : k < n) : Fit n (setRow N i k) := fun a b hab => by
  unfold setRow
  split
  · exact h _ _ (by omega)
  · exact h _ _ hab
theorem fit_setCol {n i k : Nat} {N : Mx Int} (h : Fit n N) (hi : i < n) (hk : k < n) : Fit n (setCol N i k) := fun a b hab => by
  unfold setCol
  split
  · exact h _ _ (by omega)
  · exact h _ _ hab
theorem minor_setRow {N : Mx Int} {i k j : Nat} : minor (setRow N i k) k j = minor N k j := by
  funext a b
  unfold minor setRow
  by_cases h : a < k
  · simp only [if_pos h, if_neg (show ¬ a = k by omega)]
  · simp only [if_neg h, if_neg (show ¬ a + 1 = k by omega)]
theorem minor_setCol {N : Mx Int} {i k j : Nat} : minor (setCol N i k) j k = minor N j k := by
  funext a b
  unfold minor setCol
  by_cases h : b < k
  · simp only [if_pos h, if_neg (show ¬ b = k by omega)]
  · simp only [if_neg h, if_neg (show ¬ b + 1 = k by omega)]
/-- a row times the rests of a row -/
theorem row_any {n i k : Nat} (hn : n ≤ 5) (hi : i < n) (hk : k < n) {N : Mx Int} (h : Fit n N) : rowG ZZ n i k N = if i = k then leibG ZZ n N else 0 := by
  by_cases e : i = k
  · subst e; rw [if_pos rfl, row_leib hn hi h]
  · rw [if_neg e, ← eqr_leib hn hi hk e h, ← row_leib hn hk (fit_setRow h hi hk)]
    unfold rowG cofG
    congr 1
    refine List.map_congr_left fun j _ => ?_
    rw [minor_setRow]
    congr 1
    unfold setRow
    rw [if_pos rfl]
theorem col_any {n i k : Nat} (hn : n ≤ 5) (hi : i < n) (hk : k < n) {N : Mx Int} (h : Fit n N) : colG ZZ n i k N = if i = k then leibG ZZ n N else 0 := by
  by_cases e : i = k
  · subst e; rw [if_pos rfl, col_leib hn hi h]
  · rw [if_neg e, ← eqc_leib hn hi hk e h, ← col_leib hn hk (fit_setCol h hi hk)]
    unfold colG cofG
    congr 1
    refine List.map_congr_left fun j _ => ?_
    rw [minor_setCol]
    congr 1
    unfold setCol
    rw [if_pos rfl]
theorem l_rest_ok {n B i j : Nat} {A : List (List Int)} (hB : Bok B) (hn : n + 1 ≤ 5) (s : Sqm (n + 1) B A) (hi : i ≤ n) (hj : j ≤ n) : t_l_rest A (i : Int) (j : Int) = ok (cofG ZZ (n + 1) (Mt A) i j) := by
  unfold t_l_rest
  have hl := s.len
  simp only [ok_bind, cut_to, cast_succ, cut_from]
  rw [appT_ok (by simp only [List.length_take, List.length_drop]; omega), take_drop_erase]
  simp only [ok_bind]
  rw [mapT_eq (g := fun r : List Int => r.eraseIdx j) fun r hr => by
    have hrl : r.length = n + 1 := s.row r (List.mem_of_mem_eraseIdx hr)
    rw [appT_ok (by simp only [List.length_take, List.length_drop]; omega), take_drop_erase]]
  simp only [ok_bind]
  rw [show (A.eraseIdx i).map (fun r : List Int => r.eraseIdx j) = cut2 A i j from rfl, l_det_ok hB (by omega) (cut_sq s hi hj), mt_cut]
  simp only [ok_bind]
  rw [show (i : Int) + (j : Int) = ((i + j : Nat) : Int) by omega, mod2]
  simp only [ok_bind, Int.zero_sub]
  exact sgI (i + j) _
theorem det_ok {far n : Nat} {rows : List (List Char)} {sz : List (List Int)} (w : Web n rows) (h1 : 1 ≤ n) (h5 : n ≤ 5) (s : Sz far rows sz) (hf : far ≤ 10000000) : t_det rows sz = ok (leibG ZZ n (Mt (matOf rows sz))) := by
  have q := mat_sq w s
  have hB : Bok far := Nat.le_trans hf (by decide)
  unfold t_det
  simp only [ok_bind, check_sizes_ok w h1 h5 s hf, found_matrix_ok w h5 s hf]
  rw [det_of_ok hB n 8 h5 (by omega) q, lap_leib h5 (mt_fit q)]
end Sg

-- SgA4
/-! SgA4: terms, the naive determinant, fractions, answers. -/
namespace Sg
open T M
/-- a loop that pushes at some turns -/
theorem push_if {α β : Type} {f : α → List β → T (List β)} {p : α → Bool} {g : α → β} : ∀ {xs : List α} {s0 : List β}, s0.length + xs.length ≤ 1000000 → (∀ x ∈ xs, ∀ s : List β, s.length < 1000000 → f x s = ok (if p x = true then s ++ [g x] else s)) → forT f xs s0 = ok (s0 ++ (xs.filter p).map g)
  | [], s0, _, _ => by simp [forT]
  | x :: xs, s0, hl, h => by
    simp only [List.length_cons] at hl
    show (f x s0).bind _ = _
    rw [h x (by simp) s0 (by omega), ok_bind]
    have ih : ∀ s : List β, s.length + xs.length ≤ 1000000 → forT f xs s = ok (s ++ (xs.filter p).map g) := fun s hs => push_if hs fun y hy => h y (by simp [hy])
    cases e : p x
    · simp only [Bool.false_eq_true, if_false, List.filter_cons, e]
      exact ih s0 (by omega)
    · simp only [if_true, List.filter_cons, e, List.map_cons]
      rw [ih _ (by simp only [List.length_append, List.length_cons, List.length_nil]; omega), List.append_assoc]; rfl
def T.get {α : Type} (d : α) : T α → α
  | ok a => a
  | _ => d
/-- all orders, as the program has them -/
def aoI (n : Nat) : List (List Int) := (t_all_orders (n : Int)).get []
theorem all_orders_ok {n : Nat} (h : n ≤ 5) : t_all_orders (n : Int) = ok (aoI n) :=
  to5 (P := fun n => t_all_orders (n : Int) = ok (aoI n)) (T.of_eqOk (by decide +kernel)) (T.of_eqOk (by decide +kernel)) (T.of_eqOk (by decide +kernel)) (T.of_eqOk (by decide +kernel)) (T.of_eqOk (by decide +kernel)) (T.of_eqOk (by decide +kernel)) h
def unI (o : List Int) : Bool := (t_is_uneven o).get false
def aoFine (n : Nat) : Bool := ((aoI n).all fun o => (t_is_uneven o).eqOk (unI o) && decide (o.length = n) && o.all fun j => decide (0 ≤ j) && decide (j < n)) && ((aoI n).map fun o => (o.map Int.toNat, unI o)).isPerm (ords n) && decide ((aoI n).length ≤ 120)
theorem ao_fine {n : Nat} (h : n ≤ 5) : aoFine n = true := to5 (P := fun n => aoFine n = true) (by decide +kernel) (by decide +kernel) (by decide +kernel) (by decide +kernel) (by decide +kernel) (by decide +kernel) h
theorem ao_perm {n : Nat} (h : n ≤ 5) : ((aoI n).map fun o => (o.map Int.toNat, unI o)).Perm (ords n) := by
  have := ao_fine h
  unfold aoFine at this
  simp only [Bool.and_eq_true] at this
  exact List.isPerm_iff.mp this.1.2
theorem ao_len {n : Nat} (h : n ≤ 5) : (aoI n).length ≤ 120 := by
  have := ao_fine h
  unfold aoFine at this
  simp only [Bool.and_eq_true] at this
  exact of_decide_eq_true this.2
theorem ao_each {n : Nat} (h : n ≤ 5) {o : List Int} (ho : o ∈ aoI n) : t_is_uneven o = ok (unI o) ∧ ∃ l : List Nat, o = l.map (fun (i : Nat) => (i : Int)) ∧ l.length = n ∧ ∀ j ∈ l, j < n := by
  have := ao_fine h
  unfold aoFine at this
  simp only [Bool.and_eq_true] at this
  have := List.all_eq_true.mp this.1.1 o ho
  simp only [Bool.and_eq_true, decide_eq_true_eq] at this
  obtain ⟨⟨a, b⟩, c⟩ := this
  refine ⟨T.of_eqOk a, o.map Int.toNat, ?_, by simpa using b, fun j hj => ?_⟩
  · rw [List.map_map]
    have : ∀ x ∈ o, ((fun (i : Nat) => (i : Int)) ∘ Int.toNat) x = x := fun x hx => by
      have := List.all_eq_true.mp c x hx
      simp only [Bool.and_eq_true, decide_eq_true_eq] at this
      show ((x.toNat : Nat) : Int) = x
      omega
    exact ((List.map_congr_left (g := fun x => x) this).trans (List.map_id' o)).symm
  · obtain ⟨x, hx, rfl⟩ := List.mem_map.mp hj
    have := List.all_eq_true.mp c x hx
    simp only [Bool.and_eq_true, decide_eq_true_eq] at this
    omega
/-! terms -/
def sgnsI (rows : List (List Char)) (o : List Int) : List Char := (enumI o).map fun p => (rows[p.1.toNat]?.getD [])[p.2.toNat]?.getD '0'
def tsgn (rows : List (List Char)) (o : List Int) : Char := if (!decide (unI o = decide (cntI (sgnsI rows o) '-' % 2 = 1))) = true then '-' else '+'
def termsL (n : Nat) (rows : List (List Char)) : List (List Int × Char) := ((aoI n).filter fun o => !decide ('0' ∈ sgnsI rows o)).map fun o => (o, tsgn rows o)
theorem cnt_nat {α : Type} [DecidableEq α] (xs : List α) (x : α) : ∃ c : Nat, cntI xs x = (c : Int) := ⟨_, rfl⟩
theorem modI {i : Int} (h : 0 ≤ i) : modT i 2 = ok (i % 2) := by
  unfold modT
  rw [if_pos (by decide), Int.fmod_eq_emod_of_nonneg _ (by decide)]
theorem found_terms_ok {n : Nat} {rows : List (List Char)} (w : Web n rows) (hn : n ≤ 5) : t_found_terms rows = ok (termsL n rows) := by
  unfold t_found_terms
  simp only [ok_bind, lenT, w.1, all_orders_ok hn, bind_okT]
  rw [push_if (p := fun o => !decide ('0' ∈ sgnsI rows o)) (g := fun o => (o, tsgn rows o)) (by have := ao_len hn; simp; omega) fun o ho s hs => ?_]
  · rfl
  · obtain ⟨hu, l, rfl, hl, hj⟩ := ao_each hn ho
    rw [mapT_eq (g := fun p : Int × Int => (rows[p.1.toNat]?.getD [])[p.2.toNat]?.getD '0') fun p hp => ?_]
    · simp only [ok_bind]
      rw [show (enumI (l.map fun (i : Nat) => (i : Int))).map (fun p : Int × Int => (rows[p.1.toNat]?.getD [])[p.2.toNat]?.getD '0') = sgnsI rows (l.map fun (i : Nat) => (i : Int)) from rfl]
      cases e : (!decide ('0' ∈ sgnsI rows (l.map fun (i : Nat) => (i : Int))))
      · simp
      · obtain ⟨c, hc⟩ := cnt_nat (sgnsI rows (l.map fun (i : Nat) => (i : Int))) '-'
        simp only [if_true, hu, ok_bind]
        rw [modI (by rw [hc]; omega)]
        simp only [ok_bind]
        rw [show (if (!decide (unI (l.map fun (i : Nat) => (i : Int)) = decide (cntI (sgnsI rows (l.map fun (i : Nat) => (i : Int))) '-' % 2 = 1))) = true then (ok '-' : T Char) else ok '+') = ok (tsgn rows (l.map fun (i : Nat) => (i : Int))) from by unfold tsgn; split <;> rfl]
        simp only [ok_bind]
        rw [pushT_ok hs]
    · rw [enum_eq 0] at hp
      obtain ⟨i, hi, rfl⟩ := List.mem_map.mp hp
      rw [List.mem_range, List.length_map] at hi
      have hir : i < rows.length := by rw [w.1]; omega
      have hR := w.2 rows[i] (List.getElem_mem hir)
      have e1 : (l.map fun (i : Nat) => (i : Int))[i]?.getD 0 = (l[i] : Int) := by simp [hi]
      have hlj : l[i] < rows[i].length := by rw [hR.1]; exact hj _ (List.getElem_mem hi)
      rw [e1, atT_nat hir, ok_bind, atS_nat hlj (by rw [hR.1, lim_eq]; omega)]
      simp [hir, hlj]
theorem terms_ok {n : Nat} {rows : List (List Char)} (w : Web n rows) (h1 : 1 ≤ n) (hn : n ≤ 5) : t_terms rows = ok (termsL n rows) := by
  unfold t_terms
  simp only [ok_bind, check_web_ok w h1 hn, found_terms_ok w hn, bind_okT]
/-! greatest common divisors -/
theorem fmod_nn (a b : Nat) : ((a : Int)).fmod (b : Int) = ((a % b : Nat) : Int) := by
  rw [Int.fmod_eq_emod_of_nonneg _ (by omega)]
  omega
theorem mod_half {a b : Nat} (hb : b ≠ 0) (hr : a % b ≠ 0) : 2 * (b % (a % b)) < b := by
  have h1 := Nat.mod_lt a (show b > 0 by omega)
  have h2 := Nat.mod_lt b (show a % b > 0 by omega)
  have h3 := Nat.div_add_mod b (a % b)
  have h4 : 1 ≤ b / (a % b) := (Nat.le_div_iff_mul_le (by omega)).mpr (by omega)
  have h5 : a % b ≤ a % b * (b / (a % b)) := Nat.le_mul_of_pos_right _ h4
  omega
def gcdC (s : Int × Int) : T Bool := ok (!decide (s.2 = 0))
def gcdF (s : Int × Int) : T (Int × Int) := (modT s.1 s.2).bind fun x => ok (s.2, x)
theorem gcdF_ok (a b : Nat) (hb : b ≠ 0) : gcdF ((a : Int), (b : Int)) = ok ((b : Int), ((a % b : Nat) : Int)) := by
  unfold gcdF modT
  rw [if_pos (by show (b : Int) ≠ 0; omega), fmod_nn]; rfl
theorem gcdC_ok (a b : Nat) : gcdC ((a : Int), (b : Int)) = ok (!decide (b = 0)) := by
  unfold gcdC
  congr 2
  simp
theorem gcd_loop : ∀ (k f a b : Nat), b < 2 ^ k → 2 * k + 1 ≤ f → whlT gcdC gcdF f ((a : Int), (b : Int)) = ok ((Nat.gcd a b : Int), 0)
  | 0, f + 1, a, b, hb, _ => by
    have : b = 0 := by omega
    subst this
    show (gcdC _).bind _ = _
    rw [gcdC_ok]
    simp
  | k + 1, f, a, b, hb, hf => by
    obtain ⟨f, rfl⟩ : ∃ g, f = g + 3 := ⟨f - 3, by omega⟩
    show (gcdC _).bind _ = _
    rw [gcdC_ok]
    by_cases h0 : b = 0
    · subst h0; simp
    · simp only [h0, decide_false, Bool.not_false, ok_bind, if_true]
      rw [gcdF_ok a b h0, ok_bind]
      show (gcdC _).bind _ = _
      rw [gcdC_ok]
      by_cases h1 : a % b = 0
      · rw [h1]
        simp only [decide_true, Bool.not_true, ok_bind, Bool.false_eq_true, if_false]
        rw [Nat.gcd_comm, Nat.gcd_rec b a, h1, Nat.gcd_zero_left]; rfl
      · simp only [h1, decide_false, Bool.not_false, ok_bind, if_true]
        rw [gcdF_ok b (a % b) h1, ok_bind]
        have hh := mod_half h0 h1
        rw [gcd_loop k (f + 1) (a % b) (b % (a % b)) (by rw [Nat.pow_succ] at hb; omega) (by omega)]
        congr 3
        rw [Nat.gcd_comm a b, Nat.gcd_rec b a, Nat.gcd_comm (a % b) (b % (a % b)), ← Nat.gcd_rec]
theorem abs_eq (i : Int) : (if i < 0 then -i else i) = (i.natAbs : Int) := by
  split <;> omega
theorem divisor_ok {t b : Int} (hb : b.natAbs < 2 ^ 4000) : t_divisor_of t b = ok ((Nat.gcd t.natAbs b.natAbs : Nat) : Int) := by
  unfold t_divisor_of
  simp only [ok_bind, abs_eq]
  have := gcd_loop 4000 1000000 t.natAbs b.natAbs hb (by omega)
  show (whlT gcdC gcdF 1000000 ((t.natAbs : Int), (b.natAbs : Int))).bind _ = _
  rw [this]; rfl
/-- a fraction in lowest terms -/
def byI (t b : Int) : Int := if 0 < b then ((Nat.gcd t.natAbs b.natAbs : Nat) : Int) else -((Nat.gcd t.natAbs b.natAbs : Nat) : Int)
def frI (t b : Int) : Int × Int := (t.fdiv (byI t b), b.fdiv (byI t b))
theorem by_ne {t b : Int} (hb : b ≠ 0) : byI t b ≠ 0 := by
  have : 0 < Nat.gcd t.natAbs b.natAbs := Nat.gcd_pos_of_pos_right _ (by omega)
  unfold byI
  split <;> omega
theorem by_abs (t b : Int) : (byI t b).natAbs = Nat.gcd t.natAbs b.natAbs := by
  unfold byI
  split <;> omega
theorem fr_top (t b : Int) : (frI t b).1 * byI t b = t := by
  refine Int.fdiv_mul_cancel ?_
  rw [← Int.natAbs_dvd_natAbs, by_abs]
  exact Nat.gcd_dvd_left _ _
theorem fr_bot (t b : Int) : (frI t b).2 * byI t b = b := by
  refine Int.fdiv_mul_cancel ?_
  rw [← Int.natAbs_dvd_natAbs, by_abs]
  exact Nat.gcd_dvd_right _ _
theorem fr_cross {t b : Int} (hb : b ≠ 0) : b * (frI t b).1 = t * (frI t b).2 := by
  have h1 := fr_top t b
  have h2 := fr_bot t b
  refine Int.eq_of_mul_eq_mul_right (by_ne (t := t) hb) ?_
  rw [Int.mul_assoc, h1, Int.mul_assoc, h2, Int.mul_comm]
theorem fraction_ok {t b : Int} (h : b.natAbs < 2 ^ 4000) (hb : b ≠ 0) : t_fraction t b = ok (frI t b) := by
  unfold t_fraction
  simp only [ok_bind, divisor_ok h]
  have e : (if decide (0 < b) = true then (ok ((Nat.gcd t.natAbs b.natAbs : Nat) : Int) : T Int) else ok (-((Nat.gcd t.natAbs b.natAbs : Nat) : Int))) = ok (byI t b) := by
    unfold byI
    by_cases k : 0 < b <;> simp [k]
  rw [e]
  have hn := by_ne (t := t) hb
  have hl : bnd (byI t b) = true := nbnd (by
    rw [by_abs]
    exact Nat.lt_of_le_of_lt (Nat.gcd_le_right _ (by omega)) (lt8000 h))
  have f1 : ∀ x : Int, fdivT x (byI t b) = ok (x.fdiv (byI t b)) := fun x => if_pos ⟨hn, hl⟩
  simp only [ok_bind, f1]
  rfl
end Sg

-- SgA5
/-! SgA5: the naive determinant; answers. -/
namespace Sg
open T M
/-! ### products of signs and sizes -/
theorem goP_mul (S Z : Mx Int) : ∀ (l : List Nat) (k : Nat) (a b : Int), goP ZZ (fun i j => S i j * Z i j) k l (a * b) = goP ZZ S k l a * goP ZZ Z k l b
  | [], _, _, _ => rfl
  | j :: l, k, a, b => by
    show goP ZZ _ (k + 1) l (a * b * (S k j * Z k j)) = goP ZZ S (k + 1) l (a * S k j) * goP ZZ Z (k + 1) l (b * Z k j)
    rw [show a * b * (S k j * Z k j) = a * S k j * (b * Z k j) by simp only [Int.mul_assoc, Int.mul_left_comm], goP_mul S Z l]
theorem goP_scale (Z : Mx Int) (c : Int) : ∀ (l : List Nat) (k : Nat) (b : Int), goP ZZ Z k l (c * b) = c * goP ZZ Z k l b
  | [], _, _ => rfl
  | j :: l, k, b => by
    show goP ZZ Z (k + 1) l (c * b * Z k j) = c * goP ZZ Z (k + 1) l (b * Z k j)
    rw [Int.mul_assoc, goP_scale Z c l]
theorem goP_congr {S Z : Mx Int} : ∀ (l : List Nat) (k : Nat) (a : Int), (∀ i (h : i < l.length), S (k + i) l[i] = Z (k + i) l[i]) → goP ZZ S k l a = goP ZZ Z k l a
  | [], _, _, _ => rfl
  | j :: l, k, a, h => by
    show goP ZZ S (k + 1) l (a * S k j) = goP ZZ Z (k + 1) l (a * Z k j)
    have h0 := h 0 (by simp)
    simp only [Nat.add_zero, List.getElem_cons_zero] at h0
    rw [h0]
    exact goP_congr l (k + 1) _ fun i hi => by
      have := h (i + 1) (by simpa using hi)
      simp only [List.getElem_cons_succ] at this
      rw [show k + 1 + i = k + (i + 1) by omega]; exact this
def sgC (rows : List (List Char)) (i j : Nat) : Char := (rows[i]?.getD [])[j]?.getD '0'
def sgl (rows : List (List Char)) : Nat → List Nat → List Char
  | _, [] => []
  | k, j :: l => sgC rows k j :: sgl rows (k + 1) l
theorem sgns_sgl (rows : List (List Char)) (l : List Nat) : sgnsI rows (l.map fun (i : Nat) => (i : Int)) = sgl rows 0 l := by
  have : ∀ (l : List Nat) (k : Nat), ((l.map fun (i : Nat) => (i : Int)).zipIdx k).map (fun p => sgC rows p.2 p.1.toNat) = sgl rows k l := by
    intro l
    induction l with
    | nil => intro k; rfl
    | cons j l ih =>
      intro k
      simp only [List.map_cons, List.zipIdx_cons, sgl, Int.toNat_natCast, ih (k + 1)]
  rw [← this l 0]
  unfold sgnsI enumI
  rw [List.map_map]
  refine List.map_congr_left fun p _ => ?_
  show (rows[((p.2 : Int)).toNat]?.getD [])[p.1.toNat]?.getD '0' = _
  rw [Int.toNat_natCast]; rfl
/-- the sign of a row of signs -/
def sprod : List Char → Int
  | [] => 1
  | c :: r => fac c * sprod r
theorem goS (rows : List (List Char)) : ∀ (l : List Nat) (k : Nat) (a : Int), goP ZZ (fun i j => fac (sgC rows i j)) k l a = a * sprod (sgl rows k l)
  | [], _, a => by show a = a * 1; omega
  | j :: l, k, a => by
    show goP ZZ _ (k + 1) l (a * fac (sgC rows k j)) = a * (fac (sgC rows k j) * sprod (sgl rows (k + 1) l))
    rw [goS rows l, Int.mul_assoc]
theorem sprod_eq : ∀ {ss : List Char}, (∀ c ∈ ss, c ∈ ['+', '-', '0']) → sprod ss = if '0' ∈ ss then 0 else if cntI ss '-' % 2 = 1 then -1 else 1
  | [], _ => rfl
  | c :: r, h => by
    have ih := sprod_eq (ss := r) fun x hx => h x (by simp [hx])
    have hc := h c (by simp)
    simp only [List.mem_cons, List.not_mem_nil, or_false] at hc
    have cc : ∀ x : Char, cntI (x :: r) '-' = cntI r '-' + if x = '-' then 1 else 0 := fun x => by
      unfold cntI
      rw [List.countP_cons]
      by_cases e : x = '-' <;> simp [e]
    obtain ⟨n, hn⟩ := cnt_nat r '-'
    show fac c * sprod r = _
    rw [ih, cc c, hn]
    rcases hc with rfl | rfl | rfl
    · have : fac '+' = 1 := rfl
      rw [this, Int.one_mul]
      simp
    · have : fac '-' = -1 := rfl
      rw [this]
      by_cases h0 : '0' ∈ r
      · simp [h0]
      · simp only [h0, if_false, List.mem_cons, show ('0' = '-') = False by simp, or_self, if_true]
        by_cases h1 : (n : Int) % 2 = 1
        · rw [if_pos h1, if_neg (by omega)]; rfl
        · rw [if_neg h1, if_pos (by omega)]; rfl
    · have : fac '0' = 0 := rfl
      rw [this, Int.zero_mul]
      simp
theorem fac0 : fac '0' = 0 := rfl
theorem mt_matOf {far n : Nat} {rows : List (List Char)} {sz : List (List Int)} (w : Web n rows) (s : Sz far rows sz) {i j : Nat} (hi : i < n) (hj : j < n) : Mt (matOf rows sz) i j = fac (sgC rows i j) * Mt sz i j := by
  have hir : i < rows.length := by rw [w.1]; exact hi
  have his : i < sz.length := by rw [s.1]; exact hir
  have hrl := (w.2 _ (List.getElem_mem hir)).1
  have hsl := (s.2 i hir his).1
  have q := mat_sq w s
  have hm : i < (matOf rows sz).length := by rw [q.len]; exact hi
  have hm2 : j < (matOf rows sz)[i].length := by rw [q.row _ (List.getElem_mem hm)]; exact hj
  have hjr : j < rows[i].length := by omega
  have hjs : j < sz[i].length := by omega
  rw [mt_at hm hm2, mt_at his hjs]
  have e1 : sgC rows i j = rows[i][j] := by unfold sgC; simp [hir, hjr]
  rw [e1]
  simp only [matOf, List.getElem_map, List.getElem_zip]
theorem tsgn_term {n : Nat} {rows : List (List Char)} (w : Web n rows) {l : List Nat} (hl : l.length = n) (hj : ∀ j ∈ l, j < n) (o : List Int) (ho : o = l.map fun (i : Nat) => (i : Int)) :
    goP ZZ (fun i j => fac (sgC rows i j)) 0 l (oneG (unI o)) = if '0' ∈ sgnsI rows o then 0 else if tsgn rows o = '+' then 1 else -1 := by
  have hc : ∀ c ∈ sgl rows 0 l, c ∈ ['+', '-', '0'] := by
    have : ∀ (l : List Nat) (k : Nat), k + l.length ≤ n → (∀ j ∈ l, j < n) → ∀ c ∈ sgl rows k l, c ∈ ['+', '-', '0'] := by
      intro l
      induction l with
      | nil => intro k _ _ c hc; cases hc
      | cons j l ih =>
        intro k hk hj c hc
        rw [List.length_cons] at hk
        rcases List.mem_cons.mp hc with e | hc
        · have hkr : k < rows.length := by rw [w.1]; omega
          have hR := w.2 _ (List.getElem_mem hkr)
          have hjl : j < rows[k].length := by rw [hR.1]; exact hj j (by simp)
          have : sgC rows k j = rows[k][j] := by unfold sgC; simp [hkr, hjl]
          rw [e, this]
          exact hR.2 _ (List.getElem_mem hjl)
        · exact ih (k + 1) (by omega) (fun i hi => hj i (by simp [hi])) c hc
    exact this l 0 (by omega) hj
  rw [goS, sprod_eq hc]
  have e := sgns_sgl rows l
  rw [← ho] at e
  rw [← e]
  by_cases h0 : '0' ∈ sgnsI rows o
  · simp [h0]
  · simp only [h0, if_false]
    unfold tsgn oneG
    cases unI o <;> by_cases h1 : cntI (sgnsI rows o) '-' % 2 = 1 <;> simp [h1]
theorem foldl_filter (f : List Int → Int) (p : List Int → Bool) : ∀ (l : List (List Int)) (a : Int), (∀ o ∈ l, p o = false → f o = 0) → (l.filter p).foldl (fun a o => a + f o) a = l.foldl (fun a o => a + f o) a
  | [], _, _ => rfl
  | o :: l, a, h => by
    rw [List.filter_cons]
    have ih : ∀ b : Int, (l.filter p).foldl (fun a o => a + f o) b = l.foldl (fun a o => a + f o) b := fun b => foldl_filter f p l b fun x hx => h x (by simp [hx])
    cases e : p o
    · simp only [Bool.false_eq_true, if_false, List.foldl_cons]
      rw [h o (by simp) e, Int.add_zero, ih]
    · simp only [if_true, List.foldl_cons]
      exact ih _
theorem foldl_perm {α : Type} (f : α → Int) {l k : List α} (h : l.Perm k) : ∀ a : Int, l.foldl (fun a o => a + f o) a = k.foldl (fun a o => a + f o) a := by
  induction h with
  | nil => exact fun a => rfl
  | cons x _ ih => exact fun a => ih _
  | swap x y l => intro a; simp only [List.foldl_cons]; rw [show a + f y + f x = a + f x + f y by omega]
  | trans _ _ ih1 ih2 => exact fun a => (ih1 a).trans (ih2 a)
/-- the sum over the program's orders is the determinant -/
theorem ao_sum {n : Nat} (hn : n ≤ 5) (N : Mx Int) : (aoI n).foldl (fun a o => a + goP ZZ N 0 (o.map Int.toNat) (oneG (unI o))) 0 = leibG ZZ n N := by
  have h1 := foldl_perm (fun q : List Nat × Bool => termG ZZ N q) (ao_perm hn) 0
  rw [List.foldl_map] at h1
  unfold leibG sumG
  rw [List.foldl_map]
  exact h1
theorem goP_bd1 {N : Mx Int} {B : Nat} (h : ∀ i j, (N i j).natAbs ≤ B) (l : List Nat) (k : Nat) {a : Int} (ha : a.natAbs ≤ 1) : (goP ZZ N k l a).natAbs ≤ B ^ l.length :=
  Nat.le_trans (goP_bd h l k a) (by
    have := Nat.mul_le_mul_right (B ^ l.length) ha
    rwa [Nat.one_mul] at this)
theorem sz_bd {far n : Nat} {rows : List (List Char)} {sz : List (List Int)} (w : Web n rows) (s : Sz far rows sz) (i j : Nat) : (Mt sz i j).natAbs ≤ far := by
  unfold Mt
  by_cases his : i < sz.length
  · have hir : i < rows.length := by rw [← s.1]; exact his
    obtain ⟨hle, hs⟩ := s.2 i hir his
    by_cases hj : j < sz[i].length
    · have := hs j (by omega) hj
      simp only [List.getElem?_eq_getElem his, Option.getD_some, List.getElem?_eq_getElem hj]
      split at this <;> omega
    · simp only [List.getElem?_eq_getElem his, Option.getD_some]
      rw [List.getElem?_eq_none (by omega)]; exact Nat.zero_le _
  · rw [show sz[i]? = none from List.getElem?_eq_none (by omega)]; simp
theorem terms_sum {far n : Nat} {rows : List (List Char)} {sz : List (List Int)} (w : Web n rows) (h5 : n ≤ 5) (s : Sz far rows sz) : (termsL n rows).foldl (fun (a : Int) (p : List Int × Char) => a + goP ZZ (Mt sz) 0 (p.1.map Int.toNat) (if p.2 = '+' then 1 else -1)) 0 = leibG ZZ n (Mt (matOf rows sz)) := by
  rw [← ao_sum h5]
  unfold termsL
  rw [List.foldl_map]
  rw [foldl_filter (fun o => goP ZZ (Mt (matOf rows sz)) 0 (o.map Int.toNat) (oneG (unI o))) (fun o => !decide ('0' ∈ sgnsI rows o)) (aoI n) 0 (fun o ho hp => ?_) |>.symm]
  · have cong : ∀ (l : List (List Int)) (a : Int), (∀ o ∈ l, o ∈ aoI n ∧ ¬ '0' ∈ sgnsI rows o) → l.foldl (fun a o => a + goP ZZ (Mt sz) 0 (o.map Int.toNat) (if tsgn rows o = '+' then 1 else -1)) a = l.foldl (fun a o => a + goP ZZ (Mt (matOf rows sz)) 0 (o.map Int.toNat) (oneG (unI o))) a := by
      intro l
      induction l with
      | nil => intro a _; rfl
      | cons o l ih =>
        intro a h
        simp only [List.foldl_cons]
        obtain ⟨ho, h0⟩ := h o (by simp)
        obtain ⟨_, k, e, hl, hj⟩ := ao_each h5 ho
        have ek : o.map Int.toNat = k := by
          rw [e, List.map_map]
          have : (Int.toNat ∘ fun (i : Nat) => (i : Int)) = id := by funext i; exact Int.toNat_natCast i
          rw [this, List.map_id]
        have t := tsgn_term w hl hj o e
        rw [if_neg h0] at t
        have e3 : goP ZZ (Mt (matOf rows sz)) 0 k (oneG (unI o)) = goP ZZ (Mt sz) 0 k (if tsgn rows o = '+' then 1 else -1) := by
          rw [goP_congr (Z := fun i j => fac (sgC rows i j) * Mt sz i j) k 0 _ fun i hi => by
            rw [Nat.zero_add]
            exact mt_matOf w s (by omega) (hj _ (List.getElem_mem hi))]
          have := goP_mul (fun i j => fac (sgC rows i j)) (Mt sz) k 0 (oneG (unI o)) 1
          rw [Int.mul_one, t] at this
          rw [this, ← goP_scale, Int.mul_one]
        rw [ek, e3]
        exact ih _ fun x hx => h x (by simp [hx])
    refine cong _ 0 fun o ho => ?_
    rw [List.mem_filter] at ho
    exact ⟨ho.1, by simpa using ho.2⟩
  · obtain ⟨_, k, e, hl, hj⟩ := ao_each h5 ho
    have h0 : '0' ∈ sgnsI rows o := by simpa using hp
    have t := tsgn_term w hl hj o e
    rw [if_pos h0] at t
    have ek : o.map Int.toNat = k := by
      rw [e, List.map_map]
      have : (Int.toNat ∘ fun (i : Nat) => (i : Int)) = id := by funext i; exact Int.toNat_natCast i
      rw [this, List.map_id]
    rw [ek, goP_congr (Z := fun i j => fac (sgC rows i j) * Mt sz i j) k 0 _ fun i hi => by
      rw [Nat.zero_add]
      exact mt_matOf w s (by omega) (hj _ (List.getElem_mem hi))]
    have := goP_mul (fun i j => fac (sgC rows i j)) (Mt sz) k 0 (oneG (unI o)) 1
    rw [Int.mul_one, t, Int.zero_mul] at this
    exact this
theorem naive_det_ok {far n : Nat} {rows : List (List Char)} {sz : List (List Int)} (w : Web n rows) (h1 : 1 ≤ n) (h5 : n ≤ 5) (s : Sz far rows sz) (hf : far ≤ 10000000) : t_naive_det rows sz = ok (leibG ZZ n (Mt (matOf rows sz))) := by
  have hB : Bok far := Nat.le_trans hf (by decide)
  unfold t_naive_det
  simp only [ok_bind, check_sizes_ok w h1 h5 s hf, terms_ok w h1 h5, bind_okT]
  rw [forT_fold (g := fun (a : Int) (p : List Int × Char) => a + goP ZZ (Mt sz) 0 (p.1.map Int.toNat) (if p.2 = '+' then 1 else -1)) fun p hp a => ?_]
  · congr 1
    exact terms_sum w h5 s
  · unfold termsL at hp
    obtain ⟨o, ho, rfl⟩ := List.mem_map.mp hp
    rw [List.mem_filter] at ho
    obtain ⟨_, l, e, hl, hj⟩ := ao_each h5 ho.1
    have e1 : (if decide (tsgn rows o = '+') = true then ok (1 : Int) else ok (-1)) = ok (if tsgn rows o = '+' then 1 else -1) := by
      by_cases h : tsgn rows o = '+' <;> simp [h]
    simp only [e1, ok_bind]
    have ob : (if tsgn rows o = '+' then (1 : Int) else -1).natAbs ≤ 1 := by split <;> decide
    have ek : o.map Int.toNat = l := by
      rw [e, List.map_map]
      have : (Int.toNat ∘ fun (i : Nat) => (i : Int)) = id := by funext i; exact Int.toNat_natCast i
      rw [this, List.map_id]
    have hen : (enumI o).length = n := by rw [enum_eq 0, e]; simp [hl]
    have := forT_inv (f := fun (a7 : Int × Int) (s6 : Int) => (atT sz a7.1).bind fun a => (atT a a7.2).bind fun b => mulT s6 b) (fun i => goP ZZ (Mt sz) 0 (l.take i) (if tsgn rows o = '+' then 1 else -1)) (xs := enumI o) fun i hi => ?_
    · rw [hen, List.take_zero, List.take_of_length_le (by omega)] at this
      simp only [T.bind_assoc]
      show (forT _ _ (goP ZZ (Mt sz) 0 [] (if tsgn rows o = '+' then 1 else -1))).bind _ = _
      rw [this, ek]; rfl
    · rw [hen] at hi
      have hil : i < l.length := by omega
      have e2 : (enumI o)[i]'(by rw [hen]; exact hi) = ((i : Int), (l[i] : Int)) := by
        unfold enumI
        simp [e, hil]
      have hiz : i < sz.length := by rw [s.1, w.1]; exact hi
      have hlz : l[i] < sz[i].length := by
        rw [(s.2 i (by rw [w.1]; exact hi) hiz).1, (w.2 _ (List.getElem_mem _)).1]
        exact hj _ (List.getElem_mem hil)
      rw [e2, atT_nat hiz, ok_bind, atT_nat hlz, ok_bind, List.take_succ_eq_append_getElem hil, goP_snoc]
      have e4 : 0 + (l.take i).length = i := by rw [List.length_take]; omega
      rw [e4, mt_at hiz hlz]
      refine mulT_ok ?_ ?_
      · refine lt8000 (lt4000 (Nat.lt_of_le_of_lt (goP_bd1 (sz_bd w s) _ _ ob) ?_))
        exact bpow hB (by rw [List.length_take]; omega)
      · rw [← mt_at hiz hlz]
        exact lt8000 (lt4000 (Nat.lt_of_le_of_lt (sz_bd w s _ _) (bok_lt hB)))
end Sg

-- SgA6
/-! SgA6: answers. -/
namespace Sg
open T M
theorem zip_skip {α : Type} : ∀ (A : List α) (k j : Nat), ((A.zipIdx k).filter fun p => !decide (p.2 = k + j)).map (fun p => p.1) = A.eraseIdx j
  | [], _, _ => rfl
  | x :: A, k, 0 => by
    rw [List.zipIdx_cons, List.filter_cons]
    simp only [Nat.add_zero, decide_true, Bool.not_true, Bool.false_eq_true, if_false, List.eraseIdx_zero, List.tail_cons]
    rw [List.filter_eq_self.mpr fun p hp => by
      have := (List.mem_zipIdx hp).1
      simp; omega]
    induction A generalizing k with
    | nil => rfl
    | cons y A ih => rw [List.zipIdx_cons, List.map_cons, ih]
  | x :: A, k, j + 1 => by
    rw [List.zipIdx_cons, List.filter_cons]
    have e : (!decide ((x, k).2 = k + (j + 1))) = true := by simp
    rw [if_pos e, List.map_cons, List.eraseIdx_cons_succ]
    have := zip_skip A (k + 1) j
    rw [show k + 1 + j = k + (j + 1) by omega] at this
    rw [this]
theorem enum_skip {α β : Type} (A : List α) (j : Nat) (f : α → β) : ((enumI A).filter fun p => !decide (p.1 = (j : Int))).map (fun p => f p.2) = (A.eraseIdx j).map f := by
  have h := zip_skip A 0 j
  rw [← h]
  unfold enumI
  rw [List.filter_map, List.map_map, List.map_map]
  have : ((fun p : Int × α => !decide (p.1 = (j : Int))) ∘ fun p : α × Nat => ((p.2 : Int), p.1)) = fun p => !decide (p.2 = 0 + j) := by
    funext p
    show (!decide ((p.2 : Int) = (j : Int))) = !decide (p.2 = 0 + j)
    congr 1
    by_cases e : p.2 = j
    · simp [e]
    · rw [decide_eq_false (by omega), decide_eq_false (by omega)]
  rw [this]; rfl
theorem without_ok {n B i j : Nat} {A : List (List Int)} (hn : n + 1 ≤ 5) (s : Sqm (n + 1) B A) (hi : i ≤ n) (hj : j ≤ n) : t_without A (j : Int) (i : Int) = ok (cut2 A j i) := by
  unfold t_without
  simp only [ok_bind]
  rw [filT_eq (p := fun a1 : Int × List Int => !decide (a1.1 = (j : Int))) (g := fun a1 => a1.2.eraseIdx i) (fun x _ => rfl) fun x hx _ => ?_, enum_skip A j fun r => r.eraseIdx i]
  · rfl
  · have hx2 : x.2.length = n + 1 := by
      rw [enum_eq []] at hx
      obtain ⟨k, hk, rfl⟩ := List.mem_map.mp hx
      rw [List.mem_range] at hk
      simp only [List.getElem?_eq_getElem hk, Option.getD_some]
      exact s.row _ (List.getElem_mem hk)
    simp only [cut_to, cast_succ, cut_from]
    rw [appT_ok (by simp only [List.length_take, List.length_drop]; omega), take_drop_erase]
theorem fit_minor {n i j : Nat} {N : Mx Int} (h : Fit (n + 1) N) (hi : i ≤ n) (hj : j ≤ n) : Fit n (minor N i j) := fun a b hab => by
  unfold minor
  refine h _ _ ?_
  split <;> split <;> omega
theorem leib_bd {n B : Nat} {N : Mx Int} (hB : Bok B) (hn : n ≤ 5) (hf : Fit n N) (hb : ∀ i j, (N i j).natAbs ≤ B) : (leibG ZZ n N).natAbs < 2 ^ 2000 := by
  rw [← lap_leib hn hf]
  exact Nat.lt_of_le_of_lt (lap_bd n (by omega) hb) (pow_ok hB (by omega))
theorem cof_bd {n B i j : Nat} {N : Mx Int} (hB : Bok B) (hn : n + 1 ≤ 5) (hf : Fit (n + 1) N) (hi : i ≤ n) (hj : j ≤ n) (hb : ∀ i j, (N i j).natAbs ≤ B) : (cofG ZZ (n + 1) N i j).natAbs < 2 ^ 2000 := by
  unfold cofG
  rw [sg_abs]
  exact leib_bd (n := n) hB (by omega) (fit_minor hf hi hj) fun a b => hb _ _
def ansL (n : Nat) (A : List (List Int)) : List (List (Int × Int)) := (nats n).map fun i => (nats n).map fun j => frI (-(cofG ZZ n (Mt A) j.toNat i.toNat)) (leibG ZZ n (Mt A))
theorem sg_neg (k : Nat) (x : Int) : (if decide (((k % 2 : Nat) : Int) = 1) = true then ok x else ok (-x)) = ok (-(sgG ZZ k x)) := by
  unfold sgG
  by_cases h : k % 2 = 0
  · rw [h, if_pos rfl, if_neg (by decide)]
  · have : k % 2 = 1 := by omega
    rw [this, if_pos (by decide), if_neg (by decide)]
    show ok x = ok (-(-x))
    rw [Int.neg_neg]
theorem answers_ok {far n : Nat} {rows : List (List Char)} {sz : List (List Int)} (w : Web n rows) (h1 : 1 ≤ n) (h5 : n ≤ 5) (s : Sz far rows sz) (hf : far ≤ 10000000) (hD : leibG ZZ n (Mt (matOf rows sz)) ≠ 0) : t_answers rows sz = ok (ansL n (matOf rows sz)) := by
  have q := mat_sq w s
  have hB : Bok far := Nat.le_trans hf (by decide)
  have hfit := mt_fit q
  have hdet : t_det_of 8 (matOf rows sz) = ok (leibG ZZ n (Mt (matOf rows sz))) := by
    rw [det_of_ok hB n 8 h5 (by omega) q, lap_leib h5 hfit]
  unfold t_answers
  simp only [ok_bind, check_sizes_ok w h1 h5 s hf, found_matrix_ok w h5 s hf, hdet]
  rw [if_neg (by simp [hD])]
  simp only [lenT, q.len, ok_bind, rngT_nat (show n ≤ 1000000 by omega), bind_okT]
  obtain ⟨m, rfl⟩ : ∃ m, n = m + 1 := ⟨n - 1, by omega⟩
  rw [push_loop (g := fun i => (nats (m + 1)).map fun j => frI (-(cofG ZZ (m + 1) (Mt (matOf rows sz)) j.toNat i.toNat)) (leibG ZZ (m + 1) (Mt (matOf rows sz)))) (by simp; omega) fun x hx st hst => ?_]
  · rfl
  obtain ⟨i, hi, rfl⟩ := nats_mem.mp hx
  rw [push_loop (g := fun j => frI (-(cofG ZZ (m + 1) (Mt (matOf rows sz)) j.toNat i)) (leibG ZZ (m + 1) (Mt (matOf rows sz)))) (by simp; omega) fun y hy st2 hst2 => ?_]
  · simp only [ok_bind, List.nil_append]
    rw [pushT_ok hst, Int.toNat_natCast]
  obtain ⟨j, hj, rfl⟩ := nats_mem.mp hy
  rw [without_ok h5 q (by omega) (by omega)]
  simp only [ok_bind]
  rw [det_of_ok hB m 8 (by omega) (by omega) (cut_sq q (by omega) (by omega)), mt_cut, lap_leib (by omega) (fit_minor hfit (by omega) (by omega))]
  simp only [ok_bind]
  rw [show (i : Int) + (j : Int) = ((j + i : Nat) : Int) by omega, mod2]
  simp only [ok_bind]
  rw [sg_neg]
  simp only [ok_bind]
  rw [fraction_ok (lt4000 (leib_bd hB h5 hfit (mt_bd q))) hD]
  simp only [ok_bind]
  rw [pushT_ok hst2, Int.toNat_natCast]; rfl
theorem ans_at {n : Nat} {A : List (List Int)} {i j : Nat} (hi : i < n) (hj : j < n) : (atT (ansL n A) (i : Int)).bind (fun a => atT a (j : Int)) = ok (frI (-(cofG ZZ n (Mt A) j i)) (leibG ZZ n (Mt A))) := by
  rw [atT_nat (by simp [ansL]; exact hi), ok_bind]
  simp only [ansL, List.getElem_map, nats_get]
  rw [atT_nat (by simp; exact hj)]
  simp only [List.getElem_map, nats_get, Int.toNat_natCast]
theorem abs_of_mul {x y z : Int} (h : x * y = z) (hy : y ≠ 0) : x.natAbs ≤ z.natAbs := by
  rw [← h, Int.natAbs_mul]
  exact Nat.le_mul_of_pos_right _ (by omega)
theorem fr_top_bd {t b : Int} (hb : b ≠ 0) : (frI t b).1.natAbs ≤ t.natAbs := abs_of_mul (fr_top t b) (by_ne hb)
theorem fr_bot_bd {t b : Int} (hb : b ≠ 0) : (frI t b).2.natAbs ≤ b.natAbs := abs_of_mul (fr_bot t b) (by_ne hb)
theorem sum_foldl : ∀ (l : List Int) (a : Int), l.foldl (· + ·) a = a + l.sum
  | [], a => by simp
  | x :: l, a => by rw [List.foldl_cons, sum_foldl l, List.sum_cons]; omega
theorem sumG_eq (l : List Int) : sumG ZZ l = l.sum := by
  have := sum_foldl l 0
  rw [Int.zero_add] at this
  exact this
end Sg

-- SgB
/-! SgB: orders sorted, terms by all orders, sums over terms, sizes times a number. -/
namespace Sg
open T M
theorem l_matrix_ok {far n : Nat} {rows : List (List Char)} {sz : List (List Int)} (w : Web n rows) (h5 : n ≤ 5) (s : Sz far rows sz) (hf : far ≤ 10000000) : t_l_matrix rows sz = ok (matOf rows sz) := by
  unfold t_l_matrix
  simp only [ok_bind, bind_okT]
  rw [push_loop (g := fun p : List Char × List Int => (p.1.zip p.2).map fun q => fac q.1 * q.2) (by rw [List.length_zip, w.1]; simp; omega) fun p hp st hst => ?_]
  · rfl
  obtain ⟨i, hi, rfl⟩ := List.getElem_of_mem hp
  rw [List.length_zip] at hi
  have hir : i < rows.length := by omega
  have his : i < sz.length := by omega
  simp only [List.getElem_zip]
  have hR := w.2 rows[i] (List.getElem_mem hir)
  have hrn : rows[i].length = n := hR.1
  obtain ⟨hle, hs⟩ := s.2 i hir his
  rw [lenS_ok (by rw [hR.1]; omega)]
  simp only [ok_bind]
  rw [hR.1, rngT_nat (by omega)]
  simp only [ok_bind]
  rw [mapT_eq (g := fun x : Int => fac (rows[i][x.toNat]?.getD '0') * (sz[i][x.toNat]?.getD 0)) fun x hx => ?_]
  · simp only [ok_bind]
    have e : (nats n).map (fun x : Int => fac (rows[i][x.toNat]?.getD '0') * (sz[i][x.toNat]?.getD 0)) = (rows[i].zip sz[i]).map fun q => fac q.1 * q.2 := by
      refine List.ext_getElem (by simp [hR.1, hle]) fun j h1 h2 => ?_
      simp only [List.getElem_map, nats_get, Int.toNat_natCast, List.getElem_zip]
      have h3 : j < n := by simpa using h1
      rw [List.getElem?_eq_getElem (by omega), List.getElem?_eq_getElem (by omega)]; rfl
    rw [e, pushT_ok hst]
  obtain ⟨j, hj, rfl⟩ := nats_mem.mp hx
  rw [atS_nat (by rw [hR.1]; exact hj) (by rw [hR.1, lim_eq]; omega), atT_nat (by omega)]
  have hjr : j < rows[i].length := by rw [hR.1]; exact hj
  have hc := hR.2 rows[i][j] (List.getElem_mem _)
  simp only [ok_bind, look_fac hc, opt_some, Int.toNat_natCast, List.getElem?_eq_getElem hjr, List.getElem?_eq_getElem (show j < sz[i].length by omega), Option.getD_some]
  refine mulT_ok ?_ ?_
  · unfold fac
    split
    · decide
    · split <;> decide
  · have := hs j hjr (by omega)
    have h6 : (10000000 : Nat) < 2 ^ 8000 := Nat.lt_of_lt_of_le (show 10000000 < 2 ^ 24 by decide) (Nat.pow_le_pow_right (by decide) (by decide))
    by_cases e : rows[i][j] = '0'
    · rw [if_pos e] at this; rw [this]; exact Nat.lt_of_le_of_lt (by decide) h6
    · rw [if_neg e] at this
      exact Nat.lt_of_le_of_lt (show _ ≤ 10000000 by omega) h6
/-! orders, sorted -/
def srtFine (n : Nat) : Bool := decide (sortW (ltP (lexW ltI) ltBo) (ordsI n) = (aoI n).map fun o => (o, unI o))
theorem srt_ords {n : Nat} (h : n ≤ 5) : sortW (ltP (lexW ltI) ltBo) (ordsI n) = (aoI n).map fun o => (o, unI o) :=
  of_decide_eq_true (to5 (P := fun n => srtFine n = true) (by decide +kernel) (by decide +kernel) (by decide +kernel) (by decide +kernel) (by decide +kernel) (by decide +kernel) h)
theorem sgns_at {n : Nat} {rows : List (List Char)} (w : Web n rows) (hn : n ≤ 5) {o : List Int} (ho : o ∈ aoI n) :
    T.mapT (fun x : Int => (atT rows x).bind fun a => (atT o x).bind fun b => atS a b) (nats n) = ok (sgnsI rows o) := by
  obtain ⟨_, l, rfl, hl, hj⟩ := ao_each hn ho
  rw [mapT_eq (g := fun x : Int => (rows[x.toNat]?.getD [])[(l[x.toNat]?.getD 0 : Nat)]?.getD '0') fun x hx => ?_]
  · congr 1
    unfold sgnsI
    rw [enum_eq 0]
    unfold nats
    rw [List.map_map, List.map_map, List.length_map, hl]
    refine List.map_congr_left fun i hi => ?_
    rw [List.mem_range] at hi
    have hil : i < l.length := by omega
    simp [hil]
  · obtain ⟨i, hi, rfl⟩ := nats_mem.mp hx
    have hir : i < rows.length := by rw [w.1]; omega
    have hR := w.2 rows[i] (List.getElem_mem hir)
    have hil : i < l.length := by omega
    have hlj : l[i] < rows[i].length := by rw [hR.1]; exact hj _ (List.getElem_mem hil)
    rw [atT_nat hir, ok_bind, atT_nat (by simpa using hil), ok_bind, List.getElem_map, atS_nat hlj (by rw [hR.1, lim_eq]; omega)]
    simp [hir, hil, hlj]
/-! products along orders -/
theorem go_sizes {far n : Nat} {rows : List (List Char)} {sz : List (List Int)} (w : Web n rows) (hn : n ≤ 5) (s : Sz far rows sz) (hf : far ≤ 10000000) {o : List Int} (ho : o ∈ aoI n) :
    T.forT (fun (x : Int) (p : Int) => (atT sz x).bind fun a => (atT o x).bind fun b => (atT a b).bind fun c => mulT p c) (nats n) 1 = ok (goP ZZ (Mt sz) 0 (o.map Int.toNat) 1) := by
  have hB : Bok far := Nat.le_trans hf (by decide)
  obtain ⟨_, l, e, hl, hj⟩ := ao_each hn ho
  have ek : o.map Int.toNat = l := by
    rw [e, List.map_map]
    have : (Int.toNat ∘ fun (i : Nat) => (i : Int)) = id := by funext i; exact Int.toNat_natCast i
    rw [this, List.map_id]
  have := forT_inv (f := fun (x : Int) (p : Int) => (atT sz x).bind fun a => (atT o x).bind fun b => (atT a b).bind fun c => mulT p c) (fun i => goP ZZ (Mt sz) 0 (l.take i) 1) (xs := nats n) fun i hi => ?_
  · rw [nats_length, List.take_zero, List.take_of_length_le (by omega)] at this
    rw [ek]
    exact this
  · rw [nats_length] at hi
    have hil : i < l.length := by omega
    have hiz : i < sz.length := by rw [s.1, w.1]; exact hi
    have hlz : l[i] < sz[i].length := by
      rw [(s.2 i (by rw [w.1]; exact hi) hiz).1, (w.2 _ (List.getElem_mem _)).1]
      exact hj _ (List.getElem_mem hil)
    have hio : i < o.length := by rw [e]; simpa using hil
    have eo : o[i] = ((l[i] : Nat) : Int) := by simp [e]
    rw [nats_get, atT_nat hiz, ok_bind, atT_nat hio, ok_bind, eo, atT_nat hlz, ok_bind, List.take_succ_eq_append_getElem hil, goP_snoc]
    have e4 : 0 + (l.take i).length = i := by rw [List.length_take]; omega
    rw [e4, mt_at hiz hlz]
    refine mulT_ok ?_ ?_
    · refine lt8000 (lt4000 (Nat.lt_of_le_of_lt (goP_bd1 (sz_bd w s) _ _ (by decide)) ?_))
      exact bpow hB (by rw [List.length_take]; omega)
    · rw [← mt_at hiz hlz]
      exact lt8000 (lt4000 (Nat.lt_of_le_of_lt (sz_bd w s _ _) (bok_lt hB)))
/-! a number times all -/
theorem goP_const (c : Int) : ∀ (l : List Nat) (k : Nat) (a : Int), goP ZZ (fun _ _ => c) k l a = a * c ^ l.length
  | [], k, a => by show a = _; simp
  | j :: l, k, a => by
    show goP ZZ (fun _ _ => c) (k + 1) l (a * c) = _
    rw [goP_const c l, List.length_cons, Int.pow_succ, Int.mul_assoc, Int.mul_comm c]
theorem goP_all (c : Int) (N : Mx Int) (l : List Nat) (k : Nat) (a : Int) : goP ZZ (fun i j => c * N i j) k l a = c ^ l.length * goP ZZ N k l a := by
  have := goP_mul (fun _ _ => c) N l k 1 a
  rw [Int.one_mul, goP_const, Int.one_mul] at this
  exact this
theorem sum_all (c : Int) {α : Type} (f : α → Int) : ∀ l : List α, (l.map fun x => c * f x).sum = c * (l.map f).sum
  | [] => by simp
  | x :: l => by simp only [List.map_cons, List.sum_cons]; rw [sum_all c f l, Int.mul_add]
theorem leib_all {n : Nat} (hn : n ≤ 5) (c : Int) (N : Mx Int) : leibG ZZ n (fun i j => c * N i j) = c ^ n * leibG ZZ n N := by
  unfold leibG
  rw [sumG_eq, sumG_eq, ← sum_all]
  congr 1
  refine List.map_congr_left fun q hq => ?_
  unfold termG
  rw [goP_all, (ords_fine hn hq).1]
def scl (c : Int) (sz : List (List Int)) : List (List Int) := sz.map fun r => r.map fun x => c * x
theorem scl_sz {far n : Nat} {c : Nat} {rows : List (List Char)} {sz : List (List Int)} (hc : 1 ≤ c) (s : Sz far rows sz) : Sz (c * far) rows (scl c sz) := by
  refine ⟨by unfold scl; rw [List.length_map]; exact s.1, fun i h h' => ?_⟩
  have hi : i < sz.length := by unfold scl at h'; simpa using h'
  obtain ⟨h1, h2⟩ := s.2 i h hi
  have e : (scl c sz)[i] = sz[i].map fun x => (c : Int) * x := List.getElem_map _
  refine ⟨by rw [e, List.length_map]; exact h1, fun j k k' => ?_⟩
  have kz : j < sz[i].length := by omega
  have e2 : (scl c sz)[i][j] = (c : Int) * sz[i][j] := by
    have : ∀ (r : List Int) (h : j < r.length), r = sz[i].map (fun x => (c : Int) * x) → r[j] = (c : Int) * sz[i][j] := fun r h q => by subst q; exact List.getElem_map _
    exact this _ _ e
  have := h2 j k kz
  rw [e2]
  by_cases z : rows[i][j] = '0'
  · rw [if_pos z] at this ⊢; rw [this]; simp
  · rw [if_neg z] at this ⊢
    have a1 : (1 : Int) ≤ c := by omega
    refine ⟨?_, ?_⟩
    · have := Int.mul_le_mul a1 this.1 (by decide) (by omega)
      omega
    · have := Int.mul_le_mul_of_nonneg_left this.2 (show (0 : Int) ≤ c by omega)
      rw [Int.natCast_mul]; exact this
theorem mt_scl (c : Int) (sz : List (List Int)) (i j : Nat) : Mt (scl c sz) i j = c * Mt sz i j := by
  unfold Mt scl
  rw [List.getElem?_map]
  cases h : sz[i]? with
  | none => simp
  | some r =>
    simp only [Option.map_some, Option.getD_some, List.getElem?_map]
    cases r[j]? <;> simp
theorem leib_scl {far n c : Nat} {rows : List (List Char)} {sz : List (List Int)} (w : Web n rows) (h5 : n ≤ 5) (hc : 1 ≤ c) (s : Sz far rows sz) : leibG ZZ n (Mt (matOf rows (scl c sz))) = (c : Int) ^ n * leibG ZZ n (Mt (matOf rows sz)) := by
  rw [← leib_all h5]
  congr 1
  funext i j
  by_cases h : i < n ∧ j < n
  · rw [mt_matOf w (scl_sz (n := n) hc s) h.1 h.2, mt_matOf w s h.1 h.2, mt_scl, ← Int.mul_assoc, Int.mul_comm (fac _), Int.mul_assoc]
  · rw [mt_fit (mat_sq w (scl_sz (n := n) hc s)) i j h, mt_fit (mat_sq w s) i j h]; simp
end Sg

-- SgR
/-! SgR: tables of signs, choices that balance. -/
namespace Sg
open T
abbrev sgs : List Char := ['+', '-', '0']
def Tab (m w : Nat) (tb : List (List Char)) : Prop := tb.length = m ∧ ∀ r ∈ tb, Row sgs w r
theorem l_table_wp {m v n : Nat} {P : List (List Char) → Nat → Prop} (hm : m ≤ 6) (hv : v ≤ 6) (hn : n < 2 ^ 59) (h : ∀ tb n', Tab m v tb → n' ≤ n + 36 → P tb n') : (t_l_table (m : Int) (v : Int)).wp n P := by
  have hmv : v * m ≤ 36 := Nat.mul_le_mul hv hm
  unfold t_l_table
  simp only [ok_bind, rngT_nat (show m ≤ 1000000 by omega), bind_okT]
  refine forT_wp (k := v) (fun i (s : List (List Char)) => s.length = i ∧ ∀ r ∈ s, Row sgs v r) (i := 0) (by rw [nats_length]; omega) ⟨rfl, fun r hr => by cases hr⟩ (fun i hi s n hn ⟨h1, h2⟩ => ?_) fun s n' ⟨h1, h2⟩ hn' => ?_
  · rw [nats_length] at hi
    simp only [ok_bind, rngT_nat (show v ≤ 1000000 by omega)]
    rw [T.wp_bind, T.wp_bind]
    refine mapT_wp (R := fun _ (c : Char) => c ∈ sgs) (k := 1) (by rw [nats_length]; omega) (fun x _ n hn => ?_) fun ys n' hyl hR hn' => ?_
    · rw [chkT_ok (by simp)]
      simp only [ok_bind]
      refine pick_wpT (by simp) (by simp) (by omega) fun a ha => ⟨?_, Nat.le_refl _⟩
      simp only [List.mem_cons, List.not_mem_nil, or_false] at ha ⊢
      rcases ha with h | h | h | h | h <;> simp [h]
    · rw [nats_length] at hyl hn'
      rw [joinC_ok (by rw [hyl]; omega), wp_ok, pushT_ok (by omega), wp_ok]
      refine ⟨⟨by simp; omega, fun r hr => ?_⟩, by omega⟩
      rcases List.mem_append.mp hr with hr | hr
      · exact h2 r hr
      · rw [List.mem_singleton.mp hr]
        refine ⟨hyl, fun c hc => ?_⟩
        obtain ⟨j, hj, rfl⟩ := List.getElem_of_mem hc
        exact hR j (by rw [nats_length]; omega) hj
  · rw [nats_length, Nat.zero_add] at h1
    rw [nats_length] at hn'
    exact h s n' ⟨h1, h2⟩ (by omega)
theorem is_table_ok {m w : Nat} {tb : List (List Char)} (t : Tab m w tb) (h1 : 1 ≤ m) (h4 : m ≤ 4) (g1 : 1 ≤ w) (g6 : w ≤ 6) : t_is_table tb = ok true := by
  have hl := t.1
  have h0 : 0 < tb.length := by omega
  have hr0 := (t.2 _ (List.getElem_mem h0)).1
  unfold t_is_table
  simp only [ok_bind, lenT, hl]
  have c1 : decide ((1 : Int) ≤ (m : Int)) = true := decide_eq_true (by omega)
  have c2 : decide ((m : Int) ≤ 4) = true := decide_eq_true (by omega)
  simp only [c1, c2, if_true, ok_bind, Bool.not_true, Bool.false_eq_true, if_false, beq_self_eq_true]
  rw [mapT_eq (g := fun _ => true) fun r hr => ?_]
  · simp only [ok_bind]
    rw [all_true fun x _ => rfl]
    simp only [Bool.not_true, Bool.false_eq_true, if_false]
    have hat : atT tb 0 = ok tb[0] := atT_nat (i := 0) h0
    rw [mapT_eq (g := fun _ => true) fun r hr => ?_]
    · simp only [ok_bind]
      rw [all_true fun x _ => rfl, if_pos rfl]
      rw [catT_eq (g := fun r : List Char => r.map fun _ => true) fun r hr => ?_]
      · simp only [ok_bind]
        have hlen : (tb.map fun r => r.map fun _ => true).flatten.length ≤ 1000000 := by
          have : ∀ l : List (List Char), (∀ r ∈ l, r.length = w) → (l.map fun r => r.map fun _ => true).flatten.length = l.length * w := by
            intro l
            induction l with
            | nil => intro _; simp
            | cons x r ih =>
              intro h
              rw [List.map_cons, List.flatten_cons, List.length_append, ih fun y hy => h y (by simp [hy]), List.length_map, h x (by simp), List.length_cons, Nat.succ_mul, Nat.add_comm]
          rw [this tb fun r hr => (t.2 r hr).1, hl]
          have : m * w ≤ 4 * 6 := Nat.mul_le_mul h4 g6
          omega
        rw [fitT_ok hlen]
        simp only [ok_bind]
        congr 1
        rw [List.all_eq_true]
        intro x hx
        obtain ⟨l, hl2, hx⟩ := List.mem_flatten.mp hx
        obtain ⟨r, _, rfl⟩ := List.mem_map.mp hl2
        obtain ⟨_, _, rfl⟩ := List.mem_map.mp hx
        rfl
      · have hR := t.2 r hr
        rw [chkT_ok (by rw [hR.1]; omega)]
        simp only [ok_bind]
        exact mapT_eq fun c hc => by rw [decide_eq_true (hR.2 c hc)]
    · have hR := t.2 r hr
      rw [lenS_ok (by rw [hR.1]; omega), hat]
      simp only [ok_bind]
      rw [lenS_ok (by rw [hr0]; omega), ok_bind, hr0, hR.1]; simp
  · have hR := t.2 r hr
    rw [lenS_ok (by rw [hR.1]; omega)]
    simp only [ok_bind, hR.1]
    have d1 : decide ((1 : Int) ≤ (w : Int)) = true := decide_eq_true (by omega)
    have d2 : decide ((w : Int) ≤ 6) = true := decide_eq_true (by omega)
    simp [d1, d2]
theorem check_table_ok {m w : Nat} {tb : List (List Char)} (t : Tab m w tb) (h1 : 1 ≤ m) (h4 : m ≤ 4) (g1 : 1 ≤ w) (g6 : w ≤ 6) : t_check_table tb = ok () := by
  unfold t_check_table
  simp only [ok_bind, is_table_ok t h1 h4 g1 g6, Bool.not_true, Bool.false_eq_true, if_false]
/-! choices -/
def allCh : Nat → List (List Char)
  | 0 => [[]]
  | k + 1 => ((allCh k).map fun row => sgs.map fun s => row ++ [s]).flatten
def zs (m : Nat) : List Char := List.replicate m '0'
def chF (m : Nat) : List (List Char) := (allCh m).filter fun c => !decide (c = zs m)
theorem to4 {P : Nat → Prop} (h0 : P 0) (h1 : P 1) (h2 : P 2) (h3 : P 3) (h4 : P 4) {n : Nat} (h : n ≤ 4) : P n := by
  match n, h with
  | 0, _ => exact h0
  | 1, _ => exact h1
  | 2, _ => exact h2
  | 3, _ => exact h3
  | 4, _ => exact h4
theorem all_choices_ok {m : Nat} (h : m ≤ 4) : t_all_choices (m : Int) = ok (chF m) :=
  to4 (P := fun m => t_all_choices (m : Int) = ok (chF m)) (of_eqOk (by decide +kernel)) (of_eqOk (by decide +kernel)) (of_eqOk (by decide +kernel)) (of_eqOk (by decide +kernel)) (of_eqOk (by decide +kernel)) h
theorem mem_allCh : ∀ {m : Nat} {c : List Char}, c ∈ allCh m ↔ Row sgs m c
  | 0, c => by
    show c ∈ [[]] ↔ _
    rw [List.mem_singleton]
    exact ⟨fun e => by subst e; exact ⟨rfl, fun _ h => by cases h⟩, fun h => List.eq_nil_of_length_eq_zero h.1⟩
  | k + 1, c => by
    show c ∈ ((allCh k).map fun row => sgs.map fun s => row ++ [s]).flatten ↔ _
    rw [List.mem_flatten]
    constructor
    · rintro ⟨l, hl, hc⟩
      obtain ⟨row, hrow, rfl⟩ := List.mem_map.mp hl
      obtain ⟨s, hs, rfl⟩ := List.mem_map.mp hc
      have := mem_allCh.mp hrow
      refine ⟨by rw [List.length_append, this.1]; rfl, fun x hx => ?_⟩
      rcases List.mem_append.mp hx with hx | hx
      · exact this.2 x hx
      · rw [List.mem_singleton.mp hx]; exact hs
    · rintro ⟨hl, hs⟩
      have hne : c ≠ [] := fun e => by rw [e] at hl; cases hl
      refine ⟨_, List.mem_map.mpr ⟨c.dropLast, mem_allCh.mpr ⟨by rw [List.length_dropLast, hl]; rfl, fun x hx => hs x (List.dropLast_subset c hx)⟩, rfl⟩, List.mem_map.mpr ⟨c.getLast hne, hs _ (List.getLast_mem hne), List.dropLast_concat_getLast hne⟩⟩
def chFine (m : Nat) : Bool := decide ((chF m).Pairwise fun a b => ltS a b = true)
theorem ch_rise {m : Nat} (h : m ≤ 4) : (chF m).Pairwise fun a b => ltS a b = true :=
  of_decide_eq_true (to4 (P := fun m => chFine m = true) (by decide +kernel) (by decide +kernel) (by decide +kernel) (by decide +kernel) (by decide +kernel) h)
theorem mem_chF {m : Nat} {c : List Char} : c ∈ chF m ↔ Row sgs m c ∧ c ≠ zs m := by
  unfold chF
  rw [List.mem_filter, mem_allCh]
  simp
/-! balance -/
def prs (c : List Char) (tb : List (List Char)) (p : Nat) : List Int := (c.zip tb).map fun q => fac q.1 * fac (q.2[p]?.getD '0')
def Bal (w : Nat) (c : List Char) (tb : List (List Char)) : Prop := ∀ p, p < w → ((1 : Int) ∈ prs c tb p ↔ (-1 : Int) ∈ prs c tb p)
def balB (w : Nat) (c : List Char) (tb : List (List Char)) : Bool := (List.range w).all fun p => decide ((1 : Int) ∈ prs c tb p ↔ (-1 : Int) ∈ prs c tb p)
theorem balB_iff {w : Nat} {c : List Char} {tb : List (List Char)} : balB w c tb = true ↔ Bal w c tb := by
  unfold balB Bal
  rw [List.all_eq_true]
  exact ⟨fun h p hp => of_decide_eq_true (h p (List.mem_range.mpr hp)), fun h p hp => decide_eq_true (h p (List.mem_range.mp hp))⟩
theorem cnt0 (xs : List Int) (x : Int) : decide (cntI xs x = 0) = !decide (x ∈ xs) := by
  unfold cntI
  by_cases h : x ∈ xs
  · have : 0 < xs.countP fun y => decide (y = x) := List.countP_pos_iff.mpr ⟨x, h, by simp⟩
    simp only [h, decide_true, Bool.not_true, decide_eq_false_iff_not]; omega
  · have : xs.countP (fun y => decide (y = x)) = 0 := List.countP_eq_zero.mpr fun y hy e => by
      have : y = x := by simpa using e
      exact h (this ▸ hy)
    simp [h, this]
theorem fac_le (x : Char) : (fac x).natAbs ≤ 1 := by
  unfold fac
  split
  · decide
  · split <;> decide
theorem counts_ok {m w p : Nat} {c : List Char} {tb : List (List Char)} (t : Tab m w tb) (hc : Row sgs m c) (hm : m ≤ 4) (hw : w ≤ 6) (hp : p < w) : t_column_counts tb c (p : Int) = ok (cntI (prs c tb p) 1, cntI (prs c tb p) (-1)) := by
  unfold t_column_counts
  rw [show (T.ok c).bind (fun a => (T.ok tb).bind fun b => ((fun s => chkT s.length s) a).bind fun xs => (T.ok b).bind fun ys => T.ok (xs.zip ys)) = ok (c.zip tb) from by
    simp only [ok_bind]; rw [chkT_ok (by rw [hc.1]; omega)]; rfl]
  simp only [ok_bind]
  rw [mapT_eq (g := fun q : Char × List Char => fac q.1 * fac (q.2[p]?.getD '0')) fun q hq => ?_]
  · simp only [ok_bind]; rfl
  · obtain ⟨i, hi, rfl⟩ := List.getElem_of_mem hq
    rw [List.length_zip] at hi
    simp only [List.getElem_zip]
    have hi2 : i < tb.length := by omega
    have hR := t.2 _ (List.getElem_mem hi2)
    have hpl : p < tb[i].length := by rw [hR.1]; exact hp
    rw [atS_nat hpl (by rw [hR.1, lim_eq]; omega)]
    simp only [ok_bind, look_fac (hc.2 _ (List.getElem_mem (show i < c.length by omega))), look_fac (hR.2 _ (List.getElem_mem hpl)), opt_some, List.getElem?_eq_getElem hpl, Option.getD_some]
    have fb : ∀ x : Char, (fac x).natAbs < 2 ^ 8000 := fun x => Nat.lt_of_le_of_lt (fac_le x) (Nat.one_lt_two_pow (by decide))
    exact mulT_ok (fb _) (fb _)
theorem does_balance_ok {m w : Nat} {c : List Char} {tb : List (List Char)} (t : Tab m w tb) (hc : Row sgs m c) (h1 : 1 ≤ m) (hm : m ≤ 4) (hw : w ≤ 6) : t_does_balance tb c = ok (balB w c tb) := by
  have h0 : 0 < tb.length := by rw [t.1]; omega
  have hr0 := (t.2 _ (List.getElem_mem h0)).1
  have hat : atT tb 0 = ok tb[0] := atT_nat (i := 0) h0
  unfold t_does_balance
  simp only [ok_bind, hat]
  rw [lenS_ok (by rw [hr0]; omega)]
  simp only [ok_bind, hr0, rngT_nat (show w ≤ 1000000 by omega)]
  rw [forX_all (p := fun x : Int => decide ((1 : Int) ∈ prs c tb x.toNat ↔ (-1 : Int) ∈ prs c tb x.toNat)) (r := false) fun x hx => ?_]
  · have e : (nats w).all (fun x : Int => decide ((1 : Int) ∈ prs c tb x.toNat ↔ (-1 : Int) ∈ prs c tb x.toNat)) = balB w c tb := by
      unfold nats balB
      rw [List.all_map]; rfl
    rw [e]
    cases balB w c tb <;> simp
  · obtain ⟨p, hp, rfl⟩ := nats_mem.mp hx
    rw [counts_ok t hc hm hw hp]
    simp only [ok_bind, cnt0, Int.toNat_natCast]
    by_cases a : (1 : Int) ∈ prs c tb p <;> by_cases b : (-1 : Int) ∈ prs c tb p <;> simp [a, b]
def fb (m w : Nat) (tb : List (List Char)) : List (List Char) := (chF m).filter fun c => balB w c tb
theorem found_bal_ok {m w : Nat} {tb : List (List Char)} (t : Tab m w tb) (h1 : 1 ≤ m) (hm : m ≤ 4) (hw : w ≤ 6) : t_found_balancing tb = ok (fb m w tb) := by
  unfold t_found_balancing
  simp only [ok_bind, lenT, t.1, all_choices_ok hm, bind_okT]
  rw [filT_eq (p := fun c => balB w c tb) (g := fun c => c) (fun c hc => does_balance_ok t (mem_chF.mp hc).1 h1 hm hw) (fun _ _ _ => rfl)]
  rw [List.map_id']; rfl
theorem mem_fb {m w : Nat} {tb : List (List Char)} {c : List Char} : c ∈ fb m w tb ↔ Row sgs m c ∧ c ≠ zs m ∧ Bal w c tb := by
  unfold fb
  rw [List.mem_filter, mem_chF, balB_iff]
  exact ⟨fun h => ⟨h.1.1, h.1.2, h.2⟩, fun h => ⟨⟨h.1, h.2.1⟩, h.2.2⟩⟩
/-- surely independent -/
def Ind (m w : Nat) (tb : List (List Char)) : Prop := ∀ c, Row sgs m c → Bal w c tb → c = zs m
theorem fb_nil {m w : Nat} {tb : List (List Char)} : fb m w tb = [] ↔ Ind m w tb := by
  rw [List.eq_nil_iff_forall_not_mem]
  constructor
  · intro h c hc hb
    exact Classical.byContradiction fun z => h c (mem_fb.mpr ⟨hc, z, hb⟩)
  · intro h c hc
    obtain ⟨a, b, d⟩ := mem_fb.mp hc
    exact b (h c a d)
theorem indep_ok {m w : Nat} {tb : List (List Char)} (t : Tab m w tb) (h1 : 1 ≤ m) (hm : m ≤ 4) (g1 : 1 ≤ w) (hw : w ≤ 6) : t_surely_independent tb = ok (decide (fb m w tb = [])) := by
  unfold t_surely_independent
  simp only [ok_bind, check_table_ok t h1 hm g1 hw, found_bal_ok t h1 hm hw]
theorem balch_ok {m w : Nat} {tb : List (List Char)} (t : Tab m w tb) (h1 : 1 ≤ m) (hm : m ≤ 4) (g1 : 1 ≤ w) (hw : w ≤ 6) : t_balancing_choices tb = ok (fb m w tb) := by
  unfold t_balancing_choices
  simp only [ok_bind, check_table_ok t h1 hm g1 hw, found_bal_ok t h1 hm hw]
theorem fb_nodup {m w : Nat} {tb : List (List Char)} (hm : m ≤ 4) : (fb m w tb).Nodup := by
  refine ((ch_rise hm).filter _).imp fun {a b} h e => ?_
  subst e
  unfold ltS at h
  exact List.lt_irrefl _ (of_decide_eq_true h)
theorem fb_sort {m w : Nat} {tb : List (List Char)} (hm : m ≤ 4) {l : List (List Char)} (p : (fb m w tb).Perm l) : fb m w tb = sortW ltS l :=
  sortW_uniq ord_S p (fun _ _ => trivial) (((ch_rise hm).filter _).imp fun {a b} h => ord_S.asy b a trivial trivial h)
end Sg

-- SgR2
/-! SgR2: tables in blocks. -/
namespace Sg
open T
theorem zs_len (m : Nat) : (zs m).length = m := List.length_replicate
theorem zs_row (m : Nat) : Row sgs m (zs m) := ⟨zs_len m, fun c hc => by rw [(List.mem_replicate.mp hc).2]; simp⟩
theorem zs_iff {m : Nat} {c : List Char} (h : c.length = m) : c = zs m ↔ ∀ x ∈ c, x = '0' := by
  unfold zs
  rw [List.eq_replicate_iff]
  exact ⟨fun q => q.2, fun q => ⟨h, q⟩⟩
theorem zs_get (m p : Nat) : (zs m)[p]?.getD '0' = '0' := by
  unfold zs
  rw [List.getElem?_replicate]
  split <;> rfl
/-- nothing but 0 -/
def Zl (l : List Int) : Prop := ∀ x ∈ l, x = 0
theorem Zl.no {l : List Int} (h : Zl l) {x : Int} (hx : x ≠ 0) : ¬ x ∈ l := fun z => hx (h x z)
theorem prs_app {c1 c2 : List Char} {t1 t2 : List (List Char)} (h : c1.length = t1.length) (p : Nat) : prs (c1 ++ c2) (t1 ++ t2) p = prs c1 t1 p ++ prs c2 t2 p := by
  unfold prs
  rw [List.zip_append h, List.map_append]
theorem prs_map (f : List Char → List Char) (c : List Char) (t : List (List Char)) (p : Nat) : prs c (t.map f) p = (c.zip t).map fun q => fac q.1 * fac ((f q.2)[p]?.getD '0') := by
  unfold prs
  rw [List.zip_map_right, List.map_map]; rfl
theorem prs_eq {f : List Char → List Char} {c : List Char} {t : List (List Char)} {p p' : Nat} (h : ∀ r ∈ t, (f r)[p]?.getD '0' = r[p']?.getD '0') : prs c (t.map f) p = prs c t p' := by
  rw [prs_map]
  unfold prs
  refine List.map_congr_left fun q hq => ?_
  rw [h q.2 (List.of_mem_zip hq).2]
theorem prs_z {c : List Char} {t : List (List Char)} {p : Nat} (h : ∀ r ∈ t, r[p]?.getD '0' = '0') : Zl (prs c t p) := fun x hx => by
  unfold prs at hx
  obtain ⟨q, hq, rfl⟩ := List.mem_map.mp hx
  rw [h q.2 (List.of_mem_zip hq).2]
  show fac q.1 * 0 = 0
  exact Int.mul_zero _
theorem prs_zs (m : Nat) (t : List (List Char)) (p : Nat) : Zl (prs (zs m) t p) := fun x hx => by
  unfold prs at hx
  obtain ⟨q, hq, rfl⟩ := List.mem_map.mp hx
  rw [(List.mem_replicate.mp (List.of_mem_zip hq).1).2]
  show 0 * _ = 0
  exact Int.zero_mul _
theorem bal_zs (m w : Nat) (t : List (List Char)) : Bal w (zs m) t := fun p hp => by
  have := prs_zs m t p
  exact ⟨fun h => absurd h (this.no (by decide)), fun h => absurd h (this.no (by decide))⟩
/-! two blocks, one below the other -/
section
variable {m1 m2 wl wr : Nat} {A L : List (List Char)} {c1 c2 : List Char}
theorem tri_l (hA : Tab m1 wl A) (h1 : Row sgs m1 c1) {p : Nat} (hp : p < wl) : prs (c1 ++ c2) (A.map (fun r => r ++ zs wr) ++ L) p = prs c1 A p ++ prs c2 L p := by
  rw [prs_app (by rw [List.length_map, h1.1, hA.1]), prs_eq (p' := p) fun r hr => by
    rw [List.getElem?_append_left (by rw [(hA.2 r hr).1]; exact hp)]]
theorem tri_r (hA : Tab m1 wl A) (h1 : Row sgs m1 c1) (p : Nat) : ∃ l, Zl l ∧ prs (c1 ++ c2) (A.map (fun r => r ++ zs wr) ++ L) (wl + p) = l ++ prs c2 (L.map fun r => r.drop wl) p := by
  refine ⟨prs c1 (A.map (fun r => r ++ zs wr)) (wl + p), prs_z fun r hr => ?_, ?_⟩
  · obtain ⟨r, hr2, rfl⟩ := List.mem_map.mp hr
    rw [List.getElem?_append_right (by rw [(hA.2 r hr2).1]; omega), zs_get]
  · rw [prs_app (by rw [List.length_map, h1.1, hA.1]), prs_eq (f := fun r => r.drop wl) (t := L) (p := p) (p' := wl + p) fun r hr => by rw [List.getElem?_drop]]
theorem mem_z1 {l k : List Int} (h : Zl l) : ((1 : Int) ∈ l ++ k ↔ (-1 : Int) ∈ l ++ k) ↔ ((1 : Int) ∈ k ↔ (-1 : Int) ∈ k) := by
  have a := h.no (x := 1) (by decide)
  have b := h.no (x := -1) (by decide)
  simp only [List.mem_append, a, b, false_or]
theorem mem_z2 {l k : List Int} (h : Zl l) : ((1 : Int) ∈ k ++ l ↔ (-1 : Int) ∈ k ++ l) ↔ ((1 : Int) ∈ k ↔ (-1 : Int) ∈ k) := by
  have a := h.no (x := 1) (by decide)
  have b := h.no (x := -1) (by decide)
  simp only [List.mem_append, a, b, or_false]
theorem tri_low (hA : Tab m1 wl A) (h1 : Row sgs m1 c1) (h : Bal (wl + wr) (c1 ++ c2) (A.map (fun r => r ++ zs wr) ++ L)) : Bal wr c2 (L.map fun r => r.drop wl) := fun p hp => by
  obtain ⟨l, hl, e⟩ := tri_r (c1 := c1) (c2 := c2) (L := L) (wr := wr) hA h1 p
  have := h (wl + p) (by omega)
  rw [e] at this
  exact (mem_z1 hl).mp this
theorem tri_up (hA : Tab m1 wl A) (h1 : Row sgs m1 c1) (hz : ∀ p, p < wl → Zl (prs c2 L p)) (h : Bal (wl + wr) (c1 ++ c2) (A.map (fun r => r ++ zs wr) ++ L)) : Bal wl c1 A := fun p hp => by
  have := h p (by omega)
  rw [tri_l hA h1 hp] at this
  exact (mem_z2 (hz p hp)).mp this
theorem tri_of (hA : Tab m1 wl A) (h1 : Row sgs m1 c1) (hz : ∀ p, p < wl → Zl (prs c2 L p)) (hu : Bal wl c1 A) (hl : Bal wr c2 (L.map fun r => r.drop wl)) : Bal (wl + wr) (c1 ++ c2) (A.map (fun r => r ++ zs wr) ++ L) := fun p hp => by
  by_cases q : p < wl
  · rw [tri_l hA h1 q]
    exact (mem_z2 (hz p q)).mpr (hu p q)
  · obtain ⟨k, rfl⟩ : ∃ k, p = wl + k := ⟨p - wl, by omega⟩
    obtain ⟨l, hl', e⟩ := tri_r (c1 := c1) (c2 := c2) (L := L) (wr := wr) hA h1 k
    rw [e]
    exact (mem_z1 hl').mpr (hl k (by omega))
end
/-- a choice for both, in two -/
theorem row_split {m1 m2 : Nat} {c : List Char} (h : Row sgs (m1 + m2) c) : ∃ c1 c2, c = c1 ++ c2 ∧ Row sgs m1 c1 ∧ Row sgs m2 c2 :=
  ⟨c.take m1, c.drop m1, (List.take_append_drop m1 c).symm, ⟨by rw [List.length_take, h.1]; omega, fun x hx => h.2 x (List.mem_of_mem_take hx)⟩, ⟨by rw [List.length_drop, h.1]; omega, fun x hx => h.2 x (List.mem_of_mem_drop hx)⟩⟩
theorem row_app {m1 m2 : Nat} {c1 c2 : List Char} (h1 : Row sgs m1 c1) (h2 : Row sgs m2 c2) : Row sgs (m1 + m2) (c1 ++ c2) :=
  ⟨by rw [List.length_append, h1.1, h2.1], fun x hx => (List.mem_append.mp hx).elim (h1.2 x) (h2.2 x)⟩
theorem zs_app {m1 m2 : Nat} : zs m1 ++ zs m2 = zs (m1 + m2) := List.replicate_append_replicate
theorem zs_split {m1 m2 : Nat} {c1 c2 : List Char} (h1 : c1.length = m1) (h2 : c2.length = m2) : c1 ++ c2 = zs (m1 + m2) ↔ c1 = zs m1 ∧ c2 = zs m2 := by
  rw [zs_iff (by rw [List.length_append, h1, h2]), zs_iff h1, zs_iff h2]
  simp only [List.mem_append]
  exact ⟨fun h => ⟨fun x hx => h x (.inl hx), fun x hx => h x (.inr hx)⟩, fun h x hx => hx.elim (h.1 x) (h.2 x)⟩
section
variable {m1 m2 wl wr : Nat} {A B L : List (List Char)}
/-- the lower block is B, in whatever stands before it -/
theorem tri_ind (hA : Tab m1 wl A) (hB : L.map (fun r => r.drop wl) = B) (iA : Ind m1 wl A) (iB : Ind m2 wr B) : Ind (m1 + m2) (wl + wr) (A.map (fun r => r ++ zs wr) ++ L) := fun c hc hb => by
  obtain ⟨c1, c2, rfl, h1, h2⟩ := row_split hc
  have e2 := iB c2 h2 (hB ▸ tri_low hA h1 hb)
  subst e2
  have e1 := iA c1 h1 (tri_up hA h1 (fun p _ => prs_zs _ _ _) hb)
  subst e1
  exact zs_app
theorem tri_dep (hA : Tab m1 wl A) (h : Ind (m1 + m2) (wl + wr) (A.map (fun r => r ++ zs wr) ++ L)) : Ind m1 wl A := fun c hc hb => by
  have := h (c ++ zs m2) (row_app hc (zs_row m2)) (tri_of hA hc (fun p _ => prs_zs _ _ _) hb (bal_zs _ _ _))
  exact ((zs_split hc.1 (zs_len m2)).mp this).1
/-- both blocks, nothing else -/
theorem both_bal {c1 c2 : List Char} (hA : Tab m1 wl A) (h1 : Row sgs m1 c1) : Bal (wl + wr) (c1 ++ c2) (A.map (fun r => r ++ zs wr) ++ B.map fun r => zs wl ++ r) ↔ Bal wl c1 A ∧ Bal wr c2 B := by
  have hz : ∀ p, p < wl → Zl (prs c2 (B.map fun r => zs wl ++ r) p) := fun p hp => prs_z fun r hr => by
    obtain ⟨r, _, rfl⟩ := List.mem_map.mp hr
    rw [List.getElem?_append_left (by rw [zs_len]; exact hp), zs_get]
  have hB : (B.map fun r => zs wl ++ r).map (fun r => r.drop wl) = B := by
    rw [List.map_map]
    have : (fun r => r.drop wl) ∘ (fun r => zs wl ++ r) = id := by
      funext r
      show (zs wl ++ r).drop wl = r
      have := List.drop_left (l₁ := zs wl) (l₂ := r)
      rwa [zs_len] at this
    rw [this, List.map_id]
  constructor
  · intro h
    have := tri_low hA h1 h
    rw [hB] at this
    exact ⟨tri_up hA h1 hz h, this⟩
  · intro h
    exact tri_of hA h1 hz h.1 (by rw [hB]; exact h.2)
theorem both_ind (hA : Tab m1 wl A) : Ind (m1 + m2) (wl + wr) (A.map (fun r => r ++ zs wr) ++ B.map fun r => zs wl ++ r) ↔ Ind m1 wl A ∧ Ind m2 wr B := by
  constructor
  · intro h
    refine ⟨fun c hc hb => ?_, fun c hc hb => ?_⟩
    · have := h (c ++ zs m2) (row_app hc (zs_row m2)) ((both_bal hA hc).mpr ⟨hb, bal_zs _ _ _⟩)
      exact ((zs_split hc.1 (zs_len m2)).mp this).1
    · have := h (zs m1 ++ c) (row_app (zs_row m1) hc) ((both_bal hA (zs_row m1)).mpr ⟨bal_zs _ _ _, hb⟩)
      exact ((zs_split (zs_len m1) hc.1).mp this).2
  · rintro ⟨iA, iB⟩ c hc hb
    obtain ⟨c1, c2, rfl, h1, h2⟩ := row_split hc
    obtain ⟨b1, b2⟩ := (both_bal hA h1).mp hb
    rw [iA c1 h1 b1, iB c2 h2 b2]
    exact zs_app
end
/-! a row less, a row twice -/
theorem less_ind {m w i : Nat} {tb : List (List Char)} (t : Tab (m + 1) w tb) (hi : i ≤ m) (h : Ind (m + 1) w tb) : Ind m w (tb.take i ++ tb.drop (i + 1)) := fun c hc hb => by
  have hil : i < tb.length := by rw [t.1]; omega
  have e : tb = tb.take i ++ tb[i] :: tb.drop (i + 1) := by rw [← List.drop_eq_getElem_cons hil, List.take_append_drop]
  have lt : (c.take i).length = (tb.take i).length := by rw [List.length_take, List.length_take, hc.1, t.1]; omega
  have ec : c = c.take i ++ c.drop i := (List.take_append_drop i c).symm
  have hb2 : Bal w (c.take i ++ '0' :: c.drop i) tb := fun p hp => by
    have := hb p hp
    rw [ec, prs_app lt] at this
    rw [e, prs_app lt]
    have e2 : prs ('0' :: c.drop i) (tb[i] :: tb.drop (i + 1)) p = 0 :: prs (c.drop i) (tb.drop (i + 1)) p := by
      unfold prs
      rw [List.zip_cons_cons, List.map_cons]
      congr 1
      show 0 * _ = 0
      exact Int.zero_mul _
    rw [e2]
    simp only [List.mem_append, List.mem_cons] at this ⊢
    have a : ¬ (1 : Int) = 0 := by decide
    have b : ¬ (-1 : Int) = 0 := by decide
    simp only [a, b, false_or]
    exact this
  have hl : (c.take i ++ '0' :: c.drop i).length = m + 1 := by
    rw [List.length_append, List.length_cons, List.length_take, List.length_drop, hc.1]; omega
  have := h _ ⟨hl, fun x hx => by
    rcases List.mem_append.mp hx with hx | hx
    · exact hc.2 x (List.mem_of_mem_take hx)
    · rcases List.mem_cons.mp hx with rfl | hx
      · simp
      · exact hc.2 x (List.mem_of_mem_drop hx)⟩ hb2
  rw [zs_iff hl] at this
  rw [zs_iff hc.1]
  intro x hx
  rw [ec] at hx
  rcases List.mem_append.mp hx with hx | hx
  · exact this x (List.mem_append_left _ hx)
  · exact this x (List.mem_append_right _ (List.mem_cons_of_mem _ hx))
theorem twice_split {α : Type} [DecidableEq α] {l : List α} {x : α} (h : 1 < cntI l x) : ∃ a b d, l = a ++ x :: (b ++ x :: d) := by
  unfold cntI at h
  have hx : x ∈ l := by
    have : 0 < l.countP fun y => decide (y = x) := by omega
    obtain ⟨y, hy, e⟩ := List.countP_pos_iff.mp this
    have : y = x := by simpa using e
    exact this ▸ hy
  obtain ⟨s, t, rfl⟩ := List.append_of_mem hx
  rw [List.countP_append, List.countP_cons] at h
  simp only [decide_true, if_true] at h
  by_cases hs : x ∈ s
  · obtain ⟨s1, s2, rfl⟩ := List.append_of_mem hs
    exact ⟨s1, s2, t, by simp⟩
  · have h0 : s.countP (fun y => decide (y = x)) = 0 := List.countP_eq_zero.mpr fun y hy e => by
      have : y = x := by simpa using e
      exact hs (this ▸ hy)
    have : 0 < t.countP fun y => decide (y = x) := by omega
    obtain ⟨y, hy, e⟩ := List.countP_pos_iff.mp this
    have e : y = x := by simpa using e
    subst e
    obtain ⟨t1, t2, rfl⟩ := List.append_of_mem hy
    exact ⟨s, t1, t2, rfl⟩
theorem twice_dep {m w : Nat} {tb : List (List Char)} {r : List Char} (t : Tab m w tb) (h : 1 < cntI tb r) : ¬ Ind m w tb := fun hI => by
  obtain ⟨a, b, d, rfl⟩ := twice_split h
  have hl := t.1
  simp only [List.length_append, List.length_cons] at hl
  have hrow : Row sgs m (zs a.length ++ '+' :: (zs b.length ++ '-' :: zs d.length)) := by
    refine ⟨by simp only [List.length_append, List.length_cons, zs_len]; omega, fun x hx => ?_⟩
    simp only [List.mem_append, List.mem_cons] at hx
    have z : ∀ k, x ∈ zs k → x ∈ sgs := fun k hk => (zs_row k).2 x hk
    rcases hx with hx | rfl | hx | rfl | hx
    · exact z _ hx
    · simp
    · exact z _ hx
    · simp
    · exact z _ hx
  have := hI _ hrow fun p hp => by
    rw [prs_app (zs_len _)]
    have e1 : prs ('+' :: (zs b.length ++ '-' :: zs d.length)) (r :: (b ++ r :: d)) p = fac (r[p]?.getD '0') :: (prs (zs b.length) b p ++ (-fac (r[p]?.getD '0')) :: prs (zs d.length) d p) := by
      have e2 : prs ('-' :: zs d.length) (r :: d) p = (-fac (r[p]?.getD '0')) :: prs (zs d.length) d p := by
        unfold prs
        rw [List.zip_cons_cons, List.map_cons]
        congr 1
        show -1 * fac (r[p]?.getD '0') = _
        rw [Int.neg_mul, Int.one_mul]
      rw [← e2, ← prs_app (zs_len _)]
      unfold prs
      rw [List.zip_cons_cons, List.map_cons]
      congr 1
      show 1 * _ = _
      exact Int.one_mul _
    rw [e1, mem_z1 (prs_zs _ _ _)]
    have z1 := prs_zs b.length b p
    have z2 := prs_zs d.length d p
    simp only [List.mem_cons, List.mem_append, z1.no (x := 1) (by decide), z1.no (x := -1) (by decide), z2.no (x := 1) (by decide), z2.no (x := -1) (by decide), false_or, or_false]
    omega
  rw [zs_iff hrow.1] at this
  have := this '+' (by simp)
  cases this
end Sg

-- SgR3
/-! SgR3: tables with sizes; mixes of rows. -/
namespace Sg
open T
theorem sizes_wpT {far n m w : Nat} {rows : List (List Char)} {P : List (List Int) → Nat → Prop} (hw : Tab m w rows) (hm : m ≤ 5) (hwd : w ≤ 6) (h1 : 1 ≤ far) (h2 : far ≤ 1000000) (hn : n < 2 ^ 58) (h : ∀ sz n', Sz far rows sz → n' ≤ n + 30 → P sz n') : (t_l_sizes rows (far : Int)).wp n P := by
  have hmm : w * m ≤ 30 := by rw [Nat.mul_comm]; exact Nat.mul_le_mul hm hwd
  have hl := hw.1
  unfold t_l_sizes
  simp only [ok_bind]
  rw [T.wp_bind]
  refine forT_wp (k := w) (fun i (s : List (List Int)) => s.length = i ∧ ∀ a (ha : a < rows.length) (hb : a < s.length), s[a].length = rows[a].length ∧ ∀ j (k : j < rows[a].length) (k' : j < s[a].length), if rows[a][j] = '0' then s[a][j] = 0 else 1 ≤ s[a][j] ∧ s[a][j] ≤ far) (i := 0) (by rw [hl]; omega) ⟨rfl, fun _ _ h => by cases h⟩ (fun i hi s n hn ⟨hs1, hs2⟩ => ?_) fun s n' ⟨hs1, hs2⟩ hn' => ?_
  · have hR := hw.2 rows[i] (List.getElem_mem hi)
    rw [chkT_ok (by rw [hR.1]; omega)]
    simp only [ok_bind]
    rw [T.wp_bind]
    simp only [bind_okT]
    refine mapT_wp (R := fun c (x : Int) => if c = '0' then x = 0 else 1 ≤ x ∧ x ≤ far) (k := 1) (by rw [hR.1]; omega) (fun c _ n hn => ?_) fun ys n' hyl hR2 hn' => ?_
    · by_cases hc : c = '0'
      · rw [if_pos (decide_eq_true hc)]; exact ⟨by rw [if_pos hc], by omega⟩
      · rw [if_neg (by simp [hc]), T.wp_bind]
        refine draw_wp h1 h2 (by omega) fun d hd => ?_
        simp only [T.wp_ok]
        exact ⟨by rw [if_neg hc]; omega, Nat.le_refl _⟩
    · rw [pushT_ok (by omega)]
      refine ⟨⟨by simp [hs1], fun a ha hb => ?_⟩, by rw [hR.1] at hn'; omega⟩
      by_cases hai : a < s.length
      · rw [List.getElem_append_left hai]; exact hs2 a ha hai
      · have e : a = i := by
          simp only [List.length_append, List.length_cons, List.length_nil] at hb; omega
        subst e
        have e2 : (s ++ [ys])[a] = ys := by simp [hs1]
        rw [e2]
        exact ⟨hyl, fun j k k' => hR2 j k k'⟩
  · simp only [T.wp_ok]
    refine h s n' ⟨by omega, fun i hi hi' => hs2 i hi hi'⟩ (by rw [hl] at hn'; omega)
theorem are_sizes_okT {far m n : Nat} {rows : List (List Char)} {sz : List (List Int)} (w : Tab m n rows) (hm : m ≤ 100) (h5 : n ≤ 100) (s : Sz far rows sz) (hf : far ≤ 1000000000000000000000000000000) : t_are_sizes rows sz = ok true := by
  unfold t_are_sizes
  have hl : (!decide ((sz.length : Int) = (rows.length : Int))) = false := by rw [s.1]; simp
  simp only [ok_bind, beq_self_eq_true, Bool.not_true, Bool.false_eq_true, if_false, lenT, hl]
  rw [forX_nx fun p hp => ?_]
  · rfl
  obtain ⟨i, hi, rfl⟩ := List.getElem_of_mem hp
  rw [List.length_zip] at hi
  have hir : i < rows.length := by omega
  have his : i < sz.length := by omega
  simp only [List.getElem_zip]
  have hR := w.2 rows[i] (List.getElem_mem hir)
  obtain ⟨hle, hs⟩ := s.2 i hir his
  rw [lenS_ok (by rw [hR.1]; omega), chkT_ok (by rw [hR.1]; omega)]
  have hl2 : (!decide ((sz[i].length : Int) = (rows[i].length : Int))) = false := by rw [hle]; simp
  simp only [ok_bind, hl2, Bool.false_eq_true, if_false, pow30]
  rw [forX_nx fun q hq => ?_]
  · rfl
  obtain ⟨j, hj, rfl⟩ := List.getElem_of_mem hq
  rw [List.length_zip] at hj
  simp only [List.getElem_zip]
  have := hs j (by omega) (by omega)
  by_cases hc : rows[i][j] = '0'
  · rw [if_pos hc] at this
    have e : (if (!decide (rows[i][j] = '0')) = true then (1 : Int) else 0) = 0 := by simp [hc]
    rw [e, this, mulT_ok (by decide) (by decide)]
    simp only [ok_bind, between_ok]
    rfl
  · rw [if_neg hc] at this
    have e : (if (!decide (rows[i][j] = '0')) = true then (1 : Int) else 0) = 1 := by simp [hc]
    rw [e, mulT_ok (by decide) (by decide)]
    simp only [ok_bind, between_ok]
    have e1 : (decide (1 ≤ sz[i][j]) && decide (sz[i][j] ≤ 10 ^ 30 * 1)) = true := by
      simp only [Bool.and_eq_true, decide_eq_true_eq]
      have : (1000000000000000000000000000000 : Int) ≤ 10 ^ 30 * 1 := by decide
      omega
    rw [e1]; rfl
theorem found_matrix_okT {far m n : Nat} {rows : List (List Char)} {sz : List (List Int)} (w : Tab m n rows) (hm : m ≤ 100) (h5 : n ≤ 100) (s : Sz far rows sz) (hf : far ≤ 1000000000000000000000000000000) : t_found_matrix rows sz = ok (matOf rows sz) := by
  unfold t_found_matrix
  simp only [ok_bind, bind_okT]
  rw [push_loop (g := fun p : List Char × List Int => (p.1.zip p.2).map fun q => fac q.1 * q.2) (by rw [List.length_zip, w.1]; simp; omega) fun p hp st hst => ?_]
  · rfl
  obtain ⟨i, hi, rfl⟩ := List.getElem_of_mem hp
  rw [List.length_zip] at hi
  have hir : i < rows.length := by omega
  have his : i < sz.length := by omega
  simp only [List.getElem_zip]
  have hR := w.2 rows[i] (List.getElem_mem hir)
  obtain ⟨hle, hs⟩ := s.2 i hir his
  rw [chkT_ok (by rw [hR.1]; omega)]
  simp only [ok_bind]
  rw [mapT_eq (g := fun q : Char × Int => fac q.1 * q.2) fun q hq => ?_]
  · simp only [ok_bind]
    rw [pushT_ok hst]
  obtain ⟨j, hj, rfl⟩ := List.getElem_of_mem hq
  rw [List.length_zip] at hj
  simp only [List.getElem_zip]
  have hc := hR.2 rows[i][j] (List.getElem_mem _)
  rw [look_fac hc]
  simp only [opt_some, ok_bind]
  refine mulT_ok ?_ ?_
  · unfold fac
    split
    · decide
    · split <;> decide
  · have := hs j (by omega) (by omega)
    have h6 : (1000000000000000000000000000000 : Nat) < 2 ^ 8000 := Nat.lt_of_lt_of_le (show 1000000000000000000000000000000 < 2 ^ 100 by decide) (Nat.pow_le_pow_right (by decide) (by decide))
    by_cases e : rows[i][j] = '0'
    · rw [if_pos e] at this; rw [this]; exact Nat.lt_of_le_of_lt (by decide) h6
    · rw [if_neg e] at this
      exact Nat.lt_of_le_of_lt (show _ ≤ 1000000000000000000000000000000 by omega) h6
theorem l_matrix_okT {far m n : Nat} {rows : List (List Char)} {sz : List (List Int)} (w : Tab m n rows) (hm : m ≤ 100) (h5 : n ≤ 100) (s : Sz far rows sz) (hf : far ≤ 1000000000000000000000000000000) : t_l_matrix rows sz = ok (matOf rows sz) := by
  unfold t_l_matrix
  simp only [ok_bind, bind_okT]
  rw [push_loop (g := fun p : List Char × List Int => (p.1.zip p.2).map fun q => fac q.1 * q.2) (by rw [List.length_zip, w.1]; simp; omega) fun p hp st hst => ?_]
  · rfl
  obtain ⟨i, hi, rfl⟩ := List.getElem_of_mem hp
  rw [List.length_zip] at hi
  have hir : i < rows.length := by omega
  have his : i < sz.length := by omega
  simp only [List.getElem_zip]
  have hR := w.2 rows[i] (List.getElem_mem hir)
  have hrn : rows[i].length = n := hR.1
  obtain ⟨hle, hs⟩ := s.2 i hir his
  rw [lenS_ok (by rw [hR.1]; omega)]
  simp only [ok_bind]
  rw [hR.1, rngT_nat (by omega)]
  simp only [ok_bind]
  rw [mapT_eq (g := fun x : Int => fac (rows[i][x.toNat]?.getD '0') * (sz[i][x.toNat]?.getD 0)) fun x hx => ?_]
  · simp only [ok_bind]
    have e : (nats n).map (fun x : Int => fac (rows[i][x.toNat]?.getD '0') * (sz[i][x.toNat]?.getD 0)) = (rows[i].zip sz[i]).map fun q => fac q.1 * q.2 := by
      refine List.ext_getElem (by simp [hR.1, hle]) fun j h1 h2 => ?_
      simp only [List.getElem_map, nats_get, Int.toNat_natCast, List.getElem_zip]
      have h3 : j < n := by simpa using h1
      rw [List.getElem?_eq_getElem (by omega), List.getElem?_eq_getElem (by omega)]; rfl
    rw [e, pushT_ok hst]
  obtain ⟨j, hj, rfl⟩ := nats_mem.mp hx
  rw [atS_nat (by rw [hR.1]; exact hj) (by rw [hR.1, lim_eq]; omega), atT_nat (by omega)]
  have hjr : j < rows[i].length := by rw [hR.1]; exact hj
  have hc := hR.2 rows[i][j] (List.getElem_mem _)
  simp only [ok_bind, look_fac hc, opt_some, Int.toNat_natCast, List.getElem?_eq_getElem hjr, List.getElem?_eq_getElem (show j < sz[i].length by omega), Option.getD_some]
  refine mulT_ok ?_ ?_
  · unfold fac
    split
    · decide
    · split <;> decide
  · have := hs j hjr (by omega)
    have h6 : (1000000000000000000000000000000 : Nat) < 2 ^ 8000 := Nat.lt_of_lt_of_le (show 1000000000000000000000000000000 < 2 ^ 100 by decide) (Nat.pow_le_pow_right (by decide) (by decide))
    by_cases e : rows[i][j] = '0'
    · rw [if_pos e] at this; rw [this]; exact Nat.lt_of_le_of_lt (by decide) h6
    · rw [if_neg e] at this
      exact Nat.lt_of_le_of_lt (show _ ≤ 1000000000000000000000000000000 by omega) h6
/-! ### rows and columns by their places -/
theorem zip_range {α β γ : Type} (d : α) (e : β) (f : α × β → γ) {m : Nat} {xs : List α} {ys : List β} (h1 : xs.length = m) (h2 : ys.length = m) : (xs.zip ys).map f = (List.range m).map fun i => f (xs[i]?.getD d, ys[i]?.getD e) := by
  refine List.ext_getElem (by simp [h1, h2]) fun i a b => ?_
  simp only [List.getElem_map, List.getElem_zip, List.getElem_range]
  have k1 : i < xs.length := by simp at a; omega
  have k2 : i < ys.length := by simp at a; omega
  rw [List.getElem?_eq_getElem k1, List.getElem?_eq_getElem k2]; rfl
theorem prs_range {m w p : Nat} {c : List Char} {tb : List (List Char)} (t : Tab m w tb) (hc : c.length = m) : prs c tb p = (List.range m).map fun i => fac (c[i]?.getD '0') * fac (sgC tb i p) := by
  unfold prs
  rw [zip_range '0' [] _ hc t.1]; rfl
theorem tabC_mem {m w i j : Nat} {tb : List (List Char)} (t : Tab m w tb) (hi : i < m) (hj : j < w) : sgC tb i j ∈ sgs := by
  have hir : i < tb.length := by rw [t.1]; exact hi
  have hR := t.2 _ (List.getElem_mem hir)
  have hjl : j < tb[i].length := by rw [hR.1]; exact hj
  have : sgC tb i j = tb[i][j] := by unfold sgC; simp [hir, hjl]
  rw [this]
  exact hR.2 _ (List.getElem_mem hjl)
theorem tabC_at {m w i j : Nat} {tb : List (List Char)} (t : Tab m w tb) (hw : w ≤ 1000) (hi : i < m) (hj : j < w) : ((atT tb (i : Int)).bind fun a => atS a (j : Int)) = ok (sgC tb i j) := by
  have hir : i < tb.length := by rw [t.1]; exact hi
  have hR := t.2 _ (List.getElem_mem hir)
  have hjl : j < tb[i].length := by rw [hR.1]; exact hj
  rw [atT_nat hir, ok_bind, atS_nat hjl (by rw [hR.1, lim_eq]; omega)]
  unfold sgC; simp [hir, hjl]
theorem mat_get {tb : List (List Char)} {sz : List (List Int)} {i : Nat} (h1 : i < tb.length) (h2 : i < sz.length) : (matOf tb sz)[i]? = some ((tb[i].zip sz[i]).map fun q => fac q.1 * q.2) := by
  have hz : i < (tb.zip sz).length := by rw [List.length_zip]; omega
  unfold matOf
  rw [List.getElem?_map, List.getElem?_eq_getElem hz, List.getElem_zip]; rfl
theorem mat_get2 {r : List Char} {z : List Int} {j : Nat} (h1 : j < r.length) (h2 : j < z.length) : ((r.zip z).map fun q => fac q.1 * q.2)[j]? = some (fac r[j] * z[j]) := by
  have hz : j < (r.zip z).length := by rw [List.length_zip]; omega
  rw [List.getElem?_map, List.getElem?_eq_getElem hz, List.getElem_zip]; rfl
theorem tabM_eq {far m w i j : Nat} {tb : List (List Char)} {sz : List (List Int)} (t : Tab m w tb) (s : Sz far tb sz) (hi : i < m) (hj : j < w) : Mt (matOf tb sz) i j = fac (sgC tb i j) * Mt sz i j := by
  have hir : i < tb.length := by rw [t.1]; exact hi
  have his : i < sz.length := by rw [s.1]; exact hir
  have hR := t.2 _ (List.getElem_mem hir)
  have hjl : j < tb[i].length := by rw [hR.1]; exact hj
  have hjs : j < sz[i].length := by rw [(s.2 i hir his).1]; exact hjl
  unfold Mt sgC
  rw [mat_get hir his, Option.getD_some, mat_get2 hjl hjs]
  simp [hir, his, hjl, hjs]
theorem tabM_at {far m w i j : Nat} {tb : List (List Char)} {sz : List (List Int)} (t : Tab m w tb) (s : Sz far tb sz) (hi : i < m) (hj : j < w) : ((atT (matOf tb sz) (i : Int)).bind fun a => atT a (j : Int)) = ok (Mt (matOf tb sz) i j) := by
  have hir : i < tb.length := by rw [t.1]; exact hi
  have his : i < sz.length := by rw [s.1]; exact hir
  have hR := t.2 _ (List.getElem_mem hir)
  have hjl : j < tb[i].length := by rw [hR.1]; exact hj
  have hjs : j < sz[i].length := by rw [(s.2 i hir his).1]; exact hjl
  have h1 := mat_get hir his
  obtain ⟨hl, e1⟩ := List.getElem?_eq_some_iff.mp h1
  have h2 := mat_get2 hjl hjs
  obtain ⟨hl2, e2⟩ := List.getElem?_eq_some_iff.mp h2
  rw [atT_nat hl, ok_bind, e1, atT_nat hl2]
  unfold Mt
  rw [h1, Option.getD_some, h2, e2]; rfl
theorem tabZ_at {far m w i j : Nat} {tb : List (List Char)} {sz : List (List Int)} (t : Tab m w tb) (s : Sz far tb sz) (hi : i < m) (hj : j < w) : if sgC tb i j = '0' then Mt sz i j = 0 else 1 ≤ Mt sz i j ∧ Mt sz i j ≤ far := by
  have hir : i < tb.length := by rw [t.1]; exact hi
  have his : i < sz.length := by rw [s.1]; exact hir
  have hR := t.2 _ (List.getElem_mem hir)
  have hjl : j < tb[i].length := by rw [hR.1]; exact hj
  have h := s.2 i hir his
  have hjs : j < sz[i].length := by rw [h.1]; exact hjl
  have := h.2 j hjl hjs
  have e1 : sgC tb i j = tb[i][j] := by unfold sgC; simp [hir, hjl]
  have e2 : Mt sz i j = sz[i][j] := by unfold Mt; simp [his, hjs]
  rw [e1, e2]; exact this
/-! ### made cell by cell -/
def mkR {α : Type} (m w : Nat) (f : Nat → Nat → α) : List (List α) := (List.range m).map fun i => (List.range w).map fun j => f i j
theorem mkR_Mt {m w i j : Nat} {f : Nat → Nat → Int} (hi : i < m) (hj : j < w) : Mt (mkR m w f) i j = f i j := by unfold mkR Mt; simp [hi, hj]
theorem mkR_sz {far m w : Nat} {tb : List (List Char)} {f : Nat → Nat → Int} (t : Tab m w tb) (h : ∀ i j, i < m → j < w → if sgC tb i j = '0' then f i j = 0 else 1 ≤ f i j ∧ f i j ≤ far) : Sz far tb (mkR m w f) := by
  refine ⟨by unfold mkR; simp [t.1], fun i hi hi' => ?_⟩
  have hR := t.2 _ (List.getElem_mem hi)
  have him : i < m := by rw [← t.1]; exact hi
  have e : (mkR m w f)[i] = (List.range w).map fun j => f i j := by
    have : (mkR m w f)[i]? = some ((List.range w).map fun j => f i j) := by unfold mkR; simp [him]
    exact (List.getElem?_eq_some_iff.mp this).2
  refine ⟨by rw [e]; simp [hR.1], fun j k k' => ?_⟩
  have hj : j < w := by rw [← hR.1]; exact k
  have e2 : (mkR m w f)[i][j] = f i j := by
    have : ((mkR m w f)[i])[j]? = some (f i j) := by rw [e]; simp [hj]
    exact (List.getElem?_eq_some_iff.mp this).2
  have e1 : sgC tb i j = tb[i][j] := by unfold sgC; simp [hi, k]
  rw [e2, ← e1]
  exact h i j him hj
/-! ### mixes -/
def sg (x : Int) : Char := if 0 < x then '+' else if x < 0 then '-' else '0'
theorem sg_mem (x : Int) : sg x ∈ sgs := by
  unfold sg
  split
  · simp
  · split <;> simp
theorem fac_sg (x : Int) : fac (sg x) = x.sign := by
  unfold sg
  rcases Int.lt_trichotomy x 0 with h | h | h
  · rw [if_neg (by omega), if_pos h, Int.sign_eq_neg_one_of_neg h]; rfl
  · subst h; rfl
  · rw [if_pos h, Int.sign_eq_one_of_pos h]; rfl
theorem sg_zero {x : Int} : sg x = '0' ↔ x = 0 := by
  unfold sg
  split
  · constructor
    · intro z; cases z
    · intro z; omega
  · split
    · constructor
      · intro z; cases z
      · intro z; omega
    · constructor
      · intro _; omega
      · intro _; rfl
theorem sum_two {l : List Int} (hs : l.sum = 0) (h : ∃ x ∈ l, 0 < x) : ∃ x ∈ l, x < 0 := by
  apply Classical.byContradiction
  intro z
  have key : ∀ l : List Int, (∀ x ∈ l, 0 ≤ x) → 0 ≤ l.sum ∧ ∀ x ∈ l, x ≤ l.sum := by
    intro l
    induction l with
    | nil => intro _; exact ⟨by simp, fun x h => nomatch h⟩
    | cons a l ih =>
      intro hl
      obtain ⟨h1, h2⟩ := ih fun x hx => hl x (List.mem_cons_of_mem _ hx)
      have ha := hl a List.mem_cons_self
      rw [List.sum_cons]
      refine ⟨by omega, fun x hx => ?_⟩
      rcases List.mem_cons.mp hx with rfl | hx
      · omega
      · have := h2 x hx; omega
  obtain ⟨x, hx, hp⟩ := h
  have := (key l fun y hy => by
    apply Classical.byContradiction
    intro q
    exact z ⟨y, hy, by omega⟩).2 x hx
  omega
theorem sum_neg (l : List Int) : (l.map fun x => -x).sum = -l.sum := by
  induction l with
  | nil => rfl
  | cons a l ih => rw [List.map_cons, List.sum_cons, List.sum_cons, ih]; omega
theorem sum_two' {l : List Int} (hs : l.sum = 0) (h : ∃ x ∈ l, x < 0) : ∃ x ∈ l, 0 < x := by
  obtain ⟨x, hx, hp⟩ := h
  obtain ⟨y, hy, hq⟩ := sum_two (l := l.map fun x => -x) (by rw [sum_neg, hs]; rfl) ⟨-x, List.mem_map.mpr ⟨x, hx, rfl⟩, by omega⟩
  obtain ⟨z, hz, rfl⟩ := List.mem_map.mp hy
  exact ⟨z, hz, by omega⟩
theorem fac_cases (c : Char) : fac c = 1 ∨ fac c = -1 ∨ fac c = 0 := by
  unfold fac
  split
  · exact .inl rfl
  · split
    · exact .inr (.inl rfl)
    · exact .inr (.inr rfl)
theorem fac_zero {c : Char} (h : c ∈ sgs) : fac c = 0 ↔ c = '0' := by
  simp only [List.mem_cons, List.not_mem_nil, or_false] at h
  rcases h with rfl | rfl | rfl <;> decide
/-- a mix that makes every column 0 balances -/
theorem mix_bal {far m w : Nat} {tb : List (List Char)} {sz : List (List Int)} {x : Nat → Int} (t : Tab m w tb) (s : Sz far tb sz) (h : ∀ j, j < w → ((List.range m).map fun i => x i * Mt (matOf tb sz) i j).sum = 0) : Bal w ((List.range m).map fun i => sg (x i)) tb := fun p hp => by
  rw [prs_range t (by simp)]
  have cell : ∀ i, i < m → fac (((List.range m).map fun i => sg (x i))[i]?.getD '0') * fac (sgC tb i p) = (x i * Mt (matOf tb sz) i p).sign := fun i hi => by
    rw [tabM_eq t s hi hp]
    have e : ((List.range m).map fun i => sg (x i))[i]?.getD '0' = sg (x i) := by simp [hi]
    rw [e, fac_sg, Int.sign_mul, Int.sign_mul]
    have hz := tabZ_at t s hi hp
    by_cases z : sgC tb i p = '0'
    · rw [z]; simp [show fac '0' = 0 from rfl]
    · rw [if_neg z] at hz
      rw [Int.sign_eq_one_of_pos (show 0 < Mt sz i p by omega), Int.mul_one]
      rcases fac_cases (sgC tb i p) with q | q | q <;> rw [q] <;> rfl
  have mem : ∀ v : Int, v ∈ ((List.range m).map fun i => fac (((List.range m).map fun i => sg (x i))[i]?.getD '0') * fac (sgC tb i p)) ↔ ∃ i, i < m ∧ (x i * Mt (matOf tb sz) i p).sign = v := fun v => by
    rw [List.mem_map]
    constructor
    · rintro ⟨i, hi, e⟩
      have hi := List.mem_range.mp hi
      exact ⟨i, hi, by rw [← cell i hi]; exact e⟩
    · rintro ⟨i, hi, e⟩
      exact ⟨i, List.mem_range.mpr hi, by rw [cell i hi]; exact e⟩
  rw [mem, mem]
  have hs := h p hp
  constructor
  · rintro ⟨i, hi, e⟩
    obtain ⟨y, hy, hn⟩ := sum_two hs ⟨_, List.mem_map.mpr ⟨i, List.mem_range.mpr hi, rfl⟩, Int.sign_eq_one_iff_pos.mp e⟩
    obtain ⟨k, hk, rfl⟩ := List.mem_map.mp hy
    exact ⟨k, List.mem_range.mp hk, Int.sign_eq_neg_one_of_neg hn⟩
  · rintro ⟨i, hi, e⟩
    obtain ⟨y, hy, hn⟩ := sum_two' hs ⟨_, List.mem_map.mpr ⟨i, List.mem_range.mpr hi, rfl⟩, Int.sign_eq_neg_one_iff_neg.mp e⟩
    obtain ⟨k, hk, rfl⟩ := List.mem_map.mp hy
    exact ⟨k, List.mem_range.mp hk, Int.sign_eq_one_of_pos hn⟩
theorem ind_mix {far m w : Nat} {tb : List (List Char)} {sz : List (List Int)} {x : Nat → Int} (t : Tab m w tb) (s : Sz far tb sz) (hI : Ind m w tb) (h : ∀ j, j < w → ((List.range m).map fun i => x i * Mt (matOf tb sz) i j).sum = 0) : ∀ i, i < m → x i = 0 := fun i hi => by
  have := hI _ ⟨by simp, fun c hc => by
    obtain ⟨k, _, rfl⟩ := List.mem_map.mp hc
    exact sg_mem _⟩ (mix_bal t s h)
  have e := congrArg (fun l : List Char => l[i]?) this
  unfold zs at e
  simp [hi] at e
  exact sg_zero.mp e
/-! ### sizes that a choice makes dependent -/
def dpF (c : List Char) (tb : List (List Char)) (i j : Nat) : Int :=
  let f := fac (c[i]?.getD '0') * fac (sgC tb i j)
  if f = 1 then cntI (prs c tb j) (-1) else if f = -1 then cntI (prs c tb j) 1 else if (!decide (sgC tb i j = '0')) = true then 1 else 0
theorem cnt_pos {l : List Int} {x : Int} (h : x ∈ l) : 1 ≤ cntI l x := by
  have := cnt0 l x
  rw [decide_eq_true h] at this
  have h0 : cntI l x ≠ 0 := by simpa using this
  have : 0 ≤ cntI l x := by unfold cntI; omega
  omega
theorem cnt_le (l : List Int) (x : Int) : cntI l x ≤ l.length := by
  unfold cntI
  have := List.countP_le_length (p := fun y => decide (y = x)) (l := l)
  omega
theorem dp_sz {m w : Nat} {c : List Char} {tb : List (List Char)} (t : Tab m w tb) (hc : Row sgs m c) (hm : m ≤ 4) (hb : Bal w c tb) : Sz 4 tb (mkR m w (dpF c tb)) := mkR_sz t fun i j hi hj => by
  have hlen : (prs c tb j).length = m := by rw [prs_range t hc.1]; simp
  have inP : fac (c[i]?.getD '0') * fac (sgC tb i j) ∈ prs c tb j := by
    rw [prs_range t hc.1]
    exact List.mem_map.mpr ⟨i, List.mem_range.mpr hi, rfl⟩
  unfold dpF
  by_cases z : sgC tb i j = '0'
  · rw [if_pos z, z]
    have : fac '0' = 0 := rfl
    simp [this]
  · rw [if_neg z]
    dsimp only
    have b := hb j hj
    by_cases h1 : fac (c[i]?.getD '0') * fac (sgC tb i j) = 1
    · rw [if_pos h1]
      rw [h1] at inP
      exact ⟨cnt_pos (b.mp inP), by have := cnt_le (prs c tb j) (-1); omega⟩
    · rw [if_neg h1]
      by_cases h2 : fac (c[i]?.getD '0') * fac (sgC tb i j) = -1
      · rw [if_pos h2]
        rw [h2] at inP
        exact ⟨cnt_pos (b.mpr inP), by have := cnt_le (prs c tb j) 1; omega⟩
      · rw [if_neg h2, if_pos (by simp [z])]; exact ⟨by decide, by decide⟩
theorem sum_pm (a b : Int) : ∀ l : List Int, (∀ x ∈ l, x = 1 ∨ x = -1 ∨ x = 0) → (l.map fun f => if f = 1 then a else if f = -1 then -b else 0).sum = a * cntI l 1 - b * cntI l (-1)
  | [], _ => by simp [cntI]
  | x :: l, h => by
    have ih := sum_pm a b l fun y hy => h y (List.mem_cons_of_mem _ hy)
    rw [List.map_cons, List.sum_cons, ih]
    have c1 : ∀ v : Int, cntI (x :: l) v = (if x = v then 1 else 0) + cntI l v := fun v => by
      unfold cntI
      rw [List.countP_cons]
      by_cases q : x = v
      · simp [q]; omega
      · simp [q]
    rw [c1, c1]
    rcases h x List.mem_cons_self with q | q | q <;> subst q <;> simp <;> grind
theorem dp_zero {m w : Nat} {c : List Char} {tb : List (List Char)} (t : Tab m w tb) (hc : Row sgs m c) (hm : m ≤ 4) (hb : Bal w c tb) {j : Nat} (hj : j < w) :
    ((List.range m).map fun i => fac (c[i]?.getD '0') * Mt (matOf tb (mkR m w (dpF c tb))) i j).sum = 0 := by
  have s := dp_sz t hc hm hb
  have e : ((List.range m).map fun i => fac (c[i]?.getD '0') * Mt (matOf tb (mkR m w (dpF c tb))) i j) = (prs c tb j).map fun f => if f = 1 then cntI (prs c tb j) (-1) else if f = -1 then -cntI (prs c tb j) 1 else 0 := by
    conv => rhs; rw [prs_range t hc.1, List.map_map]
    rw [← prs_range t hc.1]
    refine List.map_congr_left fun i hi => ?_
    have hi := List.mem_range.mp hi
    rw [tabM_eq t s hi hj, mkR_Mt hi hj]
    show _ = if fac (c[i]?.getD '0') * fac (sgC tb i j) = 1 then _ else _
    unfold dpF
    dsimp only
    have q : ∀ v : Int, fac (c[i]?.getD '0') * (fac (sgC tb i j) * v) = fac (c[i]?.getD '0') * fac (sgC tb i j) * v := fun v => (Int.mul_assoc _ _ _).symm
    rw [q]
    have cs : fac (c[i]?.getD '0') * fac (sgC tb i j) = 1 ∨ fac (c[i]?.getD '0') * fac (sgC tb i j) = -1 ∨ fac (c[i]?.getD '0') * fac (sgC tb i j) = 0 := by
      rcases fac_cases (c[i]?.getD '0') with a | a | a <;> rcases fac_cases (sgC tb i j) with b | b | b <;> rw [a, b] <;> decide
    rcases cs with h | h | h <;> simp [h]
  rw [e, sum_pm _ _ _ fun x hx => ?_]
  · rw [Int.mul_comm]; omega
  · rw [prs_range t hc.1] at hx
    obtain ⟨i, hi, rfl⟩ := List.mem_map.mp hx
    rcases fac_cases (c[i]?.getD '0') with a | a | a <;> rcases fac_cases (sgC tb i j) with b | b | b <;> rw [a, b] <;> decide
end Sg

-- SgV
/-! SgV: terms as monomials; what moves cells about keeps the terms' values; sure signs. -/
namespace Sg
open T M
/-! ### products -/
def prodI (l : List Int) : Int := l.foldr (· * ·) 1
theorem prod_perm {l k : List Int} (h : l.Perm k) : prodI l = prodI k := by
  induction h with
  | nil => rfl
  | cons x _ ih => show x * prodI _ = x * prodI _; rw [ih]
  | swap x y l => show y * (x * prodI l) = x * (y * prodI l); rw [← Int.mul_assoc, Int.mul_comm y x, Int.mul_assoc]
  | trans _ _ a b => exact a.trans b
theorem prod_mul {α : Type} (f g : α → Int) : ∀ l : List α, prodI (l.map fun x => f x * g x) = prodI (l.map f) * prodI (l.map g)
  | [] => rfl
  | x :: l => by
    show f x * g x * prodI (l.map fun x => f x * g x) = f x * prodI (l.map f) * (g x * prodI (l.map g))
    rw [prod_mul f g l, Int.mul_assoc, Int.mul_assoc]
    congr 1
    rw [← Int.mul_assoc, Int.mul_comm (g x), Int.mul_assoc]
/-! ### a term's cells -/
/-- the cells of an order -/
def cels : Nat → List Nat → List (Nat × Nat)
  | _, [] => []
  | i, j :: l => (i, j) :: cels (i + 1) l
theorem goP_cels (N : Mx Int) : ∀ (l : List Nat) (i : Nat) (a : Int), goP ZZ N i l a = a * prodI ((cels i l).map fun c => N c.1 c.2)
  | [], i, a => by show a = a * 1; omega
  | j :: l, i, a => by
    show goP ZZ N (i + 1) l (a * N i j) = a * (N i j * prodI ((cels (i + 1) l).map fun c => N c.1 c.2))
    rw [goP_cels N l, Int.mul_assoc]
theorem term_cels (N : Mx Int) (q : List Nat × Bool) : termG ZZ N q = oneG q.2 * prodI ((cels 0 q.1).map fun c => N c.1 c.2) := by
  unfold termG
  rw [goP_cels]; rfl
/-- cells in order -/
def insN (x : Nat) : List Nat → List Nat
  | [] => [x]
  | y :: r => if x ≤ y then x :: y :: r else y :: insN x r
def sortN : List Nat → List Nat
  | [] => []
  | x :: r => insN x (sortN r)
theorem insN_perm (x : Nat) : ∀ r : List Nat, (insN x r).Perm (x :: r)
  | [] => List.Perm.refl _
  | y :: r => by
    unfold insN
    split
    · exact List.Perm.refl _
    · exact ((insN_perm x r).cons y).trans (List.Perm.swap x y r)
theorem sortN_perm : ∀ r : List Nat, (sortN r).Perm r
  | [] => List.Perm.refl _
  | x :: r => (insN_perm x _).trans ((sortN_perm r).cons x)
/-- a term's monomial, cells moved by φ, signs by ε (true: opposite) -/
def mono (n : Nat) (φ : Nat → Nat → Nat × Nat) (ε : Nat → Nat → Bool) (q : List Nat × Bool) : List Nat × Bool :=
  (sortN ((cels 0 q.1).map fun c => (φ c.1 c.2).1 * n + (φ c.1 c.2).2), (cels 0 q.1).foldr (fun c b => b != ε c.1 c.2) q.2)
def evm (n : Nat) (N : Mx Int) (m : List Nat × Bool) : Int := oneG m.2 * prodI (m.1.map fun v => N (v / n) (v % n))
def movd (φ : Nat → Nat → Nat × Nat) (ε : Nat → Nat → Bool) (N : Mx Int) : Mx Int := fun i j => oneG (ε i j) * N (φ i j).1 (φ i j).2
theorem one_xor (a b : Bool) : oneG (a != b) = oneG a * oneG b := by cases a <;> cases b <;> rfl
theorem cels_lt {n : Nat} : ∀ {l : List Nat} {i : Nat}, (∀ j ∈ l, j < n) → i + l.length ≤ n → ∀ c ∈ cels i l, c.1 < n ∧ c.2 < n
  | [], _, _, _, c, hc => by cases hc
  | j :: l, i, h, k, c, hc => by
    rw [List.length_cons] at k
    rcases List.mem_cons.mp hc with rfl | hc
    · exact ⟨by show i < n; omega, h j (by simp)⟩
    · exact cels_lt (fun x hx => h x (by simp [hx])) (by omega) c hc
theorem sgn_fold (ε : Nat → Nat → Bool) (b : Bool) : ∀ l : List (Nat × Nat), oneG (l.foldr (fun c b => b != ε c.1 c.2) b) = oneG b * prodI (l.map fun c => oneG (ε c.1 c.2))
  | [] => by show oneG b = oneG b * 1; omega
  | c :: l => by
    show oneG ((l.foldr (fun c b => b != ε c.1 c.2) b) != ε c.1 c.2) = oneG b * (oneG (ε c.1 c.2) * prodI (l.map fun c => oneG (ε c.1 c.2)))
    rw [one_xor, sgn_fold ε b l, Int.mul_assoc, Int.mul_comm (prodI _)]
theorem mono_ev {n : Nat} {φ : Nat → Nat → Nat × Nat} {ε : Nat → Nat → Bool} (hφ : ∀ i j, i < n → j < n → (φ i j).2 < n) (N : Mx Int) {q : List Nat × Bool} (hq : q.1.length = n) (hj : ∀ j ∈ q.1, j < n) : termG ZZ (movd φ ε N) q = evm n N (mono n φ ε q) := by
  rw [term_cels]
  unfold evm mono
  rw [sgn_fold, prod_perm ((sortN_perm _).map _)]
  unfold movd
  rw [prod_mul (fun c : Nat × Nat => oneG (ε c.1 c.2)) (fun c : Nat × Nat => N (φ c.1 c.2).1 (φ c.1 c.2).2), Int.mul_assoc]
  congr 2
  rw [List.map_map]
  refine congrArg prodI (List.map_congr_left fun c hc => ?_)
  obtain ⟨h1, h2⟩ := cels_lt hj (by omega) c hc
  have h3 := hφ c.1 c.2 h1 h2
  show _ = N (((φ c.1 c.2).1 * n + (φ c.1 c.2).2) / n) (((φ c.1 c.2).1 * n + (φ c.1 c.2).2) % n)
  have hn : 0 < n := by omega
  rw [Nat.mul_comm, Nat.mul_add_div hn, Nat.div_eq_of_lt h3, Nat.add_zero, Nat.mul_add_mod, Nat.mod_eq_of_lt h3]
/-- the terms' values are the same, in another order -/
def Tms (n : Nat) (N N' : Mx Int) : Prop := ((ords n).map (termG ZZ N)).Perm ((ords n).map (termG ZZ N'))
def movOk (n : Nat) (φ : Nat → Nat → Nat × Nat) (ε : Nat → Nat → Bool) : Bool :=
  ((ords n).map (mono n φ ε)).isPerm ((ords n).map (mono n (fun i j => (i, j)) fun _ _ => false)) && (List.range n).all fun i => (List.range n).all fun j => decide ((φ i j).2 < n)
theorem mov_tms {n : Nat} (hn : n ≤ 5) {φ : Nat → Nat → Nat × Nat} {ε : Nat → Nat → Bool} (h : movOk n φ ε = true) (N : Mx Int) : Tms n (movd φ ε N) N := by
  unfold movOk at h
  simp only [Bool.and_eq_true, List.all_eq_true, List.mem_range, decide_eq_true_eq] at h
  have p := List.isPerm_iff.mp h.1
  have e1 : (ords n).map (termG ZZ (movd φ ε N)) = ((ords n).map (mono n φ ε)).map (evm n N) := by
    rw [List.map_map]
    exact List.map_congr_left fun q hq => mono_ev (fun i j hi hj => h.2 i hi j hj) N (ords_fine hn hq).1 (ords_fine hn hq).2
  have e0 : movd (fun i j => (i, j)) (fun _ _ => false) N = N := by
    funext i j
    show 1 * N i j = N i j
    exact Int.one_mul _
  have e2 : (ords n).map (termG ZZ N) = ((ords n).map (mono n (fun i j => (i, j)) fun _ _ => false)).map (evm n N) := by
    rw [List.map_map]
    refine List.map_congr_left fun q hq => ?_
    have := mono_ev (n := n) (φ := fun i j => (i, j)) (ε := fun _ _ => false) (fun i j hi hj => hj) N (ords_fine hn hq).1 (ords_fine hn hq).2
    rw [e0] at this
    exact this
  unfold Tms
  rw [e1, e2]
  exact p.map _
theorem Tms.leib {n : Nat} {N N' : Mx Int} (h : Tms n N N') : leibG ZZ n N = leibG ZZ n N' := by
  unfold leibG
  rw [sumG_eq, sumG_eq]
  unfold Tms at h
  have : ∀ {l k : List Int}, l.Perm k → l.sum = k.sum := fun h => by
    induction h with
    | nil => rfl
    | cons x _ ih => rw [List.sum_cons, List.sum_cons, ih]
    | swap x y l => simp only [List.sum_cons]; omega
    | trans _ _ a b => exact a.trans b
  exact this h
/-! ### sure signs -/
/-- some term is p -/
def has (n : Nat) (N : Mx Int) (p : Int) : Bool := (ords n).any fun q => decide (termG ZZ N q = p)
theorem has_iff {n : Nat} {N : Mx Int} {p : Int} : has n N p = true ↔ p ∈ (ords n).map (termG ZZ N) := by
  unfold has
  rw [List.any_eq_true, List.mem_map]
  exact ⟨fun ⟨q, h, e⟩ => ⟨q, h, of_decide_eq_true e⟩, fun ⟨q, h, e⟩ => ⟨q, h, decide_eq_true e⟩⟩
theorem Tms.has {n : Nat} {N N' : Mx Int} (h : Tms n N N') (p : Int) : Sg.has n N p = Sg.has n N' p := by
  rw [Bool.eq_iff_iff, has_iff, has_iff, List.Perm.mem_iff h]
def sureV (p m : Bool) : Option Char := if p then (if m then none else some '+') else (if m then some '-' else some '0')
/-- signs as numbers -/
def sgM (rows : List (List Char)) : Mx Int := fun i j => fac (sgC rows i j)
theorem ao_ords {n : Nat} (hn : n ≤ 5) (N : Mx Int) (p : Int) : (∃ o ∈ aoI n, goP ZZ N 0 (o.map Int.toNat) (oneG (unI o)) = p) ↔ has n N p = true := by
  rw [has_iff]
  have := (ao_perm hn).map (termG ZZ N)
  rw [← this.mem_iff, List.map_map, List.mem_map]
  exact ⟨fun ⟨o, h, e⟩ => ⟨o, h, e⟩, fun ⟨o, h, e⟩ => ⟨o, h, e⟩⟩
theorem term_sign {n : Nat} {rows : List (List Char)} (w : Web n rows) (hn : n ≤ 5) (c : Char) (hc : c = '+' ∨ c = '-') : c ∈ (termsL n rows).map (·.2) ↔ has n (sgM rows) (if c = '+' then 1 else -1) = true := by
  rw [← ao_ords hn]
  unfold termsL
  rw [List.map_map, List.mem_map]
  have key : ∀ o ∈ aoI n, goP ZZ (sgM rows) 0 (o.map Int.toNat) (oneG (unI o)) = if '0' ∈ sgnsI rows o then 0 else if tsgn rows o = '+' then 1 else -1 := fun o ho => by
    obtain ⟨_, k, e, hl, hj⟩ := ao_each hn ho
    have ek : o.map Int.toNat = k := by
      rw [e, List.map_map]
      have : (Int.toNat ∘ fun (i : Nat) => (i : Int)) = id := by funext i; exact Int.toNat_natCast i
      rw [this, List.map_id]
    rw [ek]
    exact tsgn_term w hl hj o e
  have two : ∀ o, tsgn rows o = '+' ∨ tsgn rows o = '-' := fun o => by
    unfold tsgn
    split
    · exact .inr rfl
    · exact .inl rfl
  constructor
  · rintro ⟨o, ho, e⟩
    rw [List.mem_filter] at ho
    refine ⟨o, ho.1, ?_⟩
    rw [key o ho.1, if_neg (by simpa using ho.2)]
    have e : tsgn rows o = c := e
    rw [e]
  · rintro ⟨o, ho, e⟩
    rw [key o ho] at e
    have h0 : ¬ '0' ∈ sgnsI rows o := fun z => by
      rw [if_pos z] at e
      split at e <;> omega
    rw [if_neg h0] at e
    refine ⟨o, List.mem_filter.mpr ⟨ho, by simpa using h0⟩, ?_⟩
    show tsgn rows o = c
    rcases two o with t | t <;> rcases hc with rfl | rfl <;> simp [t] at e ⊢
/-- a set of at most two signs, sorted -/
theorem set_two {l : List Char} (h : ∀ c ∈ l, c = '+' ∨ c = '-') : sortW ltC (nub l) = (if '+' ∈ l then ['+'] else []) ++ (if '-' ∈ l then ['-'] else []) := by
  have hm : ∀ z, z ∈ sortW ltC (nub l) ↔ z ∈ l := fun z => by rw [(sortW_perm (nub l)).mem_iff, nub_mem]
  have hnd : (nub l).Nodup := nub_nodup l
  have hsub : ∀ c ∈ nub l, c = '+' ∨ c = '-' := fun c hc => h c (nub_mem.mp hc)
  simp only [← nub_mem (z := '+') (r := l), ← nub_mem (z := '-') (r := l)]
  generalize nub l = k at *
  match k, hnd, hsub with
  | [], _, _ => rfl
  | [a], _, hs => rcases hs a (by simp) with rfl | rfl <;> rfl
  | [a, b], hn, hs =>
    have hab : a ≠ b := fun e => by rw [List.nodup_cons] at hn; exact hn.1 (by simp [e])
    rcases hs a (by simp) with rfl | rfl <;> rcases hs b (by simp) with rfl | rfl <;> first | exact absurd rfl hab | rfl
  | a :: b :: c :: r, hn, hs =>
    exfalso
    simp only [List.nodup_cons, List.mem_cons, not_or] at hn
    rcases hs a (by simp) with ha | ha <;> rcases hs b (by simp) with hb | hb <;> rcases hs c (by simp) with hc | hc <;> simp_all
theorem sign_of_ok {some : List (List Int × Char)} (h : ∀ p ∈ some, p.2 = '+' ∨ p.2 = '-') (hl : some.length ≤ 4000) : t_sign_of some = ok (sureV (decide ('+' ∈ some.map (·.2))) (decide ('-' ∈ some.map (·.2)))) := by
  unfold t_sign_of
  simp only [ok_bind]
  rw [show T.mapT (fun a1 : List Int × Char => ok a1.2) some = ok (some.map (·.2)) from mapT_ok, ok_bind]
  unfold sseT
  rw [if_pos (by rw [List.length_map]; exact hl), set_two (fun c hc => by obtain ⟨p, hp, rfl⟩ := List.mem_map.mp hc; exact h p hp)]
  simp only [ok_bind]
  by_cases a : '+' ∈ some.map (·.2) <;> by_cases b : '-' ∈ some.map (·.2) <;> simp only [a, b, if_true, if_false, decide_true, decide_false] <;> rfl
theorem terms_signs {n : Nat} {rows : List (List Char)} : ∀ p ∈ termsL n rows, p.2 = '+' ∨ p.2 = '-' := fun p hp => by
  unfold termsL at hp
  obtain ⟨o, _, rfl⟩ := List.mem_map.mp hp
  show tsgn rows o = '+' ∨ tsgn rows o = '-'
  unfold tsgn
  split
  · exact .inr rfl
  · exact .inl rfl
/-- the sure sign by the terms' values -/
def sureM (n : Nat) (N : Mx Int) : Option Char := sureV (has n N 1) (has n N (-1))
theorem sure_ok {n : Nat} {rows : List (List Char)} (w : Web n rows) (h1 : 1 ≤ n) (hn : n ≤ 5) : t_sure_det rows = ok (sureM n (sgM rows)) := by
  unfold t_sure_det t_found_sure
  simp only [ok_bind, check_web_ok w h1 hn, found_terms_ok w hn]
  rw [sign_of_ok terms_signs (by
    unfold termsL
    rw [List.length_map]
    exact Nat.le_trans (List.length_filter_le _ _) (Nat.le_trans (ao_len hn) (by decide)))]
  congr 1
  unfold sureM
  congr 1
  · rw [Bool.eq_iff_iff, decide_eq_true_eq]; exact term_sign w hn '+' (.inl rfl)
  · rw [Bool.eq_iff_iff, decide_eq_true_eq]; exact term_sign w hn '-' (.inr rfl)
theorem Tms.sure {n : Nat} {N N' : Mx Int} (h : Tms n N N') : sureM n N = sureM n N' := by
  unfold sureM
  rw [h.has, h.has]
end Sg

-- K40L
/-! K40L: the law's mathematics. -/
namespace Sg
open T M
theorem okC {α β : Type} {a : α} {f : α → T β} : (T.ok a).bind f = f a := id rfl
theorem forT_runC {α σ : Type} {f : α → σ → T σ} {P : List α → σ → Prop} : ∀ {xs done : List α} {s : σ}, P done s → (∀ x ∈ xs, ∀ done s, P done s → ∃ s', f x s = ok s' ∧ P (done ++ [x]) s') → ∃ s', forT f xs s = ok s' ∧ P (done ++ xs) s'
  | [], done, s, h, _ => ⟨s, rfl, by simpa using h⟩
  | x :: xs, done, s, h, hf => by
    obtain ⟨s1, e1, h1⟩ := hf x List.mem_cons_self done s h
    obtain ⟨s2, e2, h2⟩ := forT_runC (xs := xs) h1 fun y hy => hf y (List.mem_cons_of_mem _ hy)
    refine ⟨s2, ?_, by simpa using h2⟩
    show (f x s).bind _ = _
    rw [e1]; exact e2
/-- the drawn table -/
theorem table_wp {n : Nat} {P : List (List Char) → Nat → Prop} (hn : n < 2 ^ 58) (h : ∀ m w tb n', 1 ≤ m → m ≤ 4 → 1 ≤ w → w ≤ 6 → Tab m w tb → n' ≤ n + 40 → P tb n') : t_l_table_d.wp n P := by
  unfold t_l_table_d
  simp only [okC, bind_okT]
  rw [T.wp_bind, T.wp_bind]
  refine draw_wp (m := 4) (by omega) (by omega) (by omega) fun d hd => ?_
  rw [T.wp_ok, show (1 : Int) + (d : Int) = ((d + 1 : Nat) : Int) by omega, T.wp_bind, T.wp_bind]
  refine draw_wp (m := 6) (by omega) (by omega) (by omega) fun e he => ?_
  rw [T.wp_ok, show (1 : Int) + (e : Int) = ((e + 1 : Nat) : Int) by omega, T.wp_bind]
  refine pick_wpT (by decide) (by decide) (by omega) fun cs hcs => ?_
  have hcs : 1 ≤ cs.length ∧ cs.length ≤ 100 ∧ ∀ c ∈ cs, c ∈ sgs := by
    simp only [List.mem_cons, List.not_mem_nil, or_false] at hcs
    rcases hcs with rfl | rfl | rfl | rfl <;> refine ⟨by decide, by decide, fun c hc => ?_⟩ <;> simp only [List.mem_cons, List.not_mem_nil, or_false] at hc ⊢ <;> rcases hc with h | h | h | h | h <;> simp [h]
  generalize hm : d + 1 = m
  generalize hw : e + 1 = w
  have hmw : w * m ≤ 24 := Nat.le_trans (Nat.mul_le_mul (show w ≤ 6 by omega) (show m ≤ 4 by omega)) (by decide)
  rw [rngT_nat (show m ≤ 1000000 by omega), okC]
  refine forT_wp (k := w) (fun i (s : List (List Char)) => s.length = i ∧ ∀ r ∈ s, Row sgs w r) (i := 0) (by rw [nats_length]; omega) ⟨rfl, fun _ h => by cases h⟩ (fun j hj s n hn ⟨hs1, hs2⟩ => ?_) fun s n' ⟨hs1, hs2⟩ hn' => ?_
  · rw [nats_length] at hj
    rw [rngT_nat (show w ≤ 1000000 by omega), okC, T.wp_bind, T.wp_bind]
    refine mapT_wp (R := fun _ c => c ∈ cs) (k := 1) (by rw [nats_length]; omega) (fun x _ n hn => by
      rw [chkT_ok (by omega), okC]
      exact pick_wpT hcs.1 (by omega) (by omega) fun a ha => ⟨ha, Nat.le_refl _⟩) fun ys n' hl hR hn' => ?_
    rw [nats_length] at hl hn'
    rw [joinC_ok (by omega), wp_ok, pushT_ok (by omega), wp_ok]
    refine ⟨⟨by simp [hs1], fun r hr => ?_⟩, by omega⟩
    rcases List.mem_append.mp hr with hr | hr
    · exact hs2 r hr
    · rw [List.mem_singleton.mp hr]
      refine ⟨hl, fun c hc => ?_⟩
      obtain ⟨i, hi, rfl⟩ := List.getElem_of_mem hc
      exact hcs.2.2 _ (hR i (by rw [nats_length]; omega) hi)
  · rw [nats_length] at hs1 hn'
    exact h m w s n' (by omega) (by omega) (by omega) (by omega) ⟨by omega, hs2⟩ (by omega)
/-- all rows of signs -/
theorem ac_len : ∀ m : Nat, (allCh m).length = 3 ^ m
  | 0 => rfl
  | m + 1 => by
    show ((allCh m).map fun row => sgs.map fun s => row ++ [s]).flatten.length = _
    rw [List.length_flatten, List.map_map]
    have : (allCh m).map (List.length ∘ fun row => sgs.map fun s => row ++ [s]) = List.replicate (allCh m).length 3 := List.eq_replicate_iff.mpr ⟨by simp, fun x hx => by
      obtain ⟨r, _, rfl⟩ := List.mem_map.mp hx
      rfl⟩
    rw [this, ac_len m]; simp [Nat.pow_succ]
theorem step_ok {m : Nat} (h : m ≤ 3) {lv : List (List Char)} (e : lv = allCh m) : (T.forT (fun (x_row : List Char) s3 => ((chkT ['+', '-', '0'].length ['+', '-', '0']).bind fun xs => T.mapT (fun x_sign => appT x_row [x_sign]) xs).bind fun b => appT s3 b) lv []) = ok (allCh (m + 1)) := by
  subst e
  have hl := ac_len m
  have h27 : (allCh m).length ≤ 27 := by rw [hl]; exact Nat.le_trans (Nat.pow_le_pow_right (by decide) h) (by decide)
  have fl : ∀ i, (((allCh m).take i).map fun row => sgs.map fun c => row ++ [c]).flatten.length ≤ 3 * i := fun i => by
    rw [List.length_flatten, List.map_map]
    have : ((allCh m).take i).map (List.length ∘ fun row => sgs.map fun s => row ++ [s]) = List.replicate ((allCh m).take i).length 3 := List.eq_replicate_iff.mpr ⟨by simp, fun x hx => by
      obtain ⟨r, _, rfl⟩ := List.mem_map.mp hx
      rfl⟩
    rw [this]; simp; omega
  have := forT_inv (f := fun (x_row : List Char) s3 => ((chkT ['+', '-', '0'].length ['+', '-', '0']).bind fun xs => T.mapT (fun x_sign => appT x_row [x_sign]) xs).bind fun b => appT s3 b)
    (fun i => (((allCh m).take i).map fun row => sgs.map fun c => row ++ [c]).flatten) (xs := allCh m) fun i hi => by
      have hx := mem_allCh.mp (List.getElem_mem hi)
      have := fl i
      rw [chkT_ok (by decide), okC, mapT_eq (g := fun c => (allCh m)[i] ++ [c]) fun c _ => appT_ok (by simp [hx.1]; omega), okC, appT_ok (by simp at this ⊢; omega)]
      congr 1
      rw [List.take_succ_eq_append_getElem hi, List.map_append, List.flatten_append]; simp
  simp only [List.take_zero, List.map_nil, List.flatten_nil, List.take_length] at this
  exact this
def acFine (m : Nat) : Bool := decide (sortW ltS (allCh m) = allCh m)
theorem ac_sort {m : Nat} (h : m ≤ 4) : sortW ltS (allCh m) = allCh m :=
  of_decide_eq_true (to4 (P := fun m => acFine m = true) (by decide +kernel) (by decide +kernel) (by decide +kernel) (by decide +kernel) (by decide +kernel) h)
/-- the signs that a choice makes of a column -/
theorem nub_two {l : List Char} (h : ∀ c ∈ l, c = '+' ∨ c = '-') : (nub l).length = (if '+' ∈ l then 1 else 0) + (if '-' ∈ l then 1 else 0) := by
  have e := congrArg List.length (set_two h)
  rw [(sortW_perm (lt := ltC) (nub l)).length_eq, List.length_append] at e
  rw [e]
  split <;> split <;> rfl
theorem l_balances_ok {m w : Nat} {tb : List (List Char)} {c : List Char} (t : Tab m w tb) (hc : Row sgs m c) (h1 : 1 ≤ m) (hm : m ≤ 4) (hw : w ≤ 6) : t_l_balances tb c = ok (balB w c tb) := by
  have h0 : 0 < tb.length := by rw [t.1]; omega
  have hr0 := (t.2 _ (List.getElem_mem h0)).1
  have hat : atT tb 0 = ok tb[0] := atT_nat (i := 0) h0
  unfold t_l_balances
  simp only [okC, hat, bind_okT, lenT, t.1, rngT_nat (show m ≤ 1000000 by omega)]
  rw [lenS_ok (by rw [hr0]; omega)]
  simp only [okC, hr0, rngT_nat (show w ≤ 1000000 by omega)]
  rw [forX_all (p := fun x : Int => decide ((1 : Int) ∈ prs c tb x.toNat ↔ (-1 : Int) ∈ prs c tb x.toNat)) (r := false) fun x hx => ?_]
  · have e : (nats w).all (fun x : Int => decide ((1 : Int) ∈ prs c tb x.toNat ↔ (-1 : Int) ∈ prs c tb x.toNat)) = balB w c tb := by
      unfold nats balB
      rw [List.all_map]; rfl
    rw [e]
    cases balB w c tb <;> simp
  · obtain ⟨p, hp, rfl⟩ := nats_mem.mp hx
    have cat : ∀ i, i < m → atS c (i : Int) = ok (c[i]?.getD '0') := fun i hi => by
      have : i < c.length := by rw [hc.1]; exact hi
      rw [atS_nat this (by rw [hc.1, lim_eq]; omega)]; simp [this]
    rw [push_if (p := fun x : Int => (!decide (c[x.toNat]?.getD '0' = '0')) && !decide (sgC tb x.toNat p = '0')) (g := fun x : Int => if decide (c[x.toNat]?.getD '0' = sgC tb x.toNat p) = true then '+' else '-') (by simp; omega) fun x hx s hs => by
      obtain ⟨i, hi, rfl⟩ := nats_mem.mp hx
      have tat := tabC_at t (by omega) hi hp
      rw [cat i hi, okC]
      by_cases z : c[i]?.getD '0' = '0'
      · simp [z]
      · have e1 : (!decide (c[i]?.getD '0' = '0')) = true := by simp [z]
        simp only [e1, if_true, tat, okC, Int.toNat_natCast, Bool.true_and]
        by_cases y : sgC tb i p = '0'
        · simp [y]
        · have e2 : (!decide (sgC tb i p = '0')) = true := by simp [y]
          simp only [e2, if_true]
          split <;> simp only [okC] <;> exact pushT_ok hs]
    simp only [okC, List.nil_append, Int.toNat_natCast]
    generalize hS : (((nats m).filter fun x : Int => (!decide (c[x.toNat]?.getD '0' = '0')) && !decide (sgC tb x.toNat p = '0')).map fun x : Int => if decide (c[x.toNat]?.getD '0' = sgC tb x.toNat p) = true then '+' else '-') = S
    have hl : S.length ≤ 4 := by
      rw [← hS, List.length_map]
      have := List.length_filter_le (fun x : Int => (!decide (c[x.toNat]?.getD '0' = '0')) && !decide (sgC tb x.toNat p = '0')) (nats m)
      rw [nats_length] at this
      omega
    unfold lseT
    rw [if_pos (by omega), okC]
    have two : ∀ q ∈ S, q = '+' ∨ q = '-' := fun q hq => by
      rw [← hS] at hq
      obtain ⟨x, _, rfl⟩ := List.mem_map.mp hq
      split
      · exact .inl rfl
      · exact .inr rfl
    rw [nub_two two]
    have cs : ∀ i, i < m → c[i]?.getD '0' ∈ sgs := fun i hi => by
      have : i < c.length := by rw [hc.1]; exact hi
      simp only [List.getElem?_eq_getElem this, Option.getD_some]
      exact hc.2 _ (List.getElem_mem this)
    have key : ∀ a b : Char, a ∈ sgs → b ∈ sgs → ((fac a * fac b = 1 ↔ a ≠ '0' ∧ b ≠ '0' ∧ a = b) ∧ (fac a * fac b = -1 ↔ a ≠ '0' ∧ b ≠ '0' ∧ a ≠ b)) := by
      intro a b ha hb
      simp only [List.mem_cons, List.not_mem_nil, or_false] at ha hb
      rcases ha with rfl | rfl | rfl <;> rcases hb with rfl | rfl | rfl <;> decide
    have m1 : '+' ∈ S ↔ (1 : Int) ∈ prs c tb p := by
      rw [← hS, prs_range t hc.1, List.mem_map, List.mem_map]
      constructor
      · rintro ⟨x, hx, e⟩
        obtain ⟨h2, h3⟩ := List.mem_filter.mp hx
        obtain ⟨i, hi, rfl⟩ := nats_mem.mp h2
        refine ⟨i, List.mem_range.mpr hi, (key _ _ (cs i hi) (tabC_mem t hi hp)).1.mpr ?_⟩
        simp only [Int.toNat_natCast, Bool.and_eq_true, Bool.not_eq_true', decide_eq_false_iff_not, decide_eq_true_eq] at h3 e
        split at e
        · rename_i q; exact ⟨h3.1, h3.2, q⟩
        · cases e
      · rintro ⟨i, hi, e⟩
        have hi := List.mem_range.mp hi
        obtain ⟨a, b, d⟩ := (key _ _ (cs i hi) (tabC_mem t hi hp)).1.mp e
        refine ⟨(i : Int), List.mem_filter.mpr ⟨nats_mem.mpr ⟨i, hi, rfl⟩, by simp [a, b]⟩, by simp [d]⟩
    have m2 : '-' ∈ S ↔ (-1 : Int) ∈ prs c tb p := by
      rw [← hS, prs_range t hc.1, List.mem_map, List.mem_map]
      constructor
      · rintro ⟨x, hx, e⟩
        obtain ⟨h2, h3⟩ := List.mem_filter.mp hx
        obtain ⟨i, hi, rfl⟩ := nats_mem.mp h2
        refine ⟨i, List.mem_range.mpr hi, (key _ _ (cs i hi) (tabC_mem t hi hp)).2.mpr ?_⟩
        simp only [Int.toNat_natCast, Bool.and_eq_true, Bool.not_eq_true', decide_eq_false_iff_not, decide_eq_true_eq] at h3 e
        split at e
        · cases e
        · rename_i q; exact ⟨h3.1, h3.2, q⟩
      · rintro ⟨i, hi, e⟩
        have hi := List.mem_range.mp hi
        obtain ⟨a, b, d⟩ := (key _ _ (cs i hi) (tabC_mem t hi hp)).2.mp e
        refine ⟨(i : Int), List.mem_filter.mpr ⟨nats_mem.mpr ⟨i, hi, rfl⟩, by simp [a, b]⟩, by simp [d]⟩
    simp only [m1, m2]
    by_cases a : (1 : Int) ∈ prs c tb p <;> by_cases b : (-1 : Int) ∈ prs c tb p <;> simp [a, b]
/-! ### dependent sizes -/
def mixC (c : List Char) : List Int := c.map fac
theorem mixC_at (c : List Char) (i : Nat) : (mixC c)[i]?.getD 0 = fac (c[i]?.getD '0') := by
  unfold mixC
  rw [List.getElem?_map]
  cases c[i]? <;> rfl
theorem fac_bd (x : Char) : (fac x).natAbs < 2 ^ 8000 := Nat.lt_of_le_of_lt (fac_le x) (Nat.one_lt_two_pow (by decide))
theorem dependent_ok {m w : Nat} {tb : List (List Char)} (t : Tab m w tb) (h1 : 1 ≤ m) (hm : m ≤ 4) (g1 : 1 ≤ w) (hw : w ≤ 6) :
    t_dependent_sizes tb = ok (match fb m w tb with | [] => none | c :: _ => some (mkR m w (dpF c tb), mixC c)) := by
  unfold t_dependent_sizes
  simp only [okC, check_table_ok t h1 hm g1 hw, found_bal_ok t h1 hm hw, bind_okT]
  cases hf : fb m w tb with
  | nil => simp
  | cons c r =>
    have hc := (mem_fb.mp (show c ∈ fb m w tb by rw [hf]; exact List.mem_cons_self)).1
    have e0 : decide (c :: r = []) = false := by simp
    rw [e0, if_neg (by simp), show atT (c :: r) 0 = ok c from atT_nat (xs := c :: r) (i := 0) (by simp), okC]
    rw [push_loop (g := fun p : Int × List Char => (List.range w).map fun j => dpF c tb p.1.toNat j) (by rw [enum_eq [], List.length_map, List.length_range, t.1]; simp; omega) fun p hp st hst => ?_]
    · simp only [okC, List.nil_append]
      rw [chkT_ok (by rw [hc.1]; omega), okC, mapT_eq (g := fac) fun x hx => by rw [look_fac (hc.2 x hx)]; rfl]
      simp only [okC]
      congr 3
      rw [enum_eq [], List.map_map, t.1]; rfl
    · rw [enum_eq []] at hp
      obtain ⟨i, hi, rfl⟩ := List.mem_map.mp hp
      rw [List.mem_range] at hi
      have him : i < m := by rw [← t.1]; exact hi
      have hR := t.2 _ (List.getElem_mem hi)
      simp only [List.getElem?_eq_getElem hi, Option.getD_some]
      rw [chkT_ok (by rw [hR.1]; omega)]
      simp only [okC]
      have hic : i < c.length := by rw [hc.1]; exact him
      rw [push_loop (g := fun p : Int × Char => dpF c tb i p.1.toNat) (by rw [enum_eq '0', List.length_map, List.length_range, hR.1]; simp; omega) fun p hp st hst => ?_]
      · simp only [okC, List.nil_append]
        rw [pushT_ok hst]
        congr 3
        rw [enum_eq '0', List.map_map, hR.1]; rfl
      · rw [enum_eq '0'] at hp
        obtain ⟨j, hj, rfl⟩ := List.mem_map.mp hp
        rw [List.mem_range, hR.1] at hj
        have hjl : j < tb[i].length := by rw [hR.1]; exact hj
        have es : tb[i][j]?.getD '0' = sgC tb i j := by unfold sgC; simp [hi]
        have ec : c[i]?.getD '0' = c[i] := by simp [hic]
        rw [counts_ok t hc hm hw hj, okC, atS_nat hic (by rw [hc.1, lim_eq]; omega), okC, look_fac (hc.2 _ (List.getElem_mem hic)), opt_some, okC, es, look_fac (tabC_mem t him hj), opt_some, okC, mulT_ok (fac_bd _) (fac_bd _), okC]
        unfold dpF
        rw [ec]
        dsimp only [Int.toNat_natCast]
        by_cases a : fac c[i] * fac (sgC tb i j) = 1
        · simp only [a, decide_true, if_true, okC]; exact pushT_ok hst
        · simp only [a, decide_false, Bool.false_eq_true, if_false, okC]
          by_cases b : fac c[i] * fac (sgC tb i j) = -1
          · simp only [b, decide_true, if_true, okC]; exact pushT_ok hst
          · simp only [b, decide_false, Bool.false_eq_true, if_false, okC]; exact pushT_ok hst
/-! ### a mix judged -/
theorem is_dep_ok {far m w : Nat} {tb : List (List Char)} {sz : List (List Int)} {mix : List Int} (t : Tab m w tb) (h1 : 1 ≤ m) (hm : m ≤ 4) (g1 : 1 ≤ w) (hw : w ≤ 6) (s : Sz far tb sz) (hf : far ≤ 1000) (hl : mix.length = m) (hb : ∀ x ∈ mix, -1 ≤ x ∧ x ≤ 1) (hn : ∃ x ∈ mix, x ≠ 0)
    (hz : ∀ j, j < w → ((List.range m).map fun i => (mix[i]?.getD 0) * Mt (matOf tb sz) i j).sum = 0) : t_is_dependent tb sz mix = ok true := by
  have h0 : 0 < tb.length := by rw [t.1]; omega
  have hr0 := (t.2 _ (List.getElem_mem h0)).1
  have hat : atT tb 0 = ok tb[0] := atT_nat (i := 0) h0
  unfold t_is_dependent
  simp only [okC, check_table_ok t h1 hm g1 hw, are_sizes_okT t (by omega) (by omega) s (by omega), Bool.not_true, Bool.false_eq_true, if_false, beq_self_eq_true, lenT, hl, t.1, decide_true]
  rw [mapT_eq (g := fun x => decide (-1 ≤ x) && decide (x ≤ 1)) fun x _ => between_ok x (-1) 1, okC, okC]
  have e1 : (mix.map fun x => decide (-1 ≤ x) && decide (x ≤ 1)).all id = true := by
    rw [List.all_map, List.all_eq_true]
    intro x hx
    have := hb x hx
    simp [this.1, this.2]
  rw [e1]
  simp only [Bool.not_true, okC, Bool.false_eq_true, if_false, mapT_ok]
  have e2 : (mix.map fun x => !decide (x = 0)).any id = true := by
    obtain ⟨x, hx, hne⟩ := hn
    rw [List.any_map, List.any_eq_true]
    exact ⟨x, hx, by simp [hne]⟩
  rw [e2]
  simp only [Bool.not_true, Bool.false_eq_true, if_false]
  rw [found_matrix_okT t (by omega) (by omega) s (by omega), okC, hat, okC, lenS_ok (by rw [hr0]; omega), okC, hr0, rngT_nat (show w ≤ 1000000 by omega), okC]
  have hml : (matOf tb sz).length = m := by unfold matOf; rw [List.length_map, List.length_zip, s.1, t.1]; omega
  rw [mapT_eq (g := fun _ => true) fun x hx => ?_]
  · rw [okC, all_true fun _ _ => rfl]
  · obtain ⟨j, hj, rfl⟩ := nats_mem.mp hx
    rw [mapT_eq (g := fun q : Int × List Int => q.1 * (q.2[j]?.getD 0)) fun q hq => ?_]
    · rw [okC, okC, zip_range 0 [] _ hl hml]
      have := hz j hj
      have e : ((List.range m).map fun i => (mix[i]?.getD 0, (matOf tb sz)[i]?.getD []).1 * ((mix[i]?.getD 0, (matOf tb sz)[i]?.getD []).2[j]?.getD 0)).sum = 0 := this
      rw [e]; rfl
    · obtain ⟨i, hi, rfl⟩ := List.getElem_of_mem hq
      rw [List.length_zip] at hi
      simp only [List.getElem_zip]
      have him : i < m := by omega
      have hi2 : i < (matOf tb sz).length := by omega
      have hir : i < tb.length := by rw [t.1]; exact him
      have his : i < sz.length := by rw [s.1]; exact hir
      have hR := t.2 _ (List.getElem_mem hir)
      have hjl : j < tb[i].length := by rw [hR.1]; exact hj
      have hjs : j < sz[i].length := by rw [(s.2 i hir his).1]; exact hjl
      have q1 := mat_get hir his
      obtain ⟨_, q2⟩ := List.getElem?_eq_some_iff.mp q1
      have q3 := mat_get2 hjl hjs
      obtain ⟨q4, q5⟩ := List.getElem?_eq_some_iff.mp q3
      rw [q2, atT_nat q4, okC, q5, q3]
      have hx := hb _ (List.getElem_mem (show i < mix.length by omega))
      have hzz := tabZ_at t s him hj
      have hv : (fac tb[i][j] * sz[i][j]).natAbs ≤ 1000 := by
        have e1 : sgC tb i j = tb[i][j] := by unfold sgC; simp [hir, hjl]
        have e2 : Mt sz i j = sz[i][j] := by unfold Mt; simp [his, hjs]
        rw [e1, e2] at hzz
        rw [Int.natAbs_mul]
        have a := fac_le tb[i][j]
        have b : sz[i][j].natAbs ≤ 1000 := by
          split at hzz <;> omega
        exact Nat.le_trans (Nat.mul_le_mul a b) (by decide)
      exact mulT_ok (Nat.lt_of_le_of_lt (show _ ≤ 1 by omega) (Nat.one_lt_two_pow (by decide))) (Nat.lt_of_le_of_lt hv (Nat.lt_of_lt_of_le (show 1000 < 2 ^ 10 by decide) (Nat.pow_le_pow_right (by decide) (by decide))))
theorem bd2 {x : Int} {k : Nat} (h : x.natAbs ≤ k) (hk : k < 2 ^ 100 := by decide) : x.natAbs < 2 ^ 8000 := Nat.lt_of_le_of_lt h (Nat.lt_of_lt_of_le hk (Nat.pow_le_pow_right (by decide) (by decide)))
/-- a column of a mix -/
theorem col_ok {far m w : Nat} {tb : List (List Char)} {sz : List (List Int)} {mix : List Int} (t : Tab m w tb) (hm : m ≤ 4) (s : Sz far tb sz) (hf : far ≤ 1000) (hl : mix.length = m) (hb : ∀ x ∈ mix, x.natAbs ≤ 100) {j : Nat} (hj : j < w) :
    (T.mapT (fun x_i : Int => (atT mix x_i).bind fun a => ((atT (matOf tb sz) x_i).bind fun a => atT a (j : Int)).bind fun b => mulT a b) (nats m)) = ok ((List.range m).map fun i => (mix[i]?.getD 0) * Mt (matOf tb sz) i j) := by
  rw [mapT_eq (g := fun x : Int => (mix[x.toNat]?.getD 0) * Mt (matOf tb sz) x.toNat j) fun x hx => ?_]
  · unfold nats; rw [List.map_map]; rfl
  · obtain ⟨i, hi, rfl⟩ := nats_mem.mp hx
    have hil : i < mix.length := by rw [hl]; exact hi
    rw [atT_nat hil, okC, tabM_at t s hi hj, okC]
    have e : mix[(i : Int).toNat]?.getD 0 = mix[i] := by simp [hil]
    rw [e]
    have hzz := tabZ_at t s hi hj
    have hv : (Mt (matOf tb sz) i j).natAbs ≤ 1000 := by
      rw [tabM_eq t s hi hj, Int.natAbs_mul]
      have a := fac_le (sgC tb i j)
      have b : (Mt sz i j).natAbs ≤ 1000 := by split at hzz <;> omega
      exact Nat.le_trans (Nat.mul_le_mul a b) (by decide)
    exact mulT_ok (bd2 (hb _ (List.getElem_mem hil))) (bd2 hv)
theorem forX_wp {α ρ : Type} {f : α → Unit → T (Stp Unit ρ)} {k : Nat} : ∀ {xs : List α} {n : Nat} {P : Stp Unit ρ → Nat → Prop}, n + k * xs.length < 2 ^ 58 → (∀ x ∈ xs, ∀ n, n + k < 2 ^ 58 → (f x ()).wp n fun r n' => r = .nx () ∧ n' ≤ n + k) → (∀ n', n' ≤ n + k * xs.length → P (.nx ()) n') → (forX f xs ()).wp n P
  | [], n, P, _, _, h => T.wp_ok.mpr (h n (by simp))
  | x :: xs, n, P, hn, hf, h => by
    have hk : k * (x :: xs).length = k * xs.length + k := by rw [List.length_cons, Nat.mul_succ]
    show (T.bind _ _).wp _ _
    rw [T.wp_bind]
    refine T.wp_mono (fun r n' ⟨e, hn'⟩ => ?_) (hf x List.mem_cons_self n (by omega))
    subst e
    exact forX_wp (by omega) (fun y hy => hf y (List.mem_cons_of_mem _ hy)) fun n2 h2 => h n2 (by omega)
theorem law_done : t_law.wp 0 fun r _ => r = true := by
  unfold t_law
  simp only [okC, bind_okT]
  rw [T.wp_bind]
  refine table_wp (by omega) fun m w tb n1 h1 hm g1 hw t hn1 => ?_
  have h0 : 0 < tb.length := by rw [t.1]; omega
  have hr0 := (t.2 _ (List.getElem_mem h0)).1
  have hat : atT tb 0 = ok tb[0] := atT_nat (i := 0) h0
  have lv := forT_inv (f := fun (x_line : List Char) (s2 : List (List Char)) => T.forT (fun (x_row : List Char) s3 => ((chkT ['+', '-', '0'].length ['+', '-', '0']).bind fun xs => T.mapT (fun x_sign => appT x_row [x_sign]) xs).bind fun b => appT s3 b) s2 []) allCh (xs := tb) fun i hi => step_ok (by rw [t.1] at hi; omega) rfl
  rw [show allCh 0 = [[]] from rfl, t.1] at lv
  rw [lv, okC, ac_sort hm]
  simp only [lenT, t.1, hat, okC, lenS_ok (show tb[0].length ≤ 1000000 by rw [hr0]; omega), hr0, rngT_nat (show w ≤ 1000000 by omega), rngT_nat (show m ≤ 1000000 by omega)]
  have rz : repT ['0'] (m : Int) = ok (zs m) := by rw [repT_ok (by simp) (by omega), rep_one]; rfl
  have due : T.filT (fun x_row => ((repT ['0'] (m : Int)).bind fun b => ok (!decide (x_row = b))).bind fun a => if a = true then t_l_balances tb x_row else ok false) (fun x_row => ok x_row) (allCh m) = ok (fb m w tb) := by
    rw [filT_eq (p := fun c => !decide (c = zs m) && balB w c tb) (g := fun c => c) (fun c hc => ?_) fun _ _ _ => rfl, List.map_id']
    · congr 1
      unfold fb chF
      rw [List.filter_filter]
      refine List.filter_congr fun x _ => Bool.and_comm _ _
    · rw [rz, okC, okC]
      by_cases z : c = zs m
      · simp [z]
      · simp only [z, decide_false, Bool.not_false, if_true, Bool.true_and]
        exact l_balances_ok t (mem_allCh.mp hc) h1 hm hw
  rw [due]
  simp only [okC, balch_ok t h1 hm g1 hw, indep_ok t h1 hm g1 hw, dependent_ok t h1 hm g1 hw, decide_true, Bool.not_true, Bool.false_eq_true, if_false]
  cases hf : fb m w tb with
  | nil =>
    simp only [decide_true, Option.isNone_none, Bool.not_true, Bool.false_eq_true, if_false, Option.isSome_none]
    have hI : Ind m w tb := fb_nil.mp hf
    rw [show rngT 0 4 = ok (nats 4) from rngT_nat (n := 4) (by omega), okC, T.wp_bind]
    refine forX_wp (k := 40) (by rw [nats_length]; omega) (fun x _ n hn => ?_) fun n' _ => by rw [stp_nx, T.wp_ok]
    rw [T.wp_bind]
    refine sizes_wpT (far := 4) t (by omega) hw (by omega) (by omega) (by omega) fun sz n2 s hn2 => ?_
    rw [l_matrix_okT t (by omega) (by omega) s (by omega), okC, T.wp_bind]
    refine mapT_wp (R := fun _ (x : Int) => -4 ≤ x ∧ x ≤ 4) (k := 1) (by rw [t.1]; omega) (fun x _ n hn => by
      rw [T.wp_bind]
      refine draw_wp (m := 9) (by omega) (by omega) (by omega) fun d hd => ?_
      rw [T.wp_ok]; exact ⟨by omega, Nat.le_refl _⟩) fun mix n3 hl hR hn3 => ?_
    rw [t.1] at hl hn3
    have hb : ∀ x ∈ mix, x.natAbs ≤ 100 := fun x hx => by
      obtain ⟨i, hi, rfl⟩ := List.getElem_of_mem hx
      have := hR i (by rw [t.1]; omega) hi
      omega
    rw [mapT_eq (g := fun x : Int => ((List.range m).map fun i => (mix[i]?.getD 0) * Mt (matOf tb sz) i x.toNat).sum) fun x hx => by
      obtain ⟨j, hj, rfl⟩ := nats_mem.mp hx
      rw [col_ok t hm s (by omega) hl hb hj, okC]; rfl, okC]
    rw [filT_eq (p := fun x : Int => !decide (x = 0)) (g := fun x => x) (fun _ _ => rfl) fun _ _ _ => rfl, okC, List.map_id', filT_eq (p := fun x : Int => !decide (x = 0)) (g := fun x => x) (fun _ _ => rfl) fun _ _ _ => rfl, okC, List.map_id']
    by_cases hz : ((nats w).map fun x : Int => ((List.range m).map fun i => (mix[i]?.getD 0) * Mt (matOf tb sz) i x.toNat).sum).filter (fun x => !decide (x = 0)) = []
    · have zero : ∀ i, i < m → mix[i]?.getD 0 = 0 := ind_mix t s hI fun j hj => by
        rw [List.filter_eq_nil_iff] at hz
        have := hz _ (List.mem_map.mpr ⟨(j : Int), nats_mem.mpr ⟨j, hj, rfl⟩, rfl⟩)
        simpa using this
      have hmix : mix.filter (fun x => !decide (x = 0)) = [] := by
        rw [List.filter_eq_nil_iff]
        intro x hx
        obtain ⟨i, hi, rfl⟩ := List.getElem_of_mem hx
        have := zero i (by omega)
        rw [List.getElem?_eq_getElem hi] at this
        simpa using this
      rw [decide_eq_true hz, hmix]
      simp only [if_true, decide_true, Bool.not_true, Bool.false_eq_true, if_false, okC, T.wp_ok, true_and]
      omega
    · rw [decide_eq_false hz]
      simp only [Bool.false_eq_true, if_false, okC, T.wp_ok, true_and]
      omega
  | cons c r =>
    have hcm := mem_fb.mp (show c ∈ fb m w tb by rw [hf]; exact List.mem_cons_self)
    obtain ⟨hc, hcz, hbal⟩ := hcm
    have s := dp_sz t hc hm hbal
    have hl : (mixC c).length = m := by unfold mixC; rw [List.length_map]; exact hc.1
    have hb1 : ∀ x ∈ mixC c, -1 ≤ x ∧ x ≤ 1 := fun x hx => by
      obtain ⟨y, _, rfl⟩ := List.mem_map.mp hx
      have := fac_le y
      omega
    have hn : ∃ x ∈ mixC c, x ≠ 0 := by
      apply Classical.byContradiction
      intro z
      refine hcz ((zs_iff hc.1).mpr fun y hy => ?_)
      apply Classical.byContradiction
      intro q
      exact z ⟨fac y, List.mem_map.mpr ⟨y, hy, rfl⟩, fun e => q ((fac_zero (hc.2 y hy)).mp e)⟩
    have hz : ∀ j, j < w → ((List.range m).map fun i => ((mixC c)[i]?.getD 0) * Mt (matOf tb (mkR m w (dpF c tb))) i j).sum = 0 := fun j hj => by
      have := dp_zero t hc hm hbal hj
      simp only [mixC_at]; exact this
    simp only [Option.isNone_some, Option.isSome_some, opt_some, okC, List.cons_ne_nil, decide_false, decide_true, Bool.not_true, Bool.false_eq_true, if_false, if_true]
    rw [l_matrix_okT t (by omega) (by omega) s (by omega), okC]
    rw [forX_nx fun x hx => by
      obtain ⟨j, hj, rfl⟩ := nats_mem.mp hx
      rw [col_ok t hm s (by omega) hl (fun x hx => by have := hb1 x hx; omega) hj, okC, okC, hz j hj]; rfl]
    rw [okC, stp_nx, is_dep_ok t h1 hm g1 hw s (by omega) hl hb1 hn hz, okC, if_pos rfl]
    rw [filT_eq (p := fun x : Int => !decide (x = 0)) (g := fun x => x) (fun _ _ => rfl) fun _ _ _ => rfl, okC, List.map_id', T.wp_ok]
    obtain ⟨x, hx, hne⟩ := hn
    simp only [Bool.not_eq_true', decide_eq_false_iff_not, List.filter_eq_nil_iff]
    intro q
    exact q x hx (by simp [hne])
end Sg

namespace Sg
namespace T
def f_is_between : Fn := { np := 3, n := 3, body := (.cons (.ret (.and (.bi .isint (.cons (.var 0) .nil)) (.and (.not (.bi .isbool (.cons (.var 0) .nil))) (.cmp3 .le .le (.var 1) (.var 0) (.var 2))))) .nil) }
def f_are_sizes : Fn := { np := 2, n := 6, body := (.cons (.ite (.or (.not (.bi .istuple (.cons (.var 1) .nil))) (.cmp .ne (.bi .len (.cons (.var 1) .nil)) (.bi .len (.cons (.var 0) .nil)))) (.cons (.ret (.bl false)) .nil) .nil) (.cons (.for_ (.tup (.cons (.nm 2) (.cons (.nm 3) .nil))) (.zip (.var 0) (.var 1)) (.cons (.ite (.or (.not (.bi .istuple (.cons (.var 3) .nil))) (.cmp .ne (.bi .len (.cons (.var 3) .nil)) (.bi .len (.cons (.var 2) .nil)))) (.cons (.ret (.bl false)) .nil) .nil) (.cons (.for_ (.tup (.cons (.nm 4) (.cons (.nm 5) .nil))) (.zip (.var 2) (.var 3)) (.cons (.ite (.not (.call 0 (.cons (.var 5) (.cons (.bi .int (.cons (.cmp .ne (.var 4) (.str ['0'])) .nil)) (.cons (.bin .mul (.bin .pow (.int 10) (.int 30)) (.bi .int (.cons (.cmp .ne (.var 4) (.str ['0'])) .nil))) .nil))))) (.cons (.ret (.bl false)) .nil) .nil) .nil)) .nil))) (.cons (.ret (.bl true)) .nil))) }
def f_found_matrix : Fn := { np := 2, n := 7, body := (.cons (.asgo 2 (.lst .nil)) (.cons (.for_ (.tup (.cons (.nm 3) (.cons (.nm 4) .nil))) (.zip (.var 0) (.var 1)) (.cons (.app 2 (.bi .tuple (.cons (.lc [5, 6] (.tup (.cons (.nm 5) (.cons (.nm 6) .nil))) (.zip (.var 3) (.var 4)) (.bl true) (.bin .mul (.gix 0 (.var 5)) (.var 6))) .nil))) .nil)) (.cons (.ret (.bi .tuple (.cons (.var 2) .nil))) .nil))) }
def f_is_table : Fn := { np := 1, n := 3, body := (.cons (.ite (.or (.not (.bi .istuple (.cons (.var 0) .nil))) (.not (.cmp3 .le .le (.int 1) (.bi .len (.cons (.var 0) .nil)) (.int 4)))) (.cons (.ret (.bl false)) .nil) .nil) (.cons (.ite (.not (.bi .all (.cons (.lc [1] (.nm 1) (.var 0) (.bl true) (.and (.bi .isstr (.cons (.var 1) .nil)) (.cmp3 .le .le (.int 1) (.bi .len (.cons (.var 1) .nil)) (.int 6)))) .nil))) (.cons (.ret (.bl false)) .nil) .nil) (.cons (.ret (.and (.bi .all (.cons (.lc [1] (.nm 1) (.var 0) (.bl true) (.cmp .eq (.bi .len (.cons (.var 1) .nil)) (.bi .len (.cons (.idx (.var 0) (.int 0)) .nil)))) .nil)) (.bi .all (.cons (.lc2 [1, 2] [2] (.nm 1) (.var 0) (.bl true) (.nm 2) (.var 1) (.bl true) (.cmp .isin (.var 2) (.str ['+', '-', '0']))) .nil)))) .nil))) }
def f_check_table : Fn := { np := 1, n := 1, body := (.cons (.ite (.not (.call 3 (.cons (.var 0) .nil))) (.cons .nev .nil) .nil) .nil) }
def f_all_choices : Fn := { np := 1, n := 5, body := (.cons (.asg (.nm 1) (.lst (.cons (.str []) .nil))) (.cons (.for_ (.nm 2) (.rng1 (.var 0)) (.cons (.asg (.nm 1) (.lc2 [3, 4] [4] (.nm 3) (.var 1) (.bl true) (.nm 4) (.str ['+', '-', '0']) (.bl true) (.bin .add (.var 3) (.var 4)))) .nil)) (.cons (.ret (.lc [3] (.nm 3) (.var 1) (.cmp .ne (.var 3) (.bin .mul (.str ['0']) (.var 0))) (.var 3))) .nil))) }
def f_column_counts : Fn := { np := 3, n := 6, body := (.cons (.asg (.nm 3) (.lc [4, 5] (.tup (.cons (.nm 4) (.cons (.nm 5) .nil))) (.zip (.var 1) (.var 0)) (.bl true) (.bin .mul (.gix 0 (.var 4)) (.gix 0 (.idx (.var 5) (.var 2)))))) (.cons (.ret (.tup (.cons (.me .count (.var 3) (.cons (.int 1) .nil)) (.cons (.me .count (.var 3) (.cons (.neg (.int 1)) .nil)) .nil)))) .nil)) }
def f_does_balance : Fn := { np := 2, n := 5, body := (.cons (.for_ (.nm 2) (.rng1 (.bi .len (.cons (.idx (.var 0) (.int 0)) .nil))) (.cons (.asg (.tup (.cons (.nm 3) (.cons (.nm 4) .nil))) (.call 6 (.cons (.var 0) (.cons (.var 1) (.cons (.var 2) .nil))))) (.cons (.ite (.cmp .ne (.cmp .eq (.var 3) (.int 0)) (.cmp .eq (.var 4) (.int 0))) (.cons (.ret (.bl false)) .nil) .nil) .nil))) (.cons (.ret (.bl true)) .nil)) }
def f_found_balancing : Fn := { np := 1, n := 2, body := (.cons (.ret (.lc [1] (.nm 1) (.call 5 (.cons (.bi .len (.cons (.var 0) .nil)) .nil)) (.call 7 (.cons (.var 0) (.cons (.var 1) .nil))) (.var 1))) .nil) }
def f_balancing_choices : Fn := { np := 1, n := 1, body := (.cons (.ex (.call 4 (.cons (.var 0) .nil))) (.cons (.ret (.bi .tuple (.cons (.call 8 (.cons (.var 0) .nil)) .nil))) .nil)) }
def f_surely_independent : Fn := { np := 1, n := 1, body := (.cons (.ex (.call 4 (.cons (.var 0) .nil))) (.cons (.ret (.cmp .eq (.call 8 (.cons (.var 0) .nil)) (.lst .nil))) .nil)) }
def f_dependent_sizes : Fn := { np := 1, n := 13, body := (.cons (.ex (.call 4 (.cons (.var 0) .nil))) (.cons (.asg (.nm 1) (.call 8 (.cons (.var 0) .nil))) (.cons (.ite (.cmp .eq (.var 1) (.lst .nil)) (.cons (.ret .non) .nil) .nil) (.cons (.par [false, true] [2, 3] [(.idx (.var 1) (.int 0)), (.lst .nil)]) (.cons (.for_ (.tup (.cons (.nm 4) (.cons (.nm 5) .nil))) (.enum (.var 0)) (.cons (.asgo 6 (.lst .nil)) (.cons (.for_ (.tup (.cons (.nm 7) (.cons (.nm 8) .nil))) (.enum (.var 5)) (.cons (.asg (.tup (.cons (.nm 10) (.cons (.nm 11) .nil))) (.call 6 (.cons (.var 0) (.cons (.var 2) (.cons (.var 7) .nil))))) (.cons (.asg (.nm 9) (.bin .mul (.gix 0 (.idx (.var 2) (.var 4))) (.gix 0 (.var 8)))) (.cons (.app 6 (.ite (.cmp .eq (.var 9) (.int 1)) (.var 11) (.ite (.cmp .eq (.var 9) (.neg (.int 1))) (.var 10) (.bi .int (.cons (.cmp .ne (.var 8) (.str ['0'])) .nil))))) .nil)))) (.cons (.app 3 (.bi .tuple (.cons (.var 6) .nil))) .nil)))) (.cons (.ret (.tup (.cons (.bi .tuple (.cons (.var 3) .nil)) (.cons (.bi .tuple (.cons (.lc [12] (.nm 12) (.var 2) (.bl true) (.gix 0 (.var 12))) .nil)) .nil)))) .nil)))))) }
def f_is_dependent : Fn := { np := 3, n := 7, body := (.cons (.ex (.call 4 (.cons (.var 0) .nil))) (.cons (.ite (.not (.call 1 (.cons (.var 0) (.cons (.var 1) .nil)))) (.cons .nev .nil) .nil) (.cons (.ite (.or (.not (.bi .istuple (.cons (.var 2) .nil))) (.or (.cmp .ne (.bi .len (.cons (.var 2) .nil)) (.bi .len (.cons (.var 0) .nil))) (.not (.bi .all (.cons (.lc [5] (.nm 5) (.var 2) (.bl true) (.call 0 (.cons (.var 5) (.cons (.neg (.int 1)) (.cons (.int 1) .nil))))) .nil))))) (.cons (.ret (.bl false)) .nil) .nil) (.cons (.ite (.not (.bi .any (.cons (.lc [5] (.nm 5) (.var 2) (.bl true) (.cmp .ne (.var 5) (.int 0))) .nil))) (.cons (.ret (.bl false)) .nil) .nil) (.cons (.asg (.nm 3) (.call 2 (.cons (.var 0) (.cons (.var 1) .nil)))) (.cons (.ret (.bi .all (.cons (.lc [4] (.nm 4) (.rng1 (.bi .len (.cons (.idx (.var 0) (.int 0)) .nil))) (.bl true) (.cmp .eq (.bi .sum (.cons (.lc [5, 6] (.tup (.cons (.nm 5) (.cons (.nm 6) .nil))) (.zip (.var 2) (.var 3)) (.bl true) (.bin .mul (.var 5) (.idx (.var 6) (.var 4)))) .nil)) (.int 0))) .nil))) .nil)))))) }
def f__law_town : Fn := { np := 1, n := 1, body := (.cons (.ret (.bin .add (.lst (.cons (.int 0) .nil)) (.bi .list (.cons (.var 0) .nil)))) .nil) }
def f__law_draw : Fn := { np := 3, n := 6, body := (.cons (.sub 1 (.int 0) (.bin .add (.idx (.var 1) (.int 0)) (.int 1))) (.cons (.ite (.cmp .eq (.var 0) (.lst .nil)) (.cons (.ret (.bin .mod (.bin .fdiv (.bin .mul (.bin .mul (.idx (.var 1) (.int 0)) (.idx (.var 1) (.int 0))) (.int 7)) (.int 3)) (.var 2))) .nil) .nil) (.cons (.asg (.nm 3) (.bin .mod (.idx (.var 1) (.int 0)) (.bi .len (.cons (.var 0) .nil)))) (.cons (.asg (.nm 4) (.idx (.var 1) (.bin .add (.int 1) (.var 3)))) (.cons (.ite (.and (.cmp .ge (.idx (.var 0) (.var 3)) (.bin .pow (.int 10) (.int 18))) (.cmp .gt (.var 4) (.int 0))) (.cons (.sub 1 (.bin .add (.int 1) (.var 3)) (.bin .fdiv (.var 4) (.var 2))) (.cons (.ret (.bin .mod (.var 4) (.var 2))) .nil)) .nil) (.cons (.asg (.nm 5) (.bin .mod (.bin .add (.idx (.var 0) (.var 3)) (.bin .mul (.int 104729) (.idx (.var 1) (.int 0)))) (.int 4294967291))) (.cons (.asg (.nm 5) (.bin .mod (.bin .pow (.var 5) (.int 5)) (.int 4294967279))) (.cons (.ret (.bin .mod (.bin .fdiv (.bin .mod (.bin .add (.bin .mul (.bin .fdiv (.var 5) (.int 64)) (.int 69621)) (.var 5)) (.int 4294967231)) (.int 8)) (.var 2))) .nil)))))))) }
def f__law_pick : Fn := { np := 3, n := 3, body := (.cons (.ret (.idx (.var 2) (.call 14 (.cons (.var 0) (.cons (.var 1) (.cons (.bi .len (.cons (.var 2) .nil)) .nil)))))) .nil) }
def f__law_sizes : Fn := { np := 4, n := 7, body := (.cons (.asgo 4 (.lst .nil)) (.cons (.for_ (.nm 5) (.var 2) (.cons (.app 4 (.bi .tuple (.cons (.lc [6] (.nm 6) (.var 5) (.bl true) (.ite (.cmp .eq (.var 6) (.str ['0'])) (.int 0) (.bin .add (.int 1) (.call 14 (.cons (.var 0) (.cons (.var 1) (.cons (.var 3) .nil))))))) .nil))) .nil)) (.cons (.ret (.bi .tuple (.cons (.var 4) .nil))) .nil))) }
def f__law_matrix : Fn := { np := 2, n := 6, body := (.cons (.asgo 2 (.lst .nil)) (.cons (.for_ (.tup (.cons (.nm 3) (.cons (.nm 4) .nil))) (.zip (.var 0) (.var 1)) (.cons (.app 2 (.bi .tuple (.cons (.lc [5] (.nm 5) (.rng1 (.bi .len (.cons (.var 3) .nil))) (.bl true) (.bin .mul (.dix [.str ['+'], .str ['-'], .str ['0']] [.int 1, .int (-1), .int 0] (.idx (.var 3) (.var 5))) (.idx (.var 4) (.var 5)))) .nil))) .nil)) (.cons (.ret (.bi .tuple (.cons (.var 2) .nil))) .nil))) }
def f__law_table : Fn := { np := 2, n := 8, body := (.cons (.par [false, false] [3, 4] [(.bin .add (.int 1) (.call 14 (.cons (.var 0) (.cons (.var 1) (.cons (.int 4) .nil))))), (.bin .add (.int 1) (.call 14 (.cons (.var 0) (.cons (.var 1) (.cons (.int 6) .nil)))))]) (.cons (.par [false, true] [5, 6] [(.call 15 (.cons (.var 0) (.cons (.var 1) (.cons (.lst (.cons (.str ['+', '-', '0']) (.cons (.str ['+', '-']) (.cons (.str ['+', '-', '0', '0', '0']) (.cons (.str ['+', '0']) .nil))))) .nil)))), (.lst .nil)]) (.cons (.for_ (.nm 2) (.rng1 (.var 3)) (.cons (.app 6 (.me .join (.str []) (.cons (.lc [7] (.nm 7) (.rng1 (.var 4)) (.bl true) (.call 15 (.cons (.var 0) (.cons (.var 1) (.cons (.bi .list (.cons (.var 5) .nil)) .nil))))) .nil))) .nil)) (.cons (.ret (.bi .tuple (.cons (.var 6) .nil))) .nil)))) }
def f__law_balances : Fn := { np := 2, n := 5, body := (.cons (.for_ (.nm 2) (.rng1 (.bi .len (.cons (.idx (.var 0) (.int 0)) .nil))) (.cons (.asgo 3 (.lst .nil)) (.cons (.for_ (.nm 4) (.rng1 (.bi .len (.cons (.var 0) .nil))) (.cons (.ite (.and (.cmp .ne (.idx (.var 1) (.var 4)) (.str ['0'])) (.cmp .ne (.idx (.idx (.var 0) (.var 4)) (.var 2)) (.str ['0']))) (.cons (.app 3 (.ite (.cmp .eq (.idx (.var 1) (.var 4)) (.idx (.idx (.var 0) (.var 4)) (.var 2))) (.str ['+']) (.str ['-']))) .nil) .nil) .nil)) (.cons (.ite (.cmp .eq (.lset (.var 3)) (.int 1)) (.cons (.ret (.bl false)) .nil) .nil) .nil)))) (.cons (.ret (.bl true)) .nil)) }
def f_law : Fn := { np := 1, n := 18, body := (.cons (.asgb 1 (.call 13 (.cons (.var 0) .nil))) (.cons (.asg (.nm 2) (.call 18 (.cons (.var 0) (.cons (.var 1) .nil)))) (.cons (.asg (.nm 3) (.lst (.cons (.str []) .nil))) (.cons (.for_ (.nm 4) (.var 2) (.cons (.asg (.nm 8) (.lst .nil)) (.cons (.for_ (.nm 9) (.var 3) (.cons (.asg (.nm 8) (.bin .add (.var 8) (.lc [15] (.nm 15) (.str ['+', '-', '0']) (.bl true) (.bin .add (.var 9) (.var 15))))) .nil)) (.cons (.asg (.nm 3) (.var 8)) .nil)))) (.cons (.asg (.nm 5) (.lc [9] (.nm 9) (.bi .sorted (.cons (.var 3) .nil)) (.and (.cmp .ne (.var 9) (.bin .mul (.str ['0']) (.bi .len (.cons (.var 2) .nil)))) (.call 19 (.cons (.var 2) (.cons (.var 9) .nil)))) (.var 9))) (.cons (.ite (.or (.cmp .ne (.call 9 (.cons (.var 2) .nil)) (.bi .tuple (.cons (.var 5) .nil))) (.cmp .ne (.call 10 (.cons (.var 2) .nil)) (.cmp .eq (.var 5) (.lst .nil)))) (.cons (.ret (.bl false)) .nil) .nil) (.cons (.asg (.nm 6) (.call 11 (.cons (.var 2) .nil))) (.cons (.ite (.cmp .ne (.cmp .is (.var 6) .non) (.cmp .eq (.var 5) (.lst .nil))) (.cons (.ret (.bl false)) .nil) .nil) (.cons (.ite (.cmp .isnot (.var 6) .non) (.cons (.asg (.tup (.cons (.nm 12) (.cons (.nm 14) .nil))) (.var 6)) (.cons (.asg (.nm 10) (.call 17 (.cons (.var 2) (.cons (.var 12) .nil)))) (.cons (.for_ (.nm 11) (.rng1 (.bi .len (.cons (.idx (.var 2) (.int 0)) .nil))) (.cons (.ite (.cmp .ne (.bi .sum (.cons (.lc [17] (.nm 17) (.rng1 (.bi .len (.cons (.var 2) .nil))) (.bl true) (.bin .mul (.idx (.var 14) (.var 17)) (.idx (.idx (.var 10) (.var 17)) (.var 11)))) .nil)) (.int 0)) (.cons (.ret (.bl false)) .nil) .nil) .nil)) (.cons (.ret (.and (.call 12 (.cons (.var 2) (.cons (.var 12) (.cons (.var 14) .nil)))) (.cmp .ne (.lc [16] (.nm 16) (.var 14) (.cmp .ne (.var 16) (.int 0)) (.var 16)) (.lst .nil)))) .nil)))) .nil) (.cons (.for_ (.nm 7) (.rng1 (.int 4)) (.cons (.asg (.nm 12) (.call 16 (.cons (.var 0) (.cons (.var 1) (.cons (.var 2) (.cons (.int 4) .nil)))))) (.cons (.par [false, false] [10, 14] [(.call 17 (.cons (.var 2) (.cons (.var 12) .nil))), (.lc [4] (.nm 4) (.var 2) (.bl true) (.bin .sub (.call 14 (.cons (.var 0) (.cons (.var 1) (.cons (.int 9) .nil)))) (.int 4)))]) (.cons (.asg (.nm 13) (.lc [11] (.nm 11) (.rng1 (.bi .len (.cons (.idx (.var 2) (.int 0)) .nil))) (.bl true) (.bi .sum (.cons (.lc [17] (.nm 17) (.rng1 (.bi .len (.cons (.var 2) .nil))) (.bl true) (.bin .mul (.idx (.var 14) (.var 17)) (.idx (.idx (.var 10) (.var 17)) (.var 11)))) .nil)))) (.cons (.ite (.and (.cmp .eq (.lc [16] (.nm 16) (.var 13) (.cmp .ne (.var 16) (.int 0)) (.var 16)) (.lst .nil)) (.cmp .ne (.lc [16] (.nm 16) (.var 14) (.cmp .ne (.var 16) (.int 0)) (.var 16)) (.lst .nil))) (.cons (.ret (.bl false)) .nil) .nil) .nil))))) (.cons (.ret (.bl true)) .nil))))))))))) }
def fns : List Fn := [f_is_between, f_are_sizes, f_found_matrix, f_is_table, f_check_table, f_all_choices, f_column_counts, f_does_balance, f_found_balancing, f_balancing_choices, f_surely_independent, f_dependent_sizes, f_is_dependent, f__law_town, f__law_draw, f__law_pick, f__law_sizes, f__law_matrix, f__law_table, f__law_balances, f_law]
def tabs : List (List D × List D) := [([.str ['+'], .str ['-'], .str ['0']], [.int 1, .int (-1), .int 0])]
def g : Nat → List D × List D := fun i => tabs.getD i ([], [])
end T
namespace T
theorem s_draw {ns : List Int} (k : Nat) (i : Int) : Sim ns ((kap fns g (k + 1)).f 14 [.val (.scr ns), .bx 0, .val (eI i)]) (drawI i) (KRe eI) := sim_draw rfl k i
theorem s_pick {α : Type} {ns : List Int} (k : Nat) {e : α → D} (cs : List α) : Sim ns ((kap fns g (k + 2)).f 15 [.val (.scr ns), .bx 0, .val (eL e cs)]) (pickT cs) (KRe e) := sim_pick (iD := 14) rfl rfl k cs
theorem s_l_table {ns : List Int} (k : Nat)  : Sim ns ((kap fns g (k + 3)).f 18 [.val (.scr ns), .bx 0]) (t_l_table_d) (KRe (eT eS)) := by
  rw [kap_f (fn := f__law_table) rfl]
  exact f_R rfl (s_env [.val (.scr ns), .bx 0, .no, .no, .no, .no, .no, .no] rfl (s_par (pc_v (e_bin (e_g e_int) (e_g (e_call (a_var rfl <| a_box rfl <| a_cons e_int fun a => a_nil (s_draw (k + 1) a)))) fun a b => o_addI a b) fun x_many => pc_v (e_bin (e_g e_int) (e_g (e_call (a_var rfl <| a_box rfl <| a_cons e_int fun a => a_nil (s_draw (k + 1) a)))) fun a b => o_addI a b) fun x_wide => pc_nil (s_env [.val (.scr ns), .bx 0, .no, .val (eI x_many), .val (eI x_wide), .no, .no, .no] rfl (s_par (pc_v (e_call (a_var rfl <| a_box rfl <| a_cons (e_k (e_lst (e := (eL eS)) (k_cons e_str fun a1 => k_cons e_str fun a2 => k_cons e_str fun a3 => k_cons e_str fun a4 => k_nil rfl rfl))) fun a => a_nil (s_pick (k + 0) (e := eS) a))) fun x_signs => pc_o (e_lst (e := (eL eS)) (k_nil rfl rfl)) fun x_found => pc_nil (s_env [.val (.scr ns), .bx 0, .no, .val (eI x_many), .val (eI x_wide), .val (eS x_signs), .own ((eL eS) x_found), .no] rfl (seqN (fun (j5 : Jk) (s5 : (List (List Char))) => [.val (.scr ns), .bx 0, j5 0, .val (eI x_many), .val (eI x_wide), .val (eS x_signs), .own ((eL eS) s5), .no]) (s_for (E := (fun (j5 : Jk) (s5 : (List (List Char))) => [.val (.scr ns), .bx 0, j5 0, .val (eI x_many), .val (eI x_wide), .val (eS x_signs), .own ((eL eS) s5), .no])) (sl [.no]) (fun x_i j5 s5 => [.val (.scr ns), .bx 0, .val (eI x_i), .val (eI x_many), .val (eI x_wide), .val (eS x_signs), .own ((eL eS) s5), .no]) rfl (i_rng1 (e_var rfl)) (fun _ _ _ => rfl) fun x_i j5 s5 => (s_app (fun x_found => [.val (.scr ns), .bx 0, .val (eI x_i), .val (eI x_many), .val (eI x_wide), .val (eS x_signs), .own ((eL eS) x_found), .no]) rfl (e_me (e_g e_str) (e_fg (e_lc (fun x_j => [.val (.scr ns), .bx 0, .val (eI x_i), .val (eI x_many), .val (eI x_wide), .val (eS x_signs), .own ((eL eS) s5), .val (eI x_j)]) (i_rng1 (e_var rfl)) (fun _ => rfl) fun x_j => (e_call (a_var rfl <| a_box rfl <| a_cons (e_k (e_bi (e_g (e_var rfl)) fun a => b_lstS a)) fun a => a_nil (s_pick (k + 0) (e := eC) a))))) mk_join fun a b => m_joinLC a b) (fun _ => rfl) fun x_found => (nilN (sl [.val (eI x_i)]) rfl))) fun j5 s5 => (seqR (s_ret (e_bi (e_own rfl) fun a => b_tupL a)))))))))))
theorem s_l_balances {ns : List Int} (k : Nat) (x_table_here : List (List Char)) (x_choice : List Char) : Sim ns ((kap fns g (k + 1)).f 19 [.val ((eT eS) x_table_here), .val (eS x_choice)]) (t_l_balances x_table_here x_choice) (KRe eB) := by
  rw [kap_f (fn := f__law_balances) rfl]
  exact f_R rfl (s_env [.val ((eT eS) x_table_here), .val (eS x_choice), .no, .no, .no] rfl (seqXR (fun (j1 : Jk) (s1 : Unit) => [.val ((eT eS) x_table_here), .val (eS x_choice), j1 0, j1 1, j1 2]) (s_forX (E := (fun (j1 : Jk) (s1 : Unit) => [.val ((eT eS) x_table_here), .val (eS x_choice), j1 0, j1 1, j1 2])) (sl [.no, .no, .no]) (fun x_j j1 s1 => [.val ((eT eS) x_table_here), .val (eS x_choice), .val (eI x_j), j1 1, j1 2]) rfl (i_rng1 (e_bi (e_g (e_idx (e_g (e_var rfl)) (e_g e_int) fun a b => x_T a b)) fun a => b_lenS a)) (fun _ _ _ => rfl) fun x_j j1 s1 => (s_asgo (fun x_some => [.val ((eT eS) x_table_here), .val (eS x_choice), .val (eI x_j), .own ((eL eC) x_some), j1 2]) (e_lst (e := (eL eC)) (k_nil rfl rfl)) (fun _ => rfl) fun x_some => (seqN (fun (j2 : Jk) (s2 : (List Char)) => [.val ((eT eS) x_table_here), .val (eS x_choice), .val (eI x_j), .own ((eL eC) s2), j2 0]) (s_for (E := (fun (j2 : Jk) (s2 : (List Char)) => [.val ((eT eS) x_table_here), .val (eS x_choice), .val (eI x_j), .own ((eL eC) s2), j2 0])) (sl [j1 2]) (fun x_i j2 s2 => [.val ((eT eS) x_table_here), .val (eS x_choice), .val (eI x_j), .own ((eL eC) s2), .val (eI x_i)]) rfl (i_rng1 (e_bi (e_g (e_var rfl)) fun a => b_lenT a)) (fun _ _ _ => rfl) fun x_i j2 s2 => (seqN (fun (j3 : Jk) (s3 : (List Char)) => [.val ((eT eS) x_table_here), .val (eS x_choice), .val (eI x_j), .own ((eL eC) s3), .val (eI x_i)]) (s_ite (t_and (t_v rfl (e_g (e_cmp (e_g (e_idx (e_g (e_var rfl)) (e_g (e_var rfl)) fun a b => x_S a b)) (e_g e_chr) fun a b => c_ne fe_C (by decide) a b))) (t_v rfl (e_g (e_cmp (e_g (e_idx (e_g (e_idx (e_g (e_var rfl)) (e_g (e_var rfl)) fun a b => x_T a b)) (e_g (e_var rfl)) fun a b => x_S a b)) (e_g e_chr) fun a b => c_ne fe_C (by decide) a b)))) (s_app (fun x_some => [.val ((eT eS) x_table_here), .val (eS x_choice), .val (eI x_j), .own ((eL eC) x_some), .val (eI x_i)]) rfl (e_ite (t_v rfl (e_g (e_cmp (e_g (e_idx (e_g (e_var rfl)) (e_g (e_var rfl)) fun a b => x_S a b)) (e_g (e_idx (e_g (e_idx (e_g (e_var rfl)) (e_g (e_var rfl)) fun a b => x_T a b)) (e_g (e_var rfl)) fun a b => x_S a b)) fun a b => c_eq fe_C (by decide) a b))) e_chr e_chr) (fun _ => rfl) fun x_some => (nilN (sl []) rfl)) (nilN (sl []) rfl)) fun j3 s3 => (nilN (sl [.val (eI x_i)]) rfl))) fun j2 s2 => (s_ifX (t_v rfl (e_g (e_cmp (e_g (e_lset (e_own rfl) fun a => y_C a)) (e_g e_int) fun a b => c_eq fe_I (by decide) a b))) (seqR (s_ret e_bl)) (nilX (sl [.val (eI x_j), .own ((eL eC) s2), j2 0]) rfl))))) fun j1 s1 => (seqR (s_ret e_bl))))
theorem s_is_table {ns : List Int} (k : Nat) (x_value : List (List Char)) : Sim ns ((kap fns g (k + 1)).f 3 [.val ((eT eS) x_value)]) (t_is_table x_value) (KRe eB) := by
  rw [kap_f (fn := f_is_table) rfl]
  exact f_R rfl (s_env [.val ((eT eS) x_value), .no, .no] rfl (s_ifR (t_or (t_not (t_v rfl (e_g (e_bi (e_g (e_var rfl)) fun a => b_istup (n := "tuple") (fun _ => rfl) a)))) (t_not (t_v rfl (e_g (e_cmp3 (e_g e_int) (e_g (e_bi (e_g (e_var rfl)) fun a => b_lenT a)) (e_g e_int) (fun a b => c_le a b) fun a b => c_le a b))))) (seqR (s_ret e_bl)) (s_ifR (t_not (t_v rfl (e_g (e_bi (e_fg (e_lc (fun x_row => [.val ((eT eS) x_value), .val (eS x_row), .no]) (i_v rfl (e_var rfl) it_T) (fun _ => rfl) fun x_row => (e_and (e_bi (e_g (e_var rfl)) fun a => b_isstr (n := "str") (fun _ => rfl) a) (e_cmp3 (e_g e_int) (e_g (e_bi (e_g (e_var rfl)) fun a => b_lenS a)) (e_g e_int) (fun a b => c_le a b) fun a b => c_le a b)))) fun a => b_all a)))) (seqR (s_ret e_bl)) (seqR (s_ret (e_and (e_bi (e_fg (e_lc (fun x_row => [.val ((eT eS) x_value), .val (eS x_row), .no]) (i_v rfl (e_var rfl) it_T) (fun _ => rfl) fun x_row => (e_cmp (e_g (e_bi (e_g (e_var rfl)) fun a => b_lenS a)) (e_g (e_bi (e_g (e_idx (e_g (e_var rfl)) (e_g e_int) fun a b => x_T a b)) fun a => b_lenS a)) fun a b => c_eq fe_I (by decide) a b))) fun a => b_all a) (e_bi (e_fg (e_lc2 (fun x_row => [.val ((eT eS) x_value), .val (eS x_row), .no]) (fun x_row x_sign => [.val ((eT eS) x_value), .val (eS x_row), .val (eC x_sign)]) (i_v rfl (e_var rfl) it_T) (fun _ => rfl) (fun x_row => (i_v rfl (e_var rfl) it_S)) (fun _ _ => rfl) fun x_row x_sign => (e_cmp (e_g (e_var rfl)) (e_g e_str) fun a b => c_inS a b))) fun a => b_all a)))))))
theorem s_check_table {ns : List Int} (k : Nat) (x_table : List (List Char)) : Sim ns ((kap fns g (k + 2)).f 4 [.val ((eT eS) x_table)]) (t_check_table x_table) (KRe eN) := by
  rw [kap_f (fn := f_check_table) rfl]
  exact f_N (E := (fun (j : Jk) (s0 : Unit) => [j 0])) rfl (s_env [.val ((eT eS) x_table)] rfl (s_ifB (t_not (t_v rfl (e_g (e_call (a_cons (e_var rfl) fun a1 => a_nil (s_is_table (k + 0) a1)))))) (nilN (sl [.val ((eT eS) x_table)]) rfl)))
theorem s_all_choices {ns : List Int} (k : Nat) (x_many : Int) : Sim ns ((kap fns g (k + 1)).f 5 [.val (eI x_many)]) (t_all_choices x_many) (FRe (eL eS)) := by
  rw [kap_f (fn := f_all_choices) rfl]
  exact f_R rfl (s_env [.val (eI x_many), .no, .no, .no, .no] rfl (s_asg (fun x_rows => [.val (eI x_many), .val ((eL eS) x_rows), .no, .no, .no]) (e_k (e_lst (e := (eL eS)) (k_cons e_str fun a1 => k_nil rfl rfl))) (fun _ => rfl) fun x_rows => (seqN (fun (j2 : Jk) (s2 : (List (List Char))) => [.val (eI x_many), .val ((eL eS) s2), j2 0, .no, .no]) (s_for (E := (fun (j2 : Jk) (s2 : (List (List Char))) => [.val (eI x_many), .val ((eL eS) s2), j2 0, .no, .no])) (sl [.no]) (fun x_time j2 s2 => [.val (eI x_many), .val ((eL eS) s2), .val (eI x_time), .no, .no]) rfl (i_rng1 (e_var rfl)) (fun _ _ _ => rfl) fun x_time j2 s2 => (s_asg (fun x_rows => [.val (eI x_many), .val ((eL eS) x_rows), .val (eI x_time), .no, .no]) (e_k (e_lc2 (fun x_row => [.val (eI x_many), .val ((eL eS) s2), .val (eI x_time), .val (eS x_row), .no]) (fun x_row x_sign => [.val (eI x_many), .val ((eL eS) s2), .val (eI x_time), .val (eS x_row), .val (eC x_sign)]) (i_v rfl (e_var rfl) it_L) (fun _ => rfl) (fun x_row => (i_v rfl e_str it_S)) (fun _ _ => rfl) fun x_row x_sign => (e_bin (e_g (e_var rfl)) (e_g (e_cs (e_var rfl))) fun a b => o_addS a b))) (fun _ => rfl) fun x_rows => (nilN (sl [.val (eI x_time)]) rfl))) fun j2 s2 => (seqR (s_retF (e_lcf (fun x_row => [.val (eI x_many), .val ((eL eS) s2), j2 0, .val (eS x_row), .no]) (i_v rfl (e_var rfl) it_L) (fun _ => rfl) (fun x_row => (t_v rfl (e_g (e_cmp (e_g (e_var rfl)) (e_g (e_bin (e_g e_str) (e_g (e_var rfl)) fun a b => o_mulS a b)) fun a b => c_ne fe_S (by decide) a b)))) fun x_row => (e_var rfl)))))))
theorem s_column_counts {ns : List Int} (k : Nat) (x_table : List (List Char)) (x_choice : List Char) (x_place : Int) : Sim ns ((kap fns g (k + 1)).f 6 [.val ((eT eS) x_table), .val (eS x_choice), .val (eI x_place)]) (t_column_counts x_table x_choice x_place) (KRe (eP eI eI)) := by
  rw [kap_f (fn := f_column_counts) rfl]
  exact f_R rfl (s_env [.val ((eT eS) x_table), .val (eS x_choice), .val (eI x_place), .no, .no, .no] rfl (s_asg (fun x_some => [.val ((eT eS) x_table), .val (eS x_choice), .val (eI x_place), .val ((eL eI) x_some), .no, .no]) (e_k (e_lc (fun a1 => [.val ((eT eS) x_table), .val (eS x_choice), .val (eI x_place), .no, .val (eC a1.1), .val (eS a1.2)]) (i_zip (e_var rfl) (e_var rfl) it_S it_T) (fun _ => rfl) fun a1 => (e_bin (e_g (e_gix kap_gg (e_g (e_var rfl)) fun a => d_look fe_C (ks := ['+', '-', '0']) (vs := [1, -1, 0]) (ec := eI) rfl rfl a)) (e_g (e_gix kap_gg (e_g (e_idx (e_g (e_var rfl)) (e_g (e_var rfl)) fun a b => x_S a b)) fun a => d_look fe_C (ks := ['+', '-', '0']) (vs := [1, -1, 0]) (ec := eI) rfl rfl a)) fun a b => o_mulI a b))) (fun _ => rfl) fun x_some => (seqR (s_ret (e_tup (e := (eP eI eI)) (k_cons (e_me (e_g (e_var rfl)) (e_g e_int) mk_cntL fun a b => m_cntL fe_I (by decide) a b) fun a2 => k_cons (e_me (e_g (e_var rfl)) (e_g (e_neg e_int)) mk_cntL fun a b => m_cntL fe_I (by decide) a b) fun a3 => k_nil rfl (.val _)))))))
theorem s_does_balance {ns : List Int} (k : Nat) (x_table : List (List Char)) (x_choice : List Char) : Sim ns ((kap fns g (k + 2)).f 7 [.val ((eT eS) x_table), .val (eS x_choice)]) (t_does_balance x_table x_choice) (KRe eB) := by
  rw [kap_f (fn := f_does_balance) rfl]
  exact f_R rfl (s_env [.val ((eT eS) x_table), .val (eS x_choice), .no, .no, .no] rfl (seqXR (fun (j1 : Jk) (s1 : Unit) => [.val ((eT eS) x_table), .val (eS x_choice), j1 0, j1 1, j1 2]) (s_forX (E := (fun (j1 : Jk) (s1 : Unit) => [.val ((eT eS) x_table), .val (eS x_choice), j1 0, j1 1, j1 2])) (sl [.no, .no, .no]) (fun x_place j1 s1 => [.val ((eT eS) x_table), .val (eS x_choice), .val (eI x_place), j1 1, j1 2]) rfl (i_rng1 (e_bi (e_g (e_idx (e_g (e_var rfl)) (e_g e_int) fun a b => x_T a b)) fun a => b_lenS a)) (fun _ _ _ => rfl) fun x_place j1 s1 => (s_asgT (fun a5 => [.val ((eT eS) x_table), .val (eS x_choice), .val (eI x_place), .val (eI a5.1), .val (eI a5.2)]) (e_call (a_cons (e_var rfl) fun a2 => a_cons (e_var rfl) fun a3 => a_cons (e_var rfl) fun a4 => a_nil (s_column_counts (k + 0) a2 a3 a4))) (fun _ => rfl) fun a5 => (s_ifX (t_v rfl (e_g (e_cmp (e_g (e_cmp (e_g (e_var rfl)) (e_g e_int) fun a b => c_eq fe_I (by decide) a b)) (e_g (e_cmp (e_g (e_var rfl)) (e_g e_int) fun a b => c_eq fe_I (by decide) a b)) fun a b => c_ne fe_B (by decide) a b))) (seqR (s_ret e_bl)) (nilX (sl [.val (eI x_place), .val (eI a5.1), .val (eI a5.2)]) rfl)))) fun j1 s1 => (seqR (s_ret e_bl))))
theorem s_found_balancing {ns : List Int} (k : Nat) (x_table : List (List Char)) : Sim ns ((kap fns g (k + 3)).f 8 [.val ((eT eS) x_table)]) (t_found_balancing x_table) (FRe (eL eS)) := by
  rw [kap_f (fn := f_found_balancing) rfl]
  exact f_R rfl (s_env [.val ((eT eS) x_table), .no] rfl (seqR (s_retF (e_lcf (fun x_choice => [.val ((eT eS) x_table), .val (eS x_choice)]) (i_v rfl (e_k (e_call (a_cons (e_bi (e_g (e_var rfl)) fun a => b_lenT a) fun a1 => a_nil (s_all_choices (k + 1) a1)))) it_L) (fun _ => rfl) (fun x_choice => (t_v rfl (e_g (e_call (a_cons (e_var rfl) fun a2 => a_cons (e_var rfl) fun a3 => a_nil (s_does_balance (k + 0) a2 a3)))))) fun x_choice => (e_var rfl)))))
theorem s_surely_independent {ns : List Int} (k : Nat) (x_table : List (List Char)) : Sim ns ((kap fns g (k + 4)).f 10 [.val ((eT eS) x_table)]) (t_surely_independent x_table) (KRe eB) := by
  rw [kap_f (fn := f_surely_independent) rfl]
  exact f_R rfl (s_env [.val ((eT eS) x_table)] rfl (s_ex (e_call (a_cons (e_var rfl) fun a1 => a_nil (s_check_table (k + 1) a1))) fun _ => (seqR (s_ret (e_cmp (e_fg (e_call (a_cons (e_var rfl) fun a2 => a_nil (s_found_balancing (k + 0) a2)))) (e_fg (e_lst (e := (eL eS)) (k_nil rfl rfl))) fun a b => c_eq (fe_L fe_S) (by decide) a b)))))
theorem s_balancing_choices {ns : List Int} (k : Nat) (x_table : List (List Char)) : Sim ns ((kap fns g (k + 4)).f 9 [.val ((eT eS) x_table)]) (t_balancing_choices x_table) (KRe (eT eS)) := by
  rw [kap_f (fn := f_balancing_choices) rfl]
  exact f_R rfl (s_env [.val ((eT eS) x_table)] rfl (s_ex (e_call (a_cons (e_var rfl) fun a1 => a_nil (s_check_table (k + 1) a1))) fun _ => (seqR (s_ret (e_bi (e_fg (e_call (a_cons (e_var rfl) fun a2 => a_nil (s_found_balancing (k + 0) a2)))) fun a => b_tupL a)))))
theorem s_dependent_sizes {ns : List Int} (k : Nat) (x_table : List (List Char)) : Sim ns ((kap fns g (k + 4)).f 11 [.val ((eT eS) x_table)]) (t_dependent_sizes x_table) (KRe (eO (eP (eT (eT eI)) (eT eI)))) := by
  rw [kap_f (fn := f_dependent_sizes) rfl]
  exact f_R rfl (s_env [.val ((eT eS) x_table), .no, .no, .no, .no, .no, .no, .no, .no, .no, .no, .no, .no] rfl (s_ex (e_call (a_cons (e_var rfl) fun a1 => a_nil (s_check_table (k + 1) a1))) fun _ => (s_asg (fun x_some => [.val ((eT eS) x_table), .val ((eL eS) x_some), .no, .no, .no, .no, .no, .no, .no, .no, .no, .no, .no]) (e_k (e_call (a_cons (e_var rfl) fun a2 => a_nil (s_found_balancing (k + 0) a2)))) (fun _ => rfl) fun x_some => (s_ifR (t_v rfl (e_g (e_cmp (e_g (e_var rfl)) (e_fg (e_lst (e := (eL eS)) (k_nil rfl rfl))) fun a b => c_eq (fe_L fe_S) (by decide) a b))) (seqR (s_ret e_no)) (s_par (pc_v (e_idx (e_g (e_var rfl)) (e_g e_int) fun a b => x_L a b) fun x_choice => pc_o (e_lst (e := (eL (eT eI))) (k_nil rfl rfl)) fun x_rows => pc_nil (s_env [.val ((eT eS) x_table), .val ((eL eS) x_some), .val (eS x_choice), .own ((eL (eT eI)) x_rows), .no, .no, .no, .no, .no, .no, .no, .no, .no] rfl (seqN (fun (j3 : Jk) (s3 : (List (List Int))) => [.val ((eT eS) x_table), .val ((eL eS) x_some), .val (eS x_choice), .own ((eL (eT eI)) s3), j3 0, j3 1, j3 2, j3 3, j3 4, j3 5, j3 6, j3 7, .no]) (s_for (E := (fun (j3 : Jk) (s3 : (List (List Int))) => [.val ((eT eS) x_table), .val ((eL eS) x_some), .val (eS x_choice), .own ((eL (eT eI)) s3), j3 0, j3 1, j3 2, j3 3, j3 4, j3 5, j3 6, j3 7, .no])) (sl [.no, .no, .no, .no, .no, .no, .no, .no]) (fun a4 j3 s3 => [.val ((eT eS) x_table), .val ((eL eS) x_some), .val (eS x_choice), .own ((eL (eT eI)) s3), .val (eI a4.1), .val (eS a4.2), j3 2, j3 3, j3 4, j3 5, j3 6, j3 7, .no]) rfl (i_enum (e_var rfl) it_T) (fun _ _ _ => rfl) fun a4 j3 s3 => (s_asgo (fun x_found => [.val ((eT eS) x_table), .val ((eL eS) x_some), .val (eS x_choice), .own ((eL (eT eI)) s3), .val (eI a4.1), .val (eS a4.2), .own ((eL eI) x_found), j3 3, j3 4, j3 5, j3 6, j3 7, .no]) (e_lst (e := (eL eI)) (k_nil rfl rfl)) (fun _ => rfl) fun x_found => (seqN (fun (j5 : Jk) (s5 : (List Int)) => [.val ((eT eS) x_table), .val ((eL eS) x_some), .val (eS x_choice), .own ((eL (eT eI)) s3), .val (eI a4.1), .val (eS a4.2), .own ((eL eI) s5), j5 0, j5 1, j5 2, j5 3, j5 4, .no]) (s_for (E := (fun (j5 : Jk) (s5 : (List Int)) => [.val ((eT eS) x_table), .val ((eL eS) x_some), .val (eS x_choice), .own ((eL (eT eI)) s3), .val (eI a4.1), .val (eS a4.2), .own ((eL eI) s5), j5 0, j5 1, j5 2, j5 3, j5 4, .no])) (sl [j3 3, j3 4, j3 5, j3 6, j3 7]) (fun a6 j5 s5 => [.val ((eT eS) x_table), .val ((eL eS) x_some), .val (eS x_choice), .own ((eL (eT eI)) s3), .val (eI a4.1), .val (eS a4.2), .own ((eL eI) s5), .val (eI a6.1), .val (eC a6.2), j5 2, j5 3, j5 4, .no]) rfl (i_enum (e_var rfl) it_S) (fun _ _ _ => rfl) fun a6 j5 s5 => (s_asgT (fun a10 => [.val ((eT eS) x_table), .val ((eL eS) x_some), .val (eS x_choice), .own ((eL (eT eI)) s3), .val (eI a4.1), .val (eS a4.2), .own ((eL eI) s5), .val (eI a6.1), .val (eC a6.2), j5 2, .val (eI a10.1), .val (eI a10.2), .no]) (e_call (a_cons (e_var rfl) fun a7 => a_cons (e_var rfl) fun a8 => a_cons (e_var rfl) fun a9 => a_nil (s_column_counts (k + 2) a7 a8 a9))) (fun _ => rfl) fun a10 => (s_asg (fun x_factor => [.val ((eT eS) x_table), .val ((eL eS) x_some), .val (eS x_choice), .own ((eL (eT eI)) s3), .val (eI a4.1), .val (eS a4.2), .own ((eL eI) s5), .val (eI a6.1), .val (eC a6.2), .val (eI x_factor), .val (eI a10.1), .val (eI a10.2), .no]) (e_bin (e_g (e_gix kap_gg (e_g (e_idx (e_g (e_var rfl)) (e_g (e_var rfl)) fun a b => x_S a b)) fun a => d_look fe_C (ks := ['+', '-', '0']) (vs := [1, -1, 0]) (ec := eI) rfl rfl a)) (e_g (e_gix kap_gg (e_g (e_var rfl)) fun a => d_look fe_C (ks := ['+', '-', '0']) (vs := [1, -1, 0]) (ec := eI) rfl rfl a)) fun a b => o_mulI a b) (fun _ => rfl) fun x_factor => (s_app (fun x_found => [.val ((eT eS) x_table), .val ((eL eS) x_some), .val (eS x_choice), .own ((eL (eT eI)) s3), .val (eI a4.1), .val (eS a4.2), .own ((eL eI) x_found), .val (eI a6.1), .val (eC a6.2), .val (eI x_factor), .val (eI a10.1), .val (eI a10.2), .no]) rfl (e_ite (t_v rfl (e_g (e_cmp (e_g (e_var rfl)) (e_g e_int) fun a b => c_eq fe_I (by decide) a b))) (e_var rfl) (e_ite (t_v rfl (e_g (e_cmp (e_g (e_var rfl)) (e_g (e_neg e_int)) fun a b => c_eq fe_I (by decide) a b))) (e_var rfl) (e_bi (e_g (e_cmp (e_g (e_var rfl)) (e_g e_chr) fun a b => c_ne fe_C (by decide) a b)) fun a => b_intB a))) (fun _ => rfl) fun x_found => (nilN (sl [.val (eI a6.1), .val (eC a6.2), .val (eI x_factor), .val (eI a10.1), .val (eI a10.2)]) rfl))))) fun j5 s5 => (s_app (fun x_rows => [.val ((eT eS) x_table), .val ((eL eS) x_some), .val (eS x_choice), .own ((eL (eT eI)) x_rows), .val (eI a4.1), .val (eS a4.2), .own ((eL eI) s5), j5 0, j5 1, j5 2, j5 3, j5 4, .no]) rfl (e_bi (e_own rfl) fun a => b_tupL a) (fun _ => rfl) fun x_rows => (nilN (sl [.val (eI a4.1), .val (eS a4.2), .own ((eL eI) s5), j5 0, j5 1, j5 2, j5 3, j5 4]) rfl))))) fun j3 s3 => (seqR (s_ret (e_so (e_tup (e := (eP (eT (eT eI)) (eT eI))) (k_cons (e_bi (e_own rfl) fun a => b_tupL a) fun a11 => k_cons (e_bi (e_fg (e_lc (fun x_one => [.val ((eT eS) x_table), .val ((eL eS) x_some), .val (eS x_choice), .own ((eL (eT eI)) s3), j3 0, j3 1, j3 2, j3 3, j3 4, j3 5, j3 6, j3 7, .val (eC x_one)]) (i_v rfl (e_var rfl) it_S) (fun _ => rfl) fun x_one => (e_gix kap_gg (e_g (e_var rfl)) fun a => d_look fe_C (ks := ['+', '-', '0']) (vs := [1, -1, 0]) (ec := eI) rfl rfl a))) fun a => b_tupL a) fun a12 => k_nil rfl (.val _))))))))))))))
theorem s_l_matrix {ns : List Int} (k : Nat) (x_rows : List (List Char)) (x_sizes_here : List (List Int)) : Sim ns ((kap fns g (k + 1)).f 17 [.val ((eT eS) x_rows), .val ((eT (eT eI)) x_sizes_here)]) (t_l_matrix x_rows x_sizes_here) (KRe (eT (eT eI))) := by
  rw [kap_f (fn := f__law_matrix) rfl]
  exact f_R rfl (s_env [.val ((eT eS) x_rows), .val ((eT (eT eI)) x_sizes_here), .no, .no, .no, .no] rfl (s_asgo (fun x_found => [.val ((eT eS) x_rows), .val ((eT (eT eI)) x_sizes_here), .own ((eL (eT eI)) x_found), .no, .no, .no]) (e_lst (e := (eL (eT eI))) (k_nil rfl rfl)) (fun _ => rfl) fun x_found => (seqN (fun (j1 : Jk) (s1 : (List (List Int))) => [.val ((eT eS) x_rows), .val ((eT (eT eI)) x_sizes_here), .own ((eL (eT eI)) s1), j1 0, j1 1, .no]) (s_for (E := (fun (j1 : Jk) (s1 : (List (List Int))) => [.val ((eT eS) x_rows), .val ((eT (eT eI)) x_sizes_here), .own ((eL (eT eI)) s1), j1 0, j1 1, .no])) (sl [.no, .no]) (fun a2 j1 s1 => [.val ((eT eS) x_rows), .val ((eT (eT eI)) x_sizes_here), .own ((eL (eT eI)) s1), .val (eS a2.1), .val ((eT eI) a2.2), .no]) rfl (i_zip (e_var rfl) (e_var rfl) it_T it_T) (fun _ _ _ => rfl) fun a2 j1 s1 => (s_app (fun x_found => [.val ((eT eS) x_rows), .val ((eT (eT eI)) x_sizes_here), .own ((eL (eT eI)) x_found), .val (eS a2.1), .val ((eT eI) a2.2), .no]) rfl (e_bi (e_fg (e_lc (fun x_k => [.val ((eT eS) x_rows), .val ((eT (eT eI)) x_sizes_here), .own ((eL (eT eI)) s1), .val (eS a2.1), .val ((eT eI) a2.2), .val (eI x_k)]) (i_rng1 (e_bi (e_g (e_var rfl)) fun a => b_lenS a)) (fun _ => rfl) fun x_k => (e_bin (e_g (e_dix (e_g (e_idx (e_g (e_var rfl)) (e_g (e_var rfl)) fun a b => x_S a b)) fun a => d_look fe_C (ks := ['+', '-', '0']) (vs := [1, -1, 0]) (ec := eI) rfl rfl a)) (e_g (e_idx (e_g (e_var rfl)) (e_g (e_var rfl)) fun a b => x_T a b)) fun a b => o_mulI a b))) fun a => b_tupL a) (fun _ => rfl) fun x_found => (nilN (sl [.val (eS a2.1), .val ((eT eI) a2.2)]) rfl))) fun j1 s1 => (seqR (s_ret (e_bi (e_own rfl) fun a => b_tupL a))))))
theorem s_is_between {ns : List Int} (k : Nat) (x_value : Int) (x_low : Int) (x_high : Int) : Sim ns ((kap fns g (k + 1)).f 0 [.val (eI x_value), .val (eI x_low), .val (eI x_high)]) (t_is_between x_value x_low x_high) (KRe eB) := by
  rw [kap_f (fn := f_is_between) rfl]
  exact f_R rfl (s_env [.val (eI x_value), .val (eI x_low), .val (eI x_high)] rfl (seqR (s_ret (e_and (e_bi (e_g (e_var rfl)) fun a => b_isint (n := "int") (fun _ => rfl) a) (e_and (e_not (e_bi (e_g (e_var rfl)) fun a => b_isbool (n := "int") (fun _ => rfl) a)) (e_cmp3 (e_g (e_var rfl)) (e_g (e_var rfl)) (e_g (e_var rfl)) (fun a b => c_le a b) fun a b => c_le a b))))))
theorem s_are_sizes {ns : List Int} (k : Nat) (x_rows : List (List Char)) (x_value : List (List Int)) : Sim ns ((kap fns g (k + 2)).f 1 [.val ((eT eS) x_rows), .val ((eT (eT eI)) x_value)]) (t_are_sizes x_rows x_value) (KRe eB) := by
  rw [kap_f (fn := f_are_sizes) rfl]
  exact f_R rfl (s_env [.val ((eT eS) x_rows), .val ((eT (eT eI)) x_value), .no, .no, .no, .no] rfl (s_ifR (t_or (t_not (t_v rfl (e_g (e_bi (e_g (e_var rfl)) fun a => b_istup (n := "tuple") (fun _ => rfl) a)))) (t_v rfl (e_g (e_cmp (e_g (e_bi (e_g (e_var rfl)) fun a => b_lenT a)) (e_g (e_bi (e_g (e_var rfl)) fun a => b_lenT a)) fun a b => c_ne fe_I (by decide) a b)))) (seqR (s_ret e_bl)) (seqXR (fun (j1 : Jk) (s1 : Unit) => [.val ((eT eS) x_rows), .val ((eT (eT eI)) x_value), j1 0, j1 1, j1 2, j1 3]) (s_forX (E := (fun (j1 : Jk) (s1 : Unit) => [.val ((eT eS) x_rows), .val ((eT (eT eI)) x_value), j1 0, j1 1, j1 2, j1 3])) (sl [.no, .no, .no, .no]) (fun a2 j1 s1 => [.val ((eT eS) x_rows), .val ((eT (eT eI)) x_value), .val (eS a2.1), .val ((eT eI) a2.2), j1 2, j1 3]) rfl (i_zip (e_var rfl) (e_var rfl) it_T it_T) (fun _ _ _ => rfl) fun a2 j1 s1 => (s_ifX (t_or (t_not (t_v rfl (e_g (e_bi (e_g (e_var rfl)) fun a => b_istup (n := "tuple") (fun _ => rfl) a)))) (t_v rfl (e_g (e_cmp (e_g (e_bi (e_g (e_var rfl)) fun a => b_lenT a)) (e_g (e_bi (e_g (e_var rfl)) fun a => b_lenS a)) fun a b => c_ne fe_I (by decide) a b)))) (seqR (s_ret e_bl)) (seqXX (fun (j3 : Jk) (s3 : Unit) => [.val ((eT eS) x_rows), .val ((eT (eT eI)) x_value), .val (eS a2.1), .val ((eT eI) a2.2), j3 0, j3 1]) (s_forX (E := (fun (j3 : Jk) (s3 : Unit) => [.val ((eT eS) x_rows), .val ((eT (eT eI)) x_value), .val (eS a2.1), .val ((eT eI) a2.2), j3 0, j3 1])) (sl [j1 2, j1 3]) (fun a4 j3 s3 => [.val ((eT eS) x_rows), .val ((eT (eT eI)) x_value), .val (eS a2.1), .val ((eT eI) a2.2), .val (eC a4.1), .val (eI a4.2)]) rfl (i_zip (e_var rfl) (e_var rfl) it_S it_T) (fun _ _ _ => rfl) fun a4 j3 s3 => (s_ifX (t_not (t_v rfl (e_g (e_call (a_cons (e_var rfl) fun a5 => a_cons (e_bi (e_g (e_cmp (e_g (e_var rfl)) (e_g e_chr) fun a b => c_ne fe_C (by decide) a b)) fun a => b_intB a) fun a6 => a_cons (e_bin (e_g (e_bin (e_g e_int) (e_g e_int) fun a b => o_pow a b)) (e_g (e_bi (e_g (e_cmp (e_g (e_var rfl)) (e_g e_chr) fun a b => c_ne fe_C (by decide) a b)) fun a => b_intB a)) fun a b => o_mulI a b) fun a7 => a_nil (s_is_between (k + 0) a5 a6 a7)))))) (seqR (s_ret e_bl)) (nilX (sl [.val (eC a4.1), .val (eI a4.2)]) rfl))) fun j3 s3 => (nilX (sl [.val (eS a2.1), .val ((eT eI) a2.2), j3 0, j3 1]) rfl)))) fun j1 s1 => (seqR (s_ret e_bl)))))
theorem s_found_matrix {ns : List Int} (k : Nat) (x_rows : List (List Char)) (x_sizes : List (List Int)) : Sim ns ((kap fns g (k + 1)).f 2 [.val ((eT eS) x_rows), .val ((eT (eT eI)) x_sizes)]) (t_found_matrix x_rows x_sizes) (KRe (eT (eT eI))) := by
  rw [kap_f (fn := f_found_matrix) rfl]
  exact f_R rfl (s_env [.val ((eT eS) x_rows), .val ((eT (eT eI)) x_sizes), .no, .no, .no, .no, .no] rfl (s_asgo (fun x_found => [.val ((eT eS) x_rows), .val ((eT (eT eI)) x_sizes), .own ((eL (eT eI)) x_found), .no, .no, .no, .no]) (e_lst (e := (eL (eT eI))) (k_nil rfl rfl)) (fun _ => rfl) fun x_found => (seqN (fun (j1 : Jk) (s1 : (List (List Int))) => [.val ((eT eS) x_rows), .val ((eT (eT eI)) x_sizes), .own ((eL (eT eI)) s1), j1 0, j1 1, .no, .no]) (s_for (E := (fun (j1 : Jk) (s1 : (List (List Int))) => [.val ((eT eS) x_rows), .val ((eT (eT eI)) x_sizes), .own ((eL (eT eI)) s1), j1 0, j1 1, .no, .no])) (sl [.no, .no]) (fun a2 j1 s1 => [.val ((eT eS) x_rows), .val ((eT (eT eI)) x_sizes), .own ((eL (eT eI)) s1), .val (eS a2.1), .val ((eT eI) a2.2), .no, .no]) rfl (i_zip (e_var rfl) (e_var rfl) it_T it_T) (fun _ _ _ => rfl) fun a2 j1 s1 => (s_app (fun x_found => [.val ((eT eS) x_rows), .val ((eT (eT eI)) x_sizes), .own ((eL (eT eI)) x_found), .val (eS a2.1), .val ((eT eI) a2.2), .no, .no]) rfl (e_bi (e_fg (e_lc (fun a3 => [.val ((eT eS) x_rows), .val ((eT (eT eI)) x_sizes), .own ((eL (eT eI)) s1), .val (eS a2.1), .val ((eT eI) a2.2), .val (eC a3.1), .val (eI a3.2)]) (i_zip (e_var rfl) (e_var rfl) it_S it_T) (fun _ => rfl) fun a3 => (e_bin (e_g (e_gix kap_gg (e_g (e_var rfl)) fun a => d_look fe_C (ks := ['+', '-', '0']) (vs := [1, -1, 0]) (ec := eI) rfl rfl a)) (e_g (e_var rfl)) fun a b => o_mulI a b))) fun a => b_tupL a) (fun _ => rfl) fun x_found => (nilN (sl [.val (eS a2.1), .val ((eT eI) a2.2)]) rfl))) fun j1 s1 => (seqR (s_ret (e_bi (e_own rfl) fun a => b_tupL a))))))
theorem s_is_dependent {ns : List Int} (k : Nat) (x_table : List (List Char)) (x_sizes : List (List Int)) (x_mix : List Int) : Sim ns ((kap fns g (k + 3)).f 12 [.val ((eT eS) x_table), .val ((eT (eT eI)) x_sizes), .val ((eT eI) x_mix)]) (t_is_dependent x_table x_sizes x_mix) (KRe eB) := by
  rw [kap_f (fn := f_is_dependent) rfl]
  exact f_R rfl (s_env [.val ((eT eS) x_table), .val ((eT (eT eI)) x_sizes), .val ((eT eI) x_mix), .no, .no, .no, .no] rfl (s_ex (e_call (a_cons (e_var rfl) fun a1 => a_nil (s_check_table (k + 0) a1))) fun _ => (s_ifR (t_not (t_v rfl (e_g (e_call (a_cons (e_var rfl) fun a2 => a_cons (e_var rfl) fun a3 => a_nil (s_are_sizes (k + 0) a2 a3)))))) sim_bad (s_ifR (t_or (t_not (t_v rfl (e_g (e_bi (e_g (e_var rfl)) fun a => b_istup (n := "tuple") (fun _ => rfl) a)))) (t_or (t_v rfl (e_g (e_cmp (e_g (e_bi (e_g (e_var rfl)) fun a => b_lenT a)) (e_g (e_bi (e_g (e_var rfl)) fun a => b_lenT a)) fun a b => c_ne fe_I (by decide) a b))) (t_not (t_v rfl (e_g (e_bi (e_fg (e_lc (fun x_one => [.val ((eT eS) x_table), .val ((eT (eT eI)) x_sizes), .val ((eT eI) x_mix), .no, .no, .val (eI x_one), .no]) (i_v rfl (e_var rfl) it_T) (fun _ => rfl) fun x_one => (e_call (a_cons (e_var rfl) fun a4 => a_cons (e_neg e_int) fun a5 => a_cons e_int fun a6 => a_nil (s_is_between (k + 1) a4 a5 a6))))) fun a => b_all a)))))) (seqR (s_ret e_bl)) (s_ifR (t_not (t_v rfl (e_g (e_bi (e_fg (e_lc (fun x_one => [.val ((eT eS) x_table), .val ((eT (eT eI)) x_sizes), .val ((eT eI) x_mix), .no, .no, .val (eI x_one), .no]) (i_v rfl (e_var rfl) it_T) (fun _ => rfl) fun x_one => (e_cmp (e_g (e_var rfl)) (e_g e_int) fun a b => c_ne fe_I (by decide) a b))) fun a => b_any a)))) (seqR (s_ret e_bl)) (s_asg (fun x_rows => [.val ((eT eS) x_table), .val ((eT (eT eI)) x_sizes), .val ((eT eI) x_mix), .val ((eT (eT eI)) x_rows), .no, .no, .no]) (e_call (a_cons (e_var rfl) fun a7 => a_cons (e_var rfl) fun a8 => a_nil (s_found_matrix (k + 1) a7 a8))) (fun _ => rfl) fun x_rows => (seqR (s_ret (e_bi (e_fg (e_lc (fun x_place => [.val ((eT eS) x_table), .val ((eT (eT eI)) x_sizes), .val ((eT eI) x_mix), .val ((eT (eT eI)) x_rows), .val (eI x_place), .no, .no]) (i_rng1 (e_bi (e_g (e_idx (e_g (e_var rfl)) (e_g e_int) fun a b => x_T a b)) fun a => b_lenS a)) (fun _ => rfl) fun x_place => (e_cmp (e_g (e_bi (e_fg (e_lc (fun a9 => [.val ((eT eS) x_table), .val ((eT (eT eI)) x_sizes), .val ((eT eI) x_mix), .val ((eT (eT eI)) x_rows), .val (eI x_place), .val (eI a9.1), .val ((eT eI) a9.2)]) (i_zip (e_var rfl) (e_var rfl) it_T it_T) (fun _ => rfl) fun a9 => (e_bin (e_g (e_var rfl)) (e_g (e_idx (e_g (e_var rfl)) (e_g (e_var rfl)) fun a b => x_T a b)) fun a b => o_mulI a b))) fun a => b_sum a)) (e_g e_int) fun a b => c_eq fe_I (by decide) a b))) fun a => b_all a)))))))))
theorem s_l_sizes {ns : List Int} (k : Nat) (x_rows : List (List Char)) (x_far : Int) : Sim ns ((kap fns g (k + 2)).f 16 [.val (.scr ns), .bx 0, .val ((eT eS) x_rows), .val (eI x_far)]) (t_l_sizes x_rows x_far) (KRe (eT (eT eI))) := by
  rw [kap_f (fn := f__law_sizes) rfl]
  exact f_R rfl (s_env [.val (.scr ns), .bx 0, .val ((eT eS) x_rows), .val (eI x_far), .no, .no, .no] rfl (s_asgo (fun x_found => [.val (.scr ns), .bx 0, .val ((eT eS) x_rows), .val (eI x_far), .own ((eL (eT eI)) x_found), .no, .no]) (e_lst (e := (eL (eT eI))) (k_nil rfl rfl)) (fun _ => rfl) fun x_found => (seqN (fun (j1 : Jk) (s1 : (List (List Int))) => [.val (.scr ns), .bx 0, .val ((eT eS) x_rows), .val (eI x_far), .own ((eL (eT eI)) s1), j1 0, .no]) (s_for (E := (fun (j1 : Jk) (s1 : (List (List Int))) => [.val (.scr ns), .bx 0, .val ((eT eS) x_rows), .val (eI x_far), .own ((eL (eT eI)) s1), j1 0, .no])) (sl [.no]) (fun x_line j1 s1 => [.val (.scr ns), .bx 0, .val ((eT eS) x_rows), .val (eI x_far), .own ((eL (eT eI)) s1), .val (eS x_line), .no]) rfl (i_v rfl (e_var rfl) it_T) (fun _ _ _ => rfl) fun x_line j1 s1 => (s_app (fun x_found => [.val (.scr ns), .bx 0, .val ((eT eS) x_rows), .val (eI x_far), .own ((eL (eT eI)) x_found), .val (eS x_line), .no]) rfl (e_bi (e_fg (e_lc (fun x_sign => [.val (.scr ns), .bx 0, .val ((eT eS) x_rows), .val (eI x_far), .own ((eL (eT eI)) s1), .val (eS x_line), .val (eC x_sign)]) (i_v rfl (e_var rfl) it_S) (fun _ => rfl) fun x_sign => (e_ite (t_v rfl (e_g (e_cmp (e_g (e_var rfl)) (e_g e_chr) fun a b => c_eq fe_C (by decide) a b))) e_int (e_bin (e_g e_int) (e_g (e_call (a_var rfl <| a_box rfl <| a_cons (e_var rfl) fun a => a_nil (s_draw (k + 0) a)))) fun a b => o_addI a b)))) fun a => b_tupL a) (fun _ => rfl) fun x_found => (nilN (sl [.val (eS x_line)]) rfl))) fun j1 s1 => (seqR (s_ret (e_bi (e_own rfl) fun a => b_tupL a))))))
theorem s_law {ns : List Int} (hl : ns.length ≤ 63) (hw : t_law.wp 0 fun r _ => r = true) : ∃ b', (kap fns g 60).f 20 [.val (.scr ns)] [] = .ok (.val (.bl true)) b' :=
  law_go (t := t_law) (fn := f_law) (iT := 13) (it := 1) rfl rfl rfl rfl hl (s_env [.val (.scr ns), .bx 0, .no, .no, .no, .no, .no, .no, .no, .no, .no, .no, .no, .no, .no, .no, .no, .no] rfl (s_asg (fun x_table_here => [.val (.scr ns), .bx 0, .val ((eT eS) x_table_here), .no, .no, .no, .no, .no, .no, .no, .no, .no, .no, .no, .no, .no, .no, .no]) (e_call (a_var rfl <| a_box rfl <| a_nil (s_l_table (56)))) (fun _ => rfl) fun x_table_here => (s_asg (fun x_level => [.val (.scr ns), .bx 0, .val ((eT eS) x_table_here), .val ((eL eS) x_level), .no, .no, .no, .no, .no, .no, .no, .no, .no, .no, .no, .no, .no, .no]) (e_k (e_lst (e := (eL eS)) (k_cons e_str fun a1 => k_nil rfl rfl))) (fun _ => rfl) fun x_level => (seqN (fun (j2 : Jk) (s2 : (List (List Char))) => [.val (.scr ns), .bx 0, .val ((eT eS) x_table_here), .val ((eL eS) s2), j2 0, .no, .no, .no, j2 1, j2 2, .no, .no, .no, .no, .no, .no, .no, .no]) (s_for (E := (fun (j2 : Jk) (s2 : (List (List Char))) => [.val (.scr ns), .bx 0, .val ((eT eS) x_table_here), .val ((eL eS) s2), j2 0, .no, .no, .no, j2 1, j2 2, .no, .no, .no, .no, .no, .no, .no, .no])) (sl [.no, .no, .no]) (fun x_line j2 s2 => [.val (.scr ns), .bx 0, .val ((eT eS) x_table_here), .val ((eL eS) s2), .val (eS x_line), .no, .no, .no, j2 1, j2 2, .no, .no, .no, .no, .no, .no, .no, .no]) rfl (i_v rfl (e_var rfl) it_T) (fun _ _ _ => rfl) fun x_line j2 s2 => (s_asg (fun x_later => [.val (.scr ns), .bx 0, .val ((eT eS) x_table_here), .val ((eL eS) s2), .val (eS x_line), .no, .no, .no, .val ((eL eS) x_later), j2 2, .no, .no, .no, .no, .no, .no, .no, .no]) (e_k (e_lst (e := (eL eS)) (k_nil rfl rfl))) (fun _ => rfl) fun x_later => (seqN (fun (j3 : Jk) (s3 : (List (List Char))) => [.val (.scr ns), .bx 0, .val ((eT eS) x_table_here), .val ((eL eS) s2), .val (eS x_line), .no, .no, .no, .val ((eL eS) s3), j3 0, .no, .no, .no, .no, .no, .no, .no, .no]) (s_for (E := (fun (j3 : Jk) (s3 : (List (List Char))) => [.val (.scr ns), .bx 0, .val ((eT eS) x_table_here), .val ((eL eS) s2), .val (eS x_line), .no, .no, .no, .val ((eL eS) s3), j3 0, .no, .no, .no, .no, .no, .no, .no, .no])) (sl [j2 2]) (fun x_row j3 s3 => [.val (.scr ns), .bx 0, .val ((eT eS) x_table_here), .val ((eL eS) s2), .val (eS x_line), .no, .no, .no, .val ((eL eS) s3), .val (eS x_row), .no, .no, .no, .no, .no, .no, .no, .no]) rfl (i_v rfl (e_var rfl) it_L) (fun _ _ _ => rfl) fun x_row j3 s3 => (s_asg (fun x_later => [.val (.scr ns), .bx 0, .val ((eT eS) x_table_here), .val ((eL eS) s2), .val (eS x_line), .no, .no, .no, .val ((eL eS) x_later), .val (eS x_row), .no, .no, .no, .no, .no, .no, .no, .no]) (e_k (e_bin (e_g (e_var rfl)) (e_fg (e_lc (fun x_sign => [.val (.scr ns), .bx 0, .val ((eT eS) x_table_here), .val ((eL eS) s2), .val (eS x_line), .no, .no, .no, .val ((eL eS) s3), .val (eS x_row), .no, .no, .no, .no, .no, .val (eC x_sign), .no, .no]) (i_v rfl e_str it_S) (fun _ => rfl) fun x_sign => (e_bin (e_g (e_var rfl)) (e_g (e_cs (e_var rfl))) fun a b => o_addS a b))) fun a b => o_addL a b)) (fun _ => rfl) fun x_later => (nilN (sl [.val (eS x_row)]) rfl))) fun j3 s3 => (s_asg (fun x_level => [.val (.scr ns), .bx 0, .val ((eT eS) x_table_here), .val ((eL eS) x_level), .val (eS x_line), .no, .no, .no, .val ((eL eS) s3), j3 0, .no, .no, .no, .no, .no, .no, .no, .no]) (e_var rfl) (fun _ => rfl) fun x_level => (nilN (sl [.val (eS x_line), .val ((eL eS) s3), j3 0]) rfl))))) fun j2 s2 => (s_asg (fun x_due => [.val (.scr ns), .bx 0, .val ((eT eS) x_table_here), .val ((eL eS) s2), j2 0, .val ((eL eS) x_due), .no, .no, j2 1, j2 2, .no, .no, .no, .no, .no, .no, .no, .no]) (e_k (e_lcf (fun x_row => [.val (.scr ns), .bx 0, .val ((eT eS) x_table_here), .val ((eL eS) s2), j2 0, .no, .no, .no, j2 1, .val (eS x_row), .no, .no, .no, .no, .no, .no, .no, .no]) (i_v rfl (e_k (e_bi (e_g (e_var rfl)) fun a => b_srt fe_S (by decide) oe_S nt_S a)) it_L) (fun _ => rfl) (fun x_row => (t_and (t_v rfl (e_g (e_cmp (e_g (e_var rfl)) (e_g (e_bin (e_g e_str) (e_g (e_bi (e_g (e_var rfl)) fun a => b_lenT a)) fun a b => o_mulS a b)) fun a b => c_ne fe_S (by decide) a b))) (t_v rfl (e_g (e_call (a_cons (e_var rfl) fun a4 => a_cons (e_var rfl) fun a5 => a_nil (s_l_balances (58) a4 a5))))))) fun x_row => (e_var rfl))) (fun _ => rfl) fun x_due => (s_ifR (t_or (t_v rfl (e_g (e_cmp (e_g (e_call (a_cons (e_var rfl) fun a7 => a_nil (s_balancing_choices (55) a7)))) (e_g (e_bi (e_g (e_var rfl)) fun a => b_tupL a)) fun a b => c_ne (fe_T fe_S) (by decide) a b))) (t_v rfl (e_g (e_cmp (e_g (e_call (a_cons (e_var rfl) fun a6 => a_nil (s_surely_independent (55) a6)))) (e_g (e_cmp (e_g (e_var rfl)) (e_fg (e_lst (e := (eL eS)) (k_nil rfl rfl))) fun a b => c_eq (fe_L fe_S) (by decide) a b)) fun a b => c_ne fe_B (by decide) a b)))) (seqR (s_ret e_bl)) (s_asg (fun x_told => [.val (.scr ns), .bx 0, .val ((eT eS) x_table_here), .val ((eL eS) s2), j2 0, .val ((eL eS) x_due), .val ((eO (eP (eT (eT eI)) (eT eI))) x_told), .no, j2 1, j2 2, .no, .no, .no, .no, .no, .no, .no, .no]) (e_call (a_cons (e_var rfl) fun a8 => a_nil (s_dependent_sizes (55) a8))) (fun _ => rfl) fun x_told => (s_ifR (t_v rfl (e_g (e_cmp (e_g (e_cmp (e_g (e_var rfl)) (e_g e_non) fun a b => c_isO nn_P a b)) (e_g (e_cmp (e_g (e_var rfl)) (e_fg (e_lst (e := (eL eS)) (k_nil rfl rfl))) fun a b => c_eq (fe_L fe_S) (by decide) a b)) fun a b => c_ne fe_B (by decide) a b))) (seqR (s_ret e_bl)) (s_ifR (t_v rfl (e_g (e_cmp (e_g (e_var rfl)) (e_g e_non) fun a b => c_isnO nn_P a b))) (s_asgT (fun a9 => [.val (.scr ns), .bx 0, .val ((eT eS) x_table_here), .val ((eL eS) s2), j2 0, .val ((eL eS) x_due), .val ((eO (eP (eT (eT eI)) (eT eI))) x_told), .no, j2 1, j2 2, .no, .no, .val ((eT (eT eI)) a9.1), .no, .val ((eT eI) a9.2), .no, .no, .no]) (e_uno (e_var rfl)) (fun _ => rfl) fun a9 => (s_asg (fun x_rows => [.val (.scr ns), .bx 0, .val ((eT eS) x_table_here), .val ((eL eS) s2), j2 0, .val ((eL eS) x_due), .val ((eO (eP (eT (eT eI)) (eT eI))) x_told), .no, j2 1, j2 2, .val ((eT (eT eI)) x_rows), .no, .val ((eT (eT eI)) a9.1), .no, .val ((eT eI) a9.2), .no, .no, .no]) (e_call (a_cons (e_var rfl) fun a10 => a_cons (e_var rfl) fun a11 => a_nil (s_l_matrix (58) a10 a11))) (fun _ => rfl) fun x_rows => (seqXR (fun (j12 : Jk) (s12 : Unit) => [.val (.scr ns), .bx 0, .val ((eT eS) x_table_here), .val ((eL eS) s2), j2 0, .val ((eL eS) x_due), .val ((eO (eP (eT (eT eI)) (eT eI))) x_told), .no, j2 1, j2 2, .val ((eT (eT eI)) x_rows), j12 0, .val ((eT (eT eI)) a9.1), .no, .val ((eT eI) a9.2), .no, .no, .no]) (s_forX (E := (fun (j12 : Jk) (s12 : Unit) => [.val (.scr ns), .bx 0, .val ((eT eS) x_table_here), .val ((eL eS) s2), j2 0, .val ((eL eS) x_due), .val ((eO (eP (eT (eT eI)) (eT eI))) x_told), .no, j2 1, j2 2, .val ((eT (eT eI)) x_rows), j12 0, .val ((eT (eT eI)) a9.1), .no, .val ((eT eI) a9.2), .no, .no, .no])) (sl [.no]) (fun x_j j12 s12 => [.val (.scr ns), .bx 0, .val ((eT eS) x_table_here), .val ((eL eS) s2), j2 0, .val ((eL eS) x_due), .val ((eO (eP (eT (eT eI)) (eT eI))) x_told), .no, j2 1, j2 2, .val ((eT (eT eI)) x_rows), .val (eI x_j), .val ((eT (eT eI)) a9.1), .no, .val ((eT eI) a9.2), .no, .no, .no]) rfl (i_rng1 (e_bi (e_g (e_idx (e_g (e_var rfl)) (e_g e_int) fun a b => x_T a b)) fun a => b_lenS a)) (fun _ _ _ => rfl) fun x_j j12 s12 => (s_ifX (t_v rfl (e_g (e_cmp (e_g (e_bi (e_fg (e_lc (fun x_i => [.val (.scr ns), .bx 0, .val ((eT eS) x_table_here), .val ((eL eS) s2), j2 0, .val ((eL eS) x_due), .val ((eO (eP (eT (eT eI)) (eT eI))) x_told), .no, j2 1, j2 2, .val ((eT (eT eI)) x_rows), .val (eI x_j), .val ((eT (eT eI)) a9.1), .no, .val ((eT eI) a9.2), .no, .no, .val (eI x_i)]) (i_rng1 (e_bi (e_g (e_var rfl)) fun a => b_lenT a)) (fun _ => rfl) fun x_i => (e_bin (e_g (e_idx (e_g (e_var rfl)) (e_g (e_var rfl)) fun a b => x_T a b)) (e_g (e_idx (e_g (e_idx (e_g (e_var rfl)) (e_g (e_var rfl)) fun a b => x_T a b)) (e_g (e_var rfl)) fun a b => x_T a b)) fun a b => o_mulI a b))) fun a => b_sum a)) (e_g e_int) fun a b => c_ne fe_I (by decide) a b))) (seqR (s_ret e_bl)) (nilX (sl [.val (eI x_j)]) rfl))) fun j12 s12 => (seqR (s_ret (e_and (e_call (a_cons (e_var rfl) fun a13 => a_cons (e_var rfl) fun a14 => a_cons (e_var rfl) fun a15 => a_nil (s_is_dependent (56) a13 a14 a15))) (e_cmp (e_fg (e_lcf (fun x_one => [.val (.scr ns), .bx 0, .val ((eT eS) x_table_here), .val ((eL eS) s2), j2 0, .val ((eL eS) x_due), .val ((eO (eP (eT (eT eI)) (eT eI))) x_told), .no, j2 1, j2 2, .val ((eT (eT eI)) x_rows), j12 0, .val ((eT (eT eI)) a9.1), .no, .val ((eT eI) a9.2), .no, .val (eI x_one), .no]) (i_v rfl (e_var rfl) it_T) (fun _ => rfl) (fun x_one => (t_v rfl (e_g (e_cmp (e_g (e_var rfl)) (e_g e_int) fun a b => c_ne fe_I (by decide) a b)))) fun x_one => (e_var rfl))) (e_fg (e_lst (e := (eL eI)) (k_nil rfl rfl))) fun a b => c_ne (fe_L fe_I) (by decide) a b))))))) (seqXR (fun (j16 : Jk) (s16 : Unit) => [.val (.scr ns), .bx 0, .val ((eT eS) x_table_here), .val ((eL eS) s2), j2 0, .val ((eL eS) x_due), .val ((eO (eP (eT (eT eI)) (eT eI))) x_told), j16 0, j2 1, j2 2, j16 1, .no, j16 2, j16 3, j16 4, .no, .no, .no]) (s_forX (E := (fun (j16 : Jk) (s16 : Unit) => [.val (.scr ns), .bx 0, .val ((eT eS) x_table_here), .val ((eL eS) s2), j2 0, .val ((eL eS) x_due), .val ((eO (eP (eT (eT eI)) (eT eI))) x_told), j16 0, j2 1, j2 2, j16 1, .no, j16 2, j16 3, j16 4, .no, .no, .no])) (sl [.no, .no, .no, .no, .no]) (fun x_k j16 s16 => [.val (.scr ns), .bx 0, .val ((eT eS) x_table_here), .val ((eL eS) s2), j2 0, .val ((eL eS) x_due), .val ((eO (eP (eT (eT eI)) (eT eI))) x_told), .val (eI x_k), j2 1, j2 2, j16 1, .no, j16 2, j16 3, j16 4, .no, .no, .no]) rfl (i_rng1 e_int) (fun _ _ _ => rfl) fun x_k j16 s16 => (s_asg (fun x_sizes_here => [.val (.scr ns), .bx 0, .val ((eT eS) x_table_here), .val ((eL eS) s2), j2 0, .val ((eL eS) x_due), .val ((eO (eP (eT (eT eI)) (eT eI))) x_told), .val (eI x_k), j2 1, j2 2, j16 1, .no, .val ((eT (eT eI)) x_sizes_here), j16 3, j16 4, .no, .no, .no]) (e_call (a_var rfl <| a_box rfl <| a_cons (e_var rfl) fun a17 => a_cons e_int fun a18 => a_nil (s_l_sizes (57) a17 a18))) (fun _ => rfl) fun x_sizes_here => (s_par (pc_v (e_call (a_cons (e_var rfl) fun a19 => a_cons (e_var rfl) fun a20 => a_nil (s_l_matrix (58) a19 a20))) fun x_rows => pc_v (e_k (e_lc (fun x_line => [.val (.scr ns), .bx 0, .val ((eT eS) x_table_here), .val ((eL eS) s2), .val (eS x_line), .val ((eL eS) x_due), .val ((eO (eP (eT (eT eI)) (eT eI))) x_told), .val (eI x_k), j2 1, j2 2, j16 1, .no, .val ((eT (eT eI)) x_sizes_here), j16 3, j16 4, .no, .no, .no]) (i_v rfl (e_var rfl) it_T) (fun _ => rfl) fun x_line => (e_bin (e_g (e_call (a_var rfl <| a_box rfl <| a_cons e_int fun a => a_nil (s_draw (58) a)))) (e_g e_int) fun a b => o_subI a b))) fun x_mix => pc_nil (s_env [.val (.scr ns), .bx 0, .val ((eT eS) x_table_here), .val ((eL eS) s2), j2 0, .val ((eL eS) x_due), .val ((eO (eP (eT (eT eI)) (eT eI))) x_told), .val (eI x_k), j2 1, j2 2, .val ((eT (eT eI)) x_rows), .no, .val ((eT (eT eI)) x_sizes_here), j16 3, .val ((eL eI) x_mix), .no, .no, .no] rfl (s_asg (fun x_whole => [.val (.scr ns), .bx 0, .val ((eT eS) x_table_here), .val ((eL eS) s2), j2 0, .val ((eL eS) x_due), .val ((eO (eP (eT (eT eI)) (eT eI))) x_told), .val (eI x_k), j2 1, j2 2, .val ((eT (eT eI)) x_rows), .no, .val ((eT (eT eI)) x_sizes_here), .val ((eL eI) x_whole), .val ((eL eI) x_mix), .no, .no, .no]) (e_k (e_lc (fun x_j => [.val (.scr ns), .bx 0, .val ((eT eS) x_table_here), .val ((eL eS) s2), j2 0, .val ((eL eS) x_due), .val ((eO (eP (eT (eT eI)) (eT eI))) x_told), .val (eI x_k), j2 1, j2 2, .val ((eT (eT eI)) x_rows), .val (eI x_j), .val ((eT (eT eI)) x_sizes_here), j16 3, .val ((eL eI) x_mix), .no, .no, .no]) (i_rng1 (e_bi (e_g (e_idx (e_g (e_var rfl)) (e_g e_int) fun a b => x_T a b)) fun a => b_lenS a)) (fun _ => rfl) fun x_j => (e_bi (e_fg (e_lc (fun x_i => [.val (.scr ns), .bx 0, .val ((eT eS) x_table_here), .val ((eL eS) s2), j2 0, .val ((eL eS) x_due), .val ((eO (eP (eT (eT eI)) (eT eI))) x_told), .val (eI x_k), j2 1, j2 2, .val ((eT (eT eI)) x_rows), .val (eI x_j), .val ((eT (eT eI)) x_sizes_here), j16 3, .val ((eL eI) x_mix), .no, .no, .val (eI x_i)]) (i_rng1 (e_bi (e_g (e_var rfl)) fun a => b_lenT a)) (fun _ => rfl) fun x_i => (e_bin (e_g (e_idx (e_g (e_var rfl)) (e_g (e_var rfl)) fun a b => x_L a b)) (e_g (e_idx (e_g (e_idx (e_g (e_var rfl)) (e_g (e_var rfl)) fun a b => x_T a b)) (e_g (e_var rfl)) fun a b => x_T a b)) fun a b => o_mulI a b))) fun a => b_sum a))) (fun _ => rfl) fun x_whole => (s_ifX (t_and (t_v rfl (e_g (e_cmp (e_fg (e_lcf (fun x_one => [.val (.scr ns), .bx 0, .val ((eT eS) x_table_here), .val ((eL eS) s2), j2 0, .val ((eL eS) x_due), .val ((eO (eP (eT (eT eI)) (eT eI))) x_told), .val (eI x_k), j2 1, j2 2, .val ((eT (eT eI)) x_rows), .no, .val ((eT (eT eI)) x_sizes_here), .val ((eL eI) x_whole), .val ((eL eI) x_mix), .no, .val (eI x_one), .no]) (i_v rfl (e_var rfl) it_L) (fun _ => rfl) (fun x_one => (t_v rfl (e_g (e_cmp (e_g (e_var rfl)) (e_g e_int) fun a b => c_ne fe_I (by decide) a b)))) fun x_one => (e_var rfl))) (e_fg (e_lst (e := (eL eI)) (k_nil rfl rfl))) fun a b => c_eq (fe_L fe_I) (by decide) a b))) (t_v rfl (e_g (e_cmp (e_fg (e_lcf (fun x_one => [.val (.scr ns), .bx 0, .val ((eT eS) x_table_here), .val ((eL eS) s2), j2 0, .val ((eL eS) x_due), .val ((eO (eP (eT (eT eI)) (eT eI))) x_told), .val (eI x_k), j2 1, j2 2, .val ((eT (eT eI)) x_rows), .no, .val ((eT (eT eI)) x_sizes_here), .val ((eL eI) x_whole), .val ((eL eI) x_mix), .no, .val (eI x_one), .no]) (i_v rfl (e_var rfl) it_L) (fun _ => rfl) (fun x_one => (t_v rfl (e_g (e_cmp (e_g (e_var rfl)) (e_g e_int) fun a b => c_ne fe_I (by decide) a b)))) fun x_one => (e_var rfl))) (e_fg (e_lst (e := (eL eI)) (k_nil rfl rfl))) fun a b => c_ne (fe_L fe_I) (by decide) a b)))) (seqR (s_ret e_bl)) (nilX (sl [.val (eI x_k), .val ((eT (eT eI)) x_rows), .val ((eT (eT eI)) x_sizes_here), .val ((eL eI) x_whole), .val ((eL eI) x_mix)]) rfl)))))))) fun j16 s16 => (seqR (s_ret e_bl)))))))))))) hw
end T
end Sg

namespace Sg
namespace T
open PySem PySem.Spec PyProof.Rows L2
def top (i : Nat) : Stmt := PySem.Challenge.pw_signsure_k40_whole_rows.main.body.getD i (.Pass ⟨0, 0, 0, 0⟩)
def p_is_between : PF := ⟨⟨("is_between", none), "is_between", "is_between", L2.defArgs (top 6), L2.defBody (top 6), L2.defScope (top 6), [], []⟩, ["value", "low", "high"], ["value", "low", "high"], f_is_between⟩
def p_are_sizes : PF := ⟨⟨("are_sizes", none), "are_sizes", "are_sizes", L2.defArgs (top 7), L2.defBody (top 7), L2.defScope (top 7), [], []⟩, ["rows", "value"], ["rows", "value", "row", "some", "sign", "size"], f_are_sizes⟩
def p_found_matrix : PF := ⟨⟨("found_matrix", none), "found_matrix", "found_matrix", L2.defArgs (top 8), L2.defBody (top 8), L2.defScope (top 8), [], []⟩, ["rows", "sizes"], ["rows", "sizes", "found", "row", "some", "sign", "size"], f_found_matrix⟩
def p_is_table : PF := ⟨⟨("is_table", none), "is_table", "is_table", L2.defArgs (top 10), L2.defBody (top 10), L2.defScope (top 10), [], []⟩, ["value"], ["value", "row", "sign"], f_is_table⟩
def p_check_table : PF := ⟨⟨("check_table", none), "check_table", "check_table", L2.defArgs (top 11), L2.defBody (top 11), L2.defScope (top 11), [], []⟩, ["table"], ["table"], f_check_table⟩
def p_all_choices : PF := ⟨⟨("all_choices", none), "all_choices", "all_choices", L2.defArgs (top 12), L2.defBody (top 12), L2.defScope (top 12), [], []⟩, ["many"], ["many", "rows", "time", "row", "sign"], f_all_choices⟩
def p_column_counts : PF := ⟨⟨("column_counts", none), "column_counts", "column_counts", L2.defArgs (top 13), L2.defBody (top 13), L2.defScope (top 13), [], []⟩, ["table", "choice", "place"], ["table", "choice", "place", "some", "one", "row"], f_column_counts⟩
def p_does_balance : PF := ⟨⟨("does_balance", none), "does_balance", "does_balance", L2.defArgs (top 14), L2.defBody (top 14), L2.defScope (top 14), [], []⟩, ["table", "choice"], ["table", "choice", "place", "first", "second"], f_does_balance⟩
def p_found_balancing : PF := ⟨⟨("found_balancing", none), "found_balancing", "found_balancing", L2.defArgs (top 15), L2.defBody (top 15), L2.defScope (top 15), [], []⟩, ["table"], ["table", "choice"], f_found_balancing⟩
def p_balancing_choices : PF := ⟨⟨("balancing_choices", none), "balancing_choices", "balancing_choices", L2.defArgs (top 16), L2.defBody (top 16), L2.defScope (top 16), [], []⟩, ["table"], ["table"], f_balancing_choices⟩
def p_surely_independent : PF := ⟨⟨("surely_independent", none), "surely_independent", "surely_independent", L2.defArgs (top 17), L2.defBody (top 17), L2.defScope (top 17), [], []⟩, ["table"], ["table"], f_surely_independent⟩
def p_dependent_sizes : PF := ⟨⟨("dependent_sizes", none), "dependent_sizes", "dependent_sizes", L2.defArgs (top 18), L2.defBody (top 18), L2.defScope (top 18), [], []⟩, ["table"], ["table", "some", "choice", "rows", "number", "row", "found", "place", "sign", "factor", "first", "second", "one"], f_dependent_sizes⟩
def p_is_dependent : PF := ⟨⟨("is_dependent", none), "is_dependent", "is_dependent", L2.defArgs (top 19), L2.defBody (top 19), L2.defScope (top 19), [], []⟩, ["table", "sizes", "mix"], ["table", "sizes", "mix", "rows", "place", "one", "row"], f_is_dependent⟩
def p__law_town : PF := ⟨⟨("_law_town", none), "_law_town", "_law_town", L2.defArgs (top 21), L2.defBody (top 21), L2.defScope (top 21), [], []⟩, ["_law_script"], ["_law_script"], f__law_town⟩
def p__law_draw : PF := ⟨⟨("_law_draw", none), "_law_draw", "_law_draw", L2.defArgs (top 22), L2.defBody (top 22), L2.defScope (top 22), [], []⟩, ["_law_script", "_law_town_here", "_law_limit"], ["_law_script", "_law_town_here", "_law_limit", "_law_at", "_law_left", "_law_number"], f__law_draw⟩
def p__law_pick : PF := ⟨⟨("_law_pick", none), "_law_pick", "_law_pick", L2.defArgs (top 23), L2.defBody (top 23), L2.defScope (top 23), [], []⟩, ["_law_script", "_law_town_here", "_law_choices"], ["_law_script", "_law_town_here", "_law_choices"], f__law_pick⟩
def p__law_sizes : PF := ⟨⟨("_law_sizes", none), "_law_sizes", "_law_sizes", L2.defArgs (top 24), L2.defBody (top 24), L2.defScope (top 24), [], []⟩, ["_law_script", "_law_town_here", "_law_rows", "_law_far"], ["_law_script", "_law_town_here", "_law_rows", "_law_far", "_law_found", "_law_line", "_law_sign"], f__law_sizes⟩
def p__law_matrix : PF := ⟨⟨("_law_matrix", none), "_law_matrix", "_law_matrix", L2.defArgs (top 25), L2.defBody (top 25), L2.defScope (top 25), [], []⟩, ["_law_rows", "_law_sizes_here"], ["_law_rows", "_law_sizes_here", "_law_found", "_law_line", "_law_some", "_law_k"], f__law_matrix⟩
def p__law_table : PF := ⟨⟨("_law_table", none), "_law_table", "_law_table", L2.defArgs (top 26), L2.defBody (top 26), L2.defScope (top 26), [], []⟩, ["_law_script", "_law_town_here"], ["_law_script", "_law_town_here", "_law_i", "_law_many", "_law_wide", "_law_signs", "_law_found", "_law_j"], f__law_table⟩
def p__law_balances : PF := ⟨⟨("_law_balances", none), "_law_balances", "_law_balances", L2.defArgs (top 27), L2.defBody (top 27), L2.defScope (top 27), [], []⟩, ["_law_table_here", "_law_choice"], ["_law_table_here", "_law_choice", "_law_j", "_law_some", "_law_i"], f__law_balances⟩
def p_law : PF := ⟨⟨("law", none), "law", "law", L2.defArgs (top 28), L2.defBody (top 28), L2.defScope (top 28), [], []⟩, ["_law_script"], ["_law_script", "_law_town_here", "_law_table_here", "_law_level", "_law_line", "_law_due", "_law_told", "_law_k", "_law_later", "_law_row", "_law_rows", "_law_j", "_law_sizes_here", "_law_whole", "_law_mix", "_law_sign", "_law_one", "_law_i"], f_law⟩
def fnsN0 : List Str := ["is_between", "are_sizes", "found_matrix", "is_table", "check_table", "all_choices", "column_counts", "does_balance", "found_balancing", "balancing_choices", "surely_independent", "dependent_sizes", "is_dependent", "_law_town", "_law_draw", "_law_pick", "_law_sizes", "_law_matrix", "_law_table", "_law_balances", "law"]
def fnsN : List Str := fnsN0
def gls : List Str := ["FACTORS"]
def pfs : List PF := [p_is_between, p_are_sizes, p_found_matrix, p_is_table, p_check_table, p_all_choices, p_column_counts, p_does_balance, p_found_balancing, p_balancing_choices, p_surely_independent, p_dependent_sizes, p_is_dependent, p__law_town, p__law_draw, p__law_pick, p__law_sizes, p__law_matrix, p__law_table, p__law_balances, p_law]
theorem ck_is_between : pfB fnsN gls p_is_between = true := by decide +kernel
theorem bd_is_between : Bd p_is_between := fun _ _ _ _ _ _ us hl => match us, hl with | [_, _, _], _ => rfl
theorem ck_are_sizes : pfB fnsN gls p_are_sizes = true := by decide +kernel
theorem bd_are_sizes : Bd p_are_sizes := fun _ _ _ _ _ _ us hl => match us, hl with | [_, _], _ => rfl
theorem ck_found_matrix : pfB fnsN gls p_found_matrix = true := by decide +kernel
theorem bd_found_matrix : Bd p_found_matrix := fun _ _ _ _ _ _ us hl => match us, hl with | [_, _], _ => rfl
theorem ck_is_table : pfB fnsN gls p_is_table = true := by decide +kernel
theorem bd_is_table : Bd p_is_table := fun _ _ _ _ _ _ us hl => match us, hl with | [_], _ => rfl
theorem ck_check_table : pfB fnsN gls p_check_table = true := by decide +kernel
theorem bd_check_table : Bd p_check_table := fun _ _ _ _ _ _ us hl => match us, hl with | [_], _ => rfl
theorem ck_all_choices : pfB fnsN gls p_all_choices = true := by decide +kernel
theorem bd_all_choices : Bd p_all_choices := fun _ _ _ _ _ _ us hl => match us, hl with | [_], _ => rfl
theorem ck_column_counts : pfB fnsN gls p_column_counts = true := by decide +kernel
theorem bd_column_counts : Bd p_column_counts := fun _ _ _ _ _ _ us hl => match us, hl with | [_, _, _], _ => rfl
theorem ck_does_balance : pfB fnsN gls p_does_balance = true := by decide +kernel
theorem bd_does_balance : Bd p_does_balance := fun _ _ _ _ _ _ us hl => match us, hl with | [_, _], _ => rfl
theorem ck_found_balancing : pfB fnsN gls p_found_balancing = true := by decide +kernel
theorem bd_found_balancing : Bd p_found_balancing := fun _ _ _ _ _ _ us hl => match us, hl with | [_], _ => rfl
theorem ck_balancing_choices : pfB fnsN gls p_balancing_choices = true := by decide +kernel
theorem bd_balancing_choices : Bd p_balancing_choices := fun _ _ _ _ _ _ us hl => match us, hl with | [_], _ => rfl
theorem ck_surely_independent : pfB fnsN gls p_surely_independent = true := by decide +kernel
theorem bd_surely_independent : Bd p_surely_independent := fun _ _ _ _ _ _ us hl => match us, hl with | [_], _ => rfl
theorem ck_dependent_sizes : pfB fnsN gls p_dependent_sizes = true := by decide +kernel
theorem bd_dependent_sizes : Bd p_dependent_sizes := fun _ _ _ _ _ _ us hl => match us, hl with | [_], _ => rfl
theorem ck_is_dependent : pfB fnsN gls p_is_dependent = true := by decide +kernel
theorem bd_is_dependent : Bd p_is_dependent := fun _ _ _ _ _ _ us hl => match us, hl with | [_, _, _], _ => rfl
theorem ck__law_town : pfB fnsN gls p__law_town = true := by decide +kernel
theorem bd__law_town : Bd p__law_town := fun _ _ _ _ _ _ us hl => match us, hl with | [_], _ => rfl
theorem ck__law_draw : pfB fnsN gls p__law_draw = true := by decide +kernel
theorem bd__law_draw : Bd p__law_draw := fun _ _ _ _ _ _ us hl => match us, hl with | [_, _, _], _ => rfl
theorem ck__law_pick : pfB fnsN gls p__law_pick = true := by decide +kernel
theorem bd__law_pick : Bd p__law_pick := fun _ _ _ _ _ _ us hl => match us, hl with | [_, _, _], _ => rfl
theorem ck__law_sizes : pfB fnsN gls p__law_sizes = true := by decide +kernel
theorem bd__law_sizes : Bd p__law_sizes := fun _ _ _ _ _ _ us hl => match us, hl with | [_, _, _, _], _ => rfl
theorem ck__law_matrix : pfB fnsN gls p__law_matrix = true := by decide +kernel
theorem bd__law_matrix : Bd p__law_matrix := fun _ _ _ _ _ _ us hl => match us, hl with | [_, _], _ => rfl
theorem ck__law_table : pfB fnsN gls p__law_table = true := by decide +kernel
theorem bd__law_table : Bd p__law_table := fun _ _ _ _ _ _ us hl => match us, hl with | [_, _], _ => rfl
theorem ck__law_balances : pfB fnsN gls p__law_balances = true := by decide +kernel
theorem bd__law_balances : Bd p__law_balances := fun _ _ _ _ _ _ us hl => match us, hl with | [_, _], _ => rfl
theorem ck_law : pfB fnsN gls p_law = true := by decide +kernel
theorem bd_law : Bd p_law := fun _ _ _ _ _ _ us hl => match us, hl with | [_], _ => rfl
def loose0 : List Str := ["SignError", "InvalidSizes", "InvalidTable", "FACTORS", "is_between", "are_sizes", "found_matrix", "is_table", "check_table", "all_choices", "column_counts", "does_balance", "found_balancing", "balancing_choices", "surely_independent", "dependent_sizes", "is_dependent", "_law_town", "_law_draw", "_law_pick", "_law_sizes", "_law_matrix", "_law_table", "_law_balances"]
def loose : List Str := loose0
def tabsL : List Tb := [((("FACTORS" : String) : Str), ([.str ['+'], .str ['-'], .str ['0']] : List D), ([.int 1, .int (-1), .int 0] : List D))]
def names : List Str := fnsN ++ tabsL.map (·.1)
abbrev fa : List He.Fa := faOf names
abbrev fnD : List He.DefD := pfs.map PF.d
abbrev R : PySem.W.OpenRow := PySem.W.OpenLaw.row PySem.Challenge.rw_signsure_k40_whole_rows
abbrev hk : PySem.W.Hook := hookS 4 fa fnD (tsOf tabsL)
def ob (s : PySem.W.SharedT) : AlS := obsSG 4 fa fnD (tsOf tabsL) (HandSHeadRun.getT s)
theorem ob_eq (s : PySem.W.SharedT) : ob s = hk.obs s.abs := obsSG_eq (HandSHeadRun.getT_eq s)
theorem runF (w : World) : HandSHeadRun.RunEq R (PySem.W.view R.prog [28]) hk ob 4000 loose (w.withFollow "special-get-raises" false) := by
  intro os
  kernel_rfl
theorem runT (w : World) : HandSHeadRun.RunEq R (PySem.W.view R.prog [28]) hk ob 4000 loose (w.withFollow "special-get-raises" true) := by
  intro os
  kernel_rfl
theorem run (w : World) : HandSHeadRun.RunEq R (PySem.W.view R.prog [28]) hk ob 4000 loose w := PySem.W.byRow2 "special-get-raises" runF runT w
theorem cks : ∀ p ∈ pfs, pfB fnsN (tabsL.map (·.1)) p = true := by
  have : pfs.all (pfB fnsN (tabsL.map (·.1))) = true := by decide +kernel
  exact List.all_eq_true.mp this
theorem bds : ∀ p ∈ pfs, Bd p := by
  intro p hp
  simp only [pfs, List.mem_cons, List.not_mem_nil, or_false] at hp
  rcases hp with rfl | rfl | rfl | rfl | rfl | rfl | rfl | rfl | rfl | rfl | rfl | rfl | rfl | rfl | rfl | rfl | rfl | rfl | rfl | rfl | rfl
  · exact bd_is_between
  · exact bd_are_sizes
  · exact bd_found_matrix
  · exact bd_is_table
  · exact bd_check_table
  · exact bd_all_choices
  · exact bd_column_counts
  · exact bd_does_balance
  · exact bd_found_balancing
  · exact bd_balancing_choices
  · exact bd_surely_independent
  · exact bd_dependent_sizes
  · exact bd_is_dependent
  · exact bd__law_town
  · exact bd__law_draw
  · exact bd__law_pick
  · exact bd__law_sizes
  · exact bd__law_matrix
  · exact bd__law_table
  · exact bd__law_balances
  · exact bd_law
end T
end Sg
open PySem PySem.W PySem.Calls PyProof.Rows
theorem law_holds_of (hrun : ∀ ns : List Int, ns.length ≤ 63 → ∃ b', (Sg.kap (Sg.T.pfs.map Sg.PF.fn) (Sg.gOf Sg.T.tabsL) 60).f 20 [.val (.scr ns)] [] = .ok (.val (.bl true)) b') : PySem.Challenge.rw_signsure_k40_whole_rows.Holds := by
  w_on; o_law
  refine HandSHeadRun.head_any (r := OpenLaw.row PySem.Challenge.rw_signsure_k40_whole_rows) (q := view (OpenLaw.row PySem.Challenge.rw_signsure_k40_whole_rows).prog [28]) (H := Sg.T.hk) (ob := Sg.T.ob) (M := 4000) (loose := Sg.T.loose) (d := HandSHeadRun.topDef (OpenLaw.row PySem.Challenge.rw_signsure_k40_whole_rows).prog 28) (kwd := []) Sg.T.ob_eq
    (by kernel_rfl) (fun s => by kernel_rfl) Sg.T.run (by kernel_rfl) (by kernel_rfl) (by kernel_rfl) (by rfl) (by first | assumption | decide +kernel) (by decide +kernel) ⟨rfl, rfl, rfl, rfl, rfl, by decide +kernel⟩ ?hw ?hc
  case hw => w_witness2
  case hc =>
    refine L2.walk_ofE (l := PySem.Challenge.rw_signsure_k40_whole_rows) (n := 63) (k := 60) (x := "_law_script") (CX := L2.CX0) rfl (by decide) (by kernel_rfl) ⟨rfl, by decide, by decide⟩ ?F (fun _ _ _ _ z => z)
    intro w mg fa h Y G hmg0
    have hmg : mg ("law" : PySem.Str) = some (.ref fa) := by
      have e : (HandSHeadRun.topDef (OpenLaw.row PySem.Challenge.rw_signsure_k40_whole_rows).prog 28).name = ("law" : PySem.Str) := by kernel_rfl
      rw [← e]
      exact hmg0
    exact Sg.law_walk (P := (PySem.Challenge.rw_signsure_k40_whole_rows).prog) (k := 60) (pfs := Sg.T.pfs) (fns := Sg.T.fnsN) (tabs := Sg.T.tabsL) (p := Sg.T.p_law) (i := 20) (x := "_law_script") rfl Sg.T.cks Sg.T.bds (by decide +kernel) rfl rfl rfl hrun w mg fa h Y G hmg

theorem sg_g : Sg.gOf Sg.T.tabsL = Sg.T.g := by
  funext i
  exact match i with | 0 => rfl | n + 1 => rfl

theorem PySem.Challenge.cw_signsure_k40_whole_rows_holds : PySem.Challenge.rw_signsure_k40_whole_rows.Holds := by
  refine law_holds_of fun ns hl => ?_
  rw [sg_g]
  exact Sg.T.s_law hl Sg.law_done
