import PyProof.Rows.All
import Wide.All
import OpenK.AllK
import Wide.FinOn
import HandS.ForMost
import HandS.IsInst
import HandS.Walk
import HandS.Flow
import HandS.TupAny
import HandS.Deep
import HandS.Wide
import HandS.Style
import HandS.ForExc
import HandS.CallSlots
import HandS.TupMul
import HandS.Conv
import HandS.More
import HandS.StrMore
import HandS.WordsDict
import PyProof.ReprRoads
import HandS.RaiseMore
import PyProof.Rows.SumAny
import HandS.Zip
import KE.GoesEnum
import KE.GoesMore
import PyProof.EnumMake
import HandS.SortInts
import HandS.SetFor
import HandS.Strs
import HandS.Replace
import HandS.Defaults
import HandS.EndBits
import HandS.HeadEnd
import KE.KStateDown
import HandS.Ends
import HandS.Words
import HandS.WordsExc
import HandS.Head0
import HandS.Head1
import HandS.Head2
import HandS.HeadHook1
import HandS.HeadHook2
import HandS.HeadHook4
import PySem.Challenge.RW_meadowballs_k33_dues_and_fair_draws
set_option Elab.async false
set_option linter.all false
set_option maxRecDepth 100000
set_option maxHeartbeats 0
/-! tuples of which it is known that they have no dict: the rules that make them, told once more -/
namespace Dp
open PySem PySem.Spec L2
open PyProof.Rows hiding St

/-- a tuple without a dict: pinned as it was made, or an object of the module -/
def TqN (K : PySem.W.Frag) (H : Hp) (a : Addr) (xs : List V) : Prop :=
  (∃ o, H a = some (.frz o (.tup xs)) ∧ o.cls = .type "tuple" ∧ o.dict = none) ∨
    ∃ (o : Obj) (its : Array Value) (n : Nat), K.lookup a = some o ∧ o.cls = .type "tuple" ∧ o.dict = none ∧ o.data = .seq its n ∧ its.size ≤ sizeLine ∧ Vals xs its.toList
theorem TqN.sq {K : PySem.W.Frag} {H : Hp} {a : Addr} {xs : List V} (h : TqN K H a xs) : SqT K H a xs := by
  rcases h with ⟨o, h, _, _⟩ | ⟨o, its, n, h1, h2, _, h3, h4, h5⟩
  · exact .inl (.inr ⟨o, h⟩)
  · exact .inr ⟨o, its, n, h1, h2, h3, h4, h5⟩
/-- wherever a new tuple of these lies -/
def FrT (H : Hp) (Q : VK) (xs : List V) : Prop := ∀ p o, H p = none → o.cls = .type "tuple" → o.dict = none → Q (.ref p) (upd H p (.frz o (.tup xs)))
section
variable {X : Cx} {pins : List (Addr × Obj)} {σ : L2.St} {H : Hp} {s : Shared}
theorem frT {us : Array Value} {xs : List V} {Q : VK} {t : Nat} (I : Inv X pins σ H s) (r : Vals xs us.toList) (z : xs.length ≤ sizeLine) (q : FrT H Q xs) :
    EP X pins σ Q (.ref s.heap.objs.size) { s with heap := s.heap.push { cls := .type "tuple", data := .seq us }, toks := t } :=
  ⟨.ref s.heap.objs.size, upd H s.heap.objs.size (.frz { cls := .type "tuple", data := .seq us } (.tup xs)), I.laid (t' := t) (fun b u e => Heap.get?_push_of_some _ e) (Nat.le_refl _)
    ⟨Heap.get?_push_size _ rfl, z, us.toList, r, ⟨_, Heap.get?_push_size _ rfl, rfl, 0, by rw [Array.toArray_toList]⟩⟩, rfl, q _ _ (I.hok.fresh (Nat.le_refl _)) rfl rfl⟩
theorem TqN.is {a : Addr} {xs : List V} (I : Inv X pins σ H s) (h : TqN X.K H a xs) : s.TypeIs (.ref a) "tuple" ∧ ∃ ob, s.heap.get? a = some ob ∧ ob.dict = none := by
  rcases h with ⟨o, h, h1, h2⟩ | ⟨o, its, n, h1, h2, h3, _⟩
  · have g := (show ObjOk X.prog X.w H s.heap a (.frz o (.tup xs)) from I.hok a _ h).1
    exact ⟨⟨o, g, h1⟩, o, g, h2⟩
  · have g := I.kIn a o h1
    exact ⟨⟨o, g, h2⟩, o, g, h3⟩
end
section
variable {X : Cx} {es : List Expr} {t : TA} {pos : Pos}
def tTupN (t : TA) : TE := fun σ H Q => t σ H fun xs H1 => xs.length ≤ sizeLine ∧ FrT H1 Q xs
theorem pe_tupN {x1} (h : PA X es t) : PE X (.Tuple es x1 pos) (tTupN t) := by
  refine ⟨fun pins s σ H Q I hq => ?_⟩
  exact wpAny_Tuple_spliced (thn (h.run pos pins s σ H _ I hq) fun us s1 ⟨xs, H1, I1, r, z, q⟩ => ⟨by rw [← r.length]; exact z, frT (us := us.toArray) (t := s1.toks) I1 r z q⟩)
def rCatN (K : PySem.W.Frag) : R2 := fun x y H Q => ∃ a b xs ys, x = .ref a ∧ y = .ref b ∧ SqT K H a xs ∧ SqT K H b ys ∧ xs.length + ys.length ≤ sizeLine ∧
  (xs = [] → Q (.ref b) H) ∧ (xs ≠ [] → ys = [] → Q (.ref a) H) ∧ (xs ≠ [] → ys ≠ [] → FrT H Q (xs ++ ys))
theorem op_catN : OpR X (binaryOp .Add) (rCatN X.K) := by
  intro pins s σ H x y v u Q I rx ry h
  obtain ⟨a, b, xs, ys, rfl, rfl, ha, hb, hz, q0, q1, q2⟩ := h
  cases rx
  cases ry
  obtain ⟨its, r1, p1, _⟩ := I.tuple ha
  obtain ⟨its2, r2, p2, _⟩ := I.tuple hb
  by_cases hx : xs = []
  · subst hx
    cases r1
    exact cat_tup0 p1 p2 ⟨.ref b, H, I, rfl, q0 rfl⟩
  · refine HT.cat_tup p1 p2 (fun z => hx (r1.nil_iff.mp z)) (fun z => ⟨.ref a, H, I, rfl, q1 hx (r2.nil_iff.mp z)⟩) (fun z => ?_) (by rw [← r1.length, ← r2.length]; exact hz)
    exact frT (us := (its ++ its2).toArray) (t := s.toks) I (r1.append r2) (by rw [List.length_append]; exact hz) (q2 hx fun w => z (r2.nil_iff.mpr w))
def rSlN (K : PySem.W.Frag) : V → Option Int → Option Int → Hp → VK → Prop := fun x lo hi H Q => ∃ a xs, x = .ref a ∧ SqT K H a xs ∧
  (HT.sIx xs.length 0 lo = 0 ∧ HT.sIx xs.length xs.length hi = xs.length → Q (.ref a) H) ∧ (¬ (HT.sIx xs.length 0 lo = 0 ∧ HT.sIx xs.length xs.length hi = xs.length) → FrT H Q (cutV xs lo hi))
theorem sl_tupN : SlR X (rSlN X.K) := by
  intro pins s σ H x v vl vu lo hi sl Q I rx hs pl pu h
  obtain ⟨a, xs, rfl, hx, q1, q2⟩ := h
  cases rx
  obtain ⟨its, r, ht, hz⟩ := I.tuple hx
  have hlen : its.toArray.size = xs.length := by rw [List.size_toArray]; exact r.length.symm
  refine ⟨"tuple", _, PyProof.Rows.slot_tuple_getitem.lookup, ht.typeIs, ?_⟩
  by_cases hw : HT.sIx xs.length 0 lo = 0 ∧ HT.sIx xs.length xs.length hi = xs.length
  · exact getItem_tuple_whole ht hs pl pu (by rw [hlen]; exact hw) ⟨.ref a, H, I, rfl, q1 hw⟩
  · refine HT.getItem_tuple_cut ht hs pl pu (by rw [hlen]; exact hw) ?_ (by rw [hlen]; exact hz)
    rw [hlen]
    exact frT (t := s.toks) I (xs := cutV xs lo hi) ((r.drop (HT.sIx xs.length 0 lo)).take (HT.sIx xs.length xs.length hi - HT.sIx xs.length 0 lo)) (Nat.le_trans (cutV_length xs lo hi) hz) (q2 hw)
def rTupOfN (K : PySem.W.Frag) : List V → Hp → VK → Prop := fun xs H Q => ∃ p ys, xs = [.ref p] ∧ ((SqL K H p ys ∧ FrT H Q ys) ∨ (SqT K H p ys ∧ Q (.ref p) H))
theorem call_tupleN : CallR X (.type "tuple") (rTupOfN X.K) := by
  intro pins s σ H xs us Q I r h
  obtain ⟨p, ys, rfl, h⟩ := h
  obtain ⟨u, rfl, rx⟩ := vals1 r
  cases rx
  rcases h with ⟨hq, q⟩ | ⟨hq, q⟩
  · obtain ⟨its, r', pl, hz⟩ := I.list hq
    have hlen := r'.length
    refine call_tuple_list pl.isList (fun h' kp => ?_) (by simp only [List.size_toArray] <;> omega)
    have I1 : Inv X pins σ H { s with heap := h' } := I.kept (t' := s.toks) kp
    exact frT (us := its.toArray) (t := s.toks) I1 r' hz q
  · obtain ⟨its, r', pl, hz⟩ := I.tuple hq
    exact call_tuple_same pl ⟨.ref p, H, I, rfl, q⟩
def tTupRgN (te : L2.St → Hp → (Int → Int → Hp → Prop) → Prop) : TE := fun σ H Q => te σ H fun a b H1 => RgOk a b ∧ FrT H1 Q (rgV a b)
theorem pe_tupRgN {te : L2.St → Hp → (Int → Int → Hp → Prop) → Prop} {e : Expr} {p pos : Pos} (hc : X.calm = true) (hg : Gl X "tuple") (hm : X.mg "tuple" = none) (he : PRg X e te) (na : starEach [e] X.env = (false, eval e X.env) :: starEach [] X.env := by rfl) : PE X (.Call (.Name "tuple" p) [e] [] pos) (tTupRgN te) := by
  refine ⟨fun pins s σ H Q I h => ?_⟩
  refine Call_ (ld_blt I hg hm boot_tuple (PyProof.Rows.callWith_type1 (args_cons (thn (he pins s σ H _ I h) fun x s1 ⟨r, a, b, t, u, v, H1, ex, hr, I1, ok, q⟩ => args_nil ?_) na) na))
  subst ex
  obtain ⟨b1, b2, b3, b4, b5⟩ := ok
  refine call_tuple_range (n := (b - a).toNat) (I1.ok.hd hc) hr (small_one b1 b2 b3 b4) (rangeSize_nat a b) b5 fun h' tk acc hk hi => ?_
  have I2 : Inv X pins σ H1 { s1 with heap := h', toks := tk } := I1.kept hk
  exact frT (us := acc) (t := tk) I2 (vals_rg hi) (by rw [rgV_length, sizeLine_eq]; omega) q
def rRepTN (K : PySem.W.Frag) : R2 := fun x y H Q => ∃ l k xs, x = .ref l ∧ y = .int k ∧ SqT K H l xs ∧ xs ≠ [] ∧ 2 ≤ k ∧ k ≤ 1000 ∧ xs.length ≤ 1000 ∧ FrT H Q (List.replicate k.toNat xs).flatten
theorem op_repTN : OpR X (binaryOp .Mult) (rRepTN X.K) := by
  intro pins s σ H x y v u Q I rx ry h
  obtain ⟨l, k, xs, rfl, rfl, hT, hne, h1, h2, hz, q⟩ := h
  obtain ⟨t, rfl⟩ := ry
  cases rx
  obtain ⟨its, r, ⟨⟨cls, dd, data, sl⟩, ho, hc, n, hd⟩, _⟩ := I.tuple hT
  simp only at hc hd
  subst hc hd
  have len := r.length
  have many : its.toArray.isEmpty = false := by
    cases its with
    | nil => cases r; exact absurd rfl hne
    | cons _ _ => rfl
  have top : (xs.length : Int) * k ≤ 1000000 := by
    have : (xs.length : Int) * k ≤ 1000 * 1000 := Int.mul_le_mul (by omega) h2 (by omega) (by decide)
    omega
  have top2 : ((its.toArray.size : Nat) : Int) * k ≤ 1000000 := by rw [List.size_toArray, ← len]; exact top
  have room : (List.replicate k.toNat xs).flatten.length ≤ sizeLine := by
    rw [PyProof.Rows.lm_len_rep_flat, sizeLine_eq]
    have := Nat.mul_le_mul (show k.toNat ≤ 1000 by omega) hz
    omega
  have rr := r.rep k.toNat
  have a0 : (decide (k < -(2 ^ 63)) || decide (k ≥ 2 ^ 63)) = false := by simp; omega
  have a1 : (its.toArray.isEmpty || k == 1) = false := by rw [many]; simp; omega
  have a2 : (decide (k ≤ 0) || its.toArray.isEmpty) = false := by rw [many]; simp; omega
  have a4 : Builtin.Tuple.tupleTooMany (((its.toArray.size : Nat) : Int) * k) = false := decide_eq_false (by rw [sizeLine_eq]; omega)
  have a5 := tuple_mulW l its.toArray n dd sl k t a0 a1 a2 (by omega) a4 (by rw [size_rep, List.size_toArray, ← rr.length]; exact room)
  have ty : s.TypeIs (.ref l) "tuple" := ⟨_, ho, rfl⟩
  have fin := frT (us := (List.replicate k.toNat its).flatten.toArray) (t := s.toks) I rr room q
  rw [← size_rep] at fin
  exact wpAny_binaryOp_repeat_ref (U := "int") (by decide) ty (fun s' => typeIs_int s' k t) noFill_tuple_mul F.fills_int_mul F.slot_int_rmul repeat_tuple F.slot_int_index.lookup
    (call_meets F.slot_int_rmul (typeIs_int s k t) F.entry_int_rmul (F.args_int_rmul_2 _ _) (int_rmul_tuple k t l its.toArray n dd sl)
      ⟨ho, rfl, ty, call_meets F.slot_tuple_mul ty F.entry_tuple_mul (F.args_tuple_mul_2 _ _) a5 ⟨ho, fin⟩⟩)
end
end Dp
/-! my own layer: plain values (tuples as trees), a store of lists and dicts, what relates them to the heap -/
namespace Dp
open PySem PySem.Spec L2
open PyProof.Rows hiding St

inductive W where
  | non | bl (b : Bool) | int (i : Int) | str (x : Str) | tup (xs : List W) | ref (a : Addr) | ty (n : String) | kls (xs : List W)
inductive Ce where
  | lst (xs : List W)
  | frz (xs : List W)
  | dic (kvs : List (Key × W))
abbrev Sto := Addr → Option Ce
def Sto.put (S : Sto) (a : Addr) (c : Ce) : Sto := fun b => if b = a then some c else S b
theorem put_same {S : Sto} {a : Addr} {c : Ce} : S.put a c a = some c := if_pos rfl
theorem put_ne {S : Sto} {a b : Addr} {c : Ce} (h : b ≠ a) : S.put a c b = S b := if_neg h
theorem put_put {S : Sto} {a : Addr} {c d : Ce} : (S.put a c).put a d = S.put a d := by
  funext b; unfold Sto.put; split <;> rfl
/-- an exception: its class by number, its fields -/
structure Xn where
  cls : Nat
  fs : List (Str × W)
abbrev Ro := List (Option W)
abbrev WK := W → Sto → Prop
abbrev EK := Xn → Sto → Prop
abbrev WE := Ro → Sto → WK → EK → Prop
abbrev WEs := Ro → Sto → (List W → Sto → Prop) → EK → Prop
abbrev WT := Ro → Sto → (Bool → Sto → Prop) → EK → Prop
def rget : Ro → Nat → Option W
  | [], _ => none
  | x :: _, 0 => x
  | _ :: r, n + 1 => rget r n
def rset : Ro → Nat → Option W → Ro
  | [], _, _ => []
  | _ :: r, 0, w => w :: r
  | x :: r, n + 1, w => x :: rset r n w

/-- a list that may be read -/
def Lw (S : Sto) (a : Addr) (xs : List W) : Prop := S a = some (.lst xs) ∨ S a = some (.frz xs)

/-! ### relations -/
/-- a list that stands in the written part -/
def KsL (K : PySem.W.Frag) (a : Addr) (xs : List V) : Prop := ∀ H : Hp, SqL K H a xs
mutual
inductive RV (K : PySem.W.Frag) (H : Hp) : W → V → Prop where
  | non : RV K H .non .non
  | bl (b : Bool) : RV K H (.bl b) (.bl b)
  | int (i : Int) : RV K H (.int i) (.int i)
  | str (x : Str) : RV K H (.str x) (.str x)
  | ref (a : Addr) : RV K H (.ref a) (.ref a)
  | ty (n : String) : RV K H (.ty n) (.ty n)
  | tup {ws : List W} {a : Addr} {vs : List V} (h : TqN K H a vs) (r : RVs K H ws vs) : RV K H (.tup ws) (.ref a)
  | kls {ws : List W} {a : Addr} {vs : List V} (h : KsL K a vs) (r : RVs K H ws vs) : RV K H (.kls ws) (.ref a)
inductive RVs (K : PySem.W.Frag) (H : Hp) : List W → List V → Prop where
  | nil : RVs K H [] []
  | cons {w : W} {v : V} {ws : List W} {vs : List V} (h : RV K H w v) (t : RVs K H ws vs) : RVs K H (w :: ws) (v :: vs)
end
def RKV (K : PySem.W.Frag) (H : Hp) (a : List (Key × W)) (b : List (Key × V)) : Prop := Paired (fun (p : Key × W) (q : Key × V) => p.1 = q.1 ∧ RV K H p.2 q.2) a b
def RFs (K : PySem.W.Frag) (H : Hp) (a : List (Str × W)) (b : List (Str × V)) : Prop := Paired (fun (p : Str × W) (q : Str × V) => p.1 = q.1 ∧ RV K H p.2 q.2) a b
inductive RC (K : PySem.W.Frag) (H : Hp) : Ce → HO → Prop where
  | lst {ws : List W} {vs : List V} (r : RVs K H ws vs) : RC K H (.lst ws) (.lst vs)
  | frz {ws : List W} {vs : List V} {o : Obj} (r : RVs K H ws vs) : RC K H (.frz ws) (.frz o (.lst vs))
  | dic {ws : List (Key × W)} {vs : List (Key × V)} (r : RKV K H ws vs) : RC K H (.dic ws) (.dK vs)
def RS (K : PySem.W.Frag) (H : Hp) (S : Sto) : Prop := ∀ a c, S a = some c → ∃ o, H a = some o ∧ RC K H c o
def RE (K : PySem.W.Frag) (H : Hp) (ρ : Ro) (σ : St) : Prop := ρ.length ≤ σ.length ∧ ∀ i w, rget ρ i = some w → ∃ v, σ[i]? = some (some v) ∧ RV K H w v
/-- what the store does not own stays -/
def Ext (H : Hp) (S : Sto) (H' : Hp) (S' : Sto) : Prop := ∀ a o, H a = some o → S a = none → H' a = some o ∧ S' a = none
/-- the tuples stay -/
def Tst (K : PySem.W.Frag) (H H' : Hp) : Prop := ∀ a xs, TqN K H a xs → TqN K H' a xs
theorem Ext.refl {H : Hp} {S : Sto} : Ext H S H S := fun _ _ h h' => ⟨h, h'⟩
theorem Ext.trans {H H1 H2 : Hp} {S S1 S2 : Sto} (a : Ext H S H1 S1) (b : Ext H1 S1 H2 S2) : Ext H S H2 S2 := fun x o h h' => let ⟨p, q⟩ := a x o h h'; b x o p q
section
variable {K : PySem.W.Frag} {H H' : Hp} {S S' : Sto}
theorem RS.notTup (rs : RS K H S) {a : Addr} {xs : List V} (h : H a = some (.tup xs)) : S a = none := by
  cases e : S a with
  | none => rfl
  | some c =>
    obtain ⟨o, h1, r⟩ := rs a c e
    rw [h] at h1; cases h1; cases r
theorem RS.notFrzT (rs : RS K H S) {a : Addr} {o : Obj} {xs : List V} (h : H a = some (.frz o (.tup xs))) : S a = none := by
  cases e : S a with
  | none => rfl
  | some c =>
    obtain ⟨o, h1, r⟩ := rs a c e
    rw [h] at h1; cases h1; cases r
theorem RS.fresh (rs : RS K H S) {a : Addr} (h : H a = none) : S a = none := by
  cases e : S a with
  | none => rfl
  | some c =>
    obtain ⟨o, h1, _⟩ := rs a c e
    rw [h] at h1; cases h1
theorem Ext.tst (e : Ext H S H' S') (rs : RS K H S) : Tst K H H' := fun a xs h => by
  rcases h with ⟨o, h, h1, h2⟩ | h
  · exact .inl ⟨o, (e a _ h (rs.notFrzT h)).1, h1, h2⟩
  · exact .inr h
mutual
theorem RV.tst (t : Tst K H H') : ∀ {w : W} {v : V}, RV K H w v → RV K H' w v
  | _, _, .non => .non
  | _, _, .bl b => .bl b
  | _, _, .int b => .int b
  | _, _, .str b => .str b
  | _, _, .ref b => .ref b
  | _, _, .ty b => .ty b
  | _, _, .tup h r => .tup (t _ _ h) (RVs.tst t r)
  | _, _, .kls h r => .kls h (RVs.tst t r)
theorem RVs.tst (t : Tst K H H') : ∀ {w : List W} {v : List V}, RVs K H w v → RVs K H' w v
  | _, _, .nil => .nil
  | _, _, .cons h r => .cons (RV.tst t h) (RVs.tst t r)
end
theorem RKV.tst (t : Tst K H H') {a : List (Key × W)} {b : List (Key × V)} (r : RKV K H a b) : RKV K H' a b := Paired.mapP r fun _ _ z => ⟨z.1, z.2.tst t⟩
theorem RFs.tst (t : Tst K H H') {a : List (Str × W)} {b : List (Str × V)} (r : RFs K H a b) : RFs K H' a b := Paired.mapP r fun _ _ z => ⟨z.1, z.2.tst t⟩
theorem RC.tst (t : Tst K H H') {c : Ce} {o : HO} (r : RC K H c o) : RC K H' c o := by
  cases r with
  | lst r => exact .lst (r.tst t)
  | frz r => exact .frz (r.tst t)
  | dic r => exact .dic (r.tst t)
theorem RE.tst (t : Tst K H H') {ρ : Ro} {σ : St} (r : RE K H ρ σ) : RE K H' ρ σ := ⟨r.1, fun i w h => let ⟨v, a, b⟩ := r.2 i w h; ⟨v, a, b.tst t⟩⟩
theorem RVs.length {w : List W} {v : List V} (r : RVs K H w v) : w.length = v.length := by
  induction w generalizing v with
  | nil => cases r; rfl
  | cons x xs ih => cases r with | cons h t => rw [List.length_cons, List.length_cons, ih t]
theorem RVs.get {w : List W} {v : List V} (r : RVs K H w v) {i : Nat} {y : V} (h : v[i]? = some y) : ∃ x, w[i]? = some x ∧ RV K H x y := by
  induction w generalizing v i with
  | nil => cases r; simp at h
  | cons x xs ih =>
    cases r with
    | cons h1 t =>
      cases i with
      | zero => simp at h; subst h; exact ⟨x, by simp, h1⟩
      | succ i => simpa using ih t (by simpa using h)
theorem RVs.get' {w : List W} {v : List V} (r : RVs K H w v) {i : Nat} {x : W} (h : w[i]? = some x) : ∃ y, v[i]? = some y ∧ RV K H x y := by
  induction w generalizing v i with
  | nil => simp at h
  | cons z xs ih =>
    cases r with
    | cons h1 t =>
      cases i with
      | zero => simp at h; subst h; exact ⟨_, by simp, h1⟩
      | succ i => simpa using ih t (by simpa using h)
theorem RVs.append {a c : List W} {b d : List V} (r : RVs K H a b) (s : RVs K H c d) : RVs K H (a ++ c) (b ++ d) := by
  induction a generalizing b with
  | nil => cases r; exact s
  | cons x xs ih => cases r with | cons h t => exact .cons h (ih t)
theorem RVs.take {a : List W} {b : List V} (n : Nat) (r : RVs K H a b) : RVs K H (a.take n) (b.take n) := by
  induction a generalizing b n with
  | nil => cases r; simp; exact .nil
  | cons x xs ih =>
    cases r with
    | cons h t =>
      cases n with
      | zero => simp; exact .nil
      | succ n => simp; exact .cons h (ih n t)
theorem RVs.drop {a : List W} {b : List V} (n : Nat) (r : RVs K H a b) : RVs K H (a.drop n) (b.drop n) := by
  induction a generalizing b n with
  | nil => cases r; simp; exact .nil
  | cons x xs ih =>
    cases r with
    | cons h t =>
      cases n with
      | zero => exact .cons h t
      | succ n => simp; exact ih n t
theorem RVs.set {a : List W} {b : List V} {x : W} {y : V} (i : Nat) (r : RVs K H a b) (h : RV K H x y) : RVs K H (a.set i x) (b.set i y) := by
  induction a generalizing b i with
  | nil => cases r; simp; exact .nil
  | cons z xs ih =>
    cases r with
    | cons h1 t =>
      cases i with
      | zero => exact .cons h t
      | succ n => exact .cons h1 (ih n t)
theorem RVs.rev {a : List W} {b : List V} (r : RVs K H a b) : RVs K H a.reverse b.reverse := by
  induction a generalizing b with
  | nil => cases r; exact .nil
  | cons x xs ih => cases r with | cons h t => simp; exact (ih t).append (.cons h .nil)
theorem RVs.eraseIdx {a : List W} {b : List V} (i : Nat) (r : RVs K H a b) : RVs K H (a.eraseIdx i) (b.eraseIdx i) := by
  induction a generalizing b i with
  | nil => cases r; simp; exact .nil
  | cons z xs ih =>
    cases r with
    | cons h1 t =>
      cases i with
      | zero => exact t
      | succ n => exact .cons h1 (ih n t)
theorem tst_upd_new {p : Addr} {o : HO} (h : H p = none) : Tst K H (upd H p o) := fun a xs q => by
  rcases q with ⟨ob, q, q1, q2⟩ | q
  · exact .inl ⟨ob, by rw [upd_ne (ne_of_none q h)]; exact q, q1, q2⟩
  · exact .inr q
theorem TqN.new {H : Hp} {p : Addr} {o : Obj} {xs : List V} (c : o.cls = .type "tuple") (d : o.dict = none) : TqN K (upd H p (.frz o (.tup xs))) p xs := .inl ⟨o, upd_same, c, d⟩
/-- a new object that the store does not own (a tuple) -/
theorem RS.tup (rs : RS K H S) {p : Addr} {o : HO} (h : H p = none) : RS K (upd H p o) S := fun a c e => by
  obtain ⟨u, h1, r⟩ := rs a c e
  exact ⟨u, by rw [upd_ne (ne_of_none h1 h)]; exact h1, r.tst (tst_upd_new h)⟩
theorem Ext.tup {p : Addr} {o : HO} (h : H p = none) : Ext H S (upd H p o) S := fun a u e e' => ⟨by rw [upd_ne (ne_of_none e h)]; exact e, e'⟩
/-- a new object that it owns -/
theorem RS.new (rs : RS K H S) {p : Addr} {o : HO} {c : Ce} (h : H p = none) (r : RC K H c o) : RS K (upd H p o) (S.put p c) := fun a d e => by
  by_cases z : a = p
  · subst z
    rw [put_same] at e; cases e
    exact ⟨o, upd_same, r.tst (tst_upd_new h)⟩
  · rw [put_ne z] at e
    exact rs.tup h a d e
theorem Ext.new {p : Addr} {o : HO} {c : Ce} (h : H p = none) : Ext H S (upd H p o) (S.put p c) := fun a u e e' => ⟨by rw [upd_ne (ne_of_none e h)]; exact e, by rw [put_ne (ne_of_none e h)]; exact e'⟩
/-- an owned object written -/
theorem tst_upd_own (rs : RS K H S) {p : Addr} {o : HO} {c : Ce} (h : S p = some c) : Tst K H (upd H p o) := fun a xs q => by
  rcases q with ⟨ob, q, q1, q2⟩ | q
  · have : a ≠ p := fun z => by subst z; rw [rs.notFrzT q] at h; cases h
    exact .inl ⟨ob, by rw [upd_ne this]; exact q, q1, q2⟩
  · exact .inr q
theorem RS.put (rs : RS K H S) {p : Addr} {o : HO} {c d : Ce} (h : S p = some c) (r : RC K H d o) : RS K (upd H p o) (S.put p d) := fun a e q => by
  by_cases z : a = p
  · subst z
    rw [put_same] at q; cases q
    exact ⟨o, upd_same, r.tst (tst_upd_own rs h)⟩
  · rw [put_ne z] at q
    obtain ⟨u, h1, r1⟩ := rs a e q
    exact ⟨u, by rw [upd_ne z]; exact h1, r1.tst (tst_upd_own rs h)⟩
theorem Ext.put {p : Addr} {o : HO} {c d : Ce} (h : S p = some c) : Ext H S (upd H p o) (S.put p d) := fun a u e e' => by
  have : a ≠ p := fun z => by subst z; rw [e'] at h; cases h
  exact ⟨by rw [upd_ne this]; exact e, by rw [put_ne this]; exact e'⟩
theorem RS.list (rs : RS K H S) {a : Addr} {xs : List W} (h : Lw S a xs) : ∃ vs, SqL K H a vs ∧ RVs K H xs vs := by
  rcases h with h | h
  · obtain ⟨o, h1, r⟩ := rs a _ h
    cases r with | lst r => exact ⟨_, SqL.of h1, r⟩
  · obtain ⟨o, h1, r⟩ := rs a _ h
    cases r with | frz r => exact ⟨_, .inl (.inr ⟨_, h1⟩), r⟩
theorem RS.lst (rs : RS K H S) {a : Addr} {xs : List W} (h : S a = some (.lst xs)) : ∃ vs, H a = some (.lst vs) ∧ RVs K H xs vs := by
  obtain ⟨o, h1, r⟩ := rs a _ h
  cases r with | lst r => exact ⟨_, h1, r⟩
theorem RS.dic (rs : RS K H S) {a : Addr} {xs : List (Key × W)} (h : S a = some (.dic xs)) : ∃ vs, H a = some (.dK vs) ∧ RKV K H xs vs := by
  obtain ⟨o, h1, r⟩ := rs a _ h
  cases r with | dic r => exact ⟨_, h1, r⟩
theorem rget_rset {ρ : Ro} {i j : Nat} {w : Option W} {x : W} (h : rget (rset ρ i w) j = some x) : (j = i ∧ w = some x) ∨ (j ≠ i ∧ rget ρ j = some x) := by
  induction ρ generalizing i j with
  | nil => simp [rset, rget] at h
  | cons y r ih =>
    cases i with
    | zero =>
      cases j with
      | zero => exact .inl ⟨rfl, h⟩
      | succ j => exact .inr ⟨by omega, h⟩
    | succ i =>
      cases j with
      | zero => exact .inr ⟨by omega, h⟩
      | succ j =>
        rcases ih (i := i) (j := j) h with ⟨a, b⟩ | ⟨a, b⟩
        · exact .inl ⟨by omega, b⟩
        · exact .inr ⟨by omega, b⟩
theorem rset_length (ρ : Ro) (i : Nat) (w : Option W) : (rset ρ i w).length = ρ.length := by
  induction ρ generalizing i with
  | nil => rfl
  | cons x r ih =>
    cases i with
    | zero => rfl
    | succ i => simp [rset, ih]
theorem rget_lt {ρ : Ro} {i : Nat} {x : W} (h : rget ρ i = some x) : i < ρ.length := by
  induction ρ generalizing i with
  | nil => simp [rget] at h
  | cons y r ih =>
    cases i with
    | zero => simp
    | succ i => have := ih (i := i) h; simp; omega
theorem RE.set {ρ : Ro} {σ : St} (r : RE K H ρ σ) {i : Nat} {w : W} {v : V} (h : RV K H w v) : RE K H (rset ρ i (some w)) (σ.set i (some v)) := ⟨by rw [rset_length, List.length_set]; exact r.1, fun j x e => by
  have hj := rget_lt e
  rw [rset_length] at hj
  rcases rget_rset e with ⟨e1, e2⟩ | ⟨ne, e2⟩
  · cases e2
    subst e1
    exact ⟨v, by rw [List.getElem?_set_self (Nat.lt_of_lt_of_le hj r.1)], h⟩
  · obtain ⟨y, a, b⟩ := r.2 j x e2
    exact ⟨y, by rw [List.getElem?_set_ne (Ne.symm ne)]; exact a, b⟩⟩
/-- forgotten slots -/
def rwipe (ρ : Ro) : List Nat → Ro
  | [] => ρ
  | v :: vs => rset (rwipe ρ vs) v none
theorem rwipe_length (ρ : Ro) : ∀ vs : List Nat, (rwipe ρ vs).length = ρ.length
  | [] => rfl
  | v :: vs => by show (rset (rwipe ρ vs) v none).length = _; rw [rset_length, rwipe_length]
theorem RE.wipe {ρ : Ro} {σ : St} (r : RE K H ρ σ) : ∀ (vs : List Nat), RE K H (rwipe ρ vs) (L2.wipe σ vs)
  | [] => r
  | v :: vs => ⟨by rw [rwipe_length, L2.wipe_length]; exact r.1, fun j x e => by
    have e : rget (rset (rwipe ρ vs) v none) j = some x := e
    rcases rget_rset e with ⟨_, e2⟩ | ⟨ne, e2⟩
    · cases e2
    · obtain ⟨y, a, b⟩ := (RE.wipe r vs).2 j x e2
      exact ⟨y, by show ((L2.wipe σ vs).set v none)[j]? = _; rw [List.getElem?_set_ne (Ne.symm ne)]; exact a, b⟩⟩
theorem wipe_set (σ : St) (i : Nat) (v : Option V) : ∀ vs : List Nat, L2.wipe (σ.set i v) vs = if i ∈ vs then L2.wipe σ vs else (L2.wipe σ vs).set i v
  | [] => by simp [L2.wipe]
  | a :: vs => by
    show (L2.wipe (σ.set i v) vs).set a none = _
    rw [wipe_set σ i v vs]
    by_cases h : i = a
    · subst h
      rw [if_pos (List.mem_cons_self ..)]
      show _ = (L2.wipe σ vs).set i none
      split
      · rfl
      · rw [List.set_set]
    · by_cases h2 : i ∈ vs
      · rw [if_pos h2, if_pos (List.mem_cons_of_mem _ h2)]; rfl
      · rw [if_neg h2, if_neg (by simp [h, h2])]
        show ((L2.wipe σ vs).set i v).set a none = ((L2.wipe σ vs).set a none).set i v
        rw [List.set_comm _ _ h]
theorem wipe_in {σ : St} {i : Nat} {v : Option V} {vs : List Nat} (h : i ∈ vs) : L2.wipe (σ.set i v) vs = L2.wipe σ vs := by
  rw [wipe_set, if_pos h]
end

/-! ### readings -/
/-- the constants of a whole: the written part, the addresses of the exception classes -/
structure Cst where
  K : PySem.W.Frag
  cl : Nat → Addr
def RXn (c : Cst) (H : Hp) (S : Sto) (x : Xn) (cls : Value) (d : Option Addr) : Prop :=
  cls = .ref (c.cl x.cls) ∧ ∃ dd fs, d = some dd ∧ H dd = some (.xd fs) ∧ S dd = none ∧ RFs c.K H x.fs fs
/-- what follows an expression -/
structure Post (c : Cst) (Wx : WX) (σ : St) (H : Hp) (S : Sto) (Kk : WK) (Ek : EK) (Q : VK) : Prop where
  ok : ∀ w S' H' v, Kk w S' → Ext H S H' S' → RS c.K H' S' → RV c.K H' w v → Q v H'
  ex : ∀ x S' H' cls d, Ek x S' → Ext H S H' S' → RS c.K H' S' → RXn c H' S' x cls d → Wx cls d σ H'
/-- only the part for errors -/
def PoX (c : Cst) (Wx : WX) (σ : St) (H : Hp) (S : Sto) (Ek : EK) : Prop := ∀ x S' H' cls d, Ek x S' → Ext H S H' S' → RS c.K H' S' → RXn c H' S' x cls d → Wx cls d σ H'
theorem PoX.on {c : Cst} {Wx : WX} {σ : St} {H H1 : Hp} {S S1 : Sto} {Ek : EK} (p : PoX c Wx σ H S Ek) (e : Ext H S H1 S1) : PoX c Wx σ H1 S1 Ek := fun x S' H' cls d k e' => p x S' H' cls d k (e.trans e')
def tE (c : Cst) (Wx : WX) (m : WE) : TE := fun σ H Q => ∃ ρ S Kk Ek, RE c.K H ρ σ ∧ RS c.K H S ∧ m ρ S Kk Ek ∧
  (∀ w S' H' v, Kk w S' → Ext H S H' S' → RS c.K H' S' → RV c.K H' w v → Q v H') ∧ PoX c Wx σ H S Ek
def tA (c : Cst) (Wx : WX) (m : WEs) : TA := fun σ H Q => ∃ ρ S Kk Ek, RE c.K H ρ σ ∧ RS c.K H S ∧ m ρ S Kk Ek ∧
  (∀ ws S' H' vs, Kk ws S' → Ext H S H' S' → RS c.K H' S' → RVs c.K H' ws vs → Q vs H') ∧ PoX c Wx σ H S Ek
def tT (c : Cst) (Wx : WX) (m : WT) : TT := fun σ H Q => ∃ ρ S Kk Ek, RE c.K H ρ σ ∧ RS c.K H S ∧ m ρ S Kk Ek ∧
  (∀ b S' H', Kk b S' → Ext H S H' S' → RS c.K H' S' → Q b H') ∧ PoX c Wx σ H S Ek
section
variable {X : Cx} {e : Expr} {t t' : TE}
theorem PE.imp (h : PE X e t) (k : ∀ σ H Q, t' σ H Q → t σ H Q) : PE X e t' := ⟨fun pins s σ H Q I q => h.run pins s σ H Q I (k σ H Q q)⟩
theorem PT.imp {t t' : TT} (h : PT X e t) (k : ∀ σ H Q, t' σ H Q → t σ H Q) : PT X e t' := ⟨fun pins s σ H Q I q => h.run pins s σ H Q I (k σ H Q q)⟩
theorem PW.imp {t t' : TT} (h : PW X e t) (k : ∀ σ H Q, t' σ H Q → t σ H Q) : PW X e t' := ⟨fun wh pins s σ H Q I q => h.run wh pins s σ H Q I (k σ H Q q)⟩
theorem PA.imp {es : List Expr} {t t' : TA} (h : PA X es t) (k : ∀ σ H Q, t' σ H Q → t σ H Q) : PA X es t' := ⟨fun pos pins s σ H Q I q => h.run pos pins s σ H Q I (k σ H Q q)⟩
theorem PS.imp {st : Stmt} {t t' : TS} (h : PS X st t) (k : ∀ D σ H, t' D σ H → t D σ H) : PS X st t' := ⟨fun pins s σ H D I q => h.run pins s σ H D I (k D σ H q)⟩
theorem PSs.imp {st : List Stmt} {t t' : TS} (h : PSs X st t) (k : ∀ D σ H, t' D σ H → t D σ H) : PSs X st t' := ⟨fun pins s σ H D I q => h.run pins s σ H D I (k D σ H q)⟩
end

/-! ### expressions: names, constants -/
section
variable {X : Cx} {c : Cst} {Wx : WX}
def mVar (i : Nat) : WE := fun ρ S Kk _ => match rget ρ i with
  | some w => Kk w S
  | none => False
def mCst (w : W) : WE := fun _ S Kk _ => Kk w S
theorem s_var {i : Nat} {x : Str} {pos : Pos} (h : PE X (.Name x pos) (tVar i)) : PE X (.Name x pos) (tE c Wx (mVar i)) := PE.imp h fun σ H Q q => by
  obtain ⟨ρ, S, Kk, Ek, re, rs, hm, po, _⟩ := q
  unfold mVar at hm
  cases e : rget ρ i with
  | none => rw [e] at hm; exact hm.elim
  | some w =>
    rw [e] at hm
    obtain ⟨v, a, b⟩ := re.2 i w e
    exact ⟨v, a, po w S H v hm .refl rs b⟩
/-- a constant whose value does not lean on the heap -/
theorem s_const {e : Expr} {w : W} {v : V} (h : PE X e (tC v)) (r : ∀ H, RV c.K H w v) : PE X e (tE c Wx (mCst w)) := PE.imp h fun σ H Q q => by
  obtain ⟨ρ, S, Kk, Ek, re, rs, hm, po, _⟩ := q
  exact po w S H v hm .refl rs (r H)

/-! ### binary operators -/
abbrev BOp := W → W → Sto → WK → Prop
def mBin (f : BOp) (a b : WE) : WE := fun ρ S Kk Ek => a ρ S (fun x S1 => b ρ S1 (fun y S2 => f x y S2 Kk) Ek) Ek
/-- a rule by values serves an operation by plain values -/
def Op2 (c : Cst) (r : R2) (f : BOp) : Prop := ∀ (x y : W) (u v : V) (H : Hp) (S : Sto) (Kk : WK) (Q : VK), RS c.K H S → RV c.K H x u → RV c.K H y v → f x y S Kk →
  (∀ w S' H' z, Kk w S' → Ext H S H' S' → RS c.K H' S' → RV c.K H' w z → Q z H') → r u v H Q
theorem s_bin {r : R2} {f : BOp} {a b : WE} (ho : Op2 c r f) : ∀ σ H Q, tE c Wx (mBin f a b) σ H Q → tOp r (tE c Wx a) (tE c Wx b) σ H Q := fun σ H Q q => by
  obtain ⟨ρ, S, Kk, Ek, re, rs, hm, po, px⟩ := q
  refine ⟨ρ, S, _, Ek, re, rs, hm, fun x S1 H1 u k1 e1 rs1 rx => ?_, px⟩
  refine ⟨ρ, S1, _, Ek, re.tst (e1.tst rs), rs1, k1, fun y S2 H2 v k2 e2 rs2 ry => ?_, px.on e1⟩
  exact ho x y u v H2 S2 Kk Q rs2 (rx.tst (e2.tst rs1)) ry k2 fun w S' H' z k e3 => po w S' H' z k ((e1.trans e2).trans e3)
/-- unary ones -/
abbrev UOp := W → Sto → WK → Prop
def mUn (f : UOp) (a : WE) : WE := fun ρ S Kk Ek => a ρ S (fun x S1 => f x S1 Kk) Ek
def Op1 (c : Cst) (r : V → Hp → VK → Prop) (f : UOp) : Prop := ∀ (x : W) (u : V) (H : Hp) (S : Sto) (Kk : WK) (Q : VK), RS c.K H S → RV c.K H x u → f x S Kk →
  (∀ w S' H' z, Kk w S' → Ext H S H' S' → RS c.K H' S' → RV c.K H' w z → Q z H') → r u H Q
theorem s_un {r : V → Hp → VK → Prop} {f : UOp} {a : WE} (ho : Op1 c r f) : ∀ σ H Q, tE c Wx (mUn f a) σ H Q → tUn r (tE c Wx a) σ H Q := fun σ H Q q => by
  obtain ⟨ρ, S, Kk, Ek, re, rs, hm, po, px⟩ := q
  refine ⟨ρ, S, _, Ek, re, rs, hm, fun x S1 H1 u k1 e1 rs1 rx => ?_, px⟩
  exact ho x u H1 S1 Kk Q rs1 rx k1 fun w S' H' z k e3 => po w S' H' z k (e1.trans e3)
/-- argument lists -/
def mNil : WEs := fun _ S Kk _ => Kk [] S
def mCons (a : WE) (b : WEs) : WEs := fun ρ S Kk Ek => a ρ S (fun x S1 => b ρ S1 (fun xs S2 => Kk (x :: xs) S2) Ek) Ek
theorem s_nil : PA X [] (tA c Wx mNil) := PA.imp pa_nil fun σ H Q q => by
  obtain ⟨ρ, S, Kk, Ek, re, rs, hm, po, px⟩ := q
  exact po [] S H [] hm .refl rs .nil
theorem s_cons {e : Expr} {es : List Expr} {a : WE} {b : WEs} (ha : PE X e (tE c Wx a)) (hb : PA X es (tA c Wx b)) (hs : starEach (e :: es) X.env = (false, eval e X.env) :: starEach es X.env) : PA X (e :: es) (tA c Wx (mCons a b)) :=
  PA.imp (pa_cons ha hb hs) fun σ H Q q => by
    obtain ⟨ρ, S, Kk, Ek, re, rs, hm, po, px⟩ := q
    refine ⟨ρ, S, _, Ek, re, rs, hm, fun x S1 H1 u k1 e1 rs1 rx => ?_, px⟩
    refine ⟨ρ, S1, _, Ek, re.tst (e1.tst rs), rs1, k1, fun ys S2 H2 vs k2 e2 rs2 ry => ?_, px.on e1⟩
    exact po (x :: ys) S2 H2 (u :: vs) k2 (e1.trans e2) rs2 (.cons (rx.tst (e2.tst rs1)) ry)
/-- displays -/
def mTup (a : WEs) : WE := fun ρ S Kk Ek => a ρ S (fun xs S1 => xs.length ≤ sizeLine ∧ Kk (.tup xs) S1) Ek
def mLst (a : WEs) : WE := fun ρ S Kk Ek => a ρ S (fun xs S1 => xs.length ≤ sizeLine ∧ ∀ p, S1 p = none → Kk (.ref p) (S1.put p (.lst xs))) Ek
theorem s_tup {es : List Expr} {k : Nat} {a : WEs} {pos : Pos} (ha : PA X es (tA c Wx a)) : PE X (.Tuple es k pos) (tE c Wx (mTup a)) := PE.imp (pe_tupN ha) fun σ H Q q => by
  obtain ⟨ρ, S, Kk, Ek, re, rs, hm, po, px⟩ := q
  refine ⟨ρ, S, _, Ek, re, rs, hm, fun xs S1 H1 vs k1 e1 rs1 rx => ?_, px⟩
  refine ⟨by rw [← rx.length]; exact k1.1, fun p o hp hc hd => ?_⟩
  exact po (.tup xs) S1 _ (.ref p) k1.2 (e1.trans (.tup hp)) (rs1.tup hp) (.tup (.new hc hd) (rx.tst (tst_upd_new hp)))
theorem s_lst {es : List Expr} {a : WEs} {pos : Pos} (ha : PA X es (tA c Wx a)) : PE X (.List es pos) (tE c Wx (mLst a)) := PE.imp (pe_lst ha) fun σ H Q q => by
  obtain ⟨ρ, S, Kk, Ek, re, rs, hm, po, px⟩ := q
  refine ⟨ρ, S, _, Ek, re, rs, hm, fun xs S1 H1 vs k1 e1 rs1 rx => ?_, px⟩
  refine ⟨by rw [← rx.length]; exact k1.1, fun p hp => ?_⟩
  exact po (.ref p) _ _ (.ref p) (k1.2 p (rs1.fresh hp)) (e1.trans (.new hp)) (rs1.new hp (.lst rx)) (.ref p)

/-! ### tests -/
def TW (S : Sto) (w : W) (k : Bool) : Prop := match w with
  | .non => k = false
  | .bl b => k = b
  | .int i => k = (i != 0)
  | .str x => x.length ≤ sizeLine ∧ k = (x.length != 0)
  | .tup ws => k = !ws.isEmpty
  | .ref a => (∃ xs, Lw S a xs ∧ k = !xs.isEmpty) ∨ ∃ kvs, S a = some (.dic kvs) ∧ k = !kvs.isEmpty
  | .ty _ => False
  | .kls _ => False
theorem isEmpty_rvs {K : PySem.W.Frag} {H : Hp} {ws : List W} {vs : List V} (r : RVs K H ws vs) : vs.isEmpty = ws.isEmpty := by
  cases r <;> rfl
end
end Dp
namespace Dp
open PySem PySem.Spec L2
open PyProof.Rows hiding St

/-! ### truth -/
/-- the truth of a value, handed on -/
def trK (S : Sto) (w : W) (K : Bool → Prop) : Prop := match w with
  | .non => K false
  | .bl b => K b
  | .int i => K (i != 0)
  | .str x => x.length ≤ sizeLine ∧ K ((x.length : Int) != 0)
  | .tup ws => K (!ws.isEmpty)
  | .ref a => (∃ xs, Lw S a xs ∧ K (!xs.isEmpty)) ∨ ∃ kvs, S a = some (.dic kvs) ∧ K (!kvs.isEmpty)
  | .ty _ => False
  | .kls _ => False
theorem tru_of {c : Cst} {H : Hp} {S : Sto} {w : W} {v : V} {K : Bool → Prop} (rs : RS c.K H S) (rv : RV c.K H w v) (h : trK S w K) : ∃ k, TruV c.K v H k ∧ K k := by
  cases rv with
  | non => exact ⟨false, rfl, h⟩
  | bl b => exact ⟨b, rfl, h⟩
  | int i => exact ⟨_, rfl, h⟩
  | str x => exact ⟨_, ⟨h.1, rfl⟩, h.2⟩
  | ty n => exact h.elim
  | kls _ _ => exact h.elim
  | tup q r =>
    refine ⟨_, .inr (.inl ⟨_, q.sq, rfl⟩), ?_⟩
    rw [isEmpty_rvs r]; exact h
  | ref a =>
    rcases h with ⟨xs, l, k⟩ | ⟨kvs, l, k⟩
    · obtain ⟨vs, q, r⟩ := rs.list l
      exact ⟨_, .inl ⟨_, q, rfl⟩, by rw [isEmpty_rvs r]; exact k⟩
    · obtain ⟨vs, q, r⟩ := rs.dic l
      refine ⟨_, .inr (.inr ⟨_, q, rfl⟩), ?_⟩
      have : vs.isEmpty = kvs.isEmpty := by cases r <;> rfl
      rw [this]; exact k

section
variable {X : Cx} {c : Cst} {Wx : WX}
/-! ### tests -/
def mTru (a : WE) : WT := fun ρ S Kk Ek => a ρ S (fun w S1 => trK S1 w fun k => Kk k S1) Ek
theorem s_tru {e : Expr} {a : WE} (hK : c.K = X.K) (ha : PE X e (tE c Wx a)) (he : ∀ whole, isTrue e X.env whole = (do let v ← whole; standAt e.pos; holding [v] (truthy v))) : PT X e (tT c Wx (mTru a)) :=
  PT.imp (pt_truth ha he) fun σ H Q q => by
    obtain ⟨ρ, S, Kk, Ek, re, rs, hm, po, px⟩ := q
    refine ⟨ρ, S, _, Ek, re, rs, hm, fun w S1 H1 v k1 e1 rs1 rv => ?_, px⟩
    obtain ⟨k, t, q⟩ := tru_of rs1 rv k1
    exact ⟨k, by rw [← hK]; exact t, po k S1 H1 q e1 rs1⟩
def mNotT (a : WT) : WT := fun ρ S Kk Ek => a ρ S (fun b S1 => Kk (!b) S1) Ek
theorem s_notT {e : Expr} {a : WT} {pos : Pos} (ha : PT X e (tT c Wx a)) : PT X (.UnaryOp .Not e pos) (tT c Wx (mNotT a)) := PT.imp (pt_not ha) fun σ H Q q => by
  obtain ⟨ρ, S, Kk, Ek, re, rs, hm, po, px⟩ := q
  exact ⟨ρ, S, _, Ek, re, rs, hm, fun b S1 H1 k1 e1 rs1 => po _ S1 H1 k1 e1 rs1, px⟩
def mAndT (a b : WT) : WT := fun ρ S Kk Ek => a ρ S (fun k S1 => if k = true then b ρ S1 Kk Ek else Kk false S1) Ek
def mOrT (a b : WT) : WT := fun ρ S Kk Ek => a ρ S (fun k S1 => if k = true then Kk true S1 else b ρ S1 Kk Ek) Ek
theorem s_andT {e e2 : Expr} {rest : List Expr} {a b : WT} {pos : Pos} (ha : PT X e (tT c Wx a)) (hb : PW X (.BoolOp .And (e2 :: rest) pos) (tT c Wx b)) : PW X (.BoolOp .And (e :: e2 :: rest) pos) (tT c Wx (mAndT a b)) :=
  PW.imp (pw_and ha hb) fun σ H Q q => by
    obtain ⟨ρ, S, Kk, Ek, re, rs, hm, po, px⟩ := q
    refine ⟨ρ, S, _, Ek, re, rs, hm, fun k S1 H1 k1 e1 rs1 => ?_, px⟩
    cases k with
    | true => exact ⟨ρ, S1, Kk, Ek, re.tst (e1.tst rs), rs1, k1, fun b S2 H2 k2 e2 rs2 => po b S2 H2 k2 (e1.trans e2) rs2, px.on e1⟩
    | false => exact po false S1 H1 k1 e1 rs1
theorem s_orT {e e2 : Expr} {rest : List Expr} {a b : WT} {pos : Pos} (ha : PT X e (tT c Wx a)) (hb : PW X (.BoolOp .Or (e2 :: rest) pos) (tT c Wx b)) : PW X (.BoolOp .Or (e :: e2 :: rest) pos) (tT c Wx (mOrT a b)) :=
  PW.imp (pw_or ha hb) fun σ H Q q => by
    obtain ⟨ρ, S, Kk, Ek, re, rs, hm, po, px⟩ := q
    refine ⟨ρ, S, _, Ek, re, rs, hm, fun k S1 H1 k1 e1 rs1 => ?_, px⟩
    cases k with
    | true => exact po true S1 H1 k1 e1 rs1
    | false => exact ⟨ρ, S1, Kk, Ek, re.tst (e1.tst rs), rs1, k1, fun b S2 H2 k2 e2 rs2 => po b S2 H2 k2 (e1.trans e2) rs2, px.on e1⟩
/-- a test of which the answer is a value -/
def mAnd (a b : WE) : WE := fun ρ S Kk Ek => a ρ S (fun x S1 => trK S1 x fun k => if k = true then b ρ S1 Kk Ek else Kk x S1) Ek
def mOr (a b : WE) : WE := fun ρ S Kk Ek => a ρ S (fun x S1 => trK S1 x fun k => if k = true then Kk x S1 else b ρ S1 Kk Ek) Ek
theorem s_and {e e2 : Expr} {rest : List Expr} {a b : WE} {pos : Pos} (hK : c.K = X.K) (ha : PE X e (tE c Wx a)) (hb : PE X (.BoolOp .And (e2 :: rest) pos) (tE c Wx b)) : PE X (.BoolOp .And (e :: e2 :: rest) pos) (tE c Wx (mAnd a b)) :=
  PE.imp (pe_andT ha hb) fun σ H Q q => by
    obtain ⟨ρ, S, Kk, Ek, re, rs, hm, po, px⟩ := q
    refine ⟨ρ, S, _, Ek, re, rs, hm, fun w S1 H1 v k1 e1 rs1 rv => ?_, px⟩
    obtain ⟨k, t, q⟩ := tru_of rs1 rv k1
    refine ⟨k, by rw [← hK]; exact t, ?_⟩
    cases k with
    | true => exact ⟨ρ, S1, Kk, Ek, re.tst (e1.tst rs), rs1, q, fun w' S2 H2 v' k2 e2 rs2 rv2 => po w' S2 H2 v' k2 (e1.trans e2) rs2 rv2, px.on e1⟩
    | false => exact po w S1 H1 v q e1 rs1 rv
theorem s_or {e e2 : Expr} {rest : List Expr} {a b : WE} {pos : Pos} (hK : c.K = X.K) (ha : PE X e (tE c Wx a)) (hb : PE X (.BoolOp .Or (e2 :: rest) pos) (tE c Wx b)) : PE X (.BoolOp .Or (e :: e2 :: rest) pos) (tE c Wx (mOr a b)) :=
  PE.imp (pe_orT ha hb) fun σ H Q q => by
    obtain ⟨ρ, S, Kk, Ek, re, rs, hm, po, px⟩ := q
    refine ⟨ρ, S, _, Ek, re, rs, hm, fun w S1 H1 v k1 e1 rs1 rv => ?_, px⟩
    obtain ⟨k, t, q⟩ := tru_of rs1 rv k1
    refine ⟨k, by rw [← hK]; exact t, ?_⟩
    cases k with
    | true => exact po w S1 H1 v q e1 rs1 rv
    | false => exact ⟨ρ, S1, Kk, Ek, re.tst (e1.tst rs), rs1, q, fun w' S2 H2 v' k2 e2 rs2 rv2 => po w' S2 H2 v' k2 (e1.trans e2) rs2 rv2, px.on e1⟩
/-- not x as a value -/
def mNot (a : WE) : WE := fun ρ S Kk Ek => a ρ S (fun x S1 => trK S1 x fun k => Kk (.bl (!k)) S1) Ek
theorem s_not {e : Expr} {a : WE} {pos : Pos} (hK : c.K = X.K) (ha : PE X e (tE c Wx a)) : PE X (.UnaryOp .Not e pos) (tE c Wx (mNot a)) := PE.imp (pe_notT ha) fun σ H Q q => by
  obtain ⟨ρ, S, Kk, Ek, re, rs, hm, po, px⟩ := q
  refine ⟨ρ, S, _, Ek, re, rs, hm, fun w S1 H1 v k1 e1 rs1 rv => ?_, px⟩
  obtain ⟨k, t, q⟩ := tru_of rs1 rv k1
  exact ⟨k, by rw [← hK]; exact t, po _ S1 H1 _ q e1 rs1 (.bl _)⟩
def mIf (t : WT) (a b : WE) : WE := fun ρ S Kk Ek => t ρ S (fun k S1 => if k = true then a ρ S1 Kk Ek else b ρ S1 Kk Ek) Ek
theorem s_if {e e1 e2 : Expr} {t : WT} {a b : WE} {pos : Pos} (ht : PT X e (tT c Wx t)) (ha : PE X e1 (tE c Wx a)) (hb : PE X e2 (tE c Wx b)) : PE X (.IfExp e e1 e2 pos) (tE c Wx (mIf t a b)) :=
  PE.imp (pe_ifExp ht ha hb) fun σ H Q q => by
    obtain ⟨ρ, S, Kk, Ek, re, rs, hm, po, px⟩ := q
    refine ⟨ρ, S, _, Ek, re, rs, hm, fun k S1 H1 k1 e1 rs1 => ?_, px⟩
    cases k with
    | true => exact ⟨ρ, S1, Kk, Ek, re.tst (e1.tst rs), rs1, k1, fun w' S2 H2 v' k2 e2 rs2 rv2 => po w' S2 H2 v' k2 (e1.trans e2) rs2 rv2, px.on e1⟩
    | false => exact ⟨ρ, S1, Kk, Ek, re.tst (e1.tst rs), rs1, k1, fun w' S2 H2 v' k2 e2 rs2 rv2 => po w' S2 H2 v' k2 (e1.trans e2) rs2 rv2, px.on e1⟩
/-! ### comparisons -/
abbrev COp := W → W → Sto → (Bool → Prop) → Prop
def OpC (c : Cst) (r : R2) (f : COp) : Prop := ∀ (x y : W) (u v : V) (H : Hp) (S : Sto) (Kk : Bool → Prop) (Q : VK), RS c.K H S → RV c.K H x u → RV c.K H y v → f x y S Kk → (∀ k, Kk k → Q (.bl k) H) → r u v H Q
def mCmp (f : COp) (a b : WE) : WE := fun ρ S Kk Ek => a ρ S (fun x S1 => b ρ S1 (fun y S2 => f x y S2 fun k => Kk (.bl k) S2) Ek) Ek
def mCmpT (f : COp) (a b : WE) : WT := fun ρ S Kk Ek => a ρ S (fun x S1 => b ρ S1 (fun y S2 => f x y S2 fun k => Kk k S2) Ek) Ek
theorem s_cmp {r : R2} {f : COp} {op : CmpOp} {e e2 : Expr} {a b : WE} {pos : Pos} (ho : OpR X (compareOp op) r) (hc : OpC c r f) (ha : PE X e (tE c Wx a)) (hb : PE X e2 (tE c Wx b)) (hm : behindInMarks op e2 = false) :
    PE X (.Compare e [op] [e2] pos) (tE c Wx (mCmp f a b)) := PE.imp (pe_cmpR ho ha hb hm) fun σ H Q q => by
  obtain ⟨ρ, S, Kk, Ek, re, rs, hm, po, px⟩ := q
  refine ⟨ρ, S, _, Ek, re, rs, hm, fun x S1 H1 u k1 e1 rs1 rx => ?_, px⟩
  refine ⟨ρ, S1, _, Ek, re.tst (e1.tst rs), rs1, k1, fun y S2 H2 v k2 e2 rs2 ry => ?_, px.on e1⟩
  exact hc x y u v H2 S2 _ Q rs2 (rx.tst (e2.tst rs1)) ry k2 fun k z => po (.bl k) S2 H2 (.bl k) z (e1.trans e2) rs2 (.bl k)
theorem s_cmpT {r : R2} {f : COp} {op : CmpOp} {e e2 : Expr} {a b : WE} {pos : Pos} (ho : OpR X (compareOp op) r) (hc : OpC c r f) (ha : PE X e (tE c Wx a)) (hb : PE X e2 (tE c Wx b)) (hm : behindInMarks op e2 = false) :
    PT X (.Compare e [op] [e2] pos) (tT c Wx (mCmpT f a b)) := PT.imp (pt_cmpR ho ha hb hm) fun σ H Q q => by
  obtain ⟨ρ, S, Kk, Ek, re, rs, hm, po, px⟩ := q
  refine ⟨ρ, S, _, Ek, re, rs, hm, fun x S1 H1 u k1 e1 rs1 rx => ?_, px⟩
  refine ⟨ρ, S1, _, Ek, re.tst (e1.tst rs), rs1, k1, fun y S2 H2 v k2 e2 rs2 ry => ?_, px.on e1⟩
  exact hc x y u v H2 S2 _ _ rs2 (rx.tst (e2.tst rs1)) ry k2 fun k z => ⟨k, rfl, po k S2 H2 z (e1.trans e2) rs2⟩
/-- a op b op c -/
def mChn (f g : COp) (a b d : WE) : WE := fun ρ S Kk Ek => a ρ S (fun x S1 => b ρ S1 (fun y S2 => f x y S2 fun k => if k = true then d ρ S2 (fun z S3 => g y z S3 fun k => Kk (.bl k) S3) Ek else Kk (.bl false) S2) Ek) Ek
def mChnT (f g : COp) (a b d : WE) : WT := fun ρ S Kk Ek => a ρ S (fun x S1 => b ρ S1 (fun y S2 => f x y S2 fun k => if k = true then d ρ S2 (fun z S3 => g y z S3 fun k => Kk k S3) Ek else Kk false S2) Ek) Ek
theorem chain_of {r r' : R2} {f g : COp} {a b d : WE} {ρ : Ro} {σ : L2.St} {H : Hp} {S : Sto} {Ek : EK} {Q : VK} {Kk : Bool → Sto → Prop} (hc : OpC c r f) (hc' : OpC c r' g) (re : RE c.K H ρ σ) (rs : RS c.K H S)
    (hm : mChnT f g a b d ρ S Kk Ek) (po : ∀ k S' H', Kk k S' → Ext H S H' S' → RS c.K H' S' → Q (.bl k) H') (px : PoX c Wx σ H S Ek) : tChain r r' (tE c Wx a) (tE c Wx b) (tE c Wx d) σ H Q := by
  refine ⟨ρ, S, _, Ek, re, rs, hm, fun x S1 H1 u k1 e1 rs1 rx => ?_, px⟩
  refine ⟨ρ, S1, _, Ek, re.tst (e1.tst rs), rs1, k1, fun y S2 H2 v k2 e2 rs2 ry => ?_, px.on e1⟩
  refine hc x y u v H2 S2 _ _ rs2 (rx.tst (e2.tst rs1)) ry k2 fun k z => ⟨k, rfl, ?_⟩
  cases k with
  | true =>
    refine ⟨ρ, S2, _, Ek, (re.tst (e1.tst rs)).tst (e2.tst rs1), rs2, z, fun w S3 H3 q k3 e3 rs3 rw' => ?_, (px.on e1).on e2⟩
    exact hc' y w v q H3 S3 _ _ rs3 (ry.tst (e3.tst rs2)) rw' k3 fun k z => po k S3 H3 z ((e1.trans e2).trans e3) rs3
  | false => exact po false S2 H2 z (e1.trans e2) rs2
theorem s_chn {r r' : R2} {f g : COp} {op op' : CmpOp} {e e2 e3 : Expr} {a b d : WE} {pos : Pos} (ho : OpR X (compareOp op) r) (ho' : OpR X (compareOp op') r') (hc : OpC c r f) (hc' : OpC c r' g)
    (ha : PE X e (tE c Wx a)) (hb : PE X e2 (tE c Wx b)) (hd : PE X e3 (tE c Wx d)) (hm : lastMarks [op, op'] [e2, e3] = false) : PE X (.Compare e [op, op'] [e2, e3] pos) (tE c Wx (mChn f g a b d)) :=
  PE.imp (pe_chain ho ho' ha hb hd hm) fun σ H Q q => by
    obtain ⟨ρ, S, Kk, Ek, re, rs, hm, po, px⟩ := q
    exact chain_of hc hc' re rs hm (fun k S' H' z e1 rs1 => po (.bl k) S' H' (.bl k) z e1 rs1 (.bl k)) px
theorem s_chnT {r r' : R2} {f g : COp} {op op' : CmpOp} {e e2 e3 : Expr} {a b d : WE} {pos : Pos} (ho : OpR X (compareOp op) r) (ho' : OpR X (compareOp op') r') (hc : OpC c r f) (hc' : OpC c r' g)
    (ha : PE X e (tE c Wx a)) (hb : PE X e2 (tE c Wx b)) (hd : PE X e3 (tE c Wx d)) (hm : lastMarks [op, op'] [e2, e3] = false) : PT X (.Compare e [op, op'] [e2, e3] pos) (tT c Wx (mChnT f g a b d)) :=
  PT.imp (pt_chain ho ho' ha hb hd hm) fun σ H Q q => by
    obtain ⟨ρ, S, Kk, Ek, re, rs, hm, po, px⟩ := q
    exact chain_of hc hc' re rs hm (fun k S' H' z e1 rs1 => ⟨k, rfl, po k S' H' z e1 rs1⟩) px
end

/-! ### what a value tells as plain data -/
mutual
inductive Den (S : Sto) : W → PyData → Prop where
  | non : Den S .non .none
  | bl (b : Bool) : Den S (.bl b) (.bool b)
  | int (i : Int) : Den S (.int i) (.int i)
  | str (x : Str) : Den S (.str x) (.str x)
  | tup {ws : List W} {ds : List PyData} (h : Dens S ws ds) : Den S (.tup ws) (.tuple ds)
  | lst {a : Addr} {ws : List W} {ds : List PyData} (l : Lw S a ws) (h : Dens S ws ds) : Den S (.ref a) (.list ds)
inductive Dens (S : Sto) : List W → List PyData → Prop where
  | nil : Dens S [] []
  | cons {w : W} {ws : List W} {d : PyData} {ds : List PyData} (h : Den S w d) (t : Dens S ws ds) : Dens S (w :: ws) (d :: ds)
end
section
variable {K : PySem.W.Frag} {H : Hp} {S : Sto}
mutual
theorem Den.dp (rs : RS K H S) : ∀ {w : W} {d : PyData} {v : V}, Den S w d → RV K H w v → L2.Dp K H v d
  | _, _, _, .non, r => by cases r; exact .non
  | _, _, _, .bl b, r => by cases r; exact .bl b
  | _, _, _, .int b, r => by cases r; exact .int b
  | _, _, _, .str b, r => by cases r; exact .str b
  | _, _, _, .tup h, r => by cases r with | tup q t => exact .tup q.sq (Dens.dp rs h t)
  | _, _, _, .lst l h, r => by
    cases r
    obtain ⟨vs, q, t⟩ := rs.list l
    exact .lst q (Dens.dp rs h t)
theorem Dens.dp (rs : RS K H S) : ∀ {w : List W} {d : List PyData} {v : List V}, Dens S w d → RVs K H w v → DpAll K H v d
  | _, _, _, .nil, r => by cases r; exact .nil
  | _, _, _, .cons h t, r => by cases r with | cons q z => exact .cons (Den.dp rs h q) (Dens.dp rs t z)
end
end
/-- flat values -/
def flat : W → Bool
  | .non => true
  | .bl _ => true
  | .int _ => true
  | .str _ => true
  | _ => false
/-- == of flat values -/
def eqF : W → W → Bool
  | .non, .non => true
  | .bl a, .bl b => a == b
  | .bl a, .int b => (if a then 1 else 0) == b
  | .int a, .bl b => a == (if b then 1 else 0)
  | .int a, .int b => a == b
  | .str a, .str b => a == b
  | _, _ => false
/-- == handed on -/
@[irreducible] def eqK (S : Sto) (x y : W) (K : Bool → Prop) : Prop :=
  (flat x = true ∧ flat y = true ∧ K (eqF x y)) ∨ ∃ d e, Den S x d ∧ Den S y e ∧ SeqAt.shaped d = true ∧ SeqAt.shaped e = true ∧ K (PyData.eqv d e)
def cEq : COp := fun x y S K => eqK S x y K
def cNe : COp := fun x y S K => eqK S x y fun k => K (!k)
/-- two flat values, by the heap's side -/
theorem flat_eq {K : PySem.W.Frag} {H : Hp} {S : Sto} {x y : W} {u v : V} (rs : RS K H S) (rx : RV K H x u) (ry : RV K H y v) (h : flat x = true) (h' : flat y = true) :
    (scal u v = true ∧ decide (u = v) = eqF x y) ∨ ∃ d e, L2.Dp K H u d ∧ L2.Dp K H v e ∧ SeqAt.shaped d = true ∧ SeqAt.shaped e = true ∧ PyData.eqv d e = eqF x y := by
  cases rx with
  | non => cases ry <;> first | exact .inl ⟨rfl, rfl⟩ | (simp [flat] at h'; done)
  | bl a => cases ry with
    | bl b => exact .inl ⟨rfl, dec_bl⟩
    | int j => exact .inr ⟨.bool a, .int j, .bl a, .int j, rfl, rfl, rfl⟩
    | non => exact .inl ⟨rfl, rfl⟩
    | str z => exact .inl ⟨rfl, rfl⟩
    | _ => simp [flat] at h'
  | int a => cases ry with
    | bl b => exact .inr ⟨.int a, .bool b, .int a, .bl b, rfl, rfl, rfl⟩
    | int j => exact .inl ⟨rfl, dec_int⟩
    | non => exact .inl ⟨rfl, rfl⟩
    | str z => exact .inl ⟨rfl, rfl⟩
    | _ => simp [flat] at h'
  | str a => cases ry with
    | bl b => exact .inl ⟨rfl, rfl⟩
    | int j => exact .inl ⟨rfl, rfl⟩
    | non => exact .inl ⟨rfl, rfl⟩
    | str z => exact .inl ⟨rfl, dec_str⟩
    | _ => simp [flat] at h'
  | _ => simp [flat] at h
def rEqW (K : PySem.W.Frag) : R2 := fun x y H Q => rEq x y H Q ∨ rEqD K x y H Q
def rNeW (K : PySem.W.Frag) : R2 := fun x y H Q => rNe x y H Q ∨ rNeD K x y H Q
theorem o_eq {c : Cst} : OpC c (rEqW c.K) cEq := fun x y u v H S Kk Q rs rx ry h po => by
  unfold cEq eqK at h
  rcases h with ⟨f1, f2, k⟩ | ⟨d, e, h1, h2, h3, h4, k⟩
  · rcases flat_eq rs rx ry f1 f2 with ⟨a, b⟩ | ⟨d, e, h1, h2, h3, h4, h5⟩
    · exact .inl ⟨a, by rw [b]; exact po _ k⟩
    · exact .inr ⟨d, e, h1, h2, h3, h4, by rw [h5]; exact po _ k⟩
  · exact .inr ⟨d, e, h1.dp rs rx, h2.dp rs ry, h3, h4, po _ k⟩
theorem o_ne {c : Cst} : OpC c (rNeW c.K) cNe := fun x y u v H S Kk Q rs rx ry h po => by
  unfold cNe eqK at h
  rcases h with ⟨f1, f2, k⟩ | ⟨d, e, h1, h2, h3, h4, k⟩
  · rcases flat_eq rs rx ry f1 f2 with ⟨a, b⟩ | ⟨d, e, h1, h2, h3, h4, h5⟩
    · exact .inl ⟨a, by rw [b]; exact po _ k⟩
    · exact .inr ⟨d, e, h1, h2, h3, h4, by rw [h5]; exact po _ k⟩
  · exact .inr ⟨d, e, h1.dp rs rx, h2.dp rs ry, h3, h4, po _ k⟩
theorem r_eq {X : Cx} (hu : X.A.units + 64 < cLine) : OpR X (compareOp .Eq) (rEqW X.K) := OpR.or op_eq (op_eqD hu)
theorem r_ne {X : Cx} (hu : X.A.units + 64 < cLine) : OpR X (compareOp .NotEq) (rNeW X.K) := OpR.or op_ne (op_neD hu)
/-! ### order: ints, texts -/
def ordK (f : Int → Int → Bool) (g : List Nat → List Nat → Bool) : COp := fun x y _ K => match x, y with
  | .int i, .int j => K (f i j)
  | .str a, .str b => K (g a.cps.toList b.cps.toList)
  | _, _ => False
def rOrd (f : Int → Int → Bool) (g : List Nat → List Nat → Bool) : R2 := fun x y H Q => (∃ i j, x = .int i ∧ y = .int j ∧ Q (.bl (f i j)) H) ∨ ∃ a b, x = .str a ∧ y = .str b ∧ Q (.bl (g a.cps.toList b.cps.toList)) H
theorem o_ord {c : Cst} {f : Int → Int → Bool} {g : List Nat → List Nat → Bool} : OpC c (rOrd f g) (ordK f g) := fun x y u v H S Kk Q rs rx ry h po => by
  cases rx with
  | int i => cases ry with
    | int j => exact .inl ⟨i, j, rfl, rfl, po _ h⟩
    | _ => exact h.elim
  | str a => cases ry with
    | str b => exact .inr ⟨a, b, rfl, rfl, po _ h⟩
    | _ => exact h.elim
  | _ => cases ry <;> exact h.elim
def cLt : COp := ordK (fun i j => decide (i < j)) (fun a b => decide (a < b))
def cLe : COp := ordK (fun i j => decide (i ≤ j)) (fun a b => !decide (b < a))
def cGt : COp := ordK (fun i j => decide (j < i)) (fun a b => decide (b < a))
def cGe : COp := ordK (fun i j => decide (j ≤ i)) (fun a b => !decide (a < b))
section
variable {X : Cx}
theorem r_lt : OpR X (compareOp .Lt) (rOrd (fun i j => decide (i < j)) (fun a b => decide (a < b))) := OpR.or op_lt op_lt_str
theorem r_le : OpR X (compareOp .LtE) (rOrd (fun i j => decide (i ≤ j)) (fun a b => !decide (b < a))) := OpR.or op_le op_le_str
theorem r_gt : OpR X (compareOp .Gt) (rOrd (fun i j => decide (j < i)) (fun a b => decide (b < a))) := OpR.or op_gt op_gt_str
theorem r_ge : OpR X (compareOp .GtE) (rOrd (fun i j => decide (j ≤ i)) (fun a b => !decide (a < b))) := OpR.or op_ge op_ge_str
/-! ### is -/
/-- x is None, x is True, x is False, two lists or dicts -/
def isV (x y : V) : Bool := decide (x = y)
def rIs (n : Bool) : R2 := fun x y H Q => ((y = .non ∨ ∃ b, y = .bl b) ∧ Q (.bl (if n then !isV x y else isV x y)) H) ∨
  ∃ a b oa ob, x = .ref a ∧ y = .ref b ∧ H a = some oa ∧ isObj oa = true ∧ H b = some ob ∧ isObj ob = true ∧ Q (.bl (if n then !decide (a = b) else decide (a = b))) H
theorem relV_beq {x y : V} {v u : Value} (rx : RelV x v) (ry : RelV y u) (hy : y = .non ∨ ∃ b, y = .bl b) : PySem.plainIs v u = true ∧ (v == u) = isV x y := by
  rcases hy with rfl | ⟨b, rfl⟩
  · cases (show u = Value.none from ry)
    refine ⟨?_, rx.none_iff⟩
    cases x with
    | non => cases (show v = Value.none from rx); rfl
    | bl _ => cases (show v = _ from rx); rfl
    | int _ => obtain ⟨t, rfl⟩ := rx; rfl
    | str _ => obtain ⟨t, rfl⟩ := rx; rfl
    | byt _ => obtain ⟨t, rfl⟩ := rx; rfl
    | flt _ => obtain ⟨t, rfl⟩ := rx; rfl
    | ref _ => cases (show v = _ from rx); rfl
    | ty _ => cases (show v = _ from rx); rfl
  · cases (show u = Value.bool b from ry)
    cases x with
    | non => cases (show v = Value.none from rx); exact ⟨rfl, rfl⟩
    | bl d =>
      cases (show v = Value.bool d from rx)
      refine ⟨rfl, ?_⟩
      cases b <;> cases d <;> rfl
    | int _ => obtain ⟨t, rfl⟩ := rx; exact ⟨rfl, rfl⟩
    | str _ => obtain ⟨t, rfl⟩ := rx; exact ⟨rfl, rfl⟩
    | byt _ => obtain ⟨t, rfl⟩ := rx; exact ⟨rfl, rfl⟩
    | flt _ => obtain ⟨t, rfl⟩ := rx; exact ⟨rfl, rfl⟩
    | ref _ => cases (show v = _ from rx); exact ⟨rfl, rfl⟩
    | ty _ => cases (show v = _ from rx); exact ⟨rfl, rfl⟩
theorem r_is : OpR X (compareOp .Is) (rIs false) := by
  intro pins s σ H x y v u Q I rx ry h
  rcases h with ⟨hy, q⟩ | h
  · obtain ⟨p, e⟩ := relV_beq rx ry hy
    exact wpAny_is_plain p ⟨.bl (isV x y), H, I, by show Value.bool _ = Value.bool _; rw [e], q⟩
  · exact op_is_ref pins s σ H x y v u Q I rx ry h
theorem r_isnot : OpR X (compareOp .IsNot) (rIs true) := by
  intro pins s σ H x y v u Q I rx ry h
  rcases h with ⟨hy, q⟩ | h
  · obtain ⟨p, e⟩ := relV_beq rx ry hy
    exact wpAny_isNot_plain p ⟨.bl (!isV x y), H, I, by show Value.bool _ = Value.bool _; rw [e], q⟩
  · exact op_isnot_ref pins s σ H x y v u Q I rx ry h
end
def isF : W → W → Bool
  | .non, .non => true
  | .bl a, .bl b => a == b
  | _, _ => false
def isK (n : Bool) : COp := fun x y S K => match x, y with
  | _, .non => K (if n then !isF x y else isF x y)
  | _, .bl _ => K (if n then !isF x y else isF x y)
  | .ref a, .ref b => (S a).isSome = true ∧ (S b).isSome = true ∧ (∀ xs, S a ≠ some (.frz xs)) ∧ (∀ xs, S b ≠ some (.frz xs)) ∧ (∀ xs, S a ≠ some (.dic xs)) ∧ (∀ xs, S b ≠ some (.dic xs)) ∧ K (if n then !decide (a = b) else decide (a = b))
  | _, _ => False
theorem rv_bl {K : PySem.W.Frag} {H : Hp} {x : W} {v : V} {b : Bool} (r : RV K H x v) : isV v (.bl b) = isF x (.bl b) := by
  cases r <;> first | rfl | (rename_i d; cases b <;> cases d <;> rfl)
theorem rv_non {K : PySem.W.Frag} {H : Hp} {x : W} {v : V} (r : RV K H x v) : isV v .non = isF x .non := by
  cases r <;> rfl
theorem lst_of {c : Cst} {H : Hp} {S : Sto} (rs : RS c.K H S) {a : Addr} (h : (S a).isSome = true) (h1 : ∀ xs, S a ≠ some (.frz xs)) (h2 : ∀ xs, S a ≠ some (.dic xs)) : ∃ o, H a = some o ∧ isObj o = true := by
  cases e : S a with
  | none => rw [e] at h; cases h
  | some d =>
    cases d with
    | lst xs =>
      obtain ⟨vs, q, _⟩ := rs.lst e
      exact ⟨_, q, rfl⟩
    | frz xs => exact absurd e (h1 xs)
    | dic xs => exact absurd e (h2 xs)
theorem o_is {c : Cst} {n : Bool} : OpC c (rIs n) (isK n) := fun x y u v H S Kk Q rs rx ry h po => by
  cases ry with
  | non =>
    refine .inl ⟨.inl rfl, po _ ?_⟩
    rw [rv_non rx]
    cases x <;> exact h
  | bl b =>
    refine .inl ⟨.inr ⟨b, rfl⟩, po _ ?_⟩
    rw [rv_bl rx]
    cases x <;> exact h
  | ref b =>
    cases rx with
    | ref a =>
      obtain ⟨h1, h2, h3, h4, h5, h6, k⟩ := h
      obtain ⟨oa, e1, p1⟩ := lst_of rs h1 h3 h5
      obtain ⟨ob, e2, p2⟩ := lst_of rs h2 h4 h6
      exact .inr ⟨a, b, oa, ob, rfl, rfl, e1, p1, e2, p2, po _ k⟩
    | _ => exact h.elim
  | _ => cases rx <;> exact h.elim

/-! ### arithmetic, texts, lists, tuples joined -/
def bAdd : BOp := fun x y S K => match x, y with
  | .int i, .int j => K (.int (i + j)) S
  | .int i, .bl b => K (.int (i + b2i b)) S
  | .str a, .str b => a.length + b.length ≤ sizeLine ∧ K (.str (a ++ b)) S
  | .tup xs, .tup ys => xs.length + ys.length ≤ sizeLine ∧ K (.tup (xs ++ ys)) S
  | .ref a, .ref b => ∃ xs ys, S a = some (.lst xs) ∧ S b = some (.lst ys) ∧ xs.length + ys.length ≤ sizeLine ∧ ∀ p, S p = none → K (.ref p) (S.put p (.lst (xs ++ ys)))
  | _, _ => False
def rAddW (K : PySem.W.Frag) : R2 := fun x y H Q => (∃ i j, x = .int i ∧ y = .int j ∧ Q (.int (i + j)) H) ∨ (∃ i k, x = .int i ∧ y = .bl k ∧ Q (.int (i + b2i k)) H) ∨
  (∃ i j, x = .str i ∧ y = .str j ∧ i.length + j.length ≤ sizeLine ∧ Q (.str (i ++ j)) H) ∨ rCatN K x y H Q ∨ rCat x y H Q
theorem r_add {X : Cx} : OpR X (binaryOp .Add) (rAddW X.K) := OpR.or op_add (OpR.or op_add_ib (OpR.or op_add_str (OpR.or op_catN op_cat)))
theorem o_add {c : Cst} : Op2 c (rAddW c.K) bAdd := fun x y u v H S Kk Q rs rx ry h po => by
  cases rx with
  | int i => cases ry with
    | int j => exact .inl ⟨i, j, rfl, rfl, po _ S H _ h .refl rs (.int _)⟩
    | bl b => exact .inr (.inl ⟨i, b, rfl, rfl, po _ S H _ h .refl rs (.int _)⟩)
    | _ => exact h.elim
  | str i => cases ry with
    | str j => exact .inr (.inr (.inl ⟨i, j, rfl, rfl, h.1, po _ S H _ h.2 .refl rs (.str _)⟩))
    | _ => exact h.elim
  | @tup xs a vs h1 r1 => cases ry with
    | @tup ys b us h2 r2 =>
      refine .inr (.inr (.inr (.inl ⟨a, b, vs, us, rfl, rfl, h1.sq, h2.sq, by rw [← r1.length, ← r2.length]; exact h.1, fun e => ?_, fun e e' => ?_, fun e e' p o hp hc hd => ?_⟩)))
      · subst e; cases r1
        exact po _ S H _ h.2 .refl rs (.tup h2 r2)
      · subst e'; cases r2
        exact po _ S H _ h.2 .refl rs (by rw [List.append_nil]; exact .tup h1 r1)
      · exact po _ S _ _ h.2 (.tup hp) (rs.tup hp) (.tup (.new hc hd) ((r1.append r2).tst (tst_upd_new hp)))
    | _ => exact h.elim
  | ref a => cases ry with
    | ref b =>
      obtain ⟨xs, ys, h1, h2, hz, k⟩ := h
      obtain ⟨vs, q1, r1⟩ := rs.lst h1
      obtain ⟨us, q2, r2⟩ := rs.lst h2
      refine .inr (.inr (.inr (.inr ⟨a, b, vs, us, rfl, rfl, q1, q2, by rw [← r1.length, ← r2.length]; exact hz, fun p hp => ?_⟩)))
      exact po _ _ _ _ (k p (rs.fresh hp)) (.new hp) (rs.new hp (.lst (r1.append r2))) (.ref p)
    | _ => exact h.elim
  | _ => cases ry <;> exact h.elim
def bSub : BOp := fun x y S K => match x, y with
  | .int i, .int j => K (.int (i - j)) S
  | _, _ => False
theorem o_sub {c : Cst} : Op2 c (rI0 fun i j => .int (i - j)) bSub := fun x y u v H S Kk Q rs rx ry h po => by
  cases rx with
  | int i => cases ry with
    | int j => exact ⟨i, j, rfl, rfl, po _ S H _ h .refl rs (.int _)⟩
    | _ => exact h.elim
  | _ => cases ry <;> exact h.elim
def bMod : BOp := fun x y S K => match x, y with
  | .int i, .int j => 0 < j ∧ K (.int (i % j)) S
  | _, _ => False
theorem o_mod {c : Cst} : Op2 c (rI (fun _ j => 0 < j) fun i j => .int (i % j)) bMod := fun x y u v H S Kk Q rs rx ry h po => by
  cases rx with
  | int i => cases ry with
    | int j => exact ⟨i, j, rfl, rfl, h.1, po _ S H _ h.2 .refl rs (.int _)⟩
    | _ => exact h.elim
  | _ => cases ry <;> exact h.elim
def bDiv : BOp := fun x y S K => match x, y with
  | .int i, .int j => (0 < j ∧ j.natAbs.log2 < 9000) ∧ K (.int (i / j)) S
  | _, _ => False
theorem o_div {c : Cst} : Op2 c (rI CDivW fun i j => .int (i / j)) bDiv := fun x y u v H S Kk Q rs rx ry h po => by
  cases rx with
  | int i => cases ry with
    | int j => exact ⟨i, j, rfl, rfl, h.1, po _ S H _ h.2 .refl rs (.int _)⟩
    | _ => exact h.elim
  | _ => cases ry <;> exact h.elim
def bPow : BOp := fun x y S K => match x, y with
  | .int i, .int j => (0 ≤ j ∧ j ≤ 1000000 ∧ i.natAbs < 2 ^ 64) ∧ K (.int (i ^ j.toNat)) S
  | _, _ => False
theorem o_pow {c : Cst} : Op2 c (rI CPow fun i j => .int (i ^ j.toNat)) bPow := fun x y u v H S Kk Q rs rx ry h po => by
  cases rx with
  | int i => cases ry with
    | int j => exact ⟨i, j, rfl, rfl, h.1, po _ S H _ h.2 .refl rs (.int _)⟩
    | _ => exact h.elim
  | _ => cases ry <;> exact h.elim
end Dp
namespace Dp
open PySem PySem.Spec L2
open PyProof.Rows hiding St

/-! ### product -/
@[irreducible] def bMul : BOp := fun x y S K => match x, y with
  | .int i, .int j => (i.natAbs.log2 + j.natAbs.log2 < 1000000) ∧ K (.int (i * j)) S
  | .str a, .int n => -(2 ^ 31) < n ∧ a.length * n.toNat ≤ sizeLine ∧ n < 2 ^ 31 ∧ K (.str ⟨((List.replicate n.toNat a.cps.toList).flatten).toArray⟩) S
  | .ref a, .int n => ∃ xs, S a = some (.lst xs) ∧ -(2 ^ 63) ≤ n ∧ n < 2 ^ 63 ∧ xs.length * n.toNat ≤ sizeLine ∧ ∀ p, S p = none → K (.ref p) (S.put p (.lst (List.replicate n.toNat xs).flatten))
  | _, _ => False
def rMulS : R2 := fun x y H Q => ∃ a n, x = .str a ∧ y = .int n ∧ a.length * n.toNat ≤ sizeLine ∧ n < 2 ^ 31 ∧ -(2 ^ 63) ≤ n ∧ Q (.str ⟨((List.replicate n.toNat a.cps.toList).flatten).toArray⟩) H
theorem flat_app : ∀ (k : Nat) (a acc : Array Nat), (List.replicate k a).foldl (· ++ ·) acc = acc ++ (List.replicate k a.toList).flatten.toArray
  | 0, a, acc => by simp
  | k + 1, a, acc => by
    rw [List.replicate_succ, List.foldl_cons, flat_app k a (acc ++ a), List.replicate_succ, List.flatten_cons]
    apply Array.ext'
    simp [List.append_assoc]
theorem sizeLine_val : (sizeLine : Nat) = 16777216 := sizeLine_eq
theorem r_mulS {X : Cx} : OpR X (binaryOp .Mult) rMulS := by
  intro pins s σ H x y v u Q I rx ry h
  obtain ⟨a, n, rfl, rfl, hz, h1, h0, q⟩ := h
  obtain ⟨t, rfl⟩ := rx
  obtain ⟨t', rfl⟩ := ry
  have hs : (sizeLine : Nat) = 16777216 := sizeLine_val
  have e0 : Str.empty = ⟨#[]⟩ := rfl
  have m : (if n < 1 then Made.str Str.empty else if (n == 1 || a.length == 0) = true then Made.val (.str a t) else Made.str ⟨(List.replicate n.toNat a.cps).foldl (· ++ ·) #[]⟩).post (EP X pins σ Q) s := by
    by_cases hn : n < 1
    · rw [if_pos hn]
      have e : n.toNat = 0 := by omega
      rw [e] at q
      exact ⟨Nat.zero_le _, .str _, H, I.tok _, ⟨_, rfl⟩, q⟩
    · rw [if_neg hn]
      by_cases hb : (n == 1 || a.length == 0) = true
      · rw [if_pos hb]
        refine ⟨.str a, H, I, ⟨_, rfl⟩, ?_⟩
        have e : (⟨((List.replicate n.toNat a.cps.toList).flatten).toArray⟩ : Str) = a := by
          rcases Bool.or_eq_true_iff.mp hb with h | h
          · have : n = 1 := by simpa using h
            subst this
            simp
          · have : a.cps.toList = [] := by
              have : a.cps.size = 0 := by simpa [Str.length] using h
              simpa using this
            rw [this]
            obtain ⟨c⟩ := a
            have hc : c = #[] := by simpa using this
            subst hc
            simp
        rw [e] at q
        exact q
      · rw [if_neg hb, flat_app]
        refine ⟨?_, .str _, H, I.tok _, ⟨_, rfl⟩, ?_⟩
        · show (#[] ++ (List.replicate n.toNat a.cps.toList).flatten.toArray).size ≤ sizeLine
          have hz' : a.cps.size * n.toNat ≤ sizeLine := hz
          simp [Nat.mul_comm] at hz' ⊢
          exact hz'
        · simpa using q
  refine PySem.P.mul_str ?_ (fun hn hb => ?_) (fun hn hb => ?_) m
  · rw [Bool.or_eq_false_iff]
    exact ⟨decide_eq_false (by omega), decide_eq_false (by omega)⟩
  · have h2 : (a.length : Int) * n ≤ 16777216 := by
      have : ((a.length * n.toNat : Nat) : Int) ≤ 16777216 := by omega
      rw [Int.natCast_mul, Int.toNat_of_nonneg (by omega)] at this
      exact this
    have h3 : (a.length : Int) ≤ 16777216 / n := (Int.le_ediv_iff_mul_le (by omega)).mpr h2
    have h4 : (16777216 : Int) / n ≤ (2 ^ 63 - 1) / n := Int.ediv_le_ediv (by omega) (by omega)
    omega
  · unfold Builtin.Str.tooLong
    rw [decide_eq_false_iff_not]
    omega
def rMulW : R2 := fun x y H Q => (∃ i j, x = .int i ∧ y = .int j ∧ CMulW i j ∧ Q (.int (i * j)) H) ∨ rMulS x y H Q ∨ rRep x y H Q
theorem r_mul {X : Cx} : OpR X (binaryOp .Mult) rMulW := OpR.or op_mulW (OpR.or r_mulS op_rep)
theorem o_mul {c : Cst} : Op2 c rMulW bMul := fun x y u v H S Kk Q rs rx ry h po => by
  unfold bMul at h
  cases rx with
  | int i => cases ry with
    | int j => exact .inl ⟨i, j, rfl, rfl, h.1, po _ S H _ h.2 .refl rs (.int _)⟩
    | _ => exact h.elim
  | str a => cases ry with
    | int n => exact .inr (.inl ⟨a, n, rfl, rfl, h.2.1, h.2.2.1, by have := h.1; omega, po _ S H _ h.2.2.2 .refl rs (.str _)⟩)
    | _ => exact h.elim
  | ref a => cases ry with
    | int n =>
      obtain ⟨xs, h1, h2, h3, hz, k⟩ := h
      obtain ⟨vs, q1, r1⟩ := rs.lst h1
      refine .inr (.inr ⟨a, n, vs, rfl, rfl, q1, h2, h3, by rw [← r1.length]; exact hz, fun p hp => ?_⟩)
      have rr : ∀ k, RVs c.K H (List.replicate k xs).flatten (List.replicate k vs).flatten := fun k => by
        induction k with
        | zero => exact .nil
        | succ k ih => rw [List.replicate_succ, List.replicate_succ, List.flatten_cons, List.flatten_cons]; exact r1.append ih
      exact po _ _ _ _ (k p (rs.fresh hp)) (.new hp) (rs.new hp (.lst (rr _))) (.ref p)
    | _ => exact h.elim
  | _ => cases ry <;> exact h.elim
end Dp
namespace Dp
open PySem PySem.Spec L2
open PyProof.Rows hiding St

/-! ### minus -/
def uNeg : UOp := fun x S K => match x with
  | .int i => K (.int (-i)) S
  | _ => False
theorem o_neg {c : Cst} : Op1 c (rU fun i => .int (-i)) uNeg := fun x u H S Kk Q rs rx h po => by
  cases rx with
  | int i => exact ⟨i, rfl, po _ S H _ h .refl rs (.int _)⟩
  | _ => exact h.elim

/-! ### keys -/
def kW : Key → W
  | .inl i => .int i
  | .inr x => .str x
theorem rv_key {K : PySem.W.Frag} {H : Hp} {k : Key} {v : V} (r : RV K H (kW k) v) : v = kV k := by
  cases k with
  | inl i => cases r; rfl
  | inr i => cases r; rfl
theorem rv_kV {K : PySem.W.Frag} {H : Hp} (k : Key) : RV K H (kW k) (kV k) := by
  cases k with
  | inl i => exact .int i
  | inr i => exact .str i
def valW : List (Key × W) → Key → Option W
  | [], _ => none
  | (k', v) :: r, k => if k' = k then some v else valW r k
def putW : List (Key × W) → Key → W → List (Key × W) := fun kvs k v => if (kvs.any fun kv => decide (kv.1 = k)) = true then kvs.map (fun kv => if kv.1 = k then (kv.1, v) else kv) else kvs ++ [(k, v)]
def dropW (kvs : List (Key × W)) (k : Key) : List (Key × W) := kvs.filter fun kv => decide (kv.1 ≠ k)
section
variable {K : PySem.W.Frag} {H : Hp}
theorem rkv_val {ws : List (Key × W)} {vs : List (Key × V)} (r : RKV K H ws vs) (k : Key) : (valW ws k = none ∧ valV vs k = none) ∨ ∃ w v, valW ws k = some w ∧ valV vs k = some v ∧ RV K H w v := by
  induction r with
  | nil => exact .inl ⟨rfl, rfl⟩
  | @cons p q ws vs h t ih =>
    obtain ⟨k1, w⟩ := p
    obtain ⟨k2, v⟩ := q
    obtain ⟨e, rv⟩ := h
    simp only at e
    subst e
    by_cases z : k1 = k
    · exact .inr ⟨w, v, by simp [valW, z], valV_pos z, rv⟩
    · rw [valV_neg (p := (k1, v)) z]
      simpa [valW, z] using ih
theorem rkv_any {ws : List (Key × W)} {vs : List (Key × V)} (r : RKV K H ws vs) (k : Key) : (vs.any fun kv => decide (kv.1 = k)) = (ws.any fun kv => decide (kv.1 = k)) := by
  induction r with
  | nil => rfl
  | cons h t ih => rw [List.any_cons, List.any_cons, ih, h.1]
theorem rkv_map {ws : List (Key × W)} {vs : List (Key × V)} (r : RKV K H ws vs) (k : Key) {w : W} {v : V} (h : RV K H w v) : RKV K H (ws.map (fun kv => if kv.1 = k then (kv.1, w) else kv)) (vs.map (fun kv => if kv.1 = k then (kv.1, v) else kv)) := by
  induction r with
  | nil => exact .nil
  | @cons p q ws vs h1 t ih =>
    refine .cons ?_ ih
    obtain ⟨k1, w1⟩ := p
    obtain ⟨k2, v1⟩ := q
    obtain ⟨e1, rv⟩ := h1
    simp only at e1
    subst e1
    by_cases z : k1 = k
    · simp [z]; exact h
    · simp [z]; exact rv
theorem rkv_end {ws : List (Key × W)} {vs : List (Key × V)} (r : RKV K H ws vs) (k : Key) {w : W} {v : V} (h : RV K H w v) : RKV K H (ws ++ [(k, w)]) (vs ++ [(k, v)]) := by
  induction r with
  | nil => exact .cons ⟨rfl, h⟩ .nil
  | cons h1 t ih => exact .cons h1 ih
theorem rkv_put {ws : List (Key × W)} {vs : List (Key × V)} (r : RKV K H ws vs) (k : Key) {w : W} {v : V} (h : RV K H w v) : RKV K H (putW ws k w) (putK vs k v) := by
  unfold putW putK
  rw [rkv_any r k]
  split
  · exact rkv_map r k h
  · exact rkv_end r k h
theorem rkv_len {ws : List (Key × W)} {vs : List (Key × V)} (r : RKV K H ws vs) : vs.length = ws.length := (Paired.length r).symm
theorem rkv_drop {ws : List (Key × W)} {vs : List (Key × V)} (r : RKV K H ws vs) (k : Key) : RKV K H (dropW ws k) (dropK vs k) := by
  unfold dropW dropK
  induction r with
  | nil => exact .nil
  | @cons p q ws vs h t ih =>
    rw [List.filter_cons, List.filter_cons, h.1]
    split
    · exact .cons h ih
    · exact ih
end

/-! ### in, not in -/
@[irreducible] def inK (n : Bool) : COp := fun x y S K => match y with
  | .str z => (∃ ch, x = .str ⟨#[ch]⟩ ∧ K (if n then !decide (ch ∈ z.cps.toList) else decide (ch ∈ z.cps.toList))) ∨ ∃ a, x = .str a ∧ K (if n then !(!(Builtin.Str.occurrences z a 0 z.length 1).isEmpty) else !(Builtin.Str.occurrences z a 0 z.length 1).isEmpty)
  | .tup ws => flat x = true ∧ ws.all flat = true ∧ K (if n then !(ws.any fun w => eqF w x) else ws.any fun w => eqF w x)
  | .ref a => (∃ ws, Lw S a ws ∧ flat x = true ∧ ws.all flat = true ∧ K (if n then !(ws.any fun w => eqF w x) else ws.any fun w => eqF w x)) ∨
      (∃ ws d ds, Lw S a ws ∧ Den S x d ∧ Dens S ws ds ∧ SeqAt.shaped d = true ∧ SeqAt.shaped (.list ds) = true ∧ K (if n then !(ds.any fun z => PyData.eqv z d) else ds.any fun z => PyData.eqv z d)) ∨
      ∃ kvs k, S a = some (.dic kvs) ∧ x = kW k ∧ K (if n then !(valW kvs k).isSome else (valW kvs k).isSome)
  | _ => False
def rInDic (n : Bool) : R2 := fun x y H Q => ∃ a o, y = .ref a ∧ DGet H a x o ∧ Q (.bl (if n then !o.isSome else o.isSome)) H
def rInW (K : PySem.W.Frag) (n : Bool) : R2 := fun x y H Q =>
  (∃ c z, x = .str ⟨#[c]⟩ ∧ y = .str z ∧ Q (.bl (if n then !decide (c ∈ z.cps.toList) else decide (c ∈ z.cps.toList))) H) ∨
  (∃ i j, x = .str i ∧ y = .str j ∧ Q (.bl (if n then !(!(Builtin.Str.occurrences j i 0 j.length 1).isEmpty) else !(Builtin.Str.occurrences j i 0 j.length 1).isEmpty)) H) ∨
  rIn K n x y H Q ∨ (∃ d ds, L2.Dp K H x d ∧ L2.Dp K H y (.list ds) ∧ SeqAt.shaped d = true ∧ SeqAt.shaped (.list ds) = true ∧ Q (.bl (if n then !(ds.any fun z => PyData.eqv z d) else ds.any fun z => PyData.eqv z d)) H) ∨ rInDic n x y H Q
section
variable {X : Cx}
theorem r_inDic (hu : X.A.units + 1 < cLine) : OpR X (compareOp .In) (rInDic false) := by
  intro pins s σ H x y v u Q I rx ry h
  obtain ⟨a, o, rfl, g, q⟩ := h
  cases ry
  exact d_in hu I g rx fun s1 I1 => ⟨.bl o.isSome, H, I1, rfl, q⟩
theorem r_ninDic (hu : X.A.units + 1 < cLine) : OpR X (compareOp .NotIn) (rInDic true) := by
  intro pins s σ H x y v u Q I rx ry h
  obtain ⟨a, o, rfl, g, q⟩ := h
  cases ry
  exact d_notIn hu I g rx fun s1 I1 => ⟨.bl (!o.isSome), H, I1, rfl, q⟩
theorem r_in (hu : X.A.units + 65 < cLine) : OpR X (compareOp .In) (rInW X.K false) := OpR.or op_in_sign (OpR.or op_in_str (OpR.or op_in_seq (OpR.or (op_inD hu) (r_inDic (by omega)))))
theorem r_nin (hu : X.A.units + 65 < cLine) : OpR X (compareOp .NotIn) (rInW X.K true) := OpR.or op_notIn_sign (OpR.or op_notin_str (OpR.or op_notIn_seq (OpR.or (op_notInD hu) (r_ninDic (by omega)))))
end
theorem rv_flat {K : PySem.W.Frag} {H : Hp} {w : W} {v : V} (r : RV K H w v) (f : flat w = true) : flatV v = true := by
  cases r <;> first | rfl | (simp [flat] at f)
theorem rv_eqF {K : PySem.W.Frag} {H : Hp} {w x : W} {v u : V} (r : RV K H w v) (r' : RV K H x u) (f : flat w = true) (f' : flat x = true) : eqV v u = eqF w x := by
  cases r <;> cases r' <;> first | rfl | (simp [flat] at f; done) | (simp [flat] at f')
theorem rvs_flat {K : PySem.W.Frag} {H : Hp} {ws : List W} {vs : List V} (r : RVs K H ws vs) (f : ws.all flat = true) : vs.all flatV = true := by
  induction ws generalizing vs with
  | nil => cases r; rfl
  | cons w ws ih =>
    cases r with
    | cons h t =>
      rw [List.all_cons, Bool.and_eq_true] at f
      rw [List.all_cons, rv_flat h f.1, ih t f.2]; rfl
theorem rvs_in {K : PySem.W.Frag} {H : Hp} {ws : List W} {vs : List V} {x : W} {u : V} (r : RVs K H ws vs) (rx : RV K H x u) (f : ws.all flat = true) (fx : flat x = true) : inV u vs = ws.any fun w => eqF w x := by
  unfold inV
  induction ws generalizing vs with
  | nil => cases r; rfl
  | cons w ws ih =>
    cases r with
    | cons h t =>
      rw [List.all_cons, Bool.and_eq_true] at f
      rw [List.any_cons, List.any_cons, rv_eqF h rx f.1 fx, ih t f.2]
theorem o_in {c : Cst} {n : Bool} : OpC c (rInW c.K n) (inK n) := fun x y u v H S Kk Q rs rx ry h po => by
  unfold inK at h
  cases ry with
  | str z =>
    rcases h with ⟨ch, rfl, k⟩ | ⟨a, rfl, k⟩
    · cases rx
      exact .inl ⟨ch, z, rfl, rfl, po _ k⟩
    · cases rx
      exact .inr (.inl ⟨a, z, rfl, rfl, po _ k⟩)
  | @tup ws a vs hq r =>
    obtain ⟨f1, f2, k⟩ := h
    exact .inr (.inr (.inl ⟨a, vs, rfl, .inr hq.sq, rv_flat rx f1, rvs_flat r f2, by rw [rvs_in r rx f2 f1]; exact po _ k⟩))
  | ref a =>
    rcases h with ⟨ws, l, f1, f2, k⟩ | ⟨ws, d, ds, l, h1, h2, h3, h4, k⟩ | ⟨kvs, k0, l, rfl, k⟩
    · obtain ⟨vs, hq, r⟩ := rs.list l
      exact .inr (.inr (.inl ⟨a, vs, rfl, .inl hq, rv_flat rx f1, rvs_flat r f2, by rw [rvs_in r rx f2 f1]; exact po _ k⟩))
    · exact .inr (.inr (.inr (.inl ⟨d, ds, h1.dp rs rx, (Den.lst l h2).dp rs (.ref a), h3, h4, po _ k⟩)))
    · obtain ⟨vs, hq, r⟩ := rs.dic l
      rw [rv_key rx]
      refine .inr (.inr (.inr (.inr ⟨a, _, rfl, DGet.k (k := k0) hq, ?_⟩)))
      rcases rkv_val r k0 with ⟨e1, e2⟩ | ⟨w, v, e1, e2, _⟩
      · rw [e1] at k; rw [e2]; exact po _ k
      · rw [e1] at k; rw [e2]; exact po _ k
  | _ => exact h.elim

/-! ### subscripts -/
@[irreducible] def ixK : BOp := fun x y S K => match x, y with
  | .tup ws, .int i => ∃ w, atI ws i = some w ∧ K w S
  | .str z, .int i => z.length ≤ sizeLine ∧ ∃ ch, atI z.cps.toList i = some ch ∧ K (.str ⟨#[ch]⟩) S
  | .ref a, y => (∃ ws i w, y = .int i ∧ Lw S a ws ∧ atI ws i = some w ∧ K w S) ∨ ∃ kvs k w, S a = some (.dic kvs) ∧ y = kW k ∧ valW kvs k = some w ∧ K w S
  | _, _ => False
theorem rvs_at {K : PySem.W.Frag} {H : Hp} {ws : List W} {vs : List V} {i : Int} {w : W} (r : RVs K H ws vs) (h : atI ws i = some w) : ∃ v, atI vs i = some v ∧ RV K H w v := by
  unfold atI at h ⊢
  rw [← r.length]
  cases e : ixN ws.length i with
  | none => rw [e] at h; cases h
  | some j => rw [e] at h; exact r.get' h
def rIxD : R2 := fun x y H Q => ∃ a v, x = .ref a ∧ DGet H a y (some v) ∧ Q v H
def rIxW (K : PySem.W.Frag) : R2 := fun x y H Q => rIx K x y H Q ∨ rIxD x y H Q
theorem r_ixD {X : Cx} (hu : X.A.units + 1 < cLine) : IxR X rIxD := by
  intro value slice pins s σ H x y v u Q I rx ry h hs
  obtain ⟨a, w, rfl, g, q⟩ := h
  cases rx
  exact tail_any (dict_typeIs I g) PySem.F.slot_dict_getitem.lookup (d_getItem hu I g ry fun w' s3 I3 rw' => ⟨w, H, I3, rw', q⟩) hs
theorem r_ix {X : Cx} (hu : X.A.units + 1 < cLine) : IxR X (rIxW X.K) := IxR.or ix_seq (r_ixD hu)
theorem o_ix {c : Cst} : Op2 c (rIxW c.K) ixK := fun x y u v H S Kk Q rs rx ry h po => by
  unfold ixK at h
  cases rx with
  | @tup ws a vs hq r =>
    cases ry with
    | int i =>
      obtain ⟨w, e, k⟩ := h
      obtain ⟨z, e2, rz⟩ := rvs_at r e
      exact .inl (.inr (.inl ⟨a, vs, i, z, rfl, rfl, hq.sq, e2, po _ S H _ k .refl rs rz⟩))
    | _ => exact h.elim
  | str z =>
    cases ry with
    | int i =>
      obtain ⟨hz, ch, e, k⟩ := h
      exact .inl (.inr (.inr ⟨z, i, ch, rfl, rfl, hz, e, po _ S H _ k .refl rs (.str _)⟩))
    | _ => exact h.elim
  | ref a =>
    rcases h with ⟨ws, i, w, rfl, l, e, k⟩ | ⟨kvs, k0, w, l, rfl, e, k⟩
    · cases ry
      obtain ⟨vs, hq, r⟩ := rs.list l
      obtain ⟨z, e2, rz⟩ := rvs_at r e
      exact .inl (.inl ⟨a, vs, i, z, rfl, rfl, hq, e2, po _ S H _ k .refl rs rz⟩)
    · obtain ⟨vs, hq, r⟩ := rs.dic l
      rw [rv_key ry]
      rcases rkv_val r k0 with ⟨e1, _⟩ | ⟨w', v', e1, e2, rr⟩
      · rw [e1] at e; cases e
      · rw [e1] at e; cases e
        exact .inr ⟨a, v', rfl, by rw [← e2]; exact DGet.k hq, po _ S H _ k .refl rs rr⟩
  | _ => cases ry <;> exact h.elim

/-! ### slices -/
abbrev WO := Ro → Sto → (Option Int → Sto → Prop) → EK → Prop
def mNoPart : WO := fun _ S Kk _ => Kk none S
def mPart (a : WE) : WO := fun ρ S Kk Ek => a ρ S (fun w S1 => match w with
  | .int i => Kk (some i) S1
  | _ => False) Ek
section
variable {X : Cx} {c : Cst} {Wx : WX}
def tO (c : Cst) (Wx : WX) (m : WO) : TO := fun σ H Q => ∃ ρ S Kk Ek, RE c.K H ρ σ ∧ RS c.K H S ∧ m ρ S Kk Ek ∧ (∀ b S' H', Kk b S' → Ext H S H' S' → RS c.K H' S' → Q b H') ∧ PoX c Wx σ H S Ek
theorem PO.imp {o : Option Expr} {t t' : TO} (h : PO X o t) (k : ∀ σ H Q, t' σ H Q → t σ H Q) : PO X o t' := ⟨fun pins s σ H Q I q => h.run pins s σ H Q I (k σ H Q q)⟩
theorem s_noPart : PO X none (tO c Wx mNoPart) := PO.imp po_none fun σ H Q q => by
  obtain ⟨ρ, S, Kk, Ek, re, rs, hm, po, px⟩ := q
  exact po none S H hm .refl rs
theorem s_part {e : Expr} {a : WE} (ha : PE X e (tE c Wx a)) : PO X (some e) (tO c Wx (mPart a)) := PO.imp (po_some ha) fun σ H Q q => by
  obtain ⟨ρ, S, Kk, Ek, re, rs, hm, po, px⟩ := q
  refine ⟨ρ, S, _, Ek, re, rs, hm, fun w S1 H1 v k1 e1 rs1 rv => ?_, px⟩
  cases rv with
  | int i => exact ⟨i, rfl, po (some i) S1 H1 k1 e1 rs1⟩
  | _ => exact k1.elim
/-- the part of a list -/
def cutW {α : Type} (xs : List α) (lo hi : Option Int) : List α := (xs.drop (HT.sIx xs.length 0 lo)).take (HT.sIx xs.length xs.length hi - HT.sIx xs.length 0 lo)
theorem cut_rvs {K : PySem.W.Frag} {H : Hp} {ws : List W} {vs : List V} (r : RVs K H ws vs) (lo hi : Option Int) : RVs K H (cutW ws lo hi) (cutV vs lo hi) := by
  unfold cutW cutV
  rw [r.length]
  exact (r.drop _).take _
theorem cut_whole {α : Type} {xs : List α} {lo hi : Option Int} (h1 : HT.sIx xs.length 0 lo = 0) (h2 : HT.sIx xs.length xs.length hi = xs.length) : cutW xs lo hi = xs := by
  unfold cutW
  rw [h1, h2]; simp
@[irreducible] def slK (x : W) (lo hi : Option Int) (S : Sto) (K : WK) : Prop := match x with
  | .tup ws => K (.tup (cutW ws lo hi)) S
  | .str z => z.length ≤ sizeLine ∧ K (.str ⟨(cutW z.cps.toList lo hi).toArray⟩) S
  | .ref a => ∃ ws, Lw S a ws ∧ ∀ p, S p = none → K (.ref p) (S.put p (.lst (cutW ws lo hi)))
  | .kls ws => ∀ p, S p = none → K (.ref p) (S.put p (.lst (cutW ws lo hi)))
  | _ => False
def mSl (a : WE) (lo hi : WO) : WE := fun ρ S Kk Ek => a ρ S (fun x S1 => lo ρ S1 (fun l S2 => hi ρ S2 (fun h S3 => slK x l h S3 Kk) Ek) Ek) Ek
def rSlW (K : PySem.W.Frag) : V → Option Int → Option Int → Hp → VK → Prop := fun x lo hi H Q => rSlN K x lo hi H Q ∨ rSlS x lo hi H Q ∨ rSlL K x lo hi H Q
theorem r_sl : SlR X (rSlW X.K) := SlR.or sl_tupN (SlR.or sl_str sl_list)
theorem s_sl {e : Expr} {lo hi : Option Expr} {a : WE} {l h : WO} {p2 pos : Pos} (hK : c.K = X.K) (ha : PE X e (tE c Wx a)) (hl : PO X lo (tO c Wx l)) (hh : PO X hi (tO c Wx h)) :
    PE X (.Subscript e (.Slice lo hi none p2) pos) (tE c Wx (mSl a l h)) := PE.imp (pe_slice r_sl ha hl hh) fun σ H Q q => by
  obtain ⟨ρ, S, Kk, Ek, re, rs, hm, po, px⟩ := q
  refine ⟨ρ, S, _, Ek, re, rs, hm, fun x S1 H1 u k1 e1 rs1 rx => ?_, px⟩
  refine ⟨ρ, S1, _, Ek, re.tst (e1.tst rs), rs1, k1, fun lo S2 H2 k2 e2 rs2 => ?_, px.on e1⟩
  refine ⟨ρ, S2, _, Ek, (re.tst (e1.tst rs)).tst (e2.tst rs1), rs2, k2, fun hi S3 H3 k3 e3 rs3 => ?_, (px.on e1).on e2⟩
  have rx3 := (rx.tst (e2.tst rs1)).tst (e3.tst rs2)
  have e13 := (e1.trans e2).trans e3
  unfold slK at k3
  rw [← hK]
  cases rx3 with
  | @tup ws a vs hq r =>
    refine .inl ⟨a, vs, rfl, hq.sq, fun hw => ?_, fun hw p o hp hc hd => ?_⟩
    · have k3' : Kk (.tup (cutW ws lo hi)) S3 := k3
      rw [cut_whole (by rw [r.length]; exact hw.1) (by rw [r.length]; exact hw.2)] at k3'
      exact po _ S3 H3 _ k3' e13 rs3 (.tup hq r)
    · exact po _ S3 _ _ k3 (e13.trans (.tup hp)) (rs3.tup hp) (.tup (.new hc hd) ((cut_rvs r lo hi).tst (tst_upd_new hp)))
  | str z =>
    refine .inr (.inl ⟨z, rfl, k3.1, po _ S3 H3 _ k3.2 e13 rs3 ?_⟩)
    have e : cutS z lo hi = ⟨(cutW z.cps.toList lo hi).toArray⟩ := by
      unfold cutS cutW
      have : z.cps.toList.length = z.length := by simp [Str.length]
      rw [this]
    rw [e]
    exact .str _
  | ref a =>
    obtain ⟨ws, l, k⟩ := k3
    obtain ⟨vs, hq, r⟩ := rs3.list l
    exact .inr (.inr ⟨a, vs, rfl, hq, fun p hp => po _ _ _ _ (k p (rs3.fresh hp)) (e13.trans (.new hp)) (rs3.new hp (.lst (cut_rvs r lo hi))) (.ref p)⟩)
  | @kls ws a vs hq r => exact .inr (.inr ⟨a, vs, rfl, hq H3, fun p hp => po _ _ _ _ (k3 p (rs3.fresh hp)) (e13.trans (.new hp)) (rs3.new hp (.lst (cut_rvs r lo hi))) (.ref p)⟩)
  | _ => exact k3.elim
/-- xs[::-1] of a list -/
def uRev : UOp := fun x S K => match x with
  | .ref a => ∃ ws, Lw S a ws ∧ ∀ p, S p = none → K (.ref p) (S.put p (.lst ws.reverse))
  | _ => False
theorem s_rev {e : Expr} {a : WE} {k : Nat} {p1 p2 p3 pos : Pos} (hK : c.K = X.K) (ha : PE X e (tE c Wx a)) : PE X (.Subscript e (.Slice none none (some (.UnaryOp .USub (.Constant (.int 1) k p1) p2)) p3) pos) (tE c Wx (mUn uRev a)) :=
  PE.imp (pe_revL ha) fun σ H Q q => by
    obtain ⟨ρ, S, Kk, Ek, re, rs, hm, po, px⟩ := q
    refine ⟨ρ, S, _, Ek, re, rs, hm, fun x S1 H1 u k1 e1 rs1 rx => ?_, px⟩
    cases rx with
    | ref a =>
      obtain ⟨ws, l, k⟩ := k1
      obtain ⟨vs, hq, r⟩ := rs1.list l
      exact ⟨a, vs, rfl, by rw [← hK]; exact hq, fun p hp => po _ _ _ _ (k p (rs1.fresh hp)) (e1.trans (.new hp)) (rs1.new hp (.lst r.rev)) (.ref p)⟩
    | _ => exact k1.elim
end

/-! ### calls of built-ins -/
abbrev NOp := List W → Sto → WK → Prop
def mBlt (f : NOp) (a : WEs) : WE := fun ρ S Kk Ek => a ρ S (fun ws S1 => f ws S1 Kk) Ek
def OpN (c : Cst) (r : List V → Hp → VK → Prop) (f : NOp) : Prop := ∀ (ws : List W) (vs : List V) (H : Hp) (S : Sto) (Kk : WK) (Q : VK), RS c.K H S → RVs c.K H ws vs → f ws S Kk →
  (∀ w S' H' z, Kk w S' → Ext H S H' S' → RS c.K H' S' → RV c.K H' w z → Q z H') → r vs H Q
theorem s_blt {c : Cst} {Wx : WX} {r : List V → Hp → VK → Prop} {f : NOp} {a : WEs} (ho : OpN c r f) : ∀ σ H Q, tE c Wx (mBlt f a) σ H Q → tCB r (tA c Wx a) σ H Q := fun σ H Q q => by
  obtain ⟨ρ, S, Kk, Ek, re, rs, hm, po, px⟩ := q
  refine ⟨ρ, S, _, Ek, re, rs, hm, fun ws S1 H1 vs k1 e1 rs1 rx => ?_, px⟩
  exact ho ws vs H1 S1 Kk Q rs1 rx k1 fun w S' H' z k e3 => po w S' H' z k (e1.trans e3)
theorem rvs1 {K : PySem.W.Frag} {H : Hp} {x : W} {vs : List V} (r : RVs K H [x] vs) : ∃ v, vs = [v] ∧ RV K H x v := by
  cases r with | cons h t => cases t; exact ⟨_, rfl, h⟩
theorem rvs2 {K : PySem.W.Frag} {H : Hp} {x y : W} {vs : List V} (r : RVs K H [x, y] vs) : ∃ v u, vs = [v, u] ∧ RV K H x v ∧ RV K H y u := by
  cases r with | cons h t => cases t with | cons h' t => cases t; exact ⟨_, _, rfl, h, h'⟩
/-- len -/
@[irreducible] def fLen : NOp := fun ws S K => match ws with
  | [.str z] => z.length ≤ sizeLine ∧ K (.int z.length) S
  | [.tup xs] => K (.int xs.length) S
  | [.ref a] => (∃ xs, Lw S a xs ∧ K (.int xs.length) S) ∨ ∃ kvs, S a = some (.dic kvs) ∧ K (.int kvs.length) S
  | _ => False
def rLenW (K : PySem.W.Frag) : List V → Hp → VK → Prop := fun xs H Q => (∃ x n, xs = [x] ∧ LenV K x H n ∧ Q (.int n) H) ∨ ∃ d kvs, xs = [.ref d] ∧ H d = some (.dK kvs) ∧ Q (.int kvs.length) H
end Dp
namespace Dp
open PySem PySem.Spec L2
open PyProof.Rows hiding St

theorem rvs0 {K : PySem.W.Frag} {H : Hp} {vs : List V} (r : RVs K H [] vs) : vs = [] := by cases r; rfl
theorem r_len {X : Cx} : CallR X (.builtin "len") (rLenW X.K) := CallR.or call_len call_lenD
theorem o_len {c : Cst} : OpN c (rLenW c.K) fLen := fun ws vs H S Kk Q rs r h po => by
  unfold fLen at h
  match ws, r, h with
  | [.str z], r, h =>
    obtain ⟨v, rfl, rx⟩ := rvs1 r
    cases rx
    exact .inl ⟨_, _, rfl, ⟨h.1, rfl⟩, po _ S H _ h.2 .refl rs (.int _)⟩
  | [.tup xs], r, h =>
    obtain ⟨v, rfl, rx⟩ := rvs1 r
    cases rx with
    | tup hq rr =>
      refine .inl ⟨_, _, rfl, .inr ⟨_, hq.sq, rfl⟩, ?_⟩
      rw [← rr.length]
      exact po _ S H _ h .refl rs (.int _)
  | [.ref a], r, h =>
    obtain ⟨v, rfl, rx⟩ := rvs1 r
    cases rx
    rcases h with ⟨xs, l, k⟩ | ⟨kvs, l, k⟩
    · obtain ⟨us, hq, rr⟩ := rs.list l
      refine .inl ⟨_, _, rfl, .inl ⟨_, hq, rfl⟩, ?_⟩
      rw [← rr.length]
      exact po _ S H _ k .refl rs (.int _)
    · obtain ⟨us, hq, rr⟩ := rs.dic l
      refine .inr ⟨_, _, rfl, hq, ?_⟩
      rw [rkv_len rr]
      exact po _ S H _ k .refl rs (.int _)
  | [.non], _, h => exact h.elim
  | [.bl _], _, h => exact h.elim
  | [.int _], _, h => exact h.elim
  | [.ty _], _, h => exact h.elim
  | [], _, h => exact h.elim
  | x :: _ :: _, _, h => cases x <;> exact False.elim h

/-! ### isinstance -/
inductive Ty where
  | int | bool | str | tup | lst | dic
  deriving DecidableEq
def Ty.nm : Ty → String
  | .int => "int" | .bool => "bool" | .str => "str" | .tup => "tuple" | .lst => "list" | .dic => "dict"
/-- the sort of a value -/
inductive Sort' where
  | non | bool | int | str | tup | lst | dic
  deriving DecidableEq
def Sort'.nm : Sort' → String
  | .non => "NoneType" | .bool => "bool" | .int => "int" | .str => "str" | .tup => "tuple" | .lst => "list" | .dic => "dict"
def isB : Sort' → Ty → Bool
  | .bool, .bool => true | .bool, .int => true | .int, .int => true | .str, .str => true | .tup, .tup => true | .lst, .lst => true | .dic, .dic => true
  | _, _ => false
theorem kit_all : ∀ (n : Sort') (T : Ty), kitB n.nm T.nm = some (isB n T) := by
  intro n T
  cases n <;> cases T <;> decide +kernel
def sortK (S : Sto) (x : W) (K : Sort' → Prop) : Prop := match x with
  | .non => K .non
  | .bl _ => K .bool
  | .int _ => K .int
  | .str _ => K .str
  | .tup _ => K .tup
  | .ref a => (∃ xs, Lw S a xs ∧ K .lst) ∨ ∃ kvs, S a = some (.dic kvs) ∧ K .dic
  | .ty _ => False
  | .kls _ => False
def fIsi : NOp := fun ws S K => match ws with
  | [x, .ty n] => ∃ T : Ty, n = T.nm ∧ sortK S x fun s => K (.bl (isB s T)) S
  | _ => False
def uIsi (T : Ty) : UOp := fun x S K => sortK S x fun s => K (.bl (isB s T)) S
theorem tyX_of {c : Cst} {H : Hp} {S : Sto} {x : W} {v : V} {K : Sort' → Prop} (rs : RS c.K H S) (r : RV c.K H x v) (h : sortK S x K) : ∃ s : Sort', TyX c.K H v (.type s.nm) ∧ K s := by
  cases r with
  | non => exact ⟨_, .base .non, h⟩
  | bl b => exact ⟨.bool, .base (.bl b), h⟩
  | int i => exact ⟨.int, .base (.int i), h⟩
  | str i => exact ⟨.str, .base (.str i), h⟩
  | ty n => exact h.elim
  | kls _ _ => exact h.elim
  | @tup ws a vs hq _ =>
    refine ⟨.tup, ?_, h⟩
    rcases hq with ⟨o, hq, _⟩ | ⟨o, its, n, hk, hc, _⟩
    · exact .fTuple hq
    · exact .kTuple hk hc
  | ref a =>
    rcases h with ⟨xs, l | l, k⟩ | ⟨kvs, l, k⟩
    · obtain ⟨vs, q, _⟩ := rs.lst l
      exact ⟨.lst, .base (.lst q), k⟩
    · obtain ⟨o, q, r⟩ := rs a _ l
      cases r with | frz r => exact ⟨.lst, .base (.frz q), k⟩
    · obtain ⟨vs, q, _⟩ := rs.dic l
      exact ⟨.dic, .base (.dK q), k⟩
theorem o_isi {c : Cst} : OpN c (rIsi c.K) fIsi := fun ws vs H S Kk Q rs r h po => by
  match ws, r, h with
  | [x, .ty n], r, ⟨T, e, h⟩ =>
    obtain ⟨v, u, rfl, rx, ru⟩ := rvs2 r
    cases ru
    subst e
    obtain ⟨s, t, k⟩ := tyX_of rs rx h
    exact ⟨v, .ty T.nm, _, _, isB s T, rfl, .ty _, t, kit_ty (kit_all s T), po _ S H _ k .refl rs (.bl _)⟩
  | [_, .non], _, h => exact h.elim
  | [_, .bl _], _, h => exact h.elim
  | [_, .int _], _, h => exact h.elim
  | [_, .str _], _, h => exact h.elim
  | [_, .tup _], _, h => exact h.elim
  | [_, .ref _], _, h => exact h.elim
  | [_, .kls _], _, h => exact h.elim
  | [], _, h => exact h.elim
  | [_], _, h => exact h.elim
  | _ :: y :: _ :: _, _, h => cases y <;> exact False.elim h

/-! ### small ones -/
def fAbs : NOp := fun ws S K => match ws with
  | [.int i] => K (.int (if i < 0 then -i else i)) S
  | _ => False
theorem one_int {c : Cst} {H : Hp} {ws : List W} {vs : List V} (r : RVs c.K H ws vs) {P : Prop} (h : match ws with | [.int _] => P | _ => False) : ∃ i, ws = [.int i] ∧ vs = [.int i] ∧ P := by
  match ws, r, h with
  | [.int i], r, h =>
    obtain ⟨v, rfl, rx⟩ := rvs1 r
    cases rx
    exact ⟨i, rfl, rfl, h⟩
theorem o_abs {c : Cst} : OpN c (fun xs H Q => ∃ i, xs = [V.int i] ∧ Q (.int (if i < 0 then -i else i)) H) fAbs := fun ws vs H S Kk Q rs r h po => by
  unfold fAbs at h
  split at h
  · obtain ⟨v, rfl, rx⟩ := rvs1 r
    cases rx
    exact ⟨_, rfl, po _ S H _ h .refl rs (.int _)⟩
  · exact h.elim
def fMax2 : NOp := fun ws S K => match ws with
  | [.int i, .int j] => K (.int (if j > i then j else i)) S
  | _ => False
def fMin2 : NOp := fun ws S K => match ws with
  | [.int i, .int j] => K (.int (if j < i then j else i)) S
  | _ => False
theorem o_max2 {c : Cst} : OpN c (fun xs H Q => ∃ i j, xs = [V.int i, V.int j] ∧ Q (.int (if j > i then j else i)) H) fMax2 := fun ws vs H S Kk Q rs r h po => by
  unfold fMax2 at h
  split at h
  · obtain ⟨v, u, rfl, rx, ru⟩ := rvs2 r
    cases rx; cases ru
    exact ⟨_, _, rfl, po _ S H _ h .refl rs (.int _)⟩
  · exact h.elim
theorem o_min2 {c : Cst} : OpN c (fun xs H Q => ∃ i j, xs = [V.int i, V.int j] ∧ Q (.int (if j < i then j else i)) H) fMin2 := fun ws vs H S Kk Q rs r h po => by
  unfold fMin2 at h
  split at h
  · obtain ⟨v, u, rfl, rx, ru⟩ := rvs2 r
    cases rx; cases ru
    exact ⟨_, _, rfl, po _ S H _ h .refl rs (.int _)⟩
  · exact h.elim
theorem rvs_map {α : Type} {K : PySem.W.Frag} {H : Hp} {f : α → W} {g : α → V} (hf : ∀ x v, RV K H (f x) v → v = g x) : ∀ {xs : List α} {vs : List V}, RVs K H (xs.map f) vs → vs = xs.map g
  | [], vs, r => by cases r; rfl
  | x :: xs, vs, r => by
    cases r with
    | cons h t => rw [hf x _ h, rvs_map hf t]; rfl
def fSum : NOp := fun ws S K => match ws with
  | [.ref a] => ∃ ns : List Int, Lw S a (ns.map W.int) ∧ K (.int ns.sum) S
  | _ => False
theorem o_sum {c : Cst} : OpN c (rSum c.K) fSum := fun ws vs H S Kk Q rs r h po => by
  unfold fSum at h
  split at h
  · obtain ⟨v, rfl, rx⟩ := rvs1 r
    cases rx
    obtain ⟨ns, l, k⟩ := h
    obtain ⟨us, hq, rr⟩ := rs.list l
    rw [rvs_map (g := V.int) (fun x v r => by cases r; rfl) rr] at hq
    exact ⟨_, ns, rfl, hq, po _ S H _ k .refl rs (.int _)⟩
  · exact h.elim
def fAll : NOp := fun ws S K => match ws with
  | [.ref a] => ∃ bs : List Bool, Lw S a (bs.map W.bl) ∧ K (.bl (bs.all id)) S
  | _ => False
def fAny : NOp := fun ws S K => match ws with
  | [.ref a] => ∃ bs : List Bool, Lw S a (bs.map W.bl) ∧ K (.bl (bs.any id)) S
  | _ => False
theorem o_all {c : Cst} : OpN c (rAll c.K) fAll := fun ws vs H S Kk Q rs r h po => by
  unfold fAll at h
  split at h
  · obtain ⟨v, rfl, rx⟩ := rvs1 r
    cases rx
    obtain ⟨ns, l, k⟩ := h
    obtain ⟨us, hq, rr⟩ := rs.list l
    rw [rvs_map (g := V.bl) (fun x v r => by cases r; rfl) rr] at hq
    exact ⟨_, ns, rfl, hq, po _ S H _ k .refl rs (.bl _)⟩
  · exact h.elim
theorem o_any {c : Cst} : OpN c (rAny c.K) fAny := fun ws vs H S Kk Q rs r h po => by
  unfold fAny at h
  split at h
  · obtain ⟨v, rfl, rx⟩ := rvs1 r
    cases rx
    obtain ⟨ns, l, k⟩ := h
    obtain ⟨us, hq, rr⟩ := rs.list l
    rw [rvs_map (g := V.bl) (fun x v r => by cases r; rfl) rr] at hq
    exact ⟨_, ns, rfl, hq, po _ S H _ k .refl rs (.bl _)⟩
  · exact h.elim
def fList : NOp := fun ws S K => match ws with
  | [.ref a] => ∃ xs, Lw S a xs ∧ ∀ p, S p = none → K (.ref p) (S.put p (.lst xs))
  | [.tup xs] => ∀ p, S p = none → K (.ref p) (S.put p (.lst xs))
  | _ => False
theorem o_list {c : Cst} : OpN c (fun xs H Q => ∃ p ys, xs = [V.ref p] ∧ (SqL c.K H p ys ∨ SqT c.K H p ys) ∧ ∀ l, H l = none → Q (.ref l) (upd H l (.lst ys))) fList := fun ws vs H S Kk Q rs r h po => by
  unfold fList at h
  split at h
  · obtain ⟨v, rfl, rx⟩ := rvs1 r
    cases rx
    obtain ⟨ns, l, k⟩ := h
    obtain ⟨us, hq, rr⟩ := rs.list l
    exact ⟨_, us, rfl, .inl hq, fun p hp => po _ _ _ _ (k p (rs.fresh hp)) (.new hp) (rs.new hp (.lst rr)) (.ref p)⟩
  · obtain ⟨v, rfl, rx⟩ := rvs1 r
    cases rx with
    | tup hq rr => exact ⟨_, _, rfl, .inr hq.sq, fun p hp => po _ _ _ _ (h p (rs.fresh hp)) (.new hp) (rs.new hp (.lst rr)) (.ref p)⟩
  · exact h.elim
def fTuple : NOp := fun ws S K => match ws with
  | [.ref a] => ∃ xs, Lw S a xs ∧ K (.tup xs) S
  | [.tup xs] => K (.tup xs) S
  | _ => False
theorem o_tuple {c : Cst} : OpN c (rTupOfN c.K) fTuple := fun ws vs H S Kk Q rs r h po => by
  unfold fTuple at h
  split at h
  · obtain ⟨v, rfl, rx⟩ := rvs1 r
    cases rx
    obtain ⟨ns, l, k⟩ := h
    obtain ⟨us, hq, rr⟩ := rs.list l
    exact ⟨_, us, rfl, .inl ⟨hq, fun p o hp hc hd => po _ _ _ _ k (.tup hp) (rs.tup hp) (.tup (.new hc hd) (rr.tst (tst_upd_new hp)))⟩⟩
  · obtain ⟨v, rfl, rx⟩ := rvs1 r
    cases rx with
    | tup hq rr => exact ⟨_, _, rfl, .inr ⟨hq.sq, po _ _ _ _ h .refl rs (.tup hq rr)⟩⟩
  · exact h.elim
def fOrd : NOp := fun ws S K => match ws with
  | [.str x] => x.length = 1 ∧ K (.int (x.cps.getD 0 0 : Nat)) S
  | _ => False
theorem o_ord1 {c : Cst} : OpN c (fun xs H Q => ∃ x, xs = [V.str x] ∧ x.length = 1 ∧ Q (.int (x.cps.getD 0 0 : Nat)) H) fOrd := fun ws vs H S Kk Q rs r h po => by
  unfold fOrd at h
  split at h
  · obtain ⟨v, rfl, rx⟩ := rvs1 r
    cases rx
    exact ⟨_, rfl, h.1, po _ S H _ h.2 .refl rs (.int _)⟩
  · exact h.elim
def fStr : NOp := fun ws S K => match ws with
  | [.int i] => i.natAbs.log2 < 1920 ∧ K (.str (toString i)) S
  | _ => False
theorem o_str {c : Cst} : OpN c (fun xs H Q => ∃ i, xs = [V.int i] ∧ i.natAbs.log2 < 1920 ∧ Q (.str (toString i)) H) fStr := fun ws vs H S Kk Q rs r h po => by
  unfold fStr at h
  split at h
  · obtain ⟨v, rfl, rx⟩ := rvs1 r
    cases rx
    exact ⟨_, rfl, h.1, po _ S H _ h.2 .refl rs (.str _)⟩
  · exact h.elim
def fInt : NOp := fun ws S K => match ws with
  | [.int i] => K (.int i) S
  | [.bl k] => K (.int (if k then 1 else 0)) S
  | _ => False
theorem o_int {c : Cst} : OpN c (fun xs H Q => (∃ i, xs = [V.int i] ∧ Q (.int i) H) ∨ ∃ k, xs = [V.bl k] ∧ Q (.int (if k then 1 else 0)) H) fInt := fun ws vs H S Kk Q rs r h po => by
  unfold fInt at h
  split at h
  · obtain ⟨v, rfl, rx⟩ := rvs1 r
    cases rx
    exact .inl ⟨_, rfl, po _ S H _ h .refl rs (.int _)⟩
  · obtain ⟨v, rfl, rx⟩ := rvs1 r
    cases rx
    exact .inr ⟨_, rfl, po _ S H _ h .refl rs (.int _)⟩
  · exact h.elim

/-! ### repr of lists and tuples -/
mutual
theorem Den.noDict {S : Sto} : ∀ {w : W} {d : PyData}, Den S w d → d.hasDict = false
  | _, _, .non => rfl
  | _, _, .bl _ => rfl
  | _, _, .int _ => rfl
  | _, _, .str _ => rfl
  | _, _, .tup h => by simp only [PyData.hasDict]; exact Dens.noDict h
  | _, _, .lst _ h => by simp only [PyData.hasDict]; exact Dens.noDict h
theorem Dens.noDict {S : Sto} : ∀ {w : List W} {d : List PyData}, Dens S w d → PyData.hasDictAll d = false
  | _, _, .nil => rfl
  | _, _, .cons h t => by simp only [PyData.hasDictAll]; rw [Den.noDict h, Dens.noDict t]; rfl
end
def isRefW : W → Bool
  | .tup _ => true
  | .ref _ => true
  | _ => false
/-- repr(x) -/
@[irreducible] def fRepr : NOp := fun ws S K => match ws with
  | [x] => isRefW x = true ∧ ∃ d, Den S x d ∧ d.showable = true ∧ d.depth ≤ 60 ∧ d.shown.length ≤ sizeLine ∧ K (.str d.shown) S
  | _ => False
def rReprW (K : PySem.W.Frag) : List V → Hp → VK → Prop := fun vs H Q => ∃ a d, vs = [.ref a] ∧ L2.Dp K H (.ref a) d ∧ d.hasDict = false ∧ d.showable = true ∧ d.depth ≤ 60 ∧ d.shown.length ≤ sizeLine ∧ Q (.str d.shown) H
theorem r_repr {X : Cx} (hg : X.A.guards = some []) (hu : X.A.units + 64 < cLine) : CallR X (.builtin "repr") (rReprW X.K) := by
  intro pins s σ H xs us Q I r h
  obtain ⟨a, d, rfl, hd, h1, h2, h3, h4, q⟩ := h
  obtain ⟨u, rfl, ru⟩ := vals1 r
  obtain ⟨as, rd⟩ := L2.Dp.reads I d _ u hd ru
  cases ru
  refine repr_of_reads' rd h2 (fun z => by rw [h1] at z; cases z) hg (by omega) (fun _ _ z => z) (fun h' t tk k => ?_) h4
  exact ⟨.str d.shown, H, I.kept (t' := tk) k, ⟨_, rfl⟩, q⟩
theorem o_repr {c : Cst} : OpN c (rReprW c.K) fRepr := fun ws vs H S Kk Q rs r h po => by
  unfold fRepr at h
  split at h
  · obtain ⟨v, rfl, rx⟩ := rvs1 r
    obtain ⟨f, d, hd, h2, h3, h4, k⟩ := h
    have q := hd.dp rs rx
    have fin := po _ S H _ k .refl rs (.str _)
    cases rx with
    | @tup ws a vs hq rr => exact ⟨a, d, rfl, q, hd.noDict, h2, h3, h4, fin⟩
    | ref a => exact ⟨a, d, rfl, q, hd.noDict, h2, h3, h4, fin⟩
    | _ => simp [isRefW] at f
  · exact h.elim
/-- nothing at all: an operation that no rule serves -/
def fNo : NOp := fun _ _ _ => False

/-! ### calls of methods -/
abbrev MOp := W → List W → Sto → WK → Prop
/-- the method of a sort of objects -/
structure Mth (T : String) (name : Str) (id : String) : Prop where
  pa : PlainAttrs T
  sl : Slot T name id
  ty : typeOf (.builtin id) = pure (.type "method_descriptor")
/-- the value is of that sort, a tuple too -/
def tyVN (K : PySem.W.Frag) (T : String) (x : V) (H : Hp) : Prop := tyV K T x H ∨ (T = "tuple" ∧ ∃ a xs, x = .ref a ∧ TqN K H a xs)
theorem tyVN_is {X : Cx} {pins : List (Addr × Obj)} {σ : L2.St} {H : Hp} {s : Shared} {T : String} {x : V} {v : Value} (I : Inv X pins σ H s) (r : RelV x v) (ty : tyVN X.K T x H) :
    s.TypeIs v T ∧ ∀ a, v = .ref a → ∃ ob, s.heap.get? a = some ob ∧ ob.dict = none := by
  rcases ty with ty | ⟨rfl, a, xs, rfl, h⟩
  · exact tyV_is I r ty
  · cases r
    obtain ⟨h1, h2⟩ := TqN.is I h
    exact ⟨h1, fun b e => by cases e; exact h2⟩
/-- one of several sorts: what is asked of the receiver, the arguments -/
structure Alt where
  T : String
  id : String
  r : V → List V → Hp → VK → Prop
/-- the receiver x in H is served by an alternative of which its method does what is told -/
def tMU (K : PySem.W.Frag) (as : List Alt) (to : TE) (t : TA) : TE := fun σ H Q => to σ H fun x H1 => ∃ a ∈ as, tyVN K a.T x H1 ∧ t σ H1 fun xs H2 => a.r x xs H2 Q
theorem pe_mU {X : Cx} {as : List Alt} {o e : Expr} {es : List Expr} {name : Str} {apos cpos : Pos} {to : TE} {t : TA} (hm : ∀ a ∈ as, Mth a.T name a.id ∧ MtR X a.id a.r) (ho : PE X o to) (ha : PA X (e :: es) t)
    (hb : attributeBase o name X.env (eval o X.env) = eval o X.env)
    (hf : ((backTo cpos (starEach (e :: es) X.env)).all (fun x => !x.1) && (backToKw cpos (keywordEach [] X.env)).all (fun x => x.1.isSome) && decide ((e :: es).length + ([] : List Keyword).length + (if ([] : List Keyword).isEmpty then 0 else 1) < 30)) = true)
    (hl : (apos.endLine == cpos.line) = true) (hs : starEach (e :: es) X.env = (false, eval e X.env) :: starEach es X.env) (hp : (backTo cpos (starEach es X.env)).any (·.1) = false) :
    PE X (.Call (.Attribute o name apos) (e :: es) [] cpos) (tMU X.K as to t) := by
  constructor
  intro pins s σ H Q I h
  refine wpAny_Call_method_late hb hf hl rfl (thn (ho.run pins s σ H _ I h) fun v s1 z => ?_)
  obtain ⟨x, H1, I1, r1, a, ham, ty, q1⟩ := z
  obtain ⟨m, mr⟩ := hm a ham
  obtain ⟨g1, g2⟩ := tyVN_is I1 r1 ty
  refine ⟨a.T, a.id, m.pa, m.sl, m.ty, g1, g2, ?_⟩
  have z := ha.run cpos pins s1 σ H1 _ I1 q1
  rw [hs] at z ⊢
  refine Calls.callWith_builtin ?_ (Calls.evalArgs_plain (thn z fun us s2 ⟨vs, H2, I2, r2, q2⟩ => mr pins s2 σ H2 x vs v us Q I2 r1 r2 q2))
  show (false || (backTo cpos (starEach es X.env)).any (·.1)) = false
  rw [hp]; rfl
theorem pe_mU0 {X : Cx} {as : List Alt} {o : Expr} {name : Str} {apos cpos : Pos} {to : TE} (hm : ∀ a ∈ as, Mth a.T name a.id ∧ MtR X a.id a.r) (ho : PE X o to)
    (hb : attributeBase o name X.env (eval o X.env) = eval o X.env) (hl : (apos.endLine == cpos.line) = true) :
    PE X (.Call (.Attribute o name apos) [] [] cpos) (tMU X.K as to tNil) := by
  constructor
  intro pins s σ H Q I h
  refine wpAny_Call_method0_late hb hl (thn (ho.run pins s σ H _ I h) fun v s1 z => ?_)
  obtain ⟨x, H1, I1, r1, a, ham, ty, q1⟩ := z
  obtain ⟨m, mr⟩ := hm a ham
  obtain ⟨g1, g2⟩ := tyVN_is I1 r1 ty
  exact ⟨a.T, a.id, m.pa, m.sl, m.ty, g1, g2, Calls.callWith_builtin rfl (PySem.evalArgs_none (mr pins s1 σ H1 x [] v [] Q I1 r1 .nil q1))⟩
/-- an alternative by plain values: whom it serves, what it does -/
structure AltW where
  T : String
  f : MOp
/-- the receiver is of that sort -/
def ofT (T : String) (x : W) (S : Sto) : Prop := match x with
  | .str _ => T = "str"
  | .tup _ => T = "tuple"
  | .ref a => (T = "list" ∧ ∃ xs, Lw S a xs) ∨ (T = "dict" ∧ ∃ kvs, S a = some (.dic kvs))
  | _ => False
theorem ofT_tyV {c : Cst} {H : Hp} {S : Sto} {T : String} {x : W} {v : V} (rs : RS c.K H S) (r : RV c.K H x v) (h : ofT T x S) : tyVN c.K T v H := by
  cases r with
  | str z => exact .inl h
  | tup hq _ => exact .inr ⟨h, _, _, rfl, hq⟩
  | ref a =>
    rcases h with ⟨e, xs, l⟩ | ⟨e, kvs, l⟩
    · obtain ⟨vs, q, _⟩ := rs.list l
      exact .inl (.inl ⟨e, vs, q⟩)
    · obtain ⟨vs, q, _⟩ := rs.dic l
      exact .inl (.inr (.inr (.inl ⟨e, .inl ⟨vs, q⟩⟩)))
  | _ => exact h.elim
/-- o.m(..): the receiver's sort picks -/
def mMth (as : List AltW) (o : WE) (b : WEs) : WE := fun ρ S Kk Ek => o ρ S (fun x S1 => ∃ a ∈ as, ofT a.T x S1 ∧ b ρ S1 (fun ws S2 => a.f x ws S2 Kk) Ek) Ek
def OpM (c : Cst) (a : AltW) (b : Alt) : Prop := a.T = b.T ∧ ∀ (x : W) (ws : List W) (u : V) (vs : List V) (H : Hp) (S : Sto) (Kk : WK) (Q : VK), RS c.K H S → RV c.K H x u → RVs c.K H ws vs → a.f x ws S Kk →
  (∀ w S' H' z, Kk w S' → Ext H S H' S' → RS c.K H' S' → RV c.K H' w z → Q z H') → b.r u vs H Q
theorem s_mth {X : Cx} {c : Cst} {Wx : WX} {as : List AltW} {bs : List Alt} {o : WE} {b : WEs} (hK : c.K = X.K) (ho : ∀ a ∈ as, ∃ d ∈ bs, OpM c a d) : ∀ σ H Q, tE c Wx (mMth as o b) σ H Q → tMU X.K bs (tE c Wx o) (tA c Wx b) σ H Q := fun σ H Q q => by
  obtain ⟨ρ, S, Kk, Ek, re, rs, hm, po, px⟩ := q
  refine ⟨ρ, S, _, Ek, re, rs, hm, fun x S1 H1 u k1 e1 rs1 rx => ?_, px⟩
  obtain ⟨a, ha, ty, k1⟩ := k1
  obtain ⟨d, hd, eT, op⟩ := ho a ha
  refine ⟨d, hd, by rw [← eT, ← hK]; exact ofT_tyV rs1 rx ty, ρ, S1, _, Ek, re.tst (e1.tst rs), rs1, k1, fun ws S2 H2 vs k2 e2 rs2 r2 => ?_, px.on e1⟩
  exact op x ws u vs H2 S2 Kk Q rs2 (rx.tst (e2.tst rs1)) r2 k2 fun w S' H' z k e3 => po w S' H' z k ((e1.trans e2).trans e3)
theorem s_mth0 {X : Cx} {c : Cst} {Wx : WX} {as : List AltW} {bs : List Alt} {o : WE} (hK : c.K = X.K) (ho : ∀ a ∈ as, ∃ d ∈ bs, OpM c a d) : ∀ σ H Q, tE c Wx (mMth as o mNil) σ H Q → tMU X.K bs (tE c Wx o) tNil σ H Q := fun σ H Q q => by
  obtain ⟨ρ, S, Kk, Ek, re, rs, hm, po, px⟩ := q
  refine ⟨ρ, S, _, Ek, re, rs, hm, fun x S1 H1 u k1 e1 rs1 rx => ?_, px⟩
  obtain ⟨a, ha, ty, k1⟩ := k1
  obtain ⟨d, hd, eT, op⟩ := ho a ha
  refine ⟨d, hd, by rw [← eT, ← hK]; exact ofT_tyV rs1 rx ty, ?_⟩
  exact op x [] u [] H1 S1 Kk Q rs1 rx .nil k1 fun w S' H' z k e3 => po w S' H' z k (e1.trans e3)

/-! the methods of lists and dicts -/
def fAppend : MOp := fun x ws S K => match x, ws with
  | .ref a, [y] => ∃ xs, S a = some (.lst xs) ∧ xs.length < sizeLine ∧ K .non (S.put a (.lst (xs ++ [y])))
  | _, _ => False
def fExtend : MOp := fun x ws S K => match x, ws with
  | .ref a, [.ref b] => ∃ xs ys, S a = some (.lst xs) ∧ S b = some (.lst ys) ∧ xs.length + ys.length ≤ sizeLine ∧ K .non (S.put a (.lst (xs ++ ys)))
  | _, _ => False
def fPopL : MOp := fun x ws S K => match x, ws with
  | .ref a, [] => ∃ xs y, S a = some (.lst xs) ∧ xs[xs.length - 1]? = some y ∧ K y (S.put a (.lst xs.dropLast))
  | .ref a, [.int i] => ∃ xs k y, S a = some (.lst xs) ∧ i.natAbs < 2 ^ 62 ∧ ixN xs.length i = some k ∧ xs[k]? = some y ∧ K y (S.put a (.lst (xs.eraseIdx k)))
  | _, _ => False
def fInsert : MOp := fun x ws S K => match x, ws with
  | .ref a, [.int i, y] => ∃ xs, S a = some (.lst xs) ∧ xs.length < sizeLine ∧ 0 ≤ i ∧ i < 2 ^ 63 ∧ K .non (S.put a (.lst (xs.take i.toNat ++ [y] ++ xs.drop i.toNat)))
  | _, _ => False
def fReverse : MOp := fun x ws S K => match x, ws with
  | .ref a, [] => ∃ xs, S a = some (.lst xs) ∧ K .non (S.put a (.lst xs.reverse))
  | _, _ => False
theorem mo_append {c : Cst} : OpM c ⟨"list", fAppend⟩ ⟨"list", "list.append", rAppend⟩ := ⟨rfl, fun x ws u vs H S Kk Q rs rx r h po => by
  simp only [fAppend] at h
  split at h
  · cases rx
    obtain ⟨v, rfl, ry⟩ := rvs1 r
    obtain ⟨xs, l, hz, k⟩ := h
    obtain ⟨us, hq, rr⟩ := rs.lst l
    exact ⟨_, us, v, rfl, rfl, hq, by rw [← rr.length]; exact hz, po _ _ _ _ k (.put l) (rs.put l (.lst (rr.append (.cons ry .nil)))) .non⟩
  · exact h.elim⟩
theorem mo_extend {c : Cst} : OpM c ⟨"list", fExtend⟩ ⟨"list", "list.extend", rExtend⟩ := ⟨rfl, fun x ws u vs H S Kk Q rs rx r h po => by
  simp only [fExtend] at h
  split at h
  · cases rx
    obtain ⟨v, rfl, ry⟩ := rvs1 r
    cases ry
    obtain ⟨xs, ys, l, l2, hz, k⟩ := h
    obtain ⟨us, hq, rr⟩ := rs.lst l
    obtain ⟨us2, hq2, rr2⟩ := rs.lst l2
    exact ⟨_, _, us, us2, rfl, rfl, hq, hq2, by rw [← rr.length, ← rr2.length]; exact hz, po _ _ _ _ k (.put l) (rs.put l (.lst (rr.append rr2))) .non⟩
  · exact h.elim⟩
theorem rvs_dropLast {K : PySem.W.Frag} {H : Hp} {ws : List W} {vs : List V} (r : RVs K H ws vs) : RVs K H ws.dropLast vs.dropLast := by
  rw [List.dropLast_eq_take, List.dropLast_eq_take, ← r.length]
  exact r.take _
def rPopL : V → List V → Hp → VK → Prop := fun x vs H Q => rPop x vs H Q ∨ rPopAt x vs H Q
theorem mo_pop {c : Cst} : OpM c ⟨"list", fPopL⟩ ⟨"list", "list.pop", rPopL⟩ := ⟨rfl, fun x ws u vs H S Kk Q rs rx r h po => by
  simp only [fPopL] at h
  split at h
  · cases rx
    cases r
    obtain ⟨xs, y, l, hy, k⟩ := h
    obtain ⟨us, hq, rr⟩ := rs.lst l
    obtain ⟨v, e, rv⟩ := rr.get' hy
    exact .inl ⟨_, us, v, rfl, rfl, hq, by rw [← rr.length]; exact e, po _ _ _ _ k (.put l) (rs.put l (.lst (rvs_dropLast rr))) (rv.tst (tst_upd_own rs l))⟩
  · cases rx
    obtain ⟨v, rfl, ry⟩ := rvs1 r
    cases ry
    obtain ⟨xs, j, y, l, hb, hj, hy, k⟩ := h
    obtain ⟨us, hq, rr⟩ := rs.lst l
    obtain ⟨v, e, rv⟩ := rr.get' hy
    have hj' := hj
    rw [rr.length] at hj'
    obtain ⟨h1, h2, h3, h4⟩ := ixN_seq hj'
    exact .inr ⟨_, us, _, j, v, rfl, rfl, hq, by omega, by omega, h1, e, po _ _ _ _ k (.put l) (rs.put l (.lst (rr.eraseIdx _))) (rv.tst (tst_upd_own rs l))⟩
  · exact h.elim⟩
theorem mo_insert {c : Cst} : OpM c ⟨"list", fInsert⟩ ⟨"list", "list.insert", fun x vs H Q => ∃ (l : Addr) (xs : List V) (i : Int) (y : V), x = .ref l ∧ vs = [.int i, y] ∧ H l = some (.lst xs) ∧ xs.length < sizeLine ∧ 0 ≤ i ∧ i < 2 ^ 63 ∧ Q .non (upd H l (.lst (xs.take i.toNat ++ [y] ++ xs.drop i.toNat)))⟩ := ⟨rfl, fun x ws u vs H S Kk Q rs rx r h po => by
  simp only [fInsert] at h
  split at h
  · cases rx
    obtain ⟨v, z, rfl, ry, rz⟩ := rvs2 r
    cases ry
    obtain ⟨xs, l, hz, h0, h1, k⟩ := h
    obtain ⟨us, hq, rr⟩ := rs.lst l
    exact ⟨_, us, _, z, rfl, rfl, hq, by rw [← rr.length]; exact hz, h0, h1, po _ _ _ _ k (.put l) (rs.put l (.lst (((rr.take _).append (.cons rz .nil)).append (rr.drop _)))) .non⟩
  · exact h.elim⟩
theorem mo_reverse {c : Cst} : OpM c ⟨"list", fReverse⟩ ⟨"list", "list.reverse", rReverse⟩ := ⟨rfl, fun x ws u vs H S Kk Q rs rx r h po => by
  simp only [fReverse] at h
  split at h
  · cases rx
    cases r
    obtain ⟨xs, l, k⟩ := h
    obtain ⟨us, hq, rr⟩ := rs.lst l
    exact ⟨_, us, rfl, rfl, hq, po _ _ _ _ k (.put l) (rs.put l (.lst rr.rev)) .non⟩
  · exact h.elim⟩
theorem mt_popU {X : Cx} : MtR X "list.pop" rPopL := MtR.or mt_pop mt_popAt
theorem ml_append : Mth "list" "append" "list.append" := ⟨PySem.F.plainAttrs_list, PySem.F.slot_list_append, PySem.F.type_list_append⟩
theorem ml_extend : Mth "list" "extend" "list.extend" := ⟨PySem.F.plainAttrs_list, PySem.F.slot_list_extend, PySem.F.type_list_extend⟩
theorem ml_pop : Mth "list" "pop" "list.pop" := ⟨PySem.F.plainAttrs_list, PySem.F.slot_list_pop, PySem.F.type_list_pop⟩
theorem ml_insert : Mth "list" "insert" "list.insert" := ⟨PySem.F.plainAttrs_list, PySem.F.slot_list_insert, PySem.F.type_list_insert⟩
theorem ml_reverse : Mth "list" "reverse" "list.reverse" := ⟨PySem.F.plainAttrs_list, PySem.F.slot_list_reverse, PySem.F.type_list_reverse⟩
end Dp
namespace Dp
open PySem PySem.Spec L2
open PyProof.Rows hiding St

/-! ### targets -/
inductive Tg where
  | nm (i : Nat)
  | tp (is : List Nat)
  | tk (i : Nat) (is : List Nat)
abbrev WG := W → Ro → (Ro → Prop) → Prop
def rsets : Ro → List Nat → List W → Ro
  | ρ, i :: is, w :: ws => rsets (rset ρ i (some w)) is ws
  | ρ, _, _ => ρ
def wgOf : Tg → WG
  | .nm i => fun x ρ R => R (rset ρ i (some x))
  | .tp is => fun x ρ R => match x with
    | .tup ws => ws.length = is.length ∧ R (rsets ρ is ws)
    | _ => False
  | .tk i is => fun x ρ R => match x with
    | .tup [a, .tup ws] => ws.length = is.length ∧ R (rsets (rset ρ i (some a)) is ws)
    | _ => False
def gNames : List Nat → TGs
  | [] => gNil
  | i :: r => gCons (gName i) (gNames r)
def gOf (K : PySem.W.Frag) : Tg → TG
  | .nm i => gName i
  | .tp is => gTup K is.length (gNames is)
  | .tk i is => gTup K 2 (gCons (gName i) (gCons (gTup K is.length (gNames is)) gNil))
def Tg.own : Tg → List Nat
  | .nm i => [i]
  | .tp is => is
  | .tk i is => i :: is
def sets : L2.St → List Nat → List V → L2.St
  | σ, i :: is, w :: ws => sets (σ.set i (some w)) is ws
  | σ, _, _ => σ
theorem RE.sets {K : PySem.W.Frag} {H : Hp} : ∀ {is : List Nat} {ws : List W} {vs : List V} {ρ : Ro} {σ : L2.St}, RE K H ρ σ → RVs K H ws vs → RE K H (rsets ρ is ws) (sets σ is vs)
  | [], _, _, _, _, r, q => by cases q <;> exact r
  | i :: is, _, _, _, _, r, .nil => r
  | i :: is, _, _, _, _, r, .cons h t => RE.sets (is := is) (r.set h) t
theorem names_of {σ : L2.St} {H : Hp} {Q : L2.St → Hp → Prop} : ∀ {is : List Nat} {vs : List V} {σ : L2.St}, vs.length = is.length → Q (sets σ is vs) H → gNames is vs σ H Q
  | [], [], σ, _, q => ⟨rfl, q⟩
  | [], _ :: _, _, h, _ => by simp at h
  | _ :: _, [], _, h, _ => by simp at h
  | i :: is, v :: vs, σ, h, q => ⟨v, vs, rfl, names_of (σ := σ) (is := is) (by simpa using h) q⟩
theorem wipe_sets {own : List Nat} : ∀ {is : List Nat} {vs : List V} {σ : L2.St}, (∀ i ∈ is, i ∈ own) → L2.wipe (sets σ is vs) own = L2.wipe σ own
  | [], _, _, _ => by unfold sets; rfl
  | i :: is, [], _, _ => by unfold sets; rfl
  | i :: is, v :: vs, σ, h => by
    show L2.wipe (sets (σ.set i (some v)) is vs) own = _
    rw [wipe_sets (fun j hj => h j (List.mem_cons_of_mem _ hj)), wipe_in (h i (List.mem_cons_self ..))]
theorem tk_form {x : W} {ρ : Ro} {R : Ro → Prop} {i : Nat} {is : List Nat} (h : wgOf (.tk i is) x ρ R) : ∃ a us, x = .tup [a, .tup us] ∧ us.length = is.length ∧ R (rsets (rset ρ i (some a)) is us) := by
  cases x with
  | tup ws =>
    cases ws with
    | nil => exact (show False from h).elim
    | cons a r =>
      cases r with
      | nil => exact (show False from h).elim
      | cons b r =>
        cases r with
        | nil =>
          cases b with
          | tup us => exact ⟨a, us, rfl, h⟩
          | _ => exact (show False from h).elim
        | cons _ _ => cases b <;> exact (show False from h).elim
  | _ => exact (show False from h).elim
theorem rv_tk {K : PySem.W.Frag} {H : Hp} {x : W} {us : List W} {v : V} (r : RV K H (.tup [x, .tup us]) v) : ∃ a vx b ys, v = .ref a ∧ SqT K H a [vx, .ref b] ∧ RV K H x vx ∧ SqT K H b ys ∧ RVs K H us ys := by
  cases r with
  | tup hq r =>
    cases r with
    | cons rx r =>
      cases r with
      | cons ry r =>
        cases r
        cases ry with
        | tup hq2 r2 => exact ⟨_, _, _, _, rfl, hq.sq, rx, hq2.sq, r2⟩
theorem tk_g {K : PySem.W.Frag} {H : Hp} {i : Nat} {is : List Nat} {a b : Addr} {vx : V} {ys : List V} {σ : L2.St} {Q : L2.St → Hp → Prop} (hq : SqT K H a [vx, .ref b]) (hq2 : SqT K H b ys) (hv : ys.length = is.length) (h : gNames is ys (σ.set i (some vx)) H fun σ2 H2 => ([] : List V) = [] ∧ Q σ2 H2) :
    gOf K (.tk i is) (.ref a) σ H Q := ⟨a, [vx, .ref b], rfl, hq, rfl, vx, [.ref b], rfl, .ref b, [], rfl, b, ys, rfl, hq2, hv, h⟩
/-- what a target does by plain values is what it does by the heap's -/
theorem tg_of {K : PySem.W.Frag} {tg : Tg} {w : W} {v : V} {ρ : Ro} {σ : L2.St} {H : Hp} {R : Ro → Prop} {own : List Nat} (h : wgOf tg w ρ R) (rv : RV K H w v) (re : RE K H ρ σ) {Q : L2.St → Hp → Prop}
    (k : ∀ ρ2 σ2, R ρ2 → RE K H ρ2 σ2 → ((∀ i ∈ tg.own, i ∈ own) → L2.wipe σ2 own = L2.wipe σ own) → Q σ2 H) : gOf K tg v σ H Q := by
  cases tg with
  | nm i => exact k _ _ h (re.set rv) fun z => wipe_in (z i (List.mem_singleton.mpr rfl))
  | tp is =>
    cases rv with
    | @tup ws a vs hq r =>
      have hl : ws.length = is.length ∧ R (rsets ρ is ws) := h
      have hv : vs.length = is.length := by rw [← r.length]; exact hl.1
      exact ⟨a, vs, rfl, hq.sq, hv, names_of (σ := σ) hv (k _ _ hl.2 (re.sets r) fun z => wipe_sets z)⟩
    | _ => exact (show False from h).elim
  | tk i is =>
    obtain ⟨x, us, rfl, hl, hR⟩ := tk_form h
    obtain ⟨a, vx, b, ys, rfl, hq, rx, hq2, r2⟩ := rv_tk rv
    have hv : ys.length = is.length := by rw [← r2.length]; exact hl
    have hQ : Q (sets (σ.set i (some vx)) is ys) H := k _ _ hR ((re.set rx).sets r2) fun z => by
      rw [wipe_sets (fun j hj => z j (List.mem_cons_of_mem _ hj)), wipe_in (z i (List.mem_cons_self ..))]
    exact tk_g hq hq2 hv (names_of (σ := σ) hv ⟨rfl, hQ⟩)

/-! ### what is walked -/
structure Wlk where
  g : Sto → Prop
  items : List W
/-- a walk of the heap that gives these items while the store says so -/
structure WalkW (K : PySem.W.Frag) (wk : Wlk) (H : Hp) (S : Sto) (J : It) (G : Hp → Prop) (Y : Nat → Hp → V → Hp → Prop) : Prop where
  walk : Walk J wk.items.length G Y
  stand : ∀ H1 S1, Ext H S H1 S1 → RS K H1 S1 → wk.g S1 → G H1
  gives : ∀ i H1 S1 x H2, i < wk.items.length → Ext H S H1 S1 → RS K H1 S1 → wk.g S1 → Y i H1 x H2 → ∃ w, wk.items[i]? = some w ∧ RV K H2 w x ∧ Ext H1 S1 H2 S1 ∧ RS K H2 S1
abbrev WI := Ro → Sto → (Wlk → Sto → Prop) → EK → Prop
def tI (c : Cst) (Wx : WX) (m : WI) : TI := fun σ H R => ∃ ρ S Kk Ek, RE c.K H ρ σ ∧ RS c.K H S ∧ m ρ S Kk Ek ∧
  (∀ wk S' H' J G Y, Kk wk S' → Ext H S H' S' → RS c.K H' S' → WalkW c.K wk H' S' J G Y → R J H') ∧ PoX c Wx σ H S Ek
theorem PI.imp {X : Cx} {tg e : Expr} {t t' : TI} (h : PI X tg e t) (k : ∀ σ H Q, t' σ H Q → t σ H Q) : PI X tg e t' := ⟨fun pins s σ H Q I q => h.run pins s σ H Q I (k σ H Q q)⟩
section
variable {K : PySem.W.Frag} {H : Hp} {S : Sto}
def wkList (a : Addr) (xs : List W) : Wlk := ⟨fun S => Lw S a xs, xs⟩
def wkFix (xs : List W) : Wlk := ⟨fun _ => True, xs⟩
theorem walkw_list {a : Addr} {xs : List W} : WalkW K (wkList a xs) H S (Itl K a) (fun H => ∃ vs, SqL K H a vs ∧ RVs K H xs vs) (fun i H x H' => H' = H ∧ ∃ vs, SqL K H a vs ∧ RVs K H xs vs ∧ vs[i]? = some x) where
  walk := ⟨fun i H hi ⟨vs, q, r⟩ => ⟨vs, vs[i]'(by rw [← r.length]; exact hi), q, by simp⟩, fun H ⟨vs, q, r⟩ => ⟨vs, q, by rw [← r.length]; exact Nat.le_refl _⟩, fun i H x H' hi ⟨vs, q, r⟩ y => ⟨y.1, vs, q, r, y.2 vs q⟩⟩
  stand := fun H1 S1 _ rs g => rs.list g
  gives := fun i H1 S1 x H2 hi e rs g y => by
    obtain ⟨rfl, vs, q, r, h⟩ := y
    obtain ⟨w, h1, h2⟩ := r.get h
    exact ⟨w, h1, h2, .refl, rs⟩
theorem walkw_tup {a : Addr} {xs : List W} {vs : List V} (rs : RS K H S) (hq : TqN K H a vs) (r : RVs K H xs vs) : WalkW K (wkFix xs) H S (Itt K a) (fun H => SqT K H a vs) (YAt vs) where
  walk := by
    have := walk_tup (K := K) (a := a) (xs := vs)
    rw [← r.length] at this
    exact this
  stand := fun H1 S1 e rs1 _ => (e.tst rs _ _ hq).sq
  gives := fun i H1 S1 x H2 hi e rs1 g y => by
    obtain ⟨rfl, h⟩ := y
    obtain ⟨w, h1, h2⟩ := (r.tst (e.tst rs)).get h
    exact ⟨w, h1, h2, .refl, rs1⟩
def signs (z : Str) : List W := z.cps.toList.map fun ch => .str ⟨#[ch]⟩
theorem signs_len (z : Str) : (signs z).length = z.cps.size := by unfold signs; simp
theorem walkw_str {z : Str} : WalkW K (wkFix (signs z)) H S (Its z) (fun _ => True) (fun i H v H' => H' = H ∧ ∃ c, z.cps[i]? = some c ∧ v = .str ⟨#[c]⟩) where
  walk := by
    have := walk_str (z := z)
    rw [← signs_len] at this
    exact this
  stand := fun _ _ _ _ _ => True.intro
  gives := fun i H1 S1 x H2 hi e rs1 g y => by
    obtain ⟨rfl, ch, h, rfl⟩ := y
    refine ⟨.str ⟨#[ch]⟩, ?_, .str _, .refl, rs1⟩
    show (signs z)[i]? = _
    unfold signs
    rw [List.getElem?_map, Array.getElem?_toList, h]; rfl
/-- lo, lo + c, .. -/
def rgList (lo c : Int) (n : Nat) : List W := (List.range n).map fun i => .int (lo + (i : Nat) * c)
theorem rgList_len (lo c : Int) (n : Nat) : (rgList lo c n).length = n := by unfold rgList; simp
theorem rgList_at {lo c : Int} {n i : Nat} (h : i < n) : (rgList lo c n)[i]? = some (.int (lo + (i : Nat) * c)) := by
  unfold rgList
  rw [List.getElem?_map, List.getElem?_range h]; rfl
theorem walkw_rgC {lo c : Int} {n : Nat} : WalkW K (wkFix (rgList lo c n)) H S (Itc lo c n) (fun _ => True) (YFn fun i => .int (lo + (i : Nat) * c)) where
  walk := by
    have := walk_rangeC (lo := lo) (c := c) (n := n)
    show Walk _ (rgList lo c n).length _ _
    rw [rgList_len]
    exact this
  stand := fun _ _ _ _ _ => True.intro
  gives := fun i H1 S1 x H2 hi e rs1 g y => by
    obtain ⟨rfl, rfl⟩ := y
    exact ⟨_, rgList_at (by rw [← rgList_len lo c n]; exact hi), .int _, .refl, rs1⟩
theorem walkw_rg {lo : Int} {n : Nat} : WalkW K (wkFix (rgList lo 1 n)) H S (Itr lo n) (fun _ => True) (YFn fun i => .int (lo + i)) where
  walk := by
    have := walk_range (lo := lo) (n := n)
    show Walk _ (rgList lo 1 n).length _ _
    rw [rgList_len]
    exact this
  stand := fun _ _ _ _ _ => True.intro
  gives := fun i H1 S1 x H2 hi e rs1 g y => by
    obtain ⟨rfl, rfl⟩ := y
    refine ⟨_, rgList_at (by rw [← rgList_len lo 1 n]; exact hi), ?_, .refl, rs1⟩
    rw [Int.mul_one]
    exact .int _
end
/-- a list, a tuple, a text -/
def mSeq (a : WE) : WI := fun ρ S Kk Ek => a ρ S (fun x S1 => match x with
  | .tup ws => Kk (wkFix ws) S1
  | .str z => Kk (wkFix (signs z)) S1
  | .ref b => ∃ ws, Lw S1 b ws ∧ Kk (wkList b ws) S1
  | _ => False) Ek
def iSeq (K : PySem.W.Frag) (te : TE) : TI := fun σ H R => te σ H fun x H1 => (∃ a vs, x = .ref a ∧ SqL K H1 a vs ∧ R (Itl K a) H1) ∨ (∃ a vs, x = .ref a ∧ SqT K H1 a vs ∧ R (Itt K a) H1) ∨ ∃ z, x = .str z ∧ R (Its z) H1
section
variable {X : Cx} {c : Cst} {Wx : WX}
theorem pi_seq {tg e : Expr} {te : TE} (he : PE X e te) : PI X tg e (iSeq X.K te) := by
  constructor
  intro pins s σ H R I h
  refine thn (he.run pins s σ H _ I h) fun v s1 z => ?_
  obtain ⟨x, H1, I1, r1, q⟩ := z
  rcases q with ⟨a, vs, rfl, hq, q⟩ | ⟨a, vs, rfl, hq, q⟩ | ⟨z, rfl, q⟩
  · cases r1
    obtain ⟨its, rv, p, hz⟩ := I1.list hq
    exact wpAny_pyIter_list p.isList (pi_one (tk := s1.toks) I1 _ (turn_list a _) ⟨_, Heap.get?_push_size _ rfl, rfl, rfl⟩ q)
  · cases r1
    obtain ⟨its, rv, p, hz⟩ := I1.tuple hq
    exact wpAny_pyIter_tuple (show s1.heap.IsTuple a its.toArray from p) (pi_one (tk := s1.toks) I1 _ (turn_tuple a _) ⟨_, Heap.get?_push_size _ rfl, rfl, rfl⟩ q)
  · obtain ⟨t, rfl⟩ := r1
    cases ha : z.cps.all (· < 128)
    · exact wpAny_pyIter_wide ha (pi_one (tk := s1.toks) I1 _ (turn_str _ z t "str_iterator" (.inr rfl)) ⟨_, Heap.get?_push_size _ rfl, rfl, rfl⟩ q)
    · exact wpAny_pyIter_ascii ha (pi_one (tk := s1.toks) I1 _ (turn_str _ z t "str_ascii_iterator" (.inl rfl)) ⟨_, Heap.get?_push_size _ rfl, rfl, rfl⟩ q)
theorem s_seq {tg e : Expr} {a : WE} (hK : c.K = X.K) (ha : PE X e (tE c Wx a)) : PI X tg e (tI c Wx (mSeq a)) := PI.imp (pi_seq ha) fun σ H Q q => by
  obtain ⟨ρ, S, Kk, Ek, re, rs, hm, po, px⟩ := q
  refine ⟨ρ, S, _, Ek, re, rs, hm, fun x S1 H1 u k1 e1 rs1 rx => ?_, px⟩
  rw [← hK]
  cases rx with
  | @tup ws a vs hq r => exact .inr (.inl ⟨a, vs, rfl, hq.sq, po _ S1 H1 _ _ _ k1 e1 rs1 (walkw_tup rs1 hq r)⟩)
  | str z => exact .inr (.inr ⟨z, rfl, po _ S1 H1 _ _ _ k1 e1 rs1 walkw_str⟩)
  | ref a =>
    obtain ⟨ws, l, k⟩ := k1
    obtain ⟨vs, hq, _⟩ := rs1.list l
    exact .inl ⟨a, vs, rfl, hq, po _ S1 H1 _ _ _ k e1 rs1 walkw_list⟩
  | _ => exact (show False from k1).elim
/-- range(..) -/
def mRg1 (a : WEs) : WI := fun ρ S Kk Ek => a ρ S (fun ws S1 => match ws with
  | [.int j] => (-(2 ^ 62) ≤ j ∧ j < 2 ^ 62) ∧ Kk (wkFix (rgList 0 1 j.toNat)) S1
  | _ => False) Ek
def mRg2 (a : WEs) : WI := fun ρ S Kk Ek => a ρ S (fun ws S1 => match ws with
  | [.int i, .int j] => (-(2 ^ 62) ≤ i ∧ i < 2 ^ 62 ∧ -(2 ^ 62) ≤ j ∧ j < 2 ^ 62) ∧ Kk (wkFix (rgList i 1 (j - i).toNat)) S1
  | _ => False) Ek
def mRg3 (a : WEs) : WI := fun ρ S Kk Ek => a ρ S (fun ws S1 => match ws with
  | [.int i, .int j, .int k] => ∃ n, RgC i j k n ∧ Kk (wkFix (rgList i k n)) S1
  | _ => False) Ek
theorem s_rg1 {tg e : Expr} {a : WEs} {p pos : Pos} (hg : Gl X "range") (hm : X.mg "range" = none) (ha : PA X [e] (tA c Wx a)) (hs : starEach [e] X.env = [(false, eval e X.env)]) : PI X tg (.Call (.Name "range" p) [e] [] pos) (tI c Wx (mRg1 a)) :=
  PI.imp (pi_range1 hg hm ha hs) fun σ H Q q => by
    obtain ⟨ρ, S, Kk, Ek, re, rs, hm, po, px⟩ := q
    refine ⟨ρ, S, _, Ek, re, rs, hm, fun ws S1 H1 vs k1 e1 rs1 rx => ?_, px⟩
    split at k1
    · obtain ⟨v, rfl, rj⟩ := rvs1 rx
      cases rj
      exact ⟨_, rfl, k1.1.1, k1.1.2, po _ S1 H1 _ _ _ k1.2 e1 rs1 walkw_rg⟩
    · exact k1.elim
theorem s_rg2 {tg e e2 : Expr} {a : WEs} {p pos : Pos} (hg : Gl X "range") (hm : X.mg "range" = none) (ha : PA X [e, e2] (tA c Wx a)) (hs : starEach [e, e2] X.env = [(false, eval e X.env), (false, eval e2 X.env)]) (hs2 : starEach [e2] X.env = [(false, eval e2 X.env)]) :
    PI X tg (.Call (.Name "range" p) [e, e2] [] pos) (tI c Wx (mRg2 a)) := PI.imp (pi_range2 hg hm ha hs hs2) fun σ H Q q => by
  obtain ⟨ρ, S, Kk, Ek, re, rs, hm, po, px⟩ := q
  refine ⟨ρ, S, _, Ek, re, rs, hm, fun ws S1 H1 vs k1 e1 rs1 rx => ?_, px⟩
  split at k1
  · obtain ⟨v, u, rfl, ri, rj⟩ := rvs2 rx
    cases ri; cases rj
    exact ⟨_, _, rfl, k1.1, po _ S1 H1 _ _ _ k1.2 e1 rs1 walkw_rg⟩
  · exact k1.elim
theorem rvs3 {K : PySem.W.Frag} {H : Hp} {x y z : W} {vs : List V} (r : RVs K H [x, y, z] vs) : ∃ v u t, vs = [v, u, t] ∧ RV K H x v ∧ RV K H y u ∧ RV K H z t := by
  cases r with | cons h t => cases t with | cons h' t => cases t with | cons h2 t => cases t; exact ⟨_, _, _, rfl, h, h', h2⟩
theorem s_rg3 {tg e e2 e3 : Expr} {a : WEs} {p pos : Pos} (hg : Gl X "range") (hm : X.mg "range" = none) (ha : PA X [e, e2, e3] (tA c Wx a)) (hs : starEach [e, e2, e3] X.env = (false, eval e X.env) :: starEach [e2, e3] X.env)
    (hp : (backTo pos (starEach [e2, e3] X.env)).any (·.1) = false) : PI X tg (.Call (.Name "range" p) [e, e2, e3] [] pos) (tI c Wx (mRg3 a)) := PI.imp (pi_range3 hg hm ha hs hp) fun σ H Q q => by
  obtain ⟨ρ, S, Kk, Ek, re, rs, hm, po, px⟩ := q
  refine ⟨ρ, S, _, Ek, re, rs, hm, fun ws S1 H1 vs k1 e1 rs1 rx => ?_, px⟩
  split at k1
  · obtain ⟨v, u, t, rfl, ri, rj, rk⟩ := rvs3 rx
    cases ri; cases rj; cases rk
    obtain ⟨n, h1, h2⟩ := k1
    exact ⟨_, _, _, n, rfl, h1, po _ S1 H1 _ _ _ h2 e1 rs1 walkw_rgC⟩
  · exact k1.elim
end

/-! ### comprehensions -/
theorem wipe_sub {σ : L2.St} {vs : List Nat} : ∀ vs' : List Nat, (∀ i ∈ vs', i ∈ vs) → L2.wipe (L2.wipe σ vs') vs = L2.wipe σ vs
  | [], _ => rfl
  | a :: vs', h => by
    show L2.wipe ((L2.wipe σ vs').set a none) vs = _
    rw [wipe_in (h a (List.mem_cons_self ..)), wipe_sub vs' fun i hi => h i (List.mem_cons_of_mem _ hi)]
theorem wipe_wipe (σ : L2.St) (vs : List Nat) : L2.wipe (L2.wipe σ vs) vs = L2.wipe σ vs := wipe_sub vs fun _ h => h
theorem tst_acc {K : PySem.W.Frag} {H : Hp} {D : Addr} {xs ys : List V} (h : H D = some (.lst xs)) : Tst K H (upd H D (.lst ys)) := fun a zs q => by
  rcases q with ⟨ob, q, q1, q2⟩ | q
  · exact .inl ⟨ob, by rw [upd_ne (ne_of q h (fun z => by cases z))]; exact q, q1, q2⟩
  · exact .inr q
def compW (g : Sto → Prop) (tg : WG) (cd : WT) (el : WE) (ρ : Ro) (F : List W → Sto → Prop) : List W → List W → Sto → Prop
  | [], acc, S => g S ∧ F acc S
  | x :: xs, acc, S => g S ∧ tg x ρ fun ρ2 => cd ρ2 S (fun b S1 => if b = true then el ρ2 S1 (fun w S2 => acc.length < sizeLine ∧ compW g tg cd el ρ F xs (acc ++ [w]) S2) (fun _ _ => False) else compW g tg cd el ρ F xs acc S1) (fun _ _ => False)
def mComp (it : WI) (tg : Tg) (cd : WT) (el : WE) (own : List Nat) : WE := fun ρ S Kk Ek => it ρ S (fun wk S1 => compW wk.g (wgOf tg) cd el (rwipe ρ own) (fun acc S2 => ∀ p, S2 p = none → Kk (.ref p) (S2.put p (.lst acc))) wk.items [] S1) Ek
def mYes : WT := fun _ S Kk _ => Kk true S
theorem s_yes {X : Cx} {c : Cst} {Wx : WX} : ∀ σ H Q, tT c Wx mYes σ H Q → tYes σ H Q := fun σ H Q q => by
  obtain ⟨ρ, S, Kk, Ek, re, rs, hm, po, px⟩ := q
  exact po true S H hm .refl rs
abbrev noW : WX := fun _ _ _ _ => False
theorem upd_self {H : Hp} {a : Addr} {o : HO} (h : H a = some o) : upd H a o = H := by
  funext b; unfold upd; split
  · rename_i e; rw [e, h]
  · rfl
theorem comp_of {c : Cst} {Wx : WX} {it : WI} {tg : Tg} {cd : WT} {el : WE} {own : List Nat} (ho : ∀ i ∈ tg.own, i ∈ own) : ∀ σ H Q, tE c Wx (mComp it tg cd el own) σ H Q → tLc (tI c Wx it) (gOf c.K tg) (tT c noW cd) (tE c noW el) own σ H Q := fun σ H Q q => by
  obtain ⟨ρ, S, Kk, Ek, re, rs, hm, po, px⟩ := q
  refine ⟨ρ, S, _, Ek, re, rs, hm, fun wk S1 H1 J G Y k1 e1 rs1 ww D hD => ?_, px⟩
  have reW := re.wipe own
  have re1 := reW.tst (e1.tst rs)
  have rD : RS c.K (upd H1 D (.lst [])) S1 := rs1.tup hD
  have eD : Ext H1 S1 (upd H1 D (.lst [])) S1 := .tup hD
  -- the word of the loop
  refine lc_it ww.walk (fun i H2 => ∃ S2 accW accV, Ext H1 S1 H2 S2 ∧ RS c.K H2 S2 ∧ S2 D = none ∧ H2 D = some (.lst accV) ∧ RVs c.K H2 accW accV ∧
      compW wk.g (wgOf tg) cd el (rwipe ρ own) (fun acc S2 => ∀ p, S2 p = none → Kk (.ref p) (S2.put p (.lst acc))) (wk.items.drop i) accW S2) ?_ ?_ ?_ ?_
  · exact ⟨S1, [], [], eD, rD, rs1.fresh hD, upd_same, .nil, by simpa using k1⟩
  · rintro i H2 hi ⟨S2, accW, accV, e2, rs2, _, _, _, k⟩
    refine ww.stand H2 S2 e2 rs2 ?_
    cases z : wk.items.drop i with
    | nil => rw [z] at k; exact k.1
    | cons x xs => rw [z] at k; exact k.1
  · rintro i x H2 H3 hi ⟨S2, accW, accV, e2, rs2, nD, hDv, racc, k⟩ y
    have hg : wk.g S2 := by
      cases z : wk.items.drop i with
      | nil => rw [z] at k; exact k.1
      | cons x xs => rw [z] at k; exact k.1
    obtain ⟨w, hw, rw', e3, rs3⟩ := ww.gives i H2 S2 x H3 hi e2 rs2 hg y
    have hdrop : wk.items.drop i = w :: wk.items.drop (i + 1) := by
      have hi' := (List.getElem?_eq_some_iff.mp hw)
      rw [List.drop_eq_getElem_cons hi'.1, hi'.2]
    rw [hdrop] at k
    have k2 := k.2
    have re3 := (re1.tst (e2.tst rs1)).tst (e3.tst rs2)
    obtain ⟨hD3, _⟩ := e3 D _ hDv nD
    refine tg_of (own := own) k2 rw' re3 fun ρ2 σ2 k3 re4 hwp => ⟨by rw [hwp ho]; exact wipe_wipe σ own, ?_⟩
    refine ⟨ρ2, S2, _, _, re4, rs3, k3, fun b S4 H4 k4 e4 rs4 => ?_, fun x S' H' cls d z => z.elim⟩
    obtain ⟨hD4, nD4⟩ := e4 D _ hD3 nD
    have e14 : Ext H1 S1 H4 S4 := (e2.trans e3).trans e4
    have racc4 := (racc.tst (e3.tst rs2)).tst (e4.tst rs3)
    cases b with
    | true =>
      refine ⟨ρ2, S4, _, _, re4.tst (e4.tst rs3), rs4, k4, fun y S5 H5 v5 k5 e5 rs5 ry => ?_, fun x S' H' cls d z => z.elim⟩
      obtain ⟨hD5, nD5⟩ := e5 D _ hD4 nD4
      have racc5 := racc4.tst (e5.tst rs4)
      refine ⟨accV, hD5, by rw [← racc5.length]; exact k5.1, S5, accW ++ [y], accV ++ [_], ?_, ?_, nD5, upd_same, ?_, k5.2⟩
      · intro a o ha hs
        obtain ⟨p, q⟩ := (e14.trans e5) a o ha hs
        refine ⟨?_, q⟩
        rw [upd_ne (ne_of_none ha hD)]
        exact p
      · intro a d ha
        obtain ⟨o, h1, h2⟩ := rs5 a d ha
        have : a ≠ D := fun z => by subst z; rw [nD5] at ha; cases ha
        exact ⟨o, by rw [upd_ne this]; exact h1, h2.tst (tst_acc hD5)⟩
      · exact (racc5.append (.cons ry .nil)).tst (tst_acc hD5)
    | false => exact ⟨S4, accW, accV, e14, rs4, nD4, hD4, racc4, k4⟩
  · rintro H2 ⟨S2, accW, accV, e2, rs2, nD, hDv, racc, k⟩
    rw [List.drop_length] at k
    have k2 := k.2 D nD
    refine po (.ref D) _ H2 (.ref D) k2 ?_ ?_ (.ref D)
    · intro a o ha hs
      obtain ⟨p, q⟩ := e1 a o ha hs
      obtain ⟨p2, q2⟩ := e2 a o p q
      refine ⟨p2, ?_⟩
      rw [put_ne (ne_of_none p hD)]
      exact q2
    · intro a d ha
      by_cases z : a = D
      · subst z
        rw [put_same] at ha; cases ha
        exact ⟨_, hDv, .lst racc⟩
      · rw [put_ne z] at ha
        exact rs2 a d ha
end Dp
namespace Dp
open PySem PySem.Spec L2
open PyProof.Rows hiding St

/-! ### sum of a tuple -/
theorem preSum_ints : ∀ (xs : Array (Int × Tok)), preSum (numAt xs) xs.size = (numsOf (intItems xs).toList).sum := fun xs => by
  rw [nums_intItems, preSum_eq, List.take_of_length_le (by simp)]
theorem sum_tuple {prog : Program} {w : World} {A : Around} {E : Value → Shared → Prop} {s : Shared} {l : Addr} {its : List Value} {ns : List Int} {Q : Value → Shared → Prop} (hh : A.handled = none) (hl : s.heap.IsTuple l its.toArray) (hi : IntsAre its ns)
    (h : ∀ h' tk t', (∀ b o, s.heap.get? b = some o → h'.get? b = some o) → Q (.int ns.sum t') { s with heap := h', toks := tk }) : wpAny (model prog w) A (call (.builtin "sum") [.ref l]) Q E s := by
  obtain ⟨xs, e⟩ := hi.allInts.items
  have hn : numsOf (intItems xs).toList = ns := by rw [← e]; exact hi.numsOf
  rw [e] at hl
  have hlt : l < s.heap.objs.size := by obtain ⟨_, e, _⟩ := hl; exact Heap.lt_size e
  refine call_sum_walkG (wpAny_pyIter_tuple hl ?_)
  refine ⟨_, _, _, _, _, _, numAt xs, rfl, Walks.tuple (A := A.in1) hh s.heap.objs.size l (Nat.ne_of_lt hlt) (intItems xs), ⟨⟨_, Heap.get?_push_size _ rfl, rfl, rfl⟩, ?_⟩, fun b hb => ?_, (fun _ _ => intItems_at), fun h' tk t' hk => ?_⟩
  · obtain ⟨o, e1, e2⟩ := hl
    exact ⟨o, Heap.get?_push_of_some _ e1, e2⟩
  · show b < (s.heap.push _).objs.size
    rw [Heap.size_push]
    have hb : b = s.heap.objs.size ∨ b = l := by simpa using hb
    rcases hb with rfl | rfl
    · exact Nat.lt_succ_self _
    · exact Nat.lt_succ_of_lt hlt
  · have := h h' tk t' fun b o q => hk b o (fun m => by
      have hb : b = s.heap.objs.size := by simpa using m
      exact absurd (hb ▸ Heap.lt_size q) (Nat.lt_irrefl _)) (Heap.get?_push_of_some _ q)
    rw [← hn, ← preSum_ints] at this
    simpa [intItems] using this
def rSumT (K : PySem.W.Frag) : List V → Hp → VK → Prop := fun vs H Q => ∃ (a : Addr) (ns : List Int), vs = [V.ref a] ∧ SqT K H a (ns.map V.int) ∧ Q (.int ns.sum) H
theorem cr_sumT {X : Cx} (hc : X.calm = true) : CallR X (.builtin "sum") (rSumT X.K) := by
  intro pins s σ H vs us Q I r h
  obtain ⟨a, ns, rfl, hs, q⟩ := h
  obtain ⟨its, rv, hl, _⟩ := I.tuple hs
  rw [Vals.ref1 r]
  exact sum_tuple (I.ok.hd hc) hl rv.ints fun h' tk t' hk => ⟨.int _, H, I.kept hk, ⟨_, rfl⟩, q⟩
theorem CallR.or {X : Cx} {f : Value} {r r' : List V → Hp → VK → Prop} (h : CallR X f r) (h' : CallR X f r') : CallR X f (fun vs H Q => r vs H Q ∨ r' vs H Q) := by
  intro pins s σ H vs us Q I rr q
  rcases q with q | q
  · exact h pins s σ H vs us Q I rr q
  · exact h' pins s σ H vs us Q I rr q
/-- sum: a list or a tuple -/
def fSum2 : NOp := fun ws S K => match ws with
  | [.tup xs] => ∃ ns : List Int, xs = ns.map W.int ∧ K (.int ns.sum) S
  | ws => fSum ws S K
theorem o_sum2 {c : Cst} : OpN c (fun vs H Q => rSum c.K vs H Q ∨ rSumT c.K vs H Q) fSum2 := fun ws vs H S Kk Q rs r h po => by
  by_cases ht : ∃ xs, ws = [.tup xs]
  · obtain ⟨xs, rfl⟩ := ht
    obtain ⟨v, rfl, rx⟩ := rvs1 r
    obtain ⟨ns, rfl, k⟩ := (show ∃ ns : List Int, xs = ns.map W.int ∧ Kk (.int ns.sum) S from h)
    cases rx with
    | tup q rr =>
      rw [rvs_map (g := V.int) (fun x v r => by cases r; rfl) rr] at q
      exact .inr ⟨_, ns, rfl, q.sq, po _ S H _ k .refl rs (.int _)⟩
  · refine .inl (o_sum ws vs H S Kk Q rs r ?_ po)
    unfold fSum2 at h
    split at h
    · exact absurd ⟨_, rfl⟩ ht
    · exact h
/-! ### repr of flat values -/
theorem repr_non {prog : Program} {w : World} {A : Around} {E : Value → Shared → Prop} {s : Shared} {Q : Value → Shared → Prop} (h : Q (.str "None" s.toks) { s with toks := s.toks + 1 }) : wpAny (model prog w) A (call (.builtin "repr") [.none]) Q E s :=
  PySem.call_repr_gives (typeIs_none s) F.slot_NoneType_repr F.entry_NoneType_repr (F.args_NoneType_repr_1 _) gives_none_repr h (hx := by decide)
def rReprF : List V → Hp → VK → Prop := fun vs H Q => (vs = [.non] ∧ Q (.str (PyData.none).shown) H) ∨ (∃ b, vs = [.bl b] ∧ Q (.str (PyData.bool b).shown) H) ∨ (∃ i, vs = [.int i] ∧ i.natAbs.log2 < 1920 ∧ Q (.str (PyData.int i).shown) H) ∨
  ∃ x, vs = [.str x] ∧ (reprText x).length ≤ sizeLine ∧ Q (.str (PyData.str x).shown) H
theorem cr_reprF {X : Cx} : CallR X (.builtin "repr") rReprF := by
  intro pins s σ H vs us Q I r h
  rcases h with ⟨rfl, q⟩ | ⟨b, rfl, q⟩ | ⟨i, rfl, hi, q⟩ | ⟨x, rfl, hx, q⟩
  · obtain ⟨u, rfl, ru⟩ := vals1 r
    cases ru
    exact repr_non ⟨.str _, H, I.tok _, ⟨_, rfl⟩, q⟩
  · obtain ⟨u, rfl, ru⟩ := vals1 r
    cases ru
    exact PySem.P.repr_of_bool ⟨.str _, H, I.tok _, ⟨_, rfl⟩, q⟩
  · obtain ⟨u, rfl, t, rfl⟩ := vals1 r
    exact PySem.P.repr_of_int hi ⟨.str _, H, I.tok _, ⟨_, rfl⟩, q⟩
  · obtain ⟨u, rfl, t, rfl⟩ := vals1 r
    exact PySem.P.repr_of_str ⟨.str _, H, I.tok _, ⟨_, rfl⟩, q⟩ hx
/-- repr of anything that data denotes -/
@[irreducible] def fRepr2 : NOp := fun ws S K => match ws with
  | [x] => ∃ d, Den S x d ∧ d.showable = true ∧ d.depth ≤ 60 ∧ d.shown.length ≤ sizeLine ∧ K (.str d.shown) S
  | _ => False
theorem o_repr2 {c : Cst} : OpN c (fun vs H Q => rReprF vs H Q ∨ rReprW c.K vs H Q) fRepr2 := fun ws vs H S Kk Q rs r h po => by
  unfold fRepr2 at h
  split at h
  · rename_i x
    obtain ⟨d, hd, h2, h3, h4, k⟩ := h
    by_cases hf : isRefW x = true
    · exact .inr (o_repr [x] vs H S Kk Q rs r (by unfold fRepr; exact ⟨hf, d, hd, h2, h3, h4, k⟩) po)
    · obtain ⟨v, rfl, rx⟩ := rvs1 r
      refine .inl ?_
      cases hd with
      | non => cases rx; exact .inl ⟨rfl, po _ S H _ k .refl rs (.str _)⟩
      | bl b => cases rx; exact .inr (.inl ⟨b, rfl, po _ S H _ k .refl rs (.str _)⟩)
      | int i => cases rx; exact .inr (.inr (.inl ⟨i, rfl, of_decide_eq_true h2, po _ S H _ k .refl rs (.str _)⟩))
      | str z => cases rx; exact .inr (.inr (.inr ⟨z, rfl, h4, po _ S H _ k .refl rs (.str _)⟩))
      | tup _ => exact absurd rfl hf
      | lst _ _ => exact absurd rfl hf
  · exact h.elim
/-! ### a tuple some times over -/
theorem tuple_mul1 (l : Addr) (items : Array Value) (n : Nat) (dd : Option Addr) (sl : Array (Option Value)) (u : Tok) :
    Meets (Builtin.«tuple.__mul__» ⟨[.ref l, .int 1 u], []⟩) (fun _ R s => s.heap.get? l = some { cls := .type "tuple", dict := dd, data := .seq items n, slots := sl } ∧ R (.ok (.ret (Value.ref l))) s) :=
  .of_wp fun prog w A R s h => by
    obtain ⟨hp, g, d, tk, os⟩ := s
    obtain ⟨hl, h⟩ := h
    have f1 := AutoSeq1.idx_int
    wp_walk using wpAny_loadPart' hl
    exact ⟨_, rfl, h⟩
def rRepT1 (K : PySem.W.Frag) : R2 := fun x y H Q => ∃ l xs, x = .ref l ∧ y = .int 1 ∧ SqT K H l xs ∧ Q (.ref l) H
theorem op_repT1 {X : Cx} : OpR X (binaryOp .Mult) (rRepT1 X.K) := by
  intro pins s σ H x y v u Q I rx ry h
  obtain ⟨l, xs, rfl, rfl, hT, q⟩ := h
  cases rx
  obtain ⟨t, rfl⟩ := ry
  obtain ⟨its, r, ⟨⟨cls, dd, data, sl⟩, ho, hc, n, hd⟩, hs⟩ := I.tuple hT
  simp only at hc hd
  subst hc hd
  refine wpAny_binaryOp_repeat_ref (T := "tuple") (U := "int") (by decide) ⟨_, ho, rfl⟩ (fun s' => typeIs_int s' 1 t) noFill_tuple_mul F.fills_int_mul F.slot_int_rmul repeat_tuple F.slot_int_index.lookup
    (call_meets F.slot_int_rmul (typeIs_int s 1 t) F.entry_int_rmul (F.args_int_rmul_2 _ _) (int_rmul_tuple 1 t l its.toArray n dd sl)
      ⟨ho, rfl, ⟨_, ho, rfl⟩, call_meets F.slot_tuple_mul ⟨_, ho, rfl⟩ F.entry_tuple_mul (F.args_tuple_mul_2 _ _) (tuple_mul1 l its.toArray n dd sl t) ⟨ho, ?_⟩⟩)
  exact ⟨.ref l, H, I, rfl, q⟩
/-- xs * k of a tuple -/
@[irreducible] def bMul2 : BOp := fun x y S K => match x, y with
  | .tup xs, .int k => xs ≠ [] ∧ 1 ≤ k ∧ k ≤ 1000 ∧ xs.length ≤ 1000 ∧ K (.tup (List.replicate k.toNat xs).flatten) S
  | x, y => bMul x y S K
theorem RVs.flat {K : PySem.W.Frag} {H : Hp} {ws : List W} {vs : List V} (r : RVs K H ws vs) : ∀ n : Nat, RVs K H (List.replicate n ws).flatten (List.replicate n vs).flatten
  | 0 => .nil
  | n + 1 => by
    rw [List.replicate_succ, List.replicate_succ, List.flatten_cons, List.flatten_cons]
    exact r.append (RVs.flat r n)
def rMul2 (K : PySem.W.Frag) : R2 := fun x y H Q => rMulW x y H Q ∨ rRepTN K x y H Q ∨ rRepT1 K x y H Q
theorem r_mul2 {X : Cx} : OpR X (binaryOp .Mult) (rMul2 X.K) := OpR.or r_mul (OpR.or op_repTN op_repT1)
theorem o_mul2 {c : Cst} : Op2 c (rMul2 c.K) bMul2 := fun x y u v H S Kk Q rs rx ry h po => by
  unfold bMul2 at h
  split at h
  · rename_i xs k
    obtain ⟨h1, h2, h3, h4, q⟩ := h
    cases rx with
    | tup hq r =>
      cases ry
      refine .inr ?_
      by_cases e : k = 1
      · subst e
        refine .inr ⟨_, _, rfl, rfl, hq.sq, po _ S H _ q .refl rs ?_⟩
        have e1 : (List.replicate (Int.toNat 1) xs).flatten = xs := by
          show (List.replicate 1 xs).flatten = xs
          simp
        rw [e1]
        exact .tup hq r
      · refine .inl ⟨_, k, _, rfl, rfl, hq.sq, fun z => h1 ?_, by omega, h3, by rw [← r.length]; exact h4, fun p o hp hc hd => ?_⟩
        · subst z; cases r; rfl
        · exact po _ S _ _ q (.tup hp) (rs.tup hp) (.tup (.new hc hd) ((r.flat _).tst (tst_upd_new hp)))
  · exact .inl (o_mul x y u v H S Kk Q rs rx ry h po)
end Dp
namespace Dp
open PySem PySem.Spec L2
open PyProof.Rows hiding St

/-! ### a dict's display, its keys texts -/
def mergeW (kvs more : List (Key × W)) : List (Key × W) := more.foldl (fun acc kv => putW acc kv.1 kv.2) kvs
theorem rkv_merge {K : PySem.W.Frag} {H : Hp} : ∀ {ks : List Key} {ws : List W} {vs : List V} {a : List (Key × W)} {b : List (Key × V)}, RVs K H ws vs → RKV K H a b → RKV K H (mergeW a (ks.zip ws)) (mergeK b (ks.zip vs))
  | [], ws, vs, a, b, _, q => q
  | k :: ks, _, _, a, b, .nil, q => q
  | k :: ks, _, _, a, b, .cons h t, q => rkv_merge (ks := ks) t (rkv_put q k h)
def mDct (ks : List Key) (a : WEs) : WE := fun ρ S Kk Ek => ∀ p, S p = none → a ρ (S.put p (.dic [])) (fun ws S1 => ws.length = ks.length ∧ S1 p = some (.dic []) ∧ Kk (.ref p) (S1.put p (.dic (mergeW [] (ks.zip ws))))) Ek
def Pr (X : Cx) (c : Cst) (Wx : WX) (pos : Pos) (keys : List (Option Expr)) (vals : List Expr) (ks : List Key) (m : WEs) : Prop := ∃ trs, PPs X pos keys vals trs ∧
  ∀ σ H Q, (∃ ρ S Kk Ek, RE c.K H ρ σ ∧ RS c.K H S ∧ m ρ S Kk Ek ∧ (∀ ws S' H' vs, Kk ws S' → Ext H S H' S' → RS c.K H' S' → RVs c.K H' ws vs → Q (List.zipWith (fun k v => (kV k, v)) ks vs) H') ∧ PoX c Wx σ H S Ek) → tPairs trs σ H Q
section
variable {X : Cx} {c : Cst} {Wx : WX} {pos : Pos}
theorem pr_nil : Pr X c Wx pos [] [] [] mNil := ⟨[], pps_nil, fun σ H Q ⟨ρ, S, Kk, Ek, re, rs, hm, po, px⟩ => po [] S H [] hm .refl rs .nil⟩
theorem pr_cons {x : Str} {j : Nat} {p : Pos} {e : Expr} {a : WE} {keys : List (Option Expr)} {vals : List Expr} {ks : List Key} {m : WEs} (ha : PE X e (tE c Wx a)) (hr : Pr X c Wx pos keys vals ks m) : Pr X c Wx pos (some (.Constant (.str x) j p) :: keys) (e :: vals) (Sum.inr x :: ks) (mCons a m) := by
  obtain ⟨trs, h1, h2⟩ := hr
  refine ⟨_, pps_cons pe_str ha h1, fun σ H Q ⟨ρ, S, Kk, Ek, re, rs, hm, po, px⟩ => ?_⟩
  refine (show tE c Wx a σ H _ from ⟨ρ, S, _, Ek, re, rs, hm, fun w S1 H1 u k1 e1 rs1 rx => ?_, px⟩)
  refine h2 σ H1 _ ⟨ρ, S1, _, Ek, re.tst (e1.tst rs), rs1, k1, fun ws S2 H2 vs k2 e2 rs2 rv => ?_, px.on e1⟩
  exact po _ S2 H2 (u :: vs) k2 (e1.trans e2) rs2 (.cons (rx.tst (e2.tst rs1)) rv)
theorem zip_kv : ∀ (ks : List Key) (vs : List V), List.zipWith (fun k v => (kV k, v)) ks vs = (ks.zip vs).map fun kv => (kV kv.1, kv.2)
  | [], _ => rfl
  | _ :: _, [] => rfl
  | k :: ks, v :: vs => by show (kV k, v) :: _ = _; rw [zip_kv ks vs]; rfl
theorem s_dct {keys : List (Option Expr)} {vals : List Expr} {ks : List Key} {m : WEs} (h : Pr X c Wx pos keys vals ks m) (hall : keys.all (·.isSome) = true) (hl : keys.length = vals.length) (h0 : keys ≠ []) (h15 : keys.length ≤ 15) (hk : ks.length = keys.length) :
    PE X (.Dict keys vals pos) (tE c Wx (mDct ks m)) := by
  obtain ⟨trs, h1, h2⟩ := h
  refine PE.imp (pe_disp h1 hall hl h0 h15) fun σ H Q q => ?_
  obtain ⟨ρ, S, Kk, Ek, re, rs, hm, po, px⟩ := q
  intro p hp
  have rs0 : RS c.K (upd H p (.dK [])) (S.put p (.dic [])) := rs.new hp (.dic .nil)
  have e0 : Ext H S (upd H p (.dK [])) (S.put p (.dic [])) := .new hp
  refine h2 σ _ _ ⟨ρ, _, _, Ek, re.tst (tst_upd_new hp), rs0, hm p (rs.fresh hp), fun ws S1 H1 vs k1 e1 rs1 rv => ?_, px.on e0⟩
  obtain ⟨l1, l2, l3⟩ := k1
  obtain ⟨us, q1, q2⟩ := rs1.dic l2
  have hus : us = [] := by cases q2; rfl
  subst hus
  refine ⟨q1, ks.zip vs, zip_kv ks vs, ?_, ?_⟩
  · rw [List.length_zip, hk]; omega
  · exact po _ _ _ _ l3 ((e0.trans e1).trans (.put l2)) (rs1.put l2 (.dic (rkv_merge rv .nil))) (.ref p)
end
end Dp
namespace Dp
open PySem PySem.Spec L2
open PyProof.Rows hiding St

theorem meets_enum1 {v : Value} {o : Obj} {H : Heap → Prop} (B : Begins v o H) :
    Meets (Builtin.«enumerate.__new__» ⟨[.type "enumerate", v], []⟩) (fun _ R s => H s.heap ∧
      R (.ok (.ret (.ref (s.heap.push o).objs.size))) { s with heap := (s.heap.push o).push { cls := .type "enumerate", data := .fields #[.none, .bool false, .ref s.heap.objs.size, rawInt 0, .none, .none] } }) :=
  .of_wp fun prog w A R s h => by
    obtain ⟨hp, g, d, tk, os⟩ := s
    obtain ⟨h1, h⟩ := h
    have hsub := sub_enumerate
    have q1 : ∀ {A' : Around} {E : Value → Shared → Prop} {Q : Value → Shared → Prop}, Q (.ref hp.objs.size) ⟨hp.push o, g, d, tk, os⟩ → wpAny (model prog w) A' (pyIter v) Q E ⟨hp, g, d, tk, os⟩ :=
      fun q => B.iter prog w _ _ ⟨hp, g, d, tk, os⟩ _ h1 q
    wp_walk using q1
    refine wpAny_stack_any fun st => wpAny_pure ?_
    split
    · rename_i c _ _ _ _ _
      cases (c == Value.type "enumerate") <;> (wp_walk using q1; exact ⟨_, rfl, h⟩)
    · wp_walk using q1
      exact ⟨_, rfl, h⟩
section
variable {prog : Program} {w : World} {A : Around} {E : Value → Shared → Prop} {s : Shared}
theorem call_enum1 {v : Value} {o : Obj} {H : Heap → Prop} {Q : Value → Shared → Prop} (B : Begins v o H) (h1 : H s.heap)
    (h : ∀ h', IsEnum h' (s.heap.objs.size + 1) s.heap.objs.size 0 .none → h'.get? s.heap.objs.size = some o →
      (∀ b ob, s.heap.get? b = some ob → h'.get? b = some ob) → Q (.ref (s.heap.objs.size + 1)) { s with heap := h' }) : wpAny (model prog w) A (call (.type "enumerate") [v]) Q E s := by
  refine callType_new F.called_enumerate (by decide) (F.typeCall_enumerate_1 _) (F.newCall_enumerate_1 _) (fun obj => F.args_object_init_2 obj _) F.entry_enumerate_new (meets_enum1 B) ⟨h1, ?_⟩
  have two : (s.heap.push o).objs.size = s.heap.objs.size + 1 := Heap.size_push ..
  show _ ∧ _
  rw [two]
  have made : IsEnum ((s.heap.push o).push { cls := .type "enumerate", data := .fields #[.none, .bool false, .ref s.heap.objs.size, rawInt 0, .none, .none] }) (s.heap.objs.size + 1) s.heap.objs.size 0 .none := by
    have z := Heap.get?_push_size (s.heap.push o) (o := { cls := .type "enumerate", data := .fields #[.none, .bool false, .ref s.heap.objs.size, rawInt 0, .none, .none] }) rfl
    rw [two] at z
    exact z
  exact ⟨⟨_, made, rfl⟩, h _ made (Heap.get?_push_of_some _ (Heap.get?_push_size _ B.free)) fun b ob x => Heap.get?_push_of_some _ (Heap.get?_push_of_some _ x)⟩
end
/-! ### a list or a tuple -/
def SqB (t : Bool) (K : PySem.W.Frag) (H : Hp) (a : Addr) (xs : List V) : Prop := if t = true then SqT K H a xs else SqL K H a xs
def ItB (t : Bool) (h : Heap) (it a : Addr) (i : Nat) : Prop := if t = true then h.IsTupleIter it a i else h.IsListIter it a i
def HsB (t : Bool) (h : Heap) (a : Addr) (its : Array Value) : Prop := if t = true then h.IsTuple a its else h.IsList a its
theorem HsB.lt {t : Bool} {h : Heap} {a : Addr} {its : Array Value} (p : HsB t h a its) : a < h.objs.size := by
  cases t with
  | true => obtain ⟨o, ho, _⟩ := (show h.IsTuple a its from p); exact Heap.lt_size ho
  | false => obtain ⟨o, ho, _⟩ := (show h.IsList a its from p); exact Heap.lt_size ho
theorem ItB.data {t : Bool} {h : Heap} {it a : Addr} {i : Nat} (p : ItB t h it a i) : ∃ o vs, h.get? it = some o ∧ o.data = .fields vs := by
  cases t with
  | true => obtain ⟨o, ho, _, hd⟩ := (show h.IsTupleIter it a i from p); exact ⟨o, _, ho, hd⟩
  | false => obtain ⟨o, ho, _, hd⟩ := (show h.IsListIter it a i from p); exact ⟨o, _, ho, hd⟩
theorem ItB.at {t : Bool} {h h' : Heap} {it a : Addr} {i : Nat} (p : ItB t h it a i) (k : ∀ o, h.get? it = some o → h'.get? it = some o) : ItB t h' it a i := by
  cases t with
  | true => exact (show h.IsTupleIter it a i from p).at k
  | false => exact (show h.IsListIter it a i from p).at k
section
variable {X : Cx} {pins : List (Addr × Obj)} {σ : L2.St} {H : Hp} {s : Shared}
theorem inv_sq {t : Bool} {a : Addr} {xs : List V} (I : Inv X pins σ H s) (h : SqB t X.K H a xs) : ∃ its : List Value, Vals xs its ∧ HsB t s.heap a its.toArray ∧ xs.length ≤ sizeLine := by
  cases t with
  | false => obtain ⟨its, rv, p, hz⟩ := I.list (show SqL X.K H a xs from h); exact ⟨its, rv, p.isList, hz⟩
  | true => obtain ⟨its, rv, p, hz⟩ := I.tuple (show SqT X.K H a xs from h); exact ⟨its, rv, p, hz⟩
theorem inv_inj {t : Bool} {a : Addr} {xs ys : List V} (I : Inv X pins σ H s) (h : SqB t X.K H a xs) (k : SqB t X.K H a ys) : xs = ys := by
  cases t with
  | false => exact I.list_inj h k
  | true => exact I.tuple_inj h k
end
theorem draws_b {prog : Program} {w : World} {A : Around} (hh : A.handled = none) (t : Bool) (it l : Addr) (hne : l ≠ it) (items : Array Value) : Draws prog w A it [it, l] items.size (fun i v => items[i]? = some v) (fun i h => ItB t h it l i ∧ HsB t h l items) := by
  cases t with
  | false => exact Draws.list hh it l hne items
  | true => exact Draws.tuple hh it l hne items
def itO (t : Bool) (a : Addr) : Obj := { cls := .type (if t = true then "tuple_iterator" else "list_iterator"), data := .fields #[.ref a, .int 0 0] }
theorem begins_b (t : Bool) (a : Addr) (items : Array Value) : Begins (.ref a) (itO t a) (fun h => HsB t h a items) := by
  cases t with
  | false => exact begins_list a items
  | true => exact begins_tuple a items
theorem itO_at {t : Bool} {a it : Addr} {h : Heap} (p : h.get? it = some (itO t a)) : ItB t h it a 0 := by
  cases t with
  | false => exact ⟨_, p, rfl, rfl⟩
  | true => exact ⟨_, p, rfl, rfl⟩

/-- a new pair, pinned as it was made -/
def NewPr (H : Hp) (v : V) (H' : Hp) (x y : V) : Prop := ∃ T o, v = .ref T ∧ H T = none ∧ H' = upd H T (.frz o (.tup [x, y])) ∧ o.cls = .type "tuple" ∧ o.dict = none
/-- the list or tuple at a, each item in a new pair with its place -/
def IteB (t : Bool) (K : PySem.W.Frag) (a : Addr) : It :=
  ⟨fun i H => ∃ (xs : List V) (x : V), SqB t K H a xs ∧ xs[i]? = some x, fun i H v H' => ∃ x, NewPr H v H' (.int (i : Nat)) x ∧ ∀ xs, SqB t K H a xs → xs[i]? = some x, fun i H => ∃ xs : List V, SqB t K H a xs ∧ xs.length = i⟩
theorem turn_enumB {P : Program} {w : World} {K : PySem.W.Frag} {elts : List Expr} {kk : Nat} {tpos : Pos} {t : Bool} (a e it : Addr) :
    Turn P w K (.Tuple elts kk tpos) (IteB t K a) [e, it] e (fun i h => (∃ old, IsEnum h e it ((i : Nat) : Int) old) ∧ ItB t h it a i ∧ e ≠ it ∧ a ≠ it ∧ e ≠ a) where
  mem := by simp
  obj := fun i h st b hb => by
    obtain ⟨⟨old, he⟩, hi, _⟩ := st
    obtain ⟨o, vs, ho, hd⟩ := hi.data
    rcases (show b = e ∨ b = it by simpa using hb) with rfl | rfl
    · exact ⟨_, he, fun v q => nomatch q⟩
    · exact ⟨o, ho, fun v q => by rw [hd] at q; cases q⟩
  keep := fun i h h' st k => let ⟨⟨old, he⟩, hi, n1, n2, n3⟩ := st; ⟨⟨old, k e (by simp) _ he⟩, hi.at fun o q => k it (by simp) o q, n1, n2, n3⟩
  item := by
    intro X hP hw hK hc i pins s σ H E I hf st hg
    subst hP hw hK
    obtain ⟨⟨old, he⟩, hit, n1, n2, n3⟩ := st
    obtain ⟨xs, x, hq, hx⟩ := hg
    obtain ⟨its, rv, p, hz⟩ := inv_sq I hq
    obtain ⟨u, hu, ru⟩ := rv.get hx
    have hel : e < s.heap.objs.size := Heap.lt_size he
    have hil : it < s.heap.objs.size := by obtain ⟨_, _, q, _⟩ := hit.data; exact Heap.lt_size q
    have hi : i < its.toArray.size := by
      have := (List.getElem?_eq_some_iff.mp hu).1
      simpa using this
    refine wpAny_pyNext_enum_itemD (draws_b (A := X.A.in1) (show X.A.in1.handled = none from I.ok.hd hc) t it a n2 its.toArray) he ⟨hit, p⟩ hi n1 (by simp [n1, n3]) fun y h' tk hy ho hst hT hsz hk => ?_
    obtain rfl : y = u := by
      have e1 : its.toArray[i]? = some u := by simpa using hu
      rw [e1] at hy
      exact (Option.some.inj hy).symm
    obtain ⟨hit', p'⟩ := hst
    refine ⟨_, rfl, wpAny_letOwnedTupleGo_enum (s := { s with heap := h', toks := tk + 1 }) ho fun h'' he' sb => ?_⟩
    have hT2 : h''.get? s.heap.objs.size = some { cls := .type "tuple", data := .seq #[.int i tk, y] } := (sb.2 _ (Nat.ne_of_gt hel)).trans hT
    have new : ObjOk X.prog X.w (upd H s.heap.objs.size (.frz { cls := .type "tuple", data := .seq #[.int i tk, y] } (.tup [.int (i : Nat), x]))) h'' s.heap.objs.size (.frz { cls := .type "tuple", data := .seq #[.int i tk, y] } (.tup [.int (i : Nat), x])) :=
      ⟨hT2, by show 2 ≤ sizeLine; decide, [.int i tk, y], .cons ⟨_, rfl⟩ (.cons ru .nil), ⟨_, hT2, rfl, _, rfl⟩⟩
    have I1 := I.turnedNew (t' := tk + 1) (ch := [e, it]) (fun b ob hb q => (sb.2 b (fun z => hb (by simp [z]))).trans (hk b ob (fun z => hb (by simp [z])) (fun z => hb (by simp [z])) q)) hf (Nat.le_refl _) new
    refine ⟨.ref s.heap.objs.size, _, I1, rfl, ⟨x, ⟨_, _, rfl, I.hok.fresh (Nat.le_refl _), rfl, rfl, rfl⟩, fun ys hy => by rw [inv_inj I hy hq]; exact hx⟩, ⟨⟨y, ?_⟩, hit'.at fun o q => (sb.2 it (Ne.symm n1)).trans q, n1, n2, n3⟩, fun b hb => ?_⟩
    · have e1 : ((i + 1 : Nat) : Int) = (i : Int) + 1 := by omega
      rw [e1]; exact he'
    · have hb' : b < s.heap.objs.size := by
        rcases (show b = e ∨ b = it by simpa using hb) with rfl | rfl
        · exact hel
        · exact hil
      rw [upd_ne (Nat.ne_of_lt hb')]
      exact (hf b hb).1
  done := by
    intro X hP hw hK hc i pins s σ H E I hf st hg
    subst hP hw hK
    obtain ⟨⟨old, he⟩, hit, n1, n2, n3⟩ := st
    obtain ⟨xs, hq, hx⟩ := hg
    obtain ⟨its, rv, p, hz⟩ := inv_sq I hq
    obtain ⟨f0, f1, f2, f3, f4, f5⟩ := hf it (by simp)
    have hl := rv.length
    have hn : i = its.toArray.size := by rw [List.size_toArray]; omega
    subst hn
    exact wpAny_pyNext_enum_endD (draws_b (A := X.A.in1) (show X.A.in1.handled = none from I.ok.hd hc) t it a n2 its.toArray) he ⟨hit, p⟩ fun h' eb => ⟨rfl, I.turned (t' := s.toks) (fun b o hb q => eb b o hb q) f0 f1 f3 f4 f5⟩
  self := fun A i s Q E st h => let ⟨⟨_, he⟩, _⟩ := st; wpAny_pyIter_enum he h
/-- enumerate(a list or a tuple) -/
def iEnumB (K : PySem.W.Frag) (ta : TA) : TI := fun σ H R => ta σ H fun vs H1 => ∃ t a xs, vs = [.ref a] ∧ SqB t K H1 a xs ∧ R (IteB t K a) H1
theorem pi_enumB {X : Cx} {e : Expr} {ta : TA} {p pos tpos : Pos} {elts : List Expr} {kk : Nat} (hg : Gl X "enumerate") (hm : X.mg "enumerate" = none) (ha : PA X [e] ta) (hs : starEach [e] X.env = [(false, eval e X.env)]) :
    PI X (.Tuple elts kk tpos) (.Call (.Name "enumerate" p) [e] [] pos) (iEnumB X.K ta) := by
  refine ⟨fun pins s σ H R I h => ?_⟩
  refine Call_ (ld_blt I hg hm boot_enumerate (PyProof.Rows.callWith_type1 (thn (ha.run pos pins s σ H _ I h) fun us s1 ⟨vs, H1, I1, r1, q1⟩ => ?_) hs rfl))
  obtain ⟨t, a, xs, rfl, hq, q⟩ := q1
  obtain ⟨u, rfl, ru⟩ := vals1 r1
  cases ru
  have two : ∀ b, b ∈ [s1.heap.objs.size + 1, s1.heap.objs.size] → s1.heap.objs.size ≤ b := fun b hb => by
    rcases (show b = s1.heap.objs.size + 1 ∨ b = s1.heap.objs.size by simpa using hb) with rfl | rfl
    · exact Nat.le_succ _
    · exact Nat.le_refl _
  obtain ⟨its, rv, p', hz⟩ := inv_sq I1 hq
  have hlt := p'.lt
  refine call_enum1 (begins_b t a its.toArray) p' fun h' he hit hk => wpAny_pyIter_enum he ?_
  have I2 : Inv X pins σ H1 { s1 with heap := h' } := I1.kept (t' := s1.toks) hk
  exact ⟨s1.heap.objs.size + 1, [s1.heap.objs.size + 1, s1.heap.objs.size], _, _, H1, rfl, I2, turn_enumB a (s1.heap.objs.size + 1) s1.heap.objs.size, ⟨⟨.none, he⟩, itO_at hit, Nat.succ_ne_self _, Nat.ne_of_lt hlt, Nat.ne_of_gt (Nat.lt_succ_of_lt hlt)⟩, fun b hb => I1.fpOk (two b hb) (I1.hok.fresh (two b hb)), q⟩
/-- the items with their places -/
def enuW : Nat → List W → List W
  | _, [] => []
  | i, w :: ws => .tup [.int (i : Nat), w] :: enuW (i + 1) ws
theorem enuW_len : ∀ (i : Nat) (ws : List W), (enuW i ws).length = ws.length
  | _, [] => rfl
  | i, w :: ws => by show (enuW (i + 1) ws).length + 1 = _; rw [enuW_len (i + 1) ws]; rfl
theorem enuW_at : ∀ (ws : List W) (k i : Nat) (w : W), ws[i]? = some w → (enuW k ws)[i]? = some (.tup [.int ((k + i : Nat) : Int), w])
  | [], _, _, _, h => by simp at h
  | x :: ws, k, 0, w, h => by
    have h : x = w := by simpa using h
    subst h; rfl
  | x :: ws, k, i + 1, w, h => by
    have h : ws[i]? = some w := by simpa using h
    show (enuW (k + 1) ws)[i]? = _
    rw [enuW_at ws (k + 1) i w h, show k + 1 + i = k + (i + 1) from by omega]
theorem pair_new {K : PySem.W.Frag} {H1 H2 : Hp} {S1 : Sto} {v x y : V} {w u : W} (rs1 : RS K H1 S1) (rw' : RV K H1 w x) (ru : RV K H1 u y) (h : NewPr H1 v H2 x y) : RV K H2 (.tup [w, u]) v ∧ Ext H1 S1 H2 S1 ∧ RS K H2 S1 := by
  obtain ⟨T, o, rfl, hT, rfl, hc, hd⟩ := h
  exact ⟨.tup (.new hc hd) (.cons (rw'.tst (tst_upd_new hT)) (.cons (ru.tst (tst_upd_new hT)) .nil)), .tup hT, rs1.tup hT⟩
/-- a tuple, or a list that may be read -/
def SeqW (S : Sto) (x : W) (ws : List W) : Prop := x = .tup ws ∨ ∃ b, x = .ref b ∧ Lw S b ws
theorem SeqW.tup {S : Sto} {ws : List W} : SeqW S (.tup ws) ws := .inl rfl
theorem SeqW.lst {S : Sto} {b : Addr} {ws : List W} (h : S b = some (.lst ws)) : SeqW S (.ref b) ws := .inr ⟨b, rfl, .inl h⟩
theorem SeqW.ref {S : Sto} {b : Addr} {ws : List W} (h : Lw S b ws) : SeqW S (.ref b) ws := .inr ⟨b, rfl, h⟩
theorem seq_b {K : PySem.W.Frag} {H : Hp} {S : Sto} {x : W} {ws : List W} {v : V} (rs : RS K H S) (r : RV K H x v) (h : SeqW S x ws) :
    ∃ t a xs, v = .ref a ∧ SqB t K H a xs ∧ RVs K H ws xs ∧ ∀ H1 S1, Ext H S H1 S1 → RS K H1 S1 → SeqW S1 x ws → ∃ xs', SqB t K H1 a xs' ∧ RVs K H1 ws xs' := by
  rcases h with rfl | ⟨b, rfl, l⟩
  · cases r with
    | tup hq r => exact ⟨true, _, _, rfl, hq.sq, r, fun H1 S1 e rs1 _ => ⟨_, (e.tst rs _ _ hq).sq, r.tst (e.tst rs)⟩⟩
  · cases r
    obtain ⟨vs, q, r⟩ := rs.list l
    refine ⟨false, b, vs, rfl, q, r, fun H1 S1 e rs1 h => ?_⟩
    rcases h with h | ⟨b', h, l'⟩
    · cases h
    · cases h
      obtain ⟨vs', q', r'⟩ := rs1.list l'
      exact ⟨vs', q', r'⟩
end Dp
namespace Dp
open PySem PySem.Spec L2
open PyProof.Rows hiding St

/-! ### enumerate -/
def mEnu (a : WEs) : WI := fun ρ S Kk Ek => a ρ S (fun xs S1 => match xs with
  | [.tup ws] => Kk (wkFix (enuW 0 ws)) S1
  | [.ref b] => ∃ ws, Lw S1 b ws ∧ Kk ⟨fun S => Lw S b ws, enuW 0 ws⟩ S1
  | _ => False) Ek
theorem walkw_enuB {K : PySem.W.Frag} {H : Hp} {S : Sto} {t : Bool} {a : Addr} {x : W} {ws : List W} {g : Sto → Prop} (hg : ∀ H1 S1, Ext H S H1 S1 → RS K H1 S1 → g S1 → ∃ xs', SqB t K H1 a xs' ∧ RVs K H1 ws xs') :
    WalkW K ⟨g, enuW 0 ws⟩ H S (IteB t K a) (fun H1 => ∃ xs, SqB t K H1 a xs ∧ RVs K H1 ws xs) (fun i H1 v H2 => ∃ xs x, RVs K H1 ws xs ∧ NewPr H1 v H2 (.int (i : Nat)) x ∧ xs[i]? = some x) where
  walk := by
    show Walk _ (enuW 0 ws).length _ _
    rw [enuW_len]
    refine ⟨fun i H1 hi ⟨xs, q, r⟩ => ⟨xs, xs[i]'(by rw [← r.length]; exact hi), q, List.getElem?_eq_getElem _⟩, fun H1 ⟨xs, q, r⟩ => ⟨xs, q, by rw [← r.length]⟩, fun i H1 v H2 hi ⟨xs, q, r⟩ y => ?_⟩
    obtain ⟨x, h1, h2⟩ := y
    exact ⟨xs, x, r, h1, h2 xs q⟩
  stand := hg
  gives := fun i H1 S1 v H2 hi e rs1 _ y => by
    obtain ⟨xs, x, r, h1, h2⟩ := y
    obtain ⟨w, hw, rw'⟩ := r.get h2
    have := pair_new rs1 (.int (i : Nat)) rw' h1
    refine ⟨_, enuW_at ws 0 i w hw, ?_⟩
    rw [Nat.zero_add]; exact this
theorem s_enu {X : Cx} {c : Cst} {Wx : WX} {e : Expr} {a : WEs} {p pos tpos : Pos} {elts : List Expr} {kk : Nat} (hK : c.K = X.K) (hg : Gl X "enumerate") (hm : X.mg "enumerate" = none) (ha : PA X [e] (tA c Wx a)) (hs : starEach [e] X.env = [(false, eval e X.env)]) :
    PI X (.Tuple elts kk tpos) (.Call (.Name "enumerate" p) [e] [] pos) (tI c Wx (mEnu a)) := PI.imp (pi_enumB hg hm ha hs) fun σ H Q q => by
  obtain ⟨ρ, S, Kk, Ek, re, rs, hm, po, px⟩ := q
  refine ⟨ρ, S, _, Ek, re, rs, hm, fun xs S1 H1 us k1 e1 rs1 rx => ?_, px⟩
  rw [← hK]
  split at k1
  · rename_i ws
    obtain ⟨v, rfl, rv⟩ := rvs1 rx
    obtain ⟨t, a, xs, rfl, q1, _, g1⟩ := seq_b rs1 rv (SeqW.tup (ws := ws))
    exact ⟨t, a, xs, rfl, q1, po _ S1 H1 _ _ _ k1 e1 rs1 (walkw_enuB (x := .tup ws) fun H2 S2 e2 rs2 _ => g1 H2 S2 e2 rs2 .tup)⟩
  · rename_i b
    obtain ⟨v, rfl, rv⟩ := rvs1 rx
    obtain ⟨ws, l, k⟩ := k1
    obtain ⟨t, a, xs, rfl, q1, _, g1⟩ := seq_b rs1 rv (SeqW.ref l)
    exact ⟨t, a, xs, rfl, q1, po _ S1 H1 _ _ _ k e1 rs1 (walkw_enuB (x := .ref b) fun H2 S2 e2 rs2 h => g1 H2 S2 e2 rs2 (.ref h))⟩
  · exact k1.elim
/-! ### sorted(ints), max and min of a list of ints -/
def fSorted : NOp := fun ws S K => match ws with
  | [.ref a] => ∃ ns : List Int, Lw S a (ns.map W.int) ∧ ∀ (ns' : List Int) (p : Addr), ns'.Perm ns → ns'.Pairwise (· ≤ ·) → S p = none → K (.ref p) (S.put p (.lst (ns'.map W.int)))
  | _ => False
theorem rvs_ints {K : PySem.W.Frag} {H : Hp} : ∀ ns : List Int, RVs K H (ns.map W.int) (ns.map V.int)
  | [] => .nil
  | n :: ns => .cons (.int n) (rvs_ints ns)
theorem o_sorted {c : Cst} : OpN c (rSortedI c.K) fSorted := fun ws vs H S Kk Q rs r h po => by
  unfold fSorted at h
  split at h
  · obtain ⟨v, rfl, rx⟩ := rvs1 r
    cases rx
    obtain ⟨ns, l, k⟩ := h
    obtain ⟨us, hq, rr⟩ := rs.list l
    rw [rvs_map (g := V.int) (fun x v r => by cases r; rfl) rr] at hq
    exact ⟨_, ns, rfl, hq, fun ns' p h1 h2 hp => po _ _ _ _ (k ns' p h1 h2 (rs.fresh hp)) (.new hp) (rs.new hp (.lst (rvs_ints ns'))) (.ref p)⟩
  · exact h.elim
def fMax1 : NOp := fun ws S K => match ws with
  | [.ref a] => ∃ ns : List Int, Lw S a (ns.map W.int) ∧ 0 < ns.length ∧ ∀ m, m ∈ ns → (∀ y, y ∈ ns → y ≤ m) → K (.int m) S
  | _ => False
theorem o_max1 {c : Cst} : OpN c (rMax c.K) fMax1 := fun ws vs H S Kk Q rs r h po => by
  unfold fMax1 at h
  split at h
  · obtain ⟨v, rfl, rx⟩ := rvs1 r
    cases rx
    obtain ⟨ns, l, h0, k⟩ := h
    obtain ⟨us, hq, rr⟩ := rs.list l
    rw [rvs_map (g := V.int) (fun x v r => by cases r; rfl) rr] at hq
    exact ⟨_, ns, rfl, hq, h0, fun m h1 h2 => po _ S H _ (k m h1 h2) .refl rs (.int _)⟩
  · exact h.elim
def fMin1 : NOp := fun ws S K => match ws with
  | [.ref a] => ∃ ns : List Int, Lw S a (ns.map W.int) ∧ 0 < ns.length ∧ ∀ m, m ∈ ns → (∀ y, y ∈ ns → m ≤ y) → K (.int m) S
  | _ => False
theorem o_min1 {c : Cst} : OpN c (rMin c.K) fMin1 := fun ws vs H S Kk Q rs r h po => by
  unfold fMin1 at h
  split at h
  · obtain ⟨v, rfl, rx⟩ := rvs1 r
    cases rx
    obtain ⟨ns, l, h0, k⟩ := h
    obtain ⟨us, hq, rr⟩ := rs.list l
    rw [rvs_map (g := V.int) (fun x v r => by cases r; rfl) rr] at hq
    exact ⟨_, ns, rfl, hq, h0, fun m h1 h2 => po _ S H _ (k m h1 h2) .refl rs (.int _)⟩
  · exact h.elim
end Dp
namespace Dp
open PySem PySem.Spec L2
open PyProof.Rows hiding St

/-! ### zip of two, each a list or a tuple -/
def ItzB (t u : Bool) (K : PySem.W.Frag) (a b : Addr) : It :=
  ⟨fun i H => ∃ (xs ys : List V) (x y : V), SqB t K H a xs ∧ SqB u K H b ys ∧ xs[i]? = some x ∧ ys[i]? = some y,
    fun i H v H' => ∃ x y, NewPr H v H' x y ∧ (∀ xs, SqB t K H a xs → xs[i]? = some x) ∧ ∀ ys, SqB u K H b ys → ys[i]? = some y,
    fun i H => ∃ xs ys : List V, SqB t K H a xs ∧ SqB u K H b ys ∧ i ≤ xs.length ∧ i ≤ ys.length ∧ (i = xs.length ∨ i = ys.length)⟩
structure ZA (z TI TO i1 i2 a b : Addr) : Prop where
  s : ZipSep2 z TI TO i1 i2 [i1, a] [i2, b]
  a1 : a ≠ i1
  b2 : b ≠ i2
theorem nin2 {x a b : Nat} (h : x ≠ a) (k : x ≠ b) : ¬ (x : Nat) ∈ ([a, b] : List Nat) := fun m => by
  rcases List.mem_cons.mp m with m | m
  · exact h m
  · exact k (List.mem_singleton.mp m)
theorem za_new {n a b : Nat} (ha : a < n) (hb : b < n) : ZA (n + 4) (n + 2) (n + 3) n (n + 1) a b :=
  ⟨⟨show (n + 2 : Nat) ≠ n + 4 by omega, show (n + 3 : Nat) ≠ n + 4 by omega, show (n + 2 : Nat) ≠ n + 3 by omega, show (n + 2 : Nat) ≠ n by omega, List.mem_cons_self .., nin2 (by omega) (by omega), nin2 (by omega) (by omega),
    show (n + 2 : Nat) ≠ n + 1 by omega, List.mem_cons_self .., nin2 (by omega) (by omega), nin2 (by omega) (by omega), nin2 (by omega) (by omega), nin2 (by omega) (by omega)⟩, Nat.ne_of_lt ha, show (b : Nat) ≠ n + 1 by omega⟩
theorem turn_zipB {P : Program} {w : World} {K : PySem.W.Frag} {elts : List Expr} {kk : Nat} {tpos : Pos} {t u : Bool} {a b z TI TO i1 i2 : Addr} (D : ZA z TI TO i1 i2 a b) :
    Turn P w K (.Tuple elts kk tpos) (ItzB t u K a b) [z, TI, TO, i1, i2] z (fun i h => IsZip h z TI TO .none ∧ IsTupOf2 h TI (.ref i1) (.ref i2) ∧ (∃ x y, IsTupOf2 h TO x y) ∧ ItB t h i1 a i ∧ ItB u h i2 b i) where
  mem := by simp
  obj := fun i h st c hc => by
    obtain ⟨hz, hTI, ⟨x, y, hTO⟩, h1, h2⟩ := st
    obtain ⟨o1, vs1, e1, d1⟩ := h1.data
    obtain ⟨o2, vs2, e2, d2⟩ := h2.data
    have e' : c = z ∨ c = TI ∨ c = TO ∨ c = i1 ∨ c = i2 := by simpa using hc
    rcases e' with q | q | q | q | q
    · rw [q]; exact ⟨_, hz, fun v q => nomatch q⟩
    · rw [q]; exact ⟨_, hTI, fun v q => nomatch q⟩
    · rw [q]; exact ⟨_, hTO, fun v q => nomatch q⟩
    · rw [q]; exact ⟨o1, e1, fun v q => by rw [d1] at q; cases q⟩
    · rw [q]; exact ⟨o2, e2, fun v q => by rw [d2] at q; cases q⟩
  keep := fun i h h' st k => by
    obtain ⟨hz, hTI, ⟨x, y, hTO⟩, h1, h2⟩ := st
    exact ⟨k z (by simp) _ hz, k TI (by simp) _ hTI, ⟨x, y, k TO (by simp) _ hTO⟩, h1.at fun o q => k i1 (by simp) o q, h2.at fun o q => k i2 (by simp) o q⟩
  item := by
    intro X hP hw hK hc i pins s σ H E I hf st hg
    subst hP hw hK
    obtain ⟨hz, hTI, ⟨x0, y0, hTO⟩, h1, h2⟩ := st
    obtain ⟨xs, ys, x, y, hqx, hqy, hx, hy⟩ := hg
    obtain ⟨its, rv, p, _⟩ := inv_sq I hqx
    obtain ⟨its2, rv2, p2, _⟩ := inv_sq I hqy
    obtain ⟨v, hv, ru⟩ := rv.get hx
    obtain ⟨v2, hv2, ru2⟩ := rv2.get hy
    have hzl : z < s.heap.objs.size := Heap.lt_size hz
    have hd : X.A.in1.handled = none := I.ok.hd hc
    have l1 : i < its.toArray.size := by
      have := (List.getElem?_eq_some_iff.mp hv).1
      simpa using this
    have l2 : i < its2.toArray.size := by
      have := (List.getElem?_eq_some_iff.mp hv2).1
      simpa using this
    refine wpAny_pyNext_zipD2_item D.s (draws_b hd t i1 a D.a1 its.toArray) (draws_b hd u i2 b D.b2 its2.toArray) hz hTI hTO ⟨h1, p⟩ ⟨h2, p2⟩ l1 l2 fun x1 x2 h' tk e1 e2 z' TO' st1 st2 hT hsz hk => ?_
    obtain rfl : x1 = v := by
      have q1 : its.toArray[i]? = some v := by simpa using hv
      rw [q1] at e1
      exact (Option.some.inj e1).symm
    obtain rfl : x2 = v2 := by
      have q1 : its2.toArray[i]? = some v2 := by simpa using hv2
      rw [q1] at e2
      exact (Option.some.inj e2).symm
    refine ⟨_, rfl, wpAny_letOwnedTupleGo_zip (s := { s with heap := h', toks := tk }) z' fun h'' z'' sb => ?_⟩
    have hT2 : h''.get? s.heap.objs.size = some { cls := .type "tuple", data := .seq #[x1, x2] } := (sb.2 _ (Nat.ne_of_gt hzl)).trans hT
    have new : ObjOk X.prog X.w (upd H s.heap.objs.size (.frz { cls := .type "tuple", data := .seq #[x1, x2] } (.tup [x, y]))) h'' s.heap.objs.size (.frz { cls := .type "tuple", data := .seq #[x1, x2] } (.tup [x, y])) :=
      ⟨hT2, by show 2 ≤ sizeLine; decide, [x1, x2], .cons ru (.cons ru2 .nil), ⟨_, hT2, rfl, _, rfl⟩⟩
    have I1 := I.turnedNew (t' := tk) (ch := [z, TI, TO, i1, i2]) (fun c o hb q => (sb.2 c (fun q' => hb (by simp [q']))).trans (hk c o (fun q' => hb (by simp [q'])) (fun q' => hb (by simp [q'])) (fun q' => hb (by simp [q'])) (fun q' => hb (by simp [q'])) q)) hf (Nat.le_refl _) new
    refine ⟨.ref s.heap.objs.size, _, I1, rfl, ⟨x, y, ⟨_, _, rfl, I.hok.fresh (Nat.le_refl _), rfl, rfl, rfl⟩, fun l hl => by rw [inv_inj I hl hqx]; exact hx, fun l hl => by rw [inv_inj I hl hqy]; exact hy⟩, ⟨z'', ?_, ⟨x1, x2, ?_⟩, ?_, ?_⟩, fun c hcm => ?_⟩
    · exact (sb.2 _ D.s.TIz).trans (hk _ _ D.s.TIz D.s.TITO D.s.TIi1 D.s.TIi2 hTI)
    · exact (sb.2 _ D.s.TOz).trans TO'
    · exact st1.1.at fun o q => (sb.2 _ (Ne.symm D.s.zi1)).trans q
    · exact st2.1.at fun o q => (sb.2 _ (Ne.symm D.s.zi2)).trans q
    · have hlt : c < s.heap.objs.size := by
        obtain ⟨o1, _, g1, _⟩ := h1.data
        obtain ⟨o2, _, g2, _⟩ := h2.data
        have e' : c = z ∨ c = TI ∨ c = TO ∨ c = i1 ∨ c = i2 := by simpa using hcm
        rcases e' with q | q | q | q | q
        · rw [q]; exact hzl
        · rw [q]; exact Heap.lt_size hTI
        · rw [q]; exact Heap.lt_size hTO
        · rw [q]; exact Heap.lt_size g1
        · rw [q]; exact Heap.lt_size g2
      rw [upd_ne (Nat.ne_of_lt hlt)]
      exact (hf c hcm).1
  done := by
    intro X hP hw hK hc i pins s σ H E I hf st hg
    subst hP hw hK
    obtain ⟨hz, hTI, ⟨x0, y0, hTO⟩, h1, h2⟩ := st
    obtain ⟨xs, ys, hqx, hqy, g1, g2, g3⟩ := hg
    obtain ⟨its, rv, p, _⟩ := inv_sq I hqx
    obtain ⟨its2, rv2, p2, _⟩ := inv_sq I hqy
    have l1 : xs.length = its.toArray.size := by rw [List.size_toArray]; exact rv.length
    have l2 : ys.length = its2.toArray.size := by rw [List.size_toArray]; exact rv2.length
    have hd : X.A.in1.handled = none := I.ok.hd hc
    exact wpAny_pyNext_zipD2_end D.s (draws_b hd t i1 a D.a1 its.toArray) (draws_b hd u i2 b D.b2 its2.toArray) hz hTI hTO ⟨h1, p⟩ ⟨h2, p2⟩ (by omega) (by omega) (by omega) fun h' tk hk => ⟨rfl, I.turnedL (t' := tk) (ch := [z, TI, TO, i1, i2]) (fun c o hb q =>
      hk c o (fun q' => hb (by simp [q'])) (fun q' => hb (by simp [q'])) (fun q' => hb (by simp [q'])) (fun q' => hb (by simp [q'])) q) hf⟩
  self := fun A i s Q E st h => wpAny_pyIter_zip st.1 h
def iZipB (K : PySem.W.Frag) (ta : TA) : TI := fun σ H R => ta σ H fun vs H1 => ∃ t u a b xs ys, vs = [.ref a, .ref b] ∧ SqB t K H1 a xs ∧ SqB u K H1 b ys ∧ R (ItzB t u K a b) H1
theorem pi_zipB {X : Cx} {e e2 : Expr} {ta : TA} {p pos tpos : Pos} {elts : List Expr} {kk : Nat} (hg : Gl X "zip") (hm : X.mg "zip" = none) (ha : PA X [e, e2] ta)
    (hs : starEach [e, e2] X.env = (false, eval e X.env) :: starEach [e2] X.env) (hpl : (backTo pos (starEach [e2] X.env)).any (·.1) = false) :
    PI X (.Tuple elts kk tpos) (.Call (.Name "zip" p) [e, e2] [] pos) (iZipB X.K ta) := by
  refine ⟨fun pins s σ H R I h => ?_⟩
  refine Call_ (ld_blt I hg hm PyProof.Rows.boot_zip (PyProof.Rows.callWith_type1 (thn (ha.run pos pins s σ H _ I h) fun us s1 ⟨vs, H1, I1, r1, q1⟩ => ?_) hs hpl))
  obtain ⟨t, u, a, b, xs, ys, ex, hqx, hqy, q⟩ := q1
  subst ex
  cases r1 with
  | cons r rr =>
    cases rr with
    | cons r' rr =>
      cases rr
      cases r
      cases r'
      have fresh5 : ∀ c, c ∈ [s1.heap.objs.size + 4, s1.heap.objs.size + 2, s1.heap.objs.size + 3, s1.heap.objs.size, s1.heap.objs.size + 1] → FpOk X pins H1 c := fun c hcm => by
        have e' : c = s1.heap.objs.size + 4 ∨ c = s1.heap.objs.size + 2 ∨ c = s1.heap.objs.size + 3 ∨ c = s1.heap.objs.size ∨ c = s1.heap.objs.size + 1 := by simpa using hcm
        have hle : s1.heap.objs.size ≤ c := by
          rcases e' with z | z | z | z | z
          · rw [z]; exact Nat.le_add_right _ _
          · rw [z]; exact Nat.le_add_right _ _
          · rw [z]; exact Nat.le_add_right _ _
          · rw [z]; exact Nat.le_refl _
          · rw [z]; exact Nat.le_add_right _ _
        exact I1.fpOk hle (I1.hok.fresh hle)
      obtain ⟨its, rv, p1, _⟩ := inv_sq I1 hqx
      obtain ⟨its2, rv2, p2, _⟩ := inv_sq I1 hqy
      refine zip_begins2 (begins_b t a its.toArray) (begins_b u b its2.toArray) p1 p2 fun h' hz hTI hTO g1 g2 hsz hk => wpAny_pyIter_zip hz ?_
      have I2 : Inv X pins σ H1 { s1 with heap := h' } := I1.kept (t' := s1.toks) hk
      exact ⟨s1.heap.objs.size + 4, [s1.heap.objs.size + 4, s1.heap.objs.size + 2, s1.heap.objs.size + 3, s1.heap.objs.size, s1.heap.objs.size + 1], _, _, H1, rfl, I2, turn_zipB (za_new p1.lt p2.lt), ⟨hz, hTI, ⟨_, _, hTO⟩, itO_at g1, itO_at g2⟩, fresh5, q⟩

/-! ### by plain values -/
def zipW (ws us : List W) : List W := List.zipWith (fun w u => .tup [w, u]) ws us
theorem zipW_len (ws us : List W) : (zipW ws us).length = min ws.length us.length := by unfold zipW; simp
theorem zipW_at {ws us : List W} {i : Nat} {w u : W} (h : ws[i]? = some w) (k : us[i]? = some u) : (zipW ws us)[i]? = some (.tup [w, u]) := by
  unfold zipW
  rw [List.getElem?_zipWith, h, k]
theorem zipW_get {ws us : List W} {i : Nat} {x : W} (h : (zipW ws us)[i]? = some x) : ∃ w u, ws[i]? = some w ∧ us[i]? = some u ∧ x = .tup [w, u] := by
  unfold zipW at h
  rw [List.getElem?_zipWith] at h
  cases e : ws[i]? with
  | none => rw [e] at h; cases h
  | some w =>
    cases e2 : us[i]? with
    | none => rw [e, e2] at h; cases h
    | some u => rw [e, e2] at h; exact ⟨w, u, rfl, rfl, (Option.some.inj h).symm⟩
def mZip (a : WEs) : WI := fun ρ S Kk Ek => a ρ S (fun xs S1 => match xs with
  | [x, y] => ∃ ws us, SeqW S1 x ws ∧ SeqW S1 y us ∧ Kk ⟨fun S => SeqW S x ws ∧ SeqW S y us, zipW ws us⟩ S1
  | _ => False) Ek
theorem walkw_zip {K : PySem.W.Frag} {H : Hp} {S : Sto} {t u : Bool} {a b : Addr} {x y : W} {ws us : List W}
    (g1 : ∀ H1 S1, Ext H S H1 S1 → RS K H1 S1 → SeqW S1 x ws → ∃ xs', SqB t K H1 a xs' ∧ RVs K H1 ws xs') (g2 : ∀ H1 S1, Ext H S H1 S1 → RS K H1 S1 → SeqW S1 y us → ∃ xs', SqB u K H1 b xs' ∧ RVs K H1 us xs') :
    WalkW K ⟨fun S => SeqW S x ws ∧ SeqW S y us, zipW ws us⟩ H S (ItzB t u K a b) (fun H1 => ∃ xs ys, SqB t K H1 a xs ∧ RVs K H1 ws xs ∧ SqB u K H1 b ys ∧ RVs K H1 us ys)
      (fun i H1 v H2 => ∃ xs ys, RVs K H1 ws xs ∧ RVs K H1 us ys ∧ ∃ p q, NewPr H1 v H2 p q ∧ xs[i]? = some p ∧ ys[i]? = some q) where
  walk := by
    show Walk _ (zipW ws us).length _ _
    rw [zipW_len]
    refine ⟨fun i H1 hi ⟨xs, ys, q1, r1, q2, r2⟩ => ?_, fun H1 ⟨xs, ys, q1, r1, q2, r2⟩ => ?_, fun i H1 v H2 hi ⟨xs, ys, q1, r1, q2, r2⟩ y => ?_⟩
    · have e1 := r1.length
      have e2 := r2.length
      exact ⟨xs, ys, xs[i]'(by omega), ys[i]'(by omega), q1, q2, List.getElem?_eq_getElem _, List.getElem?_eq_getElem _⟩
    · have e1 := r1.length
      have e2 := r2.length
      exact ⟨xs, ys, q1, q2, by omega, by omega, by omega⟩
    · obtain ⟨p, q, h1, h4, h5⟩ := y
      exact ⟨xs, ys, r1, r2, p, q, h1, h4 xs q1, h5 ys q2⟩
  stand := fun H1 S1 e rs1 g => by
    obtain ⟨xs, q1, r1⟩ := g1 H1 S1 e rs1 g.1
    obtain ⟨ys, q2, r2⟩ := g2 H1 S1 e rs1 g.2
    exact ⟨xs, ys, q1, r1, q2, r2⟩
  gives := fun i H1 S1 v H2 hi e rs1 _ y => by
    obtain ⟨xs, ys, r1, r2, p, q, hn, h1, h2⟩ := y
    obtain ⟨w, hw, rw'⟩ := r1.get h1
    obtain ⟨w2, hw2, rw2⟩ := r2.get h2
    exact ⟨_, zipW_at hw hw2, pair_new rs1 rw' rw2 hn⟩
theorem s_zip {X : Cx} {c : Cst} {Wx : WX} {e e2 : Expr} {a : WEs} {p pos tpos : Pos} {elts : List Expr} {kk : Nat} (hK : c.K = X.K) (hg : Gl X "zip") (hm : X.mg "zip" = none) (ha : PA X [e, e2] (tA c Wx a))
    (hs : starEach [e, e2] X.env = (false, eval e X.env) :: starEach [e2] X.env) (hpl : (backTo pos (starEach [e2] X.env)).any (·.1) = false) :
    PI X (.Tuple elts kk tpos) (.Call (.Name "zip" p) [e, e2] [] pos) (tI c Wx (mZip a)) := PI.imp (pi_zipB hg hm ha hs hpl) fun σ H Q q => by
  obtain ⟨ρ, S, Kk, Ek, re, rs, hm, po, px⟩ := q
  refine ⟨ρ, S, _, Ek, re, rs, hm, fun xs S1 H1 us k1 e1 rs1 rx => ?_, px⟩
  rw [← hK]
  split at k1
  · obtain ⟨v, v2, rfl, rv, rv2⟩ := rvs2 rx
    obtain ⟨ws, us, h1, h2, k⟩ := k1
    obtain ⟨t, a, xs, rfl, q1, r1, g1⟩ := seq_b rs1 rv h1
    obtain ⟨u, b, ys, rfl, q2, r2, g2⟩ := seq_b rs1 rv2 h2
    exact ⟨t, u, a, b, xs, ys, rfl, q1, q2, po _ S1 H1 _ _ _ k e1 rs1 (walkw_zip g1 g2)⟩
  · exact k1.elim
end Dp
namespace Dp
open PySem PySem.Spec L2
open PyProof.Rows hiding St

/-! ### sorted(..) of a list or a tuple -/
section
variable {prog : Program} {w : World} {A : Around} {E : Value → Shared → Prop} {s : Shared}
theorem collect_tup {l : Addr} {vs : List Value} {Q : List Value → Shared → Prop} (hl : s.heap.IsTuple l vs.toArray)
    (h : Q vs { s with heap := (s.heap.push (seqObj "list" #[] 0)).update s.heap.objs.size (Obj.mapSeq (· ++ vs.toArray)) }) (hsz : vs.length ≤ sizeLine) :
    wpAny (model prog w) A (collect (.ref l)) Q E s := by
  obtain ⟨o, ho, hc, n, hd⟩ := id hl
  unfold collect
  refine wpAny_bind (wpAny_runValue (codeAny_builtin entry_proto_collect' ?_))
  show wpAny _ _ (do again (.builtin "list.__iadd__" ⟨[← newList [], .ref l], []⟩)) _ _ s
  refine wpAny_bind (wpAny_newList (wpAny_pure ⟨Code.quiet_builtin _ (by decide +kernel), codeAny_builtin entry_list_iadd' ?_⟩))
  show wpAny _ _ (Builtin.List.listExtendWith (.ref s.heap.objs.size) (.ref l) (.ref s.heap.objs.size)) _ _ { s with heap := s.heap.push (seqObj "list" #[] 0) }
  unfold Builtin.List.listExtendWith
  have ho' : (s.heap.push (seqObj "list" #[] 0)).get? l = some o := Heap.get?_push_of_some _ ho
  refine wpAny_bind (wpAny_typeOf (T := "tuple") ⟨o, ho', hc⟩ ?_)
  have ht : (Value.type "tuple" == Value.type "tuple") = true := by rfl
  rw [if_pos (by rw [ht]; simp)]
  refine wpAny_bind (listItems_at ho' hd ?_)
  refine wpAny_bind (listItems_at (xs := #[]) (n := 0) (Heap.get?_push_size _ rfl) rfl ?_)
  rw [if_neg (by simp)]
  refine wpAny_bind (listUpdate_at (xs := #[]) (n := 0) (Heap.get?_push_size _ rfl) rfl ?_ (Nat.zero_le _) (by show (#[] ++ vs.toArray).size ≤ sizeLine + 1; simp only [Array.size_append, List.size_toArray, List.length_nil]; omega))
  refine wpAny_pure ?_
  show wpAny (model prog w) A (do
      let o ← load s.heap.objs.size
      match o.data with
      | .seq xs _ => pure xs.toList
      | _ => unsupported "internal:collect") Q E { s with heap := (s.heap.push (seqObj "list" #[] 0)).update s.heap.objs.size (Obj.mapSeq (· ++ vs.toArray)) }
  refine wpAny_bind (wpAny_load (get?_update_seq (Heap.get?_push_size _ rfl) _) ?_)
  show wpAny _ _ (pure ((#[] : Array Value) ++ vs.toArray).toList) Q E _
  rw [show ((#[] : Array Value) ++ vs.toArray).toList = vs by simp]
  exact wpAny_pure h
theorem collect_b {t : Bool} {l : Addr} {vs : List Value} {Q : List Value → Shared → Prop} (hl : HsB t s.heap l vs.toArray)
    (h : Q vs { s with heap := (s.heap.push (seqObj "list" #[] 0)).update s.heap.objs.size (Obj.mapSeq (· ++ vs.toArray)) }) (hsz : vs.length ≤ sizeLine) :
    wpAny (model prog w) A (collect (.ref l)) Q E s := by
  cases t with
  | false => exact collect_list hl h hsz
  | true => exact collect_tup hl h hsz
open SrtO in
theorem sorted_ordB {t : Bool} {l : Addr} {vs : List Value} {ltv : Value → Value → Bool} {Q : Value → Shared → Prop} (O : Swo ltv) (hl : HsB t s.heap l vs.toArray) (hz : vs.length ≤ sizeLine)
    (hS : 2 ≤ vs.length → ∀ (h₁ : Heap) (a : Addr), h₁.get? a = some (seqObj "list" vs.toArray 0) → (∀ b o, s.heap.get? b = some o → b ≠ a ∧ h₁.get? b = some o) → SortableO prog w A.in1.in1 { s with heap := h₁ } a vs ltv)
    (h : ∀ out : List Value, Srtd ltv out → Stb ltv out vs → Q (.ref (s.heap.objs.size + 1)) { s with heap := sortedAll s.heap vs out.toArray }) :
    wpAny (model prog w) A (call (.builtin "sorted") [.ref l]) Q E s := by
  refine Calls.call_function_entry kind_sorted plain_sorted entry_sorted (args_sorted1 _) ?_
  unfold Builtin.«sorted»
  refine wpAny_bind (m := checkCount "sorted" 1 1 _) (wpAny_pure ?_)
  refine wpAny_bind (collect_b hl ?_ hz)
  refine wpAny_bind (wpAny_newList ?_ hz)
  have hsz : ((s.heap.push (seqObj "list" #[] 0)).update s.heap.objs.size (Obj.mapSeq (· ++ vs.toArray))).objs.size = s.heap.objs.size + 1 := by
    rw [Heap.size_update, size_push']
  have hoL : (((s.heap.push (seqObj "list" #[] 0)).update s.heap.objs.size (Obj.mapSeq (· ++ vs.toArray))).push (seqObj "list" vs.toArray 0)).get? (s.heap.objs.size + 1) = some (seqObj "list" vs.toArray 0) := by
    rw [← hsz]; exact Heap.get?_push_size _ rfl
  have keep : ∀ b o, s.heap.get? b = some o → b ≠ s.heap.objs.size + 1 ∧ (((s.heap.push (seqObj "list" #[] 0)).update s.heap.objs.size (Obj.mapSeq (· ++ vs.toArray))).push (seqObj "list" vs.toArray 0)).get? b = some o := fun b o q => by
    have hlt : b < s.heap.objs.size := Heap.lt_size q
    refine ⟨Nat.ne_of_lt (Nat.lt_succ_of_lt hlt), Heap.get?_push_of_some _ ?_⟩
    rw [Heap.get?_update_ne _ _ _ _ (Nat.ne_of_lt hlt)]
    exact Heap.get?_push_of_some _ q
  show wpAny _ _ _ _ _ { s with heap := ((s.heap.push (seqObj "list" #[] 0)).update s.heap.objs.size (Obj.mapSeq (· ++ vs.toArray))).push (seqObj "list" vs.toArray 0) }
  rw [hsz]
  refine wpAny_bind (wpAny_holding (wpAny_call_entry slot_list_sort ⟨_, hoL, rfl⟩ entry_list_sort (list_sort_ord O hoL hz (fun h2 => hS h2 _ _ hoL keep) fun out hs hb => ⟨_, rfl, ?_⟩) (args_list_sort _)))
  exact wpAny_pure ⟨_, rfl, h out hs hb⟩
end
def rSortedBI (K : PySem.W.Frag) : List V → Hp → VK → Prop := fun vs H Q => ∃ (t : Bool) (a : Addr) (ns : List Int), vs = [V.ref a] ∧ SqB t K H a (ns.map V.int) ∧
  ∀ (ns' : List Int) (p : Addr), ns'.Perm ns → ns'.Pairwise (· ≤ ·) → H p = none → Q (.ref p) (upd H p (.lst (ns'.map V.int)))
/-- items that are pairs of ints -/
def PrsAt (K : PySem.W.Frag) (H : Hp) : List V → List (Int × Int) → Prop := Paired fun x p => ∃ T, x = V.ref T ∧ TqN K H T [.int p.1, .int p.2]
def leP (p q : Int × Int) : Prop := p.1 < q.1 ∨ (p.1 = q.1 ∧ p.2 ≤ q.2)
def rSortedBP (K : PySem.W.Frag) : List V → Hp → VK → Prop := fun vs H Q => ∃ (t : Bool) (a : Addr) (xs : List V) (ps : List (Int × Int)), vs = [V.ref a] ∧ SqB t K H a xs ∧ PrsAt K H xs ps ∧
  ∀ (ys : List V) (qs : List (Int × Int)) (p : Addr), qs.Perm ps → qs.Pairwise leP → PrsAt K H ys qs → H p = none → Q (.ref p) (upd H p (.lst ys))
section
variable {X : Cx}
theorem cr_sortedBI : CallR X (.builtin "sorted") (rSortedBI X.K) := by
  intro pins s σ H vs us Q I r h
  obtain ⟨t, a, ns, rfl, hs, q⟩ := h
  obtain ⟨its, rv, hl, hz⟩ := inv_sq I hs
  rw [Vals.ref1 r]
  have hi := rv.ints
  refine sorted_ordB SrtO.swo_int hl (by rw [← rv.length]; exact hz) (fun h2 h₁ a' _ _ => SrtO.ints_sortable hi h2) fun out h1 h2 => ?_
  obtain ⟨k1, k2, k3⟩ := SrtO.ints_out hi h1 h2
  obtain ⟨ep, he'⟩ := PyProof.Rows.sortedAll_at s.heap its out.toArray
  have hlen : ((out.map SrtO.iv).map V.int).length ≤ sizeLine := by
    rw [List.length_map, k2.length_eq]
    rw [List.length_map] at hz
    exact hz
  exact ⟨.ref _, upd H (s.heap.objs.size + 1) (.lst ((out.map SrtO.iv).map V.int)), I.laid (t' := s.toks) (fun _ _ => PyProof.Rows.sortedAll_old) (Nat.le_succ _) ⟨hlen, out, ep, vals_of_ints k1, he'⟩, rfl, q _ _ k2 k3 (I.hok.fresh (Nat.le_succ _))⟩
theorem prs_refs {K : PySem.W.Frag} {H : Hp} : ∀ {xs : List V} {ps : List (Int × Int)}, PrsAt K H xs ps → ∀ x ∈ xs, ∃ p T, p ∈ ps ∧ x = V.ref T ∧ TqN K H T [.int p.1, .int p.2]
  | _, _, .nil, x, hx => by cases hx
  | _, _, .cons h t, x, hx => by
    rcases List.mem_cons.mp hx with rfl | hx
    · obtain ⟨T, e, q⟩ := h
      exact ⟨_, T, List.mem_cons_self .., e, q⟩
    · obtain ⟨p, T, m, e, q⟩ := prs_refs t x hx
      exact ⟨p, T, List.mem_cons_of_mem _ m, e, q⟩
/-- what stands at an item -/
noncomputable def keyAt (K : PySem.W.Frag) (H : Hp) (x : V) : Int × Int := open Classical in if h : ∃ p : Int × Int, ∃ T, x = V.ref T ∧ TqN K H T [.int p.1, .int p.2] then Classical.choose h else (0, 0)
theorem keyAt_eq {pins : List (Addr × Obj)} {σ : L2.St} {H : Hp} {s : Shared} (I : Inv X pins σ H s) {x : V} {p : Int × Int} {T : Addr} (e : x = V.ref T) (h : TqN X.K H T [.int p.1, .int p.2]) : keyAt X.K H x = p := by
  have hx : ∃ p : Int × Int, ∃ T, x = V.ref T ∧ TqN X.K H T [.int p.1, .int p.2] := ⟨p, T, e, h⟩
  unfold keyAt
  rw [dif_pos hx]
  obtain ⟨T', e', h'⟩ := Classical.choose_spec hx
  generalize Classical.choose hx = q at h' ⊢
  rw [e] at e'
  cases e'
  have := I.tuple_inj h.sq h'.sq
  injection this with a1 a2
  injection a2 with a2 _
  injection a1 with a1
  injection a2 with a2
  exact Prod.ext a1.symm a2.symm
theorem prs_map {pins : List (Addr × Obj)} {σ : L2.St} {H : Hp} {s : Shared} (I : Inv X pins σ H s) : ∀ {xs : List V} {ps : List (Int × Int)}, PrsAt X.K H xs ps → xs.map (keyAt X.K H) = ps
  | _, _, .nil => rfl
  | _, _, .cons ⟨T, e, q⟩ t => by rw [List.map_cons, keyAt_eq I e q, prs_map I t]
theorem prs_of {pins : List (Addr × Obj)} {σ : L2.St} {H : Hp} {s : Shared} (I : Inv X pins σ H s) : ∀ {xs : List V}, (∀ x ∈ xs, ∃ (p : Int × Int) (T : Addr), x = V.ref T ∧ TqN X.K H T [.int p.1, .int p.2]) → PrsAt X.K H xs (xs.map (keyAt X.K H))
  | [], _ => .nil
  | x :: xs, h => by
    obtain ⟨p, T, e, q⟩ := h x (List.mem_cons_self ..)
    refine .cons ⟨T, e, ?_⟩ (prs_of I fun y hy => h y (List.mem_cons_of_mem _ hy))
    rw [keyAt_eq I e q]; exact q
theorem cr_sortedBP : CallR X (.builtin "sorted") (rSortedBP X.K) := by
  intro pins s σ H vs us Q I r h
  obtain ⟨t, a, xs, ps, rfl, hs, hx, q⟩ := h
  obtain ⟨its, rv, hl, hz⟩ := inv_sq I hs
  obtain ⟨u, rfl, ru⟩ := vals1 r
  obtain rfl : u = Value.ref a := ru
  obtain ⟨e1, e2⟩ := refs_back rv fun x m => by
    obtain ⟨_, t, _, e, _⟩ := prs_refs hx x m
    exact ⟨t, e⟩
  have k := keyAt X.K H
  refine sorted_ordB (SrtO.swo_lex fun u => keyAt X.K H (backV u)) hl (by rw [← rv.length]; exact hz) (fun h2 h₁ a' ha kk => ?_) fun out h1 h2 => ?_
  · have hp : ∀ v ∈ its, Srt.IsPair s.heap v (keyAt X.K H (backV v)).1 (keyAt X.K H (backV v)).2 := fun v hv => by
      obtain ⟨t, rfl⟩ := e2 v hv
      have hm : V.ref t ∈ xs := by rw [e1]; exact List.mem_map.mpr ⟨_, hv, rfl⟩
      obtain ⟨p, T, _, e, ht⟩ := prs_refs hx _ hm
      cases e
      rw [show keyAt X.K H (backV (.ref t)) = p from keyAt_eq I rfl ht]
      obtain ⟨its2, r2, ⟨o, ho, hc, n, hd⟩, _⟩ := I.tuple ht.sq
      obtain ⟨u1, u2, rfl, ri, rj⟩ := vals2 r2
      obtain ⟨t1, rfl⟩ := ri
      obtain ⟨t2, rfl⟩ := rj
      exact ⟨t, o, t1, t2, n, rfl, ho, hc, hd⟩
    refine SrtO.pairs_sortableO (s := { s with heap := h₁ }) (by omega) (fun v hm => (hp v hm).keeps fun b o e _ => (kk b o e).2) fun o e => ?_
    have e' : some o = some (seqObj "list" its.toArray 0) := e.symm.trans ha
    cases e'
    intro c
    exact absurd (Value.type.inj c) (by decide)
  · have h3 : ∀ u ∈ out, ∃ a, u = Value.ref a := fun u hu => e2 u (h2.perm.mem_iff.mp hu)
    obtain ⟨ep, he'⟩ := PyProof.Rows.sortedAll_at s.heap its out.toArray
    have hpm : (out.map backV).Perm xs := by rw [e1]; exact h2.perm.map _
    have hat : PrsAt X.K H (out.map backV) ((out.map backV).map (keyAt X.K H)) := prs_of I fun x m => by
      obtain ⟨p, T, _, e, z⟩ := prs_refs hx x (hpm.mem_iff.mp m)
      exact ⟨p, T, e, z⟩
    refine ⟨.ref (s.heap.objs.size + 1), upd H (s.heap.objs.size + 1) (.lst (out.map backV)), I.laid (t' := s.toks) (fun _ _ => PyProof.Rows.sortedAll_old) (Nat.le_succ _) ⟨?_, out, ep, vals_back h3, he'⟩, rfl, q _ _ _ ?_ ?_ hat (I.hok.fresh (Nat.le_succ _))⟩
    · rw [hpm.length_eq]; exact hz
    · rw [← prs_map I hx]; exact hpm.map _
    · rw [List.map_map, List.pairwise_map]
      refine h1.imp fun {a b} z => ?_
      have z := SrtO.lexB_no.mp z
      show leP (keyAt X.K H (backV a)) (keyAt X.K H (backV b))
      unfold leP
      omega
end
/-! ### by plain values -/
def pairW (p : Int × Int) : W := .tup [.int p.1, .int p.2]
/-- sorted(..): ints of a list or a tuple, or pairs of ints -/
def fSorted2 : NOp := fun ws S K => match ws with
  | [x] => (∃ ns : List Int, SeqW S x (ns.map W.int) ∧ ∀ (ns' : List Int) (p : Addr), ns'.Perm ns → ns'.Pairwise (· ≤ ·) → S p = none → K (.ref p) (S.put p (.lst (ns'.map W.int)))) ∨
    ∃ ps : List (Int × Int), SeqW S x (ps.map pairW) ∧ ∀ (qs : List (Int × Int)) (p : Addr), qs.Perm ps → qs.Pairwise leP → S p = none → K (.ref p) (S.put p (.lst (qs.map pairW)))
  | _ => False
theorem rvs_prs {K : PySem.W.Frag} {H : Hp} : ∀ {ps : List (Int × Int)} {vs : List V}, RVs K H (ps.map pairW) vs → PrsAt K H vs ps
  | [], _, r => by cases r; exact .nil
  | p :: ps, _, r => by
    cases r with
    | cons h t =>
      refine .cons ?_ (rvs_prs t)
      cases h with
      | tup hq r =>
        cases r with
        | cons r1 r =>
          cases r with
          | cons r2 r =>
            cases r
            cases r1; cases r2
            exact ⟨_, rfl, hq⟩
theorem prs_rvs {K : PySem.W.Frag} {H : Hp} : ∀ {ps : List (Int × Int)} {vs : List V}, PrsAt K H vs ps → RVs K H (ps.map pairW) vs
  | _, _, .nil => .nil
  | _, _, .cons ⟨T, e, q⟩ t => by subst e; exact .cons (.tup q (.cons (.int _) (.cons (.int _) .nil))) (prs_rvs t)
def rSorted2 (K : PySem.W.Frag) : List V → Hp → VK → Prop := fun vs H Q => rSortedBI K vs H Q ∨ rSortedBP K vs H Q
theorem o_sorted2 {c : Cst} : OpN c (rSorted2 c.K) fSorted2 := fun ws vs H S Kk Q rs r h po => by
  unfold fSorted2 at h
  split at h
  · obtain ⟨v, rfl, rx⟩ := rvs1 r
    rcases h with ⟨ns, h, k⟩ | ⟨ps, h, k⟩
    · obtain ⟨t, a, xs, rfl, q1, r1, _⟩ := seq_b rs rx h
      rw [rvs_map (g := V.int) (fun x v r => by cases r; rfl) r1] at q1
      exact .inl ⟨t, a, ns, rfl, q1, fun ns' p h1 h2 hp => po _ _ _ _ (k ns' p h1 h2 (rs.fresh hp)) (.new hp) (rs.new hp (.lst (rvs_ints ns'))) (.ref p)⟩
    · obtain ⟨t, a, xs, rfl, q1, r1, _⟩ := seq_b rs rx h
      exact .inr ⟨t, a, xs, ps, rfl, q1, rvs_prs r1, fun ys qs p h1 h2 h3 hp => po _ _ _ _ (k qs p h1 h2 (rs.fresh hp)) (.new hp) (rs.new hp (.lst (prs_rvs h3))) (.ref p)⟩
  · exact h.elim

/-! ### x.count(y), x.index(y) of flat items -/
theorem count_vals {y : V} : ∀ {ys : List V} {its : List Value}, Vals ys its → ys.all flatV = true → its.countP (eqU y) = ys.countP (fun z => eqV z y)
  | _, _, .nil, _ => rfl
  | z :: ys, u :: its, .cons r t, f => by
    rw [List.all_cons, Bool.and_eq_true] at f
    rw [List.countP_cons, List.countP_cons, count_vals t f.2, eqU_of r f.1]
def rCntB (t : Bool) (K : PySem.W.Frag) : V → List V → Hp → VK → Prop := fun x xs H Q => ∃ p ys y, x = .ref p ∧ xs = [y] ∧ SqB t K H p ys ∧ flatV y = true ∧ ys.all flatV = true ∧ Q (.int (ys.countP (fun z => eqV z y) : Nat)) H
section
variable {X : Cx}
theorem mt_lcountB : MtR X "list.count" (rCntB false X.K) := by
  intro pins s σ H x xs v us Q I rx rxs h
  obtain ⟨p, ys, y, rfl, rfl, hs, fy, fys, q⟩ := h
  cases rx
  obtain ⟨u, rfl, ru⟩ := vals1 rxs
  obtain ⟨its, rv, ⟨⟨cls, dd, data, sl⟩, n, ho, hc, hdn, hd⟩, hlen⟩ := I.list hs
  simp only at hc hd
  subst hc hd
  refine call_meets PySem.F.slot_list_count ⟨_, ho, rfl⟩ PySem.F.entry_list_count (PySem.F.args_list_count_2 _ _)
    (SeqAt.list_countAt p its.toArray n dd sl u (eqU y)) ⟨ho, fun w hw => mem_eqAt ru fy rv fys w (by simpa using hw), ?_⟩
  refine ⟨.int (ys.countP (fun z => eqV z y) : Nat), H, I.tok _, ⟨s.toks, ?_⟩, q⟩
  show Value.int ((its.toArray.toList.countP (eqU y) : Nat) : Int) s.toks = Value.int ((ys.countP (fun z => eqV z y) : Nat) : Int) s.toks
  rw [show its.toArray.toList = its from rfl, count_vals rv fys]
theorem mt_tcountB : MtR X "tuple.count" (rCntB true X.K) := by
  intro pins s σ H x xs v us Q I rx rxs h
  obtain ⟨p, ys, y, rfl, rfl, hs, fy, fys, q⟩ := h
  cases rx
  obtain ⟨u, rfl, ru⟩ := vals1 rxs
  obtain ⟨its, rv, ⟨⟨cls, dd, data, sl⟩, ho, hc, n, hd⟩, hlen⟩ := I.tuple hs
  simp only at hc hd
  subst hc hd
  refine call_meets PySem.F.slot_tuple_count ⟨_, ho, rfl⟩ PySem.F.entry_tuple_count (PySem.F.args_tuple_count_2 _ _)
    (SeqAt.tuple_countAt p its.toArray n dd sl u (eqU y)) ⟨ho, fun w hw => mem_eqAt ru fy rv fys w (by simpa using hw), ?_⟩
  refine ⟨.int (ys.countP (fun z => eqV z y) : Nat), H, I.tok _, ⟨s.toks, ?_⟩, q⟩
  show Value.int ((its.toArray.toList.countP (eqU y) : Nat) : Int) s.toks = Value.int ((ys.countP (fun z => eqV z y) : Nat) : Int) s.toks
  rw [show its.toArray.toList = its from rfl, count_vals rv fys]
def rIndexT (K : PySem.W.Frag) : V → List V → Hp → VK → Prop := fun x xs H Q => ∃ (a : Addr) (ys : List V) (y : V) (j : Nat) (z : V), x = V.ref a ∧ xs = [y] ∧ SqT K H a ys ∧ flatV y = true ∧ ys.all flatV = true ∧ ys[j]? = some z ∧ eqV z y = true ∧
  (∀ (m : Nat) (z' : V), m < j → ys[m]? = some z' → eqV z' y = false) ∧ Q (.int (j : Nat)) H
theorem mt_tindexB : MtR X "tuple.index" (rIndexT X.K) := by
  intro pins s σ H x xs v us Q I rx rxs h
  obtain ⟨a, ys, y, j, z, rfl, rfl, hs, fy, fys, hz, hzj, hno, q⟩ := h
  cases rx
  obtain ⟨uy, rfl, ry⟩ := vals1 rxs
  obtain ⟨its, rv, ⟨⟨cls, dd, data, sl⟩, ho, hc, n, hd⟩, hlen⟩ := I.tuple hs
  simp only at hc hd
  subst hc hd
  obtain ⟨u, hu, ru⟩ := rv.get hz
  obtain ⟨hjl, hje⟩ := List.getElem?_eq_some_iff.mp hu
  have hvl := rv.length
  have hj : j < its.toArray.size := by simpa using hjl
  refine call_meets PySem.F.slot_tuple_index ⟨_, ho, rfl⟩ PySem.F.entry_tuple_index (PySem.F.args_tuple_index_2 _ _)
    (TI.tuple_indexAt a its.toArray n dd sl uy (eqU y) j hj ?_ ?_) ⟨ho, fun u' hu' => mem_eqAt ry fy rv fys u' (by simpa using hu'), ?_⟩
  · have e1 : its.toArray[j] = u := by simpa using hje
    rw [e1, eqU_of ru (flat_at fys hz)]
    exact hzj
  · intro m hm hmj
    have hml : m < its.length := by simpa using hm
    have hmy : m < ys.length := by omega
    have hy' : ys[m]? = some ys[m] := List.getElem?_eq_getElem hmy
    obtain ⟨u2, hu2, ru2⟩ := rv.get hy'
    obtain ⟨_, hme⟩ := List.getElem?_eq_some_iff.mp hu2
    have e1 : its.toArray[m] = u2 := by simpa using hme
    rw [e1, eqU_of ru2 (flat_at fys hy')]
    exact hno m _ hmj hy'
  · exact ⟨.int (j : Nat), H, I.tok _, ⟨_, rfl⟩, q⟩
end
def fCountL : MOp := fun x ws S K => match x, ws with
  | .ref a, [y] => ∃ xs, Lw S a xs ∧ flat y = true ∧ xs.all flat = true ∧ K (.int (xs.countP (fun w => eqF w y) : Nat)) S
  | _, _ => False
def fCountT : MOp := fun x ws S K => match x, ws with
  | .tup xs, [y] => flat y = true ∧ xs.all flat = true ∧ K (.int (xs.countP (fun w => eqF w y) : Nat)) S
  | _, _ => False
def fIndexL : MOp := fun x ws S K => match x, ws with
  | .ref a, [y] => ∃ xs j z, Lw S a xs ∧ flat y = true ∧ xs.all flat = true ∧ xs[j]? = some z ∧ eqF z y = true ∧ (∀ (m : Nat) z', m < j → xs[m]? = some z' → eqF z' y = false) ∧ K (.int (j : Nat)) S
  | _, _ => False
def fIndexT : MOp := fun x ws S K => match x, ws with
  | .tup xs, [y] => ∃ j z, flat y = true ∧ xs.all flat = true ∧ xs[j]? = some z ∧ eqF z y = true ∧ (∀ (m : Nat) z', m < j → xs[m]? = some z' → eqF z' y = false) ∧ K (.int (j : Nat)) S
  | _, _ => False
def fIndexS : MOp := fun x ws S K => match x, ws with
  | .str a, [.str b] => ∃ i rest, Builtin.Str.occurrences a b 0 a.length 1 = i :: rest ∧ K (.int (i : Nat)) S
  | _, _ => False
theorem rvs_count {K : PySem.W.Frag} {H : Hp} {y : W} {v : V} (ry : RV K H y v) (fy : flat y = true) : ∀ {xs : List W} {vs : List V}, RVs K H xs vs → xs.all flat = true → vs.countP (fun z => eqV z v) = xs.countP (fun w => eqF w y)
  | _, _, .nil, _ => rfl
  | x :: xs, u :: vs, .cons r t, f => by
    rw [List.all_cons, Bool.and_eq_true] at f
    rw [List.countP_cons, List.countP_cons, rvs_count ry fy t f.2, rv_eqF r ry f.1 fy]
theorem rvs_find {K : PySem.W.Frag} {H : Hp} {y z : W} {v : V} {xs : List W} {vs : List V} {j : Nat} (ry : RV K H y v) (fy : flat y = true) (r : RVs K H xs vs) (f : xs.all flat = true) (hz : xs[j]? = some z) (e : eqF z y = true) (no : ∀ (m : Nat) z', m < j → xs[m]? = some z' → eqF z' y = false) :
    ∃ z', vs[j]? = some z' ∧ eqV z' v = true ∧ ∀ (m : Nat) z', m < j → vs[m]? = some z' → eqV z' v = false := by
  obtain ⟨z', h1, h2⟩ := r.get' hz
  refine ⟨z', h1, by rw [rv_eqF h2 ry (List.all_eq_true.mp f z (List.mem_of_getElem? hz)) fy]; exact e, fun m u hm hu => ?_⟩
  obtain ⟨w, h3, h4⟩ := r.get hu
  rw [rv_eqF h4 ry (List.all_eq_true.mp f w (List.mem_of_getElem? h3)) fy]
  exact no m w hm h3
theorem mo_countL {c : Cst} : OpM c ⟨"list", fCountL⟩ ⟨"list", "list.count", rCntB false c.K⟩ := ⟨rfl, fun x ws u vs H S Kk Q rs rx r h po => by
  simp only [fCountL] at h
  split at h
  · cases rx
    obtain ⟨v, rfl, ry⟩ := rvs1 r
    obtain ⟨xs, l, fy, fx, k⟩ := h
    obtain ⟨us, hq, rr⟩ := rs.list l
    exact ⟨_, us, v, rfl, rfl, hq, rv_flat ry fy, rvs_flat rr fx, by rw [rvs_count ry fy rr fx]; exact po _ _ _ _ k .refl rs (.int _)⟩
  · exact h.elim⟩
theorem mo_countT {c : Cst} : OpM c ⟨"tuple", fCountT⟩ ⟨"tuple", "tuple.count", rCntB true c.K⟩ := ⟨rfl, fun x ws u vs H S Kk Q rs rx r h po => by
  simp only [fCountT] at h
  split at h
  · cases rx with
    | tup hq rr =>
      obtain ⟨v, rfl, ry⟩ := rvs1 r
      obtain ⟨fy, fx, k⟩ := h
      exact ⟨_, _, v, rfl, rfl, hq.sq, rv_flat ry fy, rvs_flat rr fx, by rw [rvs_count ry fy rr fx]; exact po _ _ _ _ k .refl rs (.int _)⟩
  · exact h.elim⟩
theorem mo_indexL {c : Cst} : OpM c ⟨"list", fIndexL⟩ ⟨"list", "list.index", rIndex c.K⟩ := ⟨rfl, fun x ws u vs H S Kk Q rs rx r h po => by
  simp only [fIndexL] at h
  split at h
  · cases rx
    obtain ⟨v, rfl, ry⟩ := rvs1 r
    obtain ⟨xs, j, z, l, fy, fx, hz, e, no, k⟩ := h
    obtain ⟨us, hq, rr⟩ := rs.list l
    obtain ⟨z', h1, h2, h3⟩ := rvs_find ry fy rr fx hz e no
    exact ⟨_, us, v, j, z', rfl, rfl, hq, rv_flat ry fy, rvs_flat rr fx, h1, h2, h3, po _ _ _ _ k .refl rs (.int _)⟩
  · exact h.elim⟩
theorem mo_indexT {c : Cst} : OpM c ⟨"tuple", fIndexT⟩ ⟨"tuple", "tuple.index", rIndexT c.K⟩ := ⟨rfl, fun x ws u vs H S Kk Q rs rx r h po => by
  simp only [fIndexT] at h
  split at h
  · cases rx with
    | tup hq rr =>
      obtain ⟨v, rfl, ry⟩ := rvs1 r
      obtain ⟨j, z, fy, fx, hz, e, no, k⟩ := h
      obtain ⟨z', h1, h2, h3⟩ := rvs_find ry fy rr fx hz e no
      exact ⟨_, _, v, j, z', rfl, rfl, hq.sq, rv_flat ry fy, rvs_flat rr fx, h1, h2, h3, po _ _ _ _ k .refl rs (.int _)⟩
  · exact h.elim⟩
def rIndexS : V → List V → Hp → VK → Prop := fun x xs H Q => ∃ a b i rest, x = .str a ∧ xs = [.str b] ∧ Builtin.Str.occurrences a b 0 a.length 1 = i :: rest ∧ Q (.int (i : Nat)) H
theorem mo_indexS {c : Cst} : OpM c ⟨"str", fIndexS⟩ ⟨"str", "str.index", rIndexS⟩ := ⟨rfl, fun x ws u vs H S Kk Q rs rx r h po => by
  simp only [fIndexS] at h
  split at h
  · cases rx
    obtain ⟨v, rfl, ry⟩ := rvs1 r
    cases ry
    obtain ⟨i, rest, e, k⟩ := h
    exact ⟨_, _, i, rest, rfl, rfl, e, po _ _ _ _ k .refl rs (.int _)⟩
  · exact h.elim⟩
theorem ml_countL : Mth "list" "count" "list.count" := ⟨PySem.F.plainAttrs_list, PySem.F.slot_list_count, PySem.F.type_list_count⟩
theorem ml_countT : Mth "tuple" "count" "tuple.count" := ⟨PySem.F.plainAttrs_tuple, PySem.F.slot_tuple_count, PySem.F.type_tuple_count⟩
theorem ml_indexL : Mth "list" "index" "list.index" := ⟨PySem.F.plainAttrs_list, PySem.F.slot_list_index, PySem.F.type_list_index⟩
theorem ml_indexT : Mth "tuple" "index" "tuple.index" := ⟨PySem.F.plainAttrs_tuple, PySem.F.slot_tuple_index, PySem.F.type_tuple_index⟩
theorem ml_indexS : Mth "str" "index" "str.index" := ⟨PySem.F.plainAttrs_str, PySem.F.slot_str_index, PySem.F.type_str_index⟩

/-! ### list(range(..)), tuple(range(..)) -/
def lrgK (t : Bool) (ws : List W) (S : Sto) (Kk : WK) : Prop := match t with
  | true => Kk (.tup ws) S
  | false => ∀ p, S p = none → Kk (.ref p) (S.put p (.lst ws))
def mLrg1 (t : Bool) (a : WE) : WE := fun ρ S Kk Ek => a ρ S (fun x S1 => match x with
  | .int n => RgOk 0 n ∧ lrgK t (rgList 0 1 n.toNat) S1 Kk
  | _ => False) Ek
def mLrg2 (t : Bool) (a b : WE) : WE := fun ρ S Kk Ek => a ρ S (fun x S1 => b ρ S1 (fun y S2 => match x, y with
  | .int m, .int n => RgOk m n ∧ lrgK t (rgList m 1 (n - m).toNat) S2 Kk
  | _, _ => False) Ek) Ek
theorem rvs_rg {K : PySem.W.Frag} {H : Hp} (a : Int) : ∀ (l : List Nat), RVs K H (l.map fun i => W.int (a + (i : Nat) * 1)) (l.map fun i => V.int (a + (i : Nat)))
  | [] => .nil
  | i :: l => by
    have e : a + (i : Nat) * 1 = a + ((i : Nat) : Int) := by omega
    rw [List.map_cons, List.map_cons, e]
    exact .cons (.int _) (rvs_rg a l)
section
variable {X : Cx} {c : Cst} {Wx : WX}
def rgN : Bool → Str
  | true => "tuple"
  | false => "list"
theorem s_lrg1 {t : Bool} {e : Expr} {a : WE} {p p2 pos pos2 : Pos} (hc : X.calm = true) (hg : Gl X (rgN t)) (hm : X.mg (rgN t) = none) (hg2 : Gl X "range") (hm2 : X.mg "range" = none) (ha : PE X e (tE c Wx a)) (na : starEach [e] X.env = [(false, eval e X.env)]) :
    PE X (.Call (.Name (rgN t) p) [.Call (.Name "range" p2) [e] [] pos2] [] pos) (tE c Wx (mLrg1 t a)) := by
  cases t with
  | false =>
    refine PE.imp (pe_listRg hc hg hm (prg_1 hg2 hm2 ha na) rfl) fun σ H Q q => ?_
    obtain ⟨ρ, S, Kk, Ek, re, rs, hm, po, px⟩ := q
    refine ⟨ρ, S, _, Ek, re, rs, hm, fun x S1 H1 u k1 e1 rs1 rx => ?_, px⟩
    cases rx with
    | int n =>
      refine ⟨n, rfl, k1.1, fun q hq => po _ _ _ _ (k1.2 q (rs1.fresh hq)) (e1.trans (.new hq)) (rs1.new hq (.lst ?_)) (.ref q)⟩
      have := rvs_rg (K := c.K) (H := H1) 0 (List.range n.toNat)
      unfold rgList rgV
      rw [Int.sub_zero]
      exact this
    | _ => exact (show False from k1).elim
  | true =>
    refine PE.imp (pe_tupRgN hc hg hm (prg_1 hg2 hm2 ha na) rfl) fun σ H Q q => ?_
    obtain ⟨ρ, S, Kk, Ek, re, rs, hm, po, px⟩ := q
    refine ⟨ρ, S, _, Ek, re, rs, hm, fun x S1 H1 u k1 e1 rs1 rx => ?_, px⟩
    cases rx with
    | int n =>
      refine ⟨n, rfl, k1.1, fun q o hq hc hd => po _ _ _ _ k1.2 (e1.trans (.tup hq)) (rs1.tup hq) (.tup (.new hc hd) (RVs.tst (tst_upd_new hq) ?_))⟩
      have := rvs_rg (K := c.K) (H := H1) 0 (List.range n.toNat)
      unfold rgList rgV
      rw [Int.sub_zero]
      exact this
    | _ => exact (show False from k1).elim
theorem s_lrg2 {t : Bool} {e e2 : Expr} {a b : WE} {p p2 pos pos2 : Pos} (hc : X.calm = true) (hg : Gl X (rgN t)) (hm : X.mg (rgN t) = none) (hg2 : Gl X "range") (hm2 : X.mg "range" = none) (ha : PE X e (tE c Wx a)) (hb : PE X e2 (tE c Wx b)) (na : starEach [e, e2] X.env = (false, eval e X.env) :: starEach [e2] X.env) (nb : starEach [e2] X.env = [(false, eval e2 X.env)]) :
    PE X (.Call (.Name (rgN t) p) [.Call (.Name "range" p2) [e, e2] [] pos2] [] pos) (tE c Wx (mLrg2 t a b)) := by
  have hp : (backTo pos2 (starEach [e2] X.env)).any (·.1) = false := by rw [nb]; rfl
  cases t with
  | false =>
    refine PE.imp (pe_listRg hc hg hm (prg_2 hg2 hm2 ha hb na nb hp) rfl) fun σ H Q q => ?_
    obtain ⟨ρ, S, Kk, Ek, re, rs, hm, po, px⟩ := q
    refine ⟨ρ, S, _, Ek, re, rs, hm, fun x S1 H1 u k1 e1 rs1 rx => ?_, px⟩
    refine ⟨ρ, S1, _, Ek, re.tst (e1.tst rs), rs1, k1, fun y S2 H2 v k2 e2 rs2 ry => ?_, px.on e1⟩
    cases rx with
    | int m =>
      cases ry with
      | int n => exact ⟨m, n, rfl, rfl, k2.1, fun q hq => po _ _ _ _ (k2.2 q (rs2.fresh hq)) ((e1.trans e2).trans (.new hq)) (rs2.new hq (.lst (rvs_rg m _))) (.ref q)⟩
      | _ => exact (show False from k2).elim
    | _ => cases ry <;> exact (show False from k2).elim
  | true =>
    refine PE.imp (pe_tupRgN hc hg hm (prg_2 hg2 hm2 ha hb na nb hp) rfl) fun σ H Q q => ?_
    obtain ⟨ρ, S, Kk, Ek, re, rs, hm, po, px⟩ := q
    refine ⟨ρ, S, _, Ek, re, rs, hm, fun x S1 H1 u k1 e1 rs1 rx => ?_, px⟩
    refine ⟨ρ, S1, _, Ek, re.tst (e1.tst rs), rs1, k1, fun y S2 H2 v k2 e2 rs2 ry => ?_, px.on e1⟩
    cases rx with
    | int m =>
      cases ry with
      | int n => exact ⟨m, n, rfl, rfl, k2.1, fun q o hq hc hd => po _ _ _ _ k2.2 ((e1.trans e2).trans (.tup hq)) (rs2.tup hq) (.tup (.new hc hd) (RVs.tst (tst_upd_new hq) (rvs_rg m _)))⟩
      | _ => exact (show False from k2).elim
    | _ => cases ry <;> exact (show False from k2).elim
end

/-! ### t[::-1] -/
section
variable {prog : Program} {w : World} {A : Around} {E : Value → Shared → Prop} {s : Shared}
theorem rev_pick (xs : Array Value) : ((List.range xs.size).filterMap fun (k : Nat) => xs[(((xs.size : Int) - 1) + (k : Int) * (-1)).toNat]?).toArray = xs.toList.reverse.toArray := by
  have e : (List.range xs.size).filterMap (fun (k : Nat) => xs[(((xs.size : Int) - 1) + (k : Int) * (-1)).toNat]?) = ((List.range xs.size).map fun k => xs.size - 1 - k).filterMap (xs[·]?) := by
    rw [List.filterMap_map]
    congr 1
    funext k
    have e2 : (((xs.size : Int) - 1) + (k : Int) * (-1)).toNat = xs.size - 1 - k := by omega
    show xs[(((xs.size : Int) - 1) + (k : Int) * (-1)).toNat]? = xs[xs.size - 1 - k]?
    rw [e2]
  rw [e, PySem.W.krv_range, List.filterMap_reverse, PySem.W.krv_all]
theorem sliceApplied_rev {sl : Addr} {vl vu vs : Value} {n : Nat} {Q : Int × Int × Nat → Shared → Prop} (hs : s.heap.IsSliceOf sl vl vu vs) (pl : IsPart vl none) (pu : IsPart vu none) (ps : IsPart vs (some (-1)))
    (h : Q ((n : Int) - 1, -1, n) s) : wpAny (model prog w) A (Builtin.Slice.sliceApplied (.ref sl) (pure (n : Int))) Q E s := by
  obtain ⟨os, hos, hcs, hds⟩ := id hs
  unfold Builtin.Slice.sliceApplied Builtin.Slice.sliceFields
  refine wpAny_bind (wpAny_bind (wpAny_field hos hds (x := vl) rfl (wpAny_bind (wpAny_field hos hds (x := vu) rfl (wpAny_bind (wpAny_field hos hds (x := vs) rfl (wpAny_pure ?_)))))))
  refine wpAny_bind (HT.slicePart_ ps ?_)
  show wpAny _ _ (if ((-1 : Int) == 0) = true then _ else _) _ _ s
  rw [if_neg (by decide)]
  refine wpAny_bind (HT.slicePart_ pl (wpAny_bind (HT.slicePart_ pu (wpAny_bind (wpAny_pure ?_)))))
  show wpAny _ _ (pure (((n : Int) - 1), (-1 : Int), Builtin.Slice.slicePlaces ((n : Int) - 1) (-1) (-1))) _ _ s
  have e : Builtin.Slice.slicePlaces ((n : Int) - 1) (-1) (-1) = n := by
    unfold Builtin.Slice.slicePlaces
    rw [if_neg (by decide)]
    have e1 : (-(-1) : Int) = 1 := by decide
    rw [e1, Int.ediv_one]
    split <;> omega
  rw [e]
  exact wpAny_pure h
open HT in
theorem getItem_tuple_rev {t sl : Addr} {items : Array Value} {vl vu vs : Value} {Q : Value → Shared → Prop} (ht : IsTup s.heap t items) (hs : s.heap.IsSliceOf sl vl vu vs) (pl : IsPart vl none) (pu : IsPart vu none) (ps : IsPart vs (some (-1)))
    (h : Q (.ref s.heap.objs.size) { s with heap := s.heap.push { cls := .type "tuple", data := .seq items.toList.reverse.toArray } })
    (hsz : items.size ≤ sizeLine) : wpAny (model prog w) A (getItem (.ref t) (.ref sl)) Q E s := by
  have htake : sizeOk (.seq items.toList.reverse.toArray) := by
    show items.toList.reverse.toArray.size ≤ sizeLine
    rw [List.size_toArray, List.length_reverse, Array.length_toList]
    exact hsz
  obtain ⟨os, hos, hcs, hds⟩ := id hs
  have hTs : s.TypeIs (.ref sl) "slice" := ⟨os, hos, hcs⟩
  unfold getItem
  try with_reducible refine wpAny_holding ?_
  first | refine wpAny_bind (wpAny_pure ?_) | skip
  refine wpAny_bind (wpAny_sequenceKey ht.typeIs (by decide) ?_)
  refine wpAny_bind (wpAny_callSpecial?_slot (name := Str.ofString "__getitem__") ht.typeIs PyProof.Rows.slot_tuple_getitem
    (wpAny_call_entry PyProof.Rows.slot_tuple_getitem ht.typeIs entry_tuple_getitem ?_ (args_tuple_getitem _ _)))
  show wpAny _ _ (Builtin.Tuple.tupleItemsOf (.ref t) >>= _) _ _ s
  refine wpAny_bind (tupleItemsOf_ ht ?_)
  refine wpAny_bind (wpAny_typeOf hTs ?_)
  rw [if_pos (by decide)]
  refine wpAny_bind (sliceApplied_rev hs pl pu ps ?_)
  have hno : ¬ ((((items.size : Int) - 1) == 0 && (-1 : Int) == 1 && items.size == items.size) = true) := by
    intro q
    rw [Bool.and_eq_true, Bool.and_eq_true] at q
    exact absurd q.1.2 (by decide)
  show wpAny _ _ (if ((((items.size : Int) - 1) == 0 && (-1 : Int) == 1 && items.size == items.size) = true) then _ else _) _ _ s
  rw [if_neg hno, rev_pick]
  first
    | exact wpAny_bind (m := Builtin.Tuple.tupleExact _) (wpAny_newObj_type (wpAny_pure ⟨_, rfl, wpAny_pure h⟩) htake)
    | exact wpAny_bind (m := Builtin.Tuple.tupleExact _) (wpAny_newObj_type (wpAny_bind (wpAny_pure (wpAny_pure ⟨_, rfl, wpAny_pure h⟩))) htake)
    | exact wpAny_bind (wpAny_bind (m := Builtin.Tuple.tupleExact _) (wpAny_newObj_type (wpAny_pure (wpAny_pure ⟨_, rfl, wpAny_pure h⟩)) htake))
    | exact wpAny_bind (wpAny_bind (m := Builtin.Tuple.tupleExact _) (wpAny_newObj_type (wpAny_pure ⟨_, rfl, wpAny_pure h⟩) htake))
end
def tRevB (K : PySem.W.Frag) (te : TE) : TE := fun σ H Q => te σ H fun x H1 => ∃ a xs, x = .ref a ∧ ((SqL K H1 a xs ∧ ∀ p, H1 p = none → Q (.ref p) (upd H1 p (.lst xs.reverse))) ∨ (SqT K H1 a xs ∧ FrT H1 Q xs.reverse))
section
variable {X : Cx} {c : Cst} {Wx : WX}
theorem pe_revB {e : Expr} {te : TE} {k : Nat} {p1 p2 p3 pos : Pos} (he : PE X e te) : PE X (.Subscript e (.Slice none none (some (.UnaryOp .USub (.Constant (.int 1) k p1) p2)) p3) pos) (tRevB X.K te) := by
  refine ⟨fun pins s σ H Q I h => ?_⟩
  refine Subscript_ (thn (he.run pins s σ H _ I h) fun v s1 ⟨x, H1, I1, r1, q1⟩ => ?_)
  obtain ⟨a, xs, ex, q1⟩ := q1
  subst ex
  cases r1
  have hst : PO X (some (.UnaryOp .USub (.Constant (.int 1) k p1) p2)) (tPart (tUn (rU fun i => .int (-i)) (tC (.int 1)))) := po_some (pe_un un_neg pe_int)
  refine wpAny_Slice (thn (po_none.run pins s1 σ H1 (fun o H2 => o = none ∧ H2 = H1) I1 ⟨rfl, rfl⟩) fun vl s2 ⟨l, H2, I2, pl, el, e2⟩ => ?_)
  subst el e2
  refine thn (po_none.run pins s2 σ H2 (fun o H3 => o = none ∧ H3 = H2) I2 ⟨rfl, rfl⟩) fun vu s3 ⟨u, H3, I3, pu, eu, e3⟩ => ?_
  subst eu e3
  refine thn (hst.run pins s3 σ H3 (fun o H4 => o = some (-1) ∧ H4 = H3) I3 ⟨1, rfl, -1, rfl, rfl, rfl⟩) fun vs s4 ⟨o, H4, I4, ps, eo, e4⟩ => ?_
  subst eo e4
  have I5 : Inv X pins σ H4 { s4 with heap := s4.heap.push { cls := .type "slice", data := .fields #[vl, vu, vs] } } := I4.kept (t' := s4.toks) fun b ob q => Heap.get?_push_of_some _ q
  show wpAny (model X.prog X.w) X.A (subscriptTail e (.Slice none none (some (.UnaryOp .USub (.Constant (.int 1) k p1) p2)) p3) (.ref a) (.ref s4.heap.objs.size)) (EP X pins σ Q) X.xe { s4 with heap := s4.heap.push { cls := .type "slice", data := .fields #[vl, vu, vs] } }
  rcases q1 with ⟨hx, q⟩ | ⟨hx, q⟩
  · obtain ⟨its, r, ht, hz⟩ := I5.list hx
    have hlen := r.length
    refine tail_any (ops := [.ref a, .ref s4.heap.objs.size]) ht.isList.typeIs (PySem.slot_list_getitem.lookup) ?_ (by with_unfolding_all rfl)
    refine wpAny_getItem_list_slice ht.isList (Heap.IsSliceOf.new _ vl vu vs) pl pu ps (by decide) ?_ (by rw [List.size_toArray]; omega)
    rw [PySem.W.krv_pick]
    refine ⟨.ref _, _, I5.laid (t' := s4.toks) (o := .lst xs.reverse) (fun b ob q => Heap.get?_push_of_some _ q) (Nat.le_refl _) ?_, rfl, q _ (I5.hok.fresh (Nat.le_refl _))⟩
    exact ⟨by rw [List.length_reverse]; exact hz, _, 0, r.reverse, Heap.get?_push_size _ rfl⟩
  · obtain ⟨its, r, ht, hz⟩ := I5.tuple hx
    have hlen := r.length
    refine tail_any (ops := [.ref a, .ref s4.heap.objs.size]) ht.typeIs (PyProof.Rows.slot_tuple_getitem.lookup) ?_ (by with_unfolding_all rfl)
    refine getItem_tuple_rev ht (Heap.IsSliceOf.new _ vl vu vs) pl pu ps ?_ (by rw [List.size_toArray]; omega)
    exact frT (t := s4.toks) I5 r.reverse (by rw [List.length_reverse]; exact hz) q
def uRev2 : UOp := fun x S K => match x with
  | .ref a => ∃ ws, Lw S a ws ∧ ∀ p, S p = none → K (.ref p) (S.put p (.lst ws.reverse))
  | .tup ws => K (.tup ws.reverse) S
  | _ => False
theorem s_rev2 {e : Expr} {a : WE} {k : Nat} {p1 p2 p3 pos : Pos} (hK : c.K = X.K) (ha : PE X e (tE c Wx a)) : PE X (.Subscript e (.Slice none none (some (.UnaryOp .USub (.Constant (.int 1) k p1) p2)) p3) pos) (tE c Wx (mUn uRev2 a)) :=
  PE.imp (pe_revB ha) fun σ H Q q => by
    obtain ⟨ρ, S, Kk, Ek, re, rs, hm, po, px⟩ := q
    refine ⟨ρ, S, _, Ek, re, rs, hm, fun x S1 H1 u k1 e1 rs1 rx => ?_, px⟩
    cases rx with
    | ref a =>
      obtain ⟨ws, l, k⟩ := k1
      obtain ⟨vs, hq, r⟩ := rs1.list l
      exact ⟨a, vs, rfl, .inl ⟨by rw [← hK]; exact hq, fun p hp => po _ _ _ _ (k p (rs1.fresh hp)) (e1.trans (.new hp)) (rs1.new hp (.lst r.rev)) (.ref p)⟩⟩
    | tup hq r => exact ⟨_, _, rfl, .inr ⟨by rw [← hK]; exact hq.sq, fun p o hp hc hd => po _ _ _ _ k1 (e1.trans (.tup hp)) (rs1.tup hp) (.tup (.new hc hd) (r.rev.tst (tst_upd_new hp)))⟩⟩
    | _ => exact (show False from k1).elim
end
end Dp
namespace Dp
open PySem PySem.Spec L2
open PyProof.Rows hiding St

/-! ### statements -/
structure Ew where
  nx : Ro → Sto → Prop
  rt : WK
  bk : Ro → Sto → Prop
  ct : Ro → Sto → Prop
  ex : EK
abbrev WS := Ew → Ro → Sto → Prop
structure RD (c : Cst) (Wx : WX) (D : Ends) (E : Ew) (H : Hp) (S : Sto) : Prop where
  nx : ∀ ρ' S' σ' H', E.nx ρ' S' → Ext H S H' S' → RE c.K H' ρ' σ' → RS c.K H' S' → D.nx σ' H'
  rt : ∀ w S' H' v, E.rt w S' → Ext H S H' S' → RS c.K H' S' → RV c.K H' w v → D.rt v H'
  bk : ∀ ρ' S' σ' H', E.bk ρ' S' → Ext H S H' S' → RE c.K H' ρ' σ' → RS c.K H' S' → D.bk σ' H'
  ct : ∀ ρ' S' σ' H', E.ct ρ' S' → Ext H S H' S' → RE c.K H' ρ' σ' → RS c.K H' S' → D.ct σ' H'
  ex : ∀ σ, PoX c Wx σ H S E.ex
theorem RD.on {c : Cst} {Wx : WX} {D : Ends} {E : Ew} {H H1 : Hp} {S S1 : Sto} (r : RD c Wx D E H S) (e : Ext H S H1 S1) : RD c Wx D E H1 S1 :=
  ⟨fun ρ' S' σ' H' k e' => r.nx ρ' S' σ' H' k (e.trans e'), fun w S' H' v k e' => r.rt w S' H' v k (e.trans e'), fun ρ' S' σ' H' k e' => r.bk ρ' S' σ' H' k (e.trans e'), fun ρ' S' σ' H' k e' => r.ct ρ' S' σ' H' k (e.trans e'), fun σ => (r.ex σ).on e⟩
def tS (c : Cst) (Wx : WX) (m : WS) : TS := fun D σ H => ∃ E ρ S, RE c.K H ρ σ ∧ RS c.K H S ∧ m E ρ S ∧ RD c Wx D E H S
section
variable {X : Cx} {c : Cst} {Wx : WX}
def mSkip : WS := fun E ρ S => E.nx ρ S
@[irreducible] def mThen (a b : WS) : WS := fun E ρ S => a { E with nx := fun ρ' S' => b E ρ' S' } ρ S
theorem s_skip : PSs X [] (tS c Wx mSkip) := PSs.imp pss_nil fun D σ H q => by
  obtain ⟨E, ρ, S, re, rs, hm, rd⟩ := q
  exact rd.nx ρ S σ H hm .refl re rs
theorem s_then {st : Stmt} {r : List Stmt} {a b : WS} (ha : PS X st (tS c Wx a)) (hb : PSs X r (tS c Wx b)) : PSs X (st :: r) (tS c Wx (mThen a b)) := PSs.imp (pss_cons ha hb) fun D σ H q => by
  obtain ⟨E, ρ, S, re, rs, hm, rd⟩ := q
  unfold mThen at hm
  refine ⟨_, ρ, S, re, rs, hm, ⟨fun ρ' S' σ' H' k e r' s' => ?_, rd.rt, rd.bk, rd.ct, rd.ex⟩⟩
  exact ⟨E, ρ', S', r', s', k, rd.on e⟩
def mPass : WS := fun E ρ S => E.nx ρ S
def mBrk : WS := fun E ρ S => E.bk ρ S
def mCnt : WS := fun E ρ S => E.ct ρ S
theorem s_pass {pos : Pos} : PS X (.Pass pos) (tS c Wx mPass) := PS.imp ps_pass fun D σ H q => by
  obtain ⟨E, ρ, S, re, rs, hm, rd⟩ := q
  exact rd.nx ρ S σ H hm .refl re rs
theorem s_doc {x : Str} {j : Nat} {pos pos' : Pos} : PS X (.Expr (.Constant (.str x) j pos) pos') (tS c Wx mPass) := PS.imp ps_doc fun D σ H q => by
  obtain ⟨E, ρ, S, re, rs, hm, rd⟩ := q
  exact rd.nx ρ S σ H hm .refl re rs
theorem s_brk {pos : Pos} : PS X (.Break pos) (tS c Wx mBrk) := PS.imp ps_break fun D σ H q => by
  obtain ⟨E, ρ, S, re, rs, hm, rd⟩ := q
  exact rd.bk ρ S σ H hm .refl re rs
theorem s_cnt {pos : Pos} : PS X (.Continue pos) (tS c Wx mCnt) := PS.imp ps_continue fun D σ H q => by
  obtain ⟨E, ρ, S, re, rs, hm, rd⟩ := q
  exact rd.ct ρ S σ H hm .refl re rs
def mExp (a : WE) : WS := fun E ρ S => a ρ S (fun _ S1 => E.nx ρ S1) E.ex
theorem s_exp {e : Expr} {a : WE} {pos : Pos} (ha : PE X e (tE c Wx a)) (hs : swapsWith e none pos.line X.env = pure false) : PS X (.Expr e pos) (tS c Wx (mExp a)) := PS.imp (ps_expr ha hs) fun D σ H q => by
  obtain ⟨E, ρ, S, re, rs, hm, rd⟩ := q
  exact ⟨ρ, S, _, E.ex, re, rs, hm, fun x S1 H1 u k1 e1 rs1 rx => rd.nx ρ S1 σ H1 k1 e1 (re.tst (e1.tst rs)) rs1, rd.ex σ⟩
def mRet (a : WE) : WS := fun E ρ S => a ρ S E.rt E.ex
theorem s_ret {e : Expr} {a : WE} {pos : Pos} (ha : PE X e (tE c Wx a)) : PS X (.Return (some e) pos) (tS c Wx (mRet a)) := PS.imp (ps_ret ha) fun D σ H q => by
  obtain ⟨E, ρ, S, re, rs, hm, rd⟩ := q
  exact ⟨ρ, S, _, E.ex, re, rs, hm, fun x S1 H1 u k1 e1 rs1 rx => rd.rt x S1 H1 u k1 e1 rs1 rx, rd.ex σ⟩
def mRetN : WS := fun E _ S => E.rt .non S
theorem s_retN {pos : Pos} : PS X (.Return none pos) (tS c Wx mRetN) := PS.imp ps_retN fun D σ H q => by
  obtain ⟨E, ρ, S, re, rs, hm, rd⟩ := q
  exact rd.rt .non S H .non hm .refl rs .non
def mIte (t : WT) (a b : WS) : WS := fun E ρ S => t ρ S (fun k S1 => if k = true then a E ρ S1 else b E ρ S1) E.ex
theorem s_ite {e : Expr} {p q : List Stmt} {t : WT} {a b : WS} {pos : Pos} (ht : PT X e (tT c Wx t)) (ha : PSs X p (tS c Wx a)) (hb : PSs X q (tS c Wx b)) : PS X (.If e p q pos) (tS c Wx (mIte t a b)) := PS.imp (ps_if ht ha hb) fun D σ H z => by
  obtain ⟨E, ρ, S, re, rs, hm, rd⟩ := z
  refine ⟨ρ, S, _, E.ex, re, rs, hm, fun k S1 H1 k1 e1 rs1 => ?_, rd.ex σ⟩
  cases k with
  | true => exact ⟨E, ρ, S1, re.tst (e1.tst rs), rs1, k1, rd.on e1⟩
  | false => exact ⟨E, ρ, S1, re.tst (e1.tst rs), rs1, k1, rd.on e1⟩
/-! assignments -/
def mAsg (tg : Tg) (a : WE) : WS := fun E ρ S => a ρ S (fun w S1 => wgOf tg w ρ fun ρ2 => E.nx ρ2 S1) E.ex
theorem asg_of {tg : Tg} {a : WE} {te : TE} {D : Ends} {σ : L2.St} {H : Hp} (hx : ∀ σ H Q, tE c Wx a σ H Q → te σ H Q) (h : tS c Wx (mAsg tg a) D σ H) : tAsg te (gOf c.K tg) D σ H := by
  obtain ⟨E, ρ, S, re, rs, hm, rd⟩ := h
  refine hx _ _ _ ⟨ρ, S, _, E.ex, re, rs, hm, fun w S1 H1 v k1 e1 rs1 rv => ?_, rd.ex σ⟩
  exact tg_of (own := []) k1 rv (re.tst (e1.tst rs)) fun ρ2 σ2 k2 re2 _ => rd.nx ρ2 S1 σ2 H1 k2 e1 re2 rs1
/-- o[i] = v -/
@[irreducible] def setK (x y v : W) (S : Sto) (K : Sto → Prop) : Prop := match x with
  | .ref a => (∃ xs i j, S a = some (.lst xs) ∧ y = .int i ∧ ixN xs.length i = some j ∧ K (S.put a (.lst (xs.set j v)))) ∨
      ∃ kvs k, S a = some (.dic kvs) ∧ y = kW k ∧ kvs.length < sizeLine ∧ K (S.put a (.dic (putW kvs k v)))
  | _ => False
def rSetW : TSet := fun o i v H Q => rSetL o i v H Q ∨ ∃ a H', o = .ref a ∧ DPut H a i v H' ∧ Q H'
theorem PSet.or {t t' : TSet} (h : PSet X t) (h' : PSet X t') : PSet X (fun o i v H Q => t o i v H Q ∨ t' o i v H Q) := by
  intro pins s σ H o i v ov iv u Q I r1 r2 r3 q
  rcases q with q | q
  · exact h pins s σ H o i v ov iv u Q I r1 r2 r3 q
  · exact h' pins s σ H o i v ov iv u Q I r1 r2 r3 q
theorem r_setD (hu : X.A.units + 1 < cLine) : PSet X (fun o i v H Q => ∃ a H', o = .ref a ∧ DPut H a i v H' ∧ Q H') := by
  intro pins s σ H o i v ov iv u Q I ro ri rv h
  obtain ⟨a, H', rfl, g, q⟩ := h
  cases ro
  exact d_setItem hu I g ri rv fun s1 I1 => ⟨H', I1, q⟩
theorem r_set (hu : X.A.units + 1 < cLine) : PSet X rSetW := PSet.or set_list (r_setD hu)
theorem o_set {x y v : W} {ux uy uv : V} {H : Hp} {S : Sto} {Kk : Sto → Prop} {Q : Hp → Prop} (rs : RS c.K H S) (rx : RV c.K H x ux) (ry : RV c.K H y uy) (rv : RV c.K H v uv) (h : setK x y v S Kk)
    (po : ∀ S' H', Kk S' → Ext H S H' S' → RS c.K H' S' → Q H') : rSetW ux uy uv H Q := by
  unfold setK at h
  cases rx with
  | ref a =>
    rcases h with ⟨xs, i, j, l, rfl, hj, k⟩ | ⟨kvs, k0, l, rfl, hz, k⟩
    · cases ry
      obtain ⟨vs, hq, r⟩ := rs.lst l
      exact .inl ⟨a, vs, i, j, rfl, rfl, hq, by rw [← r.length]; exact hj, po _ _ k (.put l) (rs.put l (.lst (r.set j rv)))⟩
    · obtain ⟨vs, hq, r⟩ := rs.dic l
      rw [rv_key ry]
      exact .inr ⟨a, _, rfl, DPut.k hq (by rw [rkv_len r]; exact hz), po _ _ k (.put l) (rs.put l (.dic (rkv_put r k0 rv)))⟩
  | _ => exact (show False from h).elim
def mSet (o i a : WE) : WS := fun E ρ S => a ρ S (fun v S1 => o ρ S1 (fun x S2 => i ρ S2 (fun y S3 => setK x y v S3 fun S4 => E.nx ρ S4) E.ex) E.ex) E.ex
theorem s_set {eo ei ev : Expr} {o i a : WE} {pos pos' : Pos} (hu : X.A.units + 1 < cLine) (ho : PE X eo (tE c Wx o)) (hi : PE X ei (tE c Wx i)) (hv : PE X ev (tE c Wx a))
    (ha : ∀ v, assign (.Subscript eo ei pos') X.env v = (do
      let ov ← holding [v] (eval eo X.env)
      let iv ← holding [v, ov] (eval ei X.env)
      standAt pos'
      holding [v, ov, iv] (setItem ov iv v)
      release [v, ov, iv] []))
    (hs : swapsWithSole [.Subscript eo ei pos'] ev pos.line X.env = pure false) (hw : swappedStores [.Subscript eo ei pos'] ev X.env = pure none) (h1 : (assignEach [.Subscript eo ei pos'] X.env).map (·.2) = [assign (.Subscript eo ei pos') X.env]) :
    PS X (.Assign [.Subscript eo ei pos'] ev pos) (tS c Wx (mSet o i a)) := PS.imp (ps_asg hv (pg_sub ho hi (r_set hu) ha) hs hw h1) fun D σ H z => by
  obtain ⟨E, ρ, S, re, rs, hm, rd⟩ := z
  refine ⟨ρ, S, _, E.ex, re, rs, hm, fun v S1 H1 uv k1 e1 rs1 rv => ?_, rd.ex σ⟩
  have re1 := re.tst (e1.tst rs)
  refine ⟨ρ, S1, _, E.ex, re1, rs1, k1, fun x S2 H2 ux k2 e2 rs2 rx => ?_, (rd.ex σ).on e1⟩
  have re2 := re1.tst (e2.tst rs1)
  refine ⟨ρ, S2, _, E.ex, re2, rs2, k2, fun y S3 H3 uy k3 e3 rs3 ry => ?_, ((rd.ex σ).on e1).on e2⟩
  refine o_set rs3 (rx.tst (e3.tst rs2)) ry ((rv.tst (e2.tst rs1)).tst (e3.tst rs2)) k3 fun S4 H4 k4 e4 rs4 => ?_
  exact rd.nx ρ S4 σ H4 k4 (((e1.trans e2).trans e3).trans e4) ((re2.tst (e3.tst rs2)).tst (e4.tst rs3)) rs4
/-! op= -/
def iAdd : BOp := fun x y S K => match x, y with
  | .int i, .int j => K (.int (i + j)) S
  | .str a, .str b => a.length + b.length ≤ sizeLine ∧ K (.str (a ++ b)) S
  | _, _ => False
def iSub : BOp := fun x y S K => match x, y with
  | .int i, .int j => K (.int (i - j)) S
  | _, _ => False
def rIAdd : R2 := fun x y H Q => (∃ i j, x = .int i ∧ y = .int j ∧ Q (.int (i + j)) H) ∨ ∃ i j, x = .str i ∧ y = .str j ∧ i.length + j.length ≤ sizeLine ∧ Q (.str (i ++ j)) H
theorem r_iadd : OpR X (inplaceOp .Add) rIAdd := OpR.or iop_add iop_add_str
theorem o_iadd : Op2 c rIAdd iAdd := fun x y u v H S Kk Q rs rx ry h po => by
  cases rx with
  | int i => cases ry with
    | int j => exact .inl ⟨i, j, rfl, rfl, po _ S H _ h .refl rs (.int _)⟩
    | _ => exact h.elim
  | str i => cases ry with
    | str j => exact .inr ⟨i, j, rfl, rfl, h.1, po _ S H _ h.2 .refl rs (.str _)⟩
    | _ => exact h.elim
  | _ => cases ry <;> exact h.elim
theorem o_isub : Op2 c (rI0 fun i j => .int (i - j)) iSub := fun x y u v H S Kk Q rs rx ry h po => by
  cases rx with
  | int i => cases ry with
    | int j => exact ⟨i, j, rfl, rfl, po _ S H _ h .refl rs (.int _)⟩
    | _ => exact h.elim
  | _ => cases ry <;> exact h.elim
theorem pip_of {op : Operator} {r : R2} (h : OpR X (inplaceOp op) r) : PIp X op r := fun pins s σ H x y v u Q I rx ry q => h pins s σ H x y v u Q I rx ry q
def mAug (i : Nat) (f : BOp) (a : WE) : WS := fun E ρ S => match rget ρ i with
  | some x => a ρ S (fun y S1 => f x y S1 fun z S2 => E.nx (rset ρ i (some z)) S2) E.ex
  | none => False
theorem aug_of {i : Nat} {f : BOp} {r : R2} {a : WE} {D : Ends} {σ : L2.St} {H : Hp} (ho : Op2 c r f) (h : tS c Wx (mAug i f a) D σ H) : tAug i (tE c Wx a) r D σ H := by
  obtain ⟨E, ρ, S, re, rs, hm, rd⟩ := h
  unfold mAug at hm
  cases e : rget ρ i with
  | none => rw [e] at hm; exact hm.elim
  | some x =>
    rw [e] at hm
    obtain ⟨v, hv, rv⟩ := re.2 i x e
    refine ⟨v, hv, ρ, S, _, E.ex, re, rs, hm, fun y S1 H1 u k1 e1 rs1 ry => ?_, rd.ex σ⟩
    refine ho x y v u H1 S1 _ _ rs1 (rv.tst (e1.tst rs)) ry k1 fun z S2 H2 q k2 e2 rs2 rz => ?_
    exact rd.nx _ S2 _ H2 k2 (e1.trans e2) (((re.tst (e1.tst rs)).tst (e2.tst rs1)).set rz) rs2
/-- o[i], by values -/
theorem r_getD (hu : X.A.units + 1 < cLine) : PGet X rIxD := by
  intro pins s σ H o i ov iv Q I ro ri h
  obtain ⟨a, v, rfl, g, q⟩ := h
  cases ro
  exact d_getItem hu I g ri fun w' s3 I3 rw' => ⟨v, H, I3, rw', q⟩
theorem r_getL : PGet X (rIxL X.K) := by
  intro pins s σ H o i ov iv Q I ro ri h
  obtain ⟨p, xs, j, v, rfl, rfl, hq, he, q⟩ := h
  cases ro
  obtain ⟨t, rfl⟩ := ri
  obtain ⟨its, r, pl, hz⟩ := I.list hq
  obtain ⟨n, h1, h2, h3, h4, h5⟩ := atI_get he
  obtain ⟨w, ew, rw'⟩ := r.get h2
  have hl := r.length
  have hn := line63
  have fin : EP X pins σ Q w s := ⟨v, H, I, rw', q⟩
  by_cases h0 : 0 ≤ j
  · have hj : j.toNat = n := by
      rw [seqIndex_of h0 h5] at h1
      exact Option.some.inj h1
    exact wpAny_getItem_list pl.isList h0 (by omega) (x := w) (by rw [hj]; simpa using ew) fin
  · have hj : (j + (its.toArray.size : Int)).toNat = n := by
      rw [seqIndex_neg (by omega) h4] at h1
      rw [List.size_toArray, ← hl]
      exact Option.some.inj h1
    exact wpAny_getItem_list_neg pl.isList (by omega) (by rw [List.size_toArray] <;> omega) (by omega) (x := w) (by rw [hj]; simpa using ew) fin
def rGetW (K : PySem.W.Frag) : R2 := fun x y H Q => rIxL K x y H Q ∨ rIxD x y H Q
theorem r_get (hu : X.A.units + 1 < cLine) : PGet X (rGetW X.K) := by
  intro pins s σ H o i ov iv Q I ro ri h
  rcases h with h | h
  · exact r_getL pins s σ H o i ov iv Q I ro ri h
  · exact r_getD hu pins s σ H o i ov iv Q I ro ri h
/-- o[i] of a list or a dict -/
@[irreducible] def getK : BOp := fun x y S K => match x with
  | .ref a => (∃ ws i w, y = .int i ∧ Lw S a ws ∧ atI ws i = some w ∧ K w S) ∨ ∃ kvs k w, S a = some (.dic kvs) ∧ y = kW k ∧ valW kvs k = some w ∧ K w S
  | _ => False
theorem o_get : Op2 c (rGetW c.K) getK := fun x y u v H S Kk Q rs rx ry h po => by
  unfold getK at h
  cases rx with
  | ref a =>
    rcases h with ⟨ws, i, w, rfl, l, e, k⟩ | ⟨kvs, k0, w, l, rfl, e, k⟩
    · cases ry
      obtain ⟨vs, hq, r⟩ := rs.list l
      obtain ⟨z, e2, rz⟩ := rvs_at r e
      exact .inl ⟨a, vs, i, z, rfl, rfl, hq, e2, po _ S H _ k .refl rs rz⟩
    · obtain ⟨vs, hq, r⟩ := rs.dic l
      rw [rv_key ry]
      rcases rkv_val r k0 with ⟨e1, _⟩ | ⟨w', v', e1, e2, rr⟩
      · rw [e1] at e; cases e
      · rw [e1] at e; cases e
        exact .inr ⟨a, v', rfl, by rw [← e2]; exact DGet.k hq, po _ S H _ k .refl rs rr⟩
  | _ => exact (show False from h).elim
def mAugS (o i : WE) (f : BOp) (a : WE) : WS := fun E ρ S => o ρ S (fun x S1 => i ρ S1 (fun y S2 => getK x y S2 fun v S3 => a ρ S3 (fun u S4 => f v u S4 fun z S5 => setK x y z S5 fun S6 => E.nx ρ S6) E.ex) E.ex) E.ex
theorem s_augS {eo ei ev : Expr} {o i a : WE} {op : Operator} {r : R2} {f : BOp} {tpos pos : Pos} (hK : c.K = X.K) (hu : X.A.units + 1 < cLine) (ho : PE X eo (tE c Wx o)) (hi : PE X ei (tE c Wx i)) (hv : PE X ev (tE c Wx a)) (hr : OpR X (inplaceOp op) r) (hf : Op2 c r f)
    (ha : ∀ ov iv new, augStore ei ov iv new = (do holding [new, ov, iv] (setItem ov iv new); release [new, ov, iv] []; pure .next)) : PS X (.AugAssign (.Subscript eo ei tpos) op ev pos) (tS c Wx (mAugS o i f a)) :=
  PS.imp (ps_augS ho hi (r_get hu) hv (pip_of hr) (r_set hu) ha) fun D σ H z => by
    obtain ⟨E, ρ, S, re, rs, hm, rd⟩ := z
    rw [← hK]
    refine ⟨ρ, S, _, E.ex, re, rs, hm, fun x S1 H1 ux k1 e1 rs1 rx => ?_, rd.ex σ⟩
    have re1 := re.tst (e1.tst rs)
    refine ⟨ρ, S1, _, E.ex, re1, rs1, k1, fun y S2 H2 uy k2 e2 rs2 ry => ?_, (rd.ex σ).on e1⟩
    have re2 := re1.tst (e2.tst rs1)
    have rx2 := rx.tst (e2.tst rs1)
    refine o_get x y ux uy H2 S2 _ _ rs2 rx2 ry k2 fun v S3 H3 uv k3 e3 rs3 rv => ?_
    have re3 := re2.tst (e3.tst rs2)
    refine ⟨ρ, S3, _, E.ex, re3, rs3, k3, fun u S4 H4 uu k4 e4 rs4 ru => ?_, ((rd.ex σ).on e1).on e2 |>.on e3⟩
    have re4 := re3.tst (e4.tst rs3)
    refine hf v u uv uu H4 S4 _ _ rs4 (rv.tst (e4.tst rs3)) ru k4 fun z S5 H5 uz k5 e5 rs5 rz => ?_
    have rx5 := ((rx2.tst (e3.tst rs2)).tst (e4.tst rs3)).tst (e5.tst rs4)
    have ry5 := ((ry.tst (e3.tst rs2)).tst (e4.tst rs3)).tst (e5.tst rs4)
    refine o_set rs5 rx5 ry5 rz k5 fun S6 H6 k6 e6 rs6 => ?_
    exact rd.nx ρ S6 σ H6 k6 (((((e1.trans e2).trans e3).trans e4).trans e5).trans e6) ((re4.tst (e5.tst rs4)).tst (e6.tst rs5)) rs6
/-! ### loops -/
def forW (g : Sto → Prop) (tg : WG) (b : WS) (E : Ew) : List W → Ro → Sto → Prop
  | [], ρ, S => g S ∧ E.nx ρ S
  | x :: xs, ρ, S => g S ∧ tg x ρ fun ρ2 => b { E with nx := forW g tg b E xs, ct := forW g tg b E xs, bk := E.nx } ρ2 S
def mFor (it : WI) (tg : Tg) (b : WS) : WS := fun E ρ S => it ρ S (fun wk S1 => forW wk.g (wgOf tg) b E wk.items ρ S1) E.ex
theorem forW_g {g : Sto → Prop} {tg : WG} {b : WS} {E : Ew} {xs : List W} {ρ : Ro} {S : Sto} (h : forW g tg b E xs ρ S) : g S := by
  cases xs with
  | nil => exact h.1
  | cons x xs => exact h.1
theorem for_of {it : WI} {tg : Tg} {b : WS} {D : Ends} {σ : L2.St} {H : Hp} (h : tS c Wx (mFor it tg b) D σ H) : tFor (tI c Wx it) (gOf c.K tg) (tS c Wx b) D σ H := by
  obtain ⟨E, ρ, S, re, rs, hm, rd⟩ := h
  refine ⟨ρ, S, _, E.ex, re, rs, hm, fun wk S1 H1 J G Y k1 e1 rs1 ww => ?_, rd.ex σ⟩
  refine for_it ww.walk (fun i σ2 H2 => ∃ ρ2 S2, Ext H1 S1 H2 S2 ∧ RE c.K H2 ρ2 σ2 ∧ RS c.K H2 S2 ∧ forW wk.g (wgOf tg) b E (wk.items.drop i) ρ2 S2) ?_ ?_ ?_ ?_
  · exact ⟨ρ, S1, .refl, re.tst (e1.tst rs), rs1, by simpa using k1⟩
  · rintro i σ2 H2 hi ⟨ρ2, S2, e2, re2, rs2, k⟩
    exact ww.stand H2 S2 e2 rs2 (forW_g k)
  · rintro i x σ2 H2 H3 hi ⟨ρ2, S2, e2, re2, rs2, k⟩ y
    obtain ⟨w, hw, rw', e3, rs3⟩ := ww.gives i H2 S2 x H3 hi e2 rs2 (forW_g k) y
    have hdrop : wk.items.drop i = w :: wk.items.drop (i + 1) := by
      have hi' := (List.getElem?_eq_some_iff.mp hw)
      rw [List.drop_eq_getElem_cons hi'.1, hi'.2]
    rw [hdrop] at k
    refine tg_of (own := []) k.2 rw' (re2.tst (e3.tst rs2)) fun ρ3 σ3 k3 re3 _ => ?_
    refine ⟨_, ρ3, S2, re3, rs3, k3, ⟨fun ρ' S' σ' H' k' e' r' s' => ?_, fun w S' H' v k' e' s' r' => ?_, fun ρ' S' σ' H' k' e' r' s' => ?_, fun ρ' S' σ' H' k' e' r' s' => ?_, fun σ => ?_⟩⟩
    · exact ⟨ρ', S', (e2.trans e3).trans e', r', s', k'⟩
    · exact rd.rt w S' H' v k' (((e1.trans e2).trans e3).trans e') s' r'
    · exact rd.nx ρ' S' σ' H' k' (((e1.trans e2).trans e3).trans e') r' s'
    · exact ⟨ρ', S', (e2.trans e3).trans e', r', s', k'⟩
    · exact (rd.ex σ).on ((e1.trans e2).trans e3)
  · rintro σ2 H2 ⟨ρ2, S2, e2, re2, rs2, k⟩
    rw [List.drop_length] at k
    exact rd.nx ρ2 S2 σ2 H2 k.2 (e1.trans e2) re2 rs2
def whlW (t : WT) (b : WS) (E : Ew) : Nat → Ro → Sto → Prop
  | 0, _, _ => False
  | n + 1, ρ, S => t ρ S (fun k S1 => if k = true then b { E with nx := whlW t b E n, ct := whlW t b E n, bk := E.nx } ρ S1 else E.nx ρ S1) E.ex
def mWhl (t : WT) (b : WS) : WS := fun E ρ S => ∃ n, whlW t b E n ρ S
theorem whl_of {t : WT} {b : WS} {D : Ends} {σ : L2.St} {H : Hp} (h : tS c Wx (mWhl t b) D σ H) : tWhile (tT c Wx t) (tS c Wx b) D σ H := by
  obtain ⟨E, ρ, S, re, rs, ⟨n, hm⟩, rd⟩ := h
  refine ⟨fun m σ2 H2 => ∃ ρ2 S2, Ext H S H2 S2 ∧ RE c.K H2 ρ2 σ2 ∧ RS c.K H2 S2 ∧ whlW t b E m ρ2 S2, ⟨n, ρ, S, .refl, re, rs, hm⟩, ?_⟩
  rintro m σ2 H2 ⟨ρ2, S2, e2, re2, rs2, k⟩
  cases m with
  | zero => exact (show False from k).elim
  | succ m =>
    refine ⟨ρ2, S2, _, E.ex, re2, rs2, k, fun q S3 H3 k3 e3 rs3 => ?_, (rd.ex σ2).on e2⟩
    cases q with
    | false => exact rd.nx ρ2 S3 σ2 H3 k3 (e2.trans e3) (re2.tst (e3.tst rs2)) rs3
    | true =>
      refine ⟨fun σ' H' => ∃ ρ' S', Ext H S H' S' ∧ RE c.K H' ρ' σ' ∧ RS c.K H' S' ∧ whlW t b E m ρ' S', fun σ' H' ⟨ρ', S', z⟩ => ⟨m, Nat.lt_succ_self m, ρ', S', z⟩, ?_⟩
      refine ⟨_, ρ2, S3, re2.tst (e3.tst rs2), rs3, k3, ⟨fun ρ' S' σ' H' k' e' r' s' => ?_, fun w S' H' v k' e' s' r' => ?_, fun ρ' S' σ' H' k' e' r' s' => ?_, fun ρ' S' σ' H' k' e' r' s' => ?_, fun σ => ?_⟩⟩
      · exact ⟨ρ', S', (e2.trans e3).trans e', r', s', k'⟩
      · exact rd.rt w S' H' v k' ((e2.trans e3).trans e') s' r'
      · exact rd.nx ρ' S' σ' H' k' ((e2.trans e3).trans e') r' s'
      · exact ⟨ρ', S', (e2.trans e3).trans e', r', s', k'⟩
      · exact (rd.ex σ).on (e2.trans e3)
end

/-! ### calls of defs -/
abbrev Pm := List W → Sto → WK → EK → Prop
/-- a def's promise by plain values, told to the layer -/
def spOf (c : Cst) (p : Pm) : Sp := fun vs H Q E => ∃ ws S Kk Ek, RVs c.K H ws vs ∧ RS c.K H S ∧ p ws S Kk Ek ∧ (∀ w S' H' v, Kk w S' → Ext H S H' S' → RS c.K H' S' → RV c.K H' w v → Q v H') ∧
  ∀ x S' H' cls d, Ek x S' → Ext H S H' S' → RS c.K H' S' → RXn c H' S' x cls d → E cls d H'
/-- the def at f keeps a promise, where no repr is under way -/
structure GOk (P : Program) (w : World) (K : PySem.W.Frag) (mg : Str → Option Value) (base : Heap) (k : Nat) (f : Addr) (fd : FuncData) (ps : List Str) (sp : Sp) : Prop where
  len : ∀ vs H Q E, sp vs H Q E → vs.length = ps.length
  run : ∀ (A : Around) (outer : List Env) (s : Shared) (H : Hp) (args : Args) (us : List Value) (vs : List V) (Q : VK) (E : XK), A.guards = some [] → Room k A → Env0 P w K mg base A outer s H → BindsTo s fd args (ps.zip us) → Vals vs us → sp vs H Q E →
    codeAny (model P w) A (.call (.ref f) args) (CR (L2.CX P w) outer P w H s Q E) s
theorem GOk.mono {P : Program} {w : World} {K : PySem.W.Frag} {mg : Str → Option Value} {base : Heap} {j k : Nat} {f : Addr} {fd : FuncData} {ps : List Str} {sp : Sp} (G : GOk P w K mg base j f fd ps sp) (h : j ≤ k) : GOk P w K mg base k f fd ps sp :=
  ⟨G.len, fun A outer s H args us vs Q E g hr => G.run A outer s H args us vs Q E g (hr.mono h)⟩
theorem GOk.imp {P : Program} {w : World} {K : PySem.W.Frag} {mg : Str → Option Value} {base : Heap} {k : Nat} {f : Addr} {fd : FuncData} {ps : List Str} {sp sp' : Sp} (G : GOk P w K mg base k f fd ps sp) (h : ∀ vs H Q E, sp' vs H Q E → sp vs H Q E) : GOk P w K mg base k f fd ps sp' :=
  ⟨fun vs H Q E q => G.len vs H Q E (h _ _ _ _ q), fun A outer s H args us vs Q E g hr he hb hv hs => G.run A outer s H args us vs Q E g hr he hb hv (h _ _ _ _ hs)⟩
def mCall (p : Pm) (a : WEs) : WE := fun ρ S Kk Ek => a ρ S (fun ws S1 => p ws S1 Kk Ek) Ek
section
variable {X : Cx} {c : Cst} {Wx : WX} {k : Nat} {f : Addr} {fd : FuncData} {ps : List Str} {p : Pm} {x : Str}
theorem run_g {pins : List (Addr × Obj)} {σ : L2.St} {H : Hp} {s : Shared} {Q : VK} {us : List Value} {vs : List V} {sp : Sp} (G : GOk X.prog X.w X.K X.mg X.base k f fd ps sp) (hg : X.A.guards = some []) (hr : Room k X.A) (hb : Binds X.K fd ps [])
    (tk : Takes X Wx) (I : Inv X pins σ H s) (r : Vals vs us) (h : sp vs H Q fun cls d H' => Wx cls d σ H') : wpAny (model X.prog X.w) X.A (call (.ref f) us) (EP X pins σ Q) X.xe s := by
  have hl : (us ++ ([] : List Value)).length = ps.length := by rw [List.append_nil, ← r.length]; exact G.len _ _ _ _ h
  have hz := hb s us I.kIn hl
  rw [List.append_nil] at hz
  refine wpAny_call (codeAny_mono (G.run X.A X.stack s H ⟨us, []⟩ us vs Q _ hg hr I.env0 hz r h) fun q s1 z => ?_)
  cases q with
  | ok fl => cases fl <;> first | exact I.after z | exact False.elim z
  | error e => exact tk e s1 (XE.of_call I (fun _ _ _ y => y) z)
theorem s_call {e : Expr} {es : List Expr} {a : WEs} {p1 pos : Pos} (G : GOk X.prog X.w X.K X.mg X.base k f fd ps (spOf c p)) (hg : X.A.guards = some []) (hr : Room k X.A) (hgl : Gl X x) (hm : X.mg x = some (.ref f)) (hk : PySem.W.keepIn X.K (.ref f) = true) (hb : Binds X.K fd ps [])
    (tk : Takes X Wx) (ha : PA X (e :: es) (tA c Wx a)) (hd : (x == ("__debug__" : Str)) = false) (he : starEach (e :: es) X.env = (false, eval e X.env) :: starEach es X.env) (hp : (backTo pos (starEach es X.env)).any (·.1) = false) :
    PE X (.Call (.Name x p1) (e :: es) [] pos) (tE c Wx (mCall p a)) := by
  constructor
  intro pins s σ H Q I q
  obtain ⟨ρ, S, Kk, Ek, re, rs, hm', po, px⟩ := q
  refine wpAny_Call_Name_kw (ld_glob I hgl hm ?_ hd)
  refine PySem.W.callWith_K (h₀ := X.base) I.ok.mod.kin hk ?_ he hp
  have h2 : tA c Wx a σ H fun vs H1 => spOf c p vs H1 Q fun cls d H' => Wx cls d σ H' :=
    ⟨ρ, S, _, Ek, re, rs, hm', fun ws S1 H1 vs k1 e1 rs1 rv => ⟨ws, S1, Kk, Ek, rv, rs1, k1, fun w S' H' v k2 e2 => po w S' H' v k2 (e1.trans e2), fun x S' H' cls d k2 e2 => px x S' H' cls d k2 (e1.trans e2)⟩, px⟩
  refine thn (ha.run pos pins s σ H _ I h2) fun us s1 z => ?_
  obtain ⟨vs, H1, I1, r1, q1⟩ := z
  exact ⟨I1.kIn, run_g G hg hr hb tk I1 r1 q1⟩
theorem s_call0 {p1 pos : Pos} (G : GOk X.prog X.w X.K X.mg X.base k f fd ps (spOf c p)) (hg : X.A.guards = some []) (hr : Room k X.A) (hgl : Gl X x) (hm : X.mg x = some (.ref f)) (hk : PySem.W.keepIn X.K (.ref f) = true) (hb : Binds X.K fd ps [])
    (tk : Takes X Wx) (hd : (x == ("__debug__" : Str)) = false) : PE X (.Call (.Name x p1) [] [] pos) (tE c Wx (mCall p mNil)) := by
  constructor
  intro pins s σ H Q I q
  obtain ⟨ρ, S, Kk, Ek, re, rs, hm', po, px⟩ := q
  refine wpAny_Call_Name_kw (ld_glob I hgl hm ?_ hd)
  exact PySem.W.callWith_K0 I.kIn hk (run_g (us := []) G hg hr hb tk I .nil ⟨[], S, Kk, Ek, .nil, rs, hm', po, px⟩)
end
/-- the slots at a def's entry -/
def startW (n : Nat) (ws : List W) : Ro := ws.map some ++ List.replicate (n - ws.length) none
theorem rget_some : ∀ {ws : List W} {i : Nat} {w : W} {m : Nat}, rget (ws.map some ++ List.replicate m none) i = some w → ws[i]? = some w
  | [], i, w, m, h => by
    exfalso
    induction m generalizing i with
    | zero => simp [rget] at h
    | succ m ih =>
      cases i with
      | zero => simp [rget, List.replicate_succ] at h
      | succ i => exact ih (i := i) (by simpa [rget, List.replicate_succ] using h)
  | x :: ws, 0, w, m, h => by simpa [rget] using h
  | x :: ws, i + 1, w, m, h => by
    have := rget_some (ws := ws) (i := i) (w := w) (m := m) (by simpa [rget] using h)
    simpa using this
theorem re_start {K : PySem.W.Frag} {H : Hp} {N : List Str} {ws : List W} {vs : List V} (r : RVs K H ws vs) : RE K H (startW N.length ws) (L2.start N vs) := by
  refine ⟨?_, fun i w h => ?_⟩
  · unfold startW L2.start
    simp only [List.length_append, List.length_map, List.length_replicate]
    rw [r.length]
    exact Nat.le_refl _
  · have hw := rget_some h
    obtain ⟨v, hv, rv⟩ := r.get' hw
    refine ⟨v, ?_, rv⟩
    unfold L2.start
    have hi : i < vs.length := (List.getElem?_eq_some_iff.mp hv).1
    rw [List.getElem?_append_left (by simpa using hi), List.getElem?_map, hv]; rfl
/-- THE RULE for a def -/
theorem g_of {P : Program} {w : World} {K : PySem.W.Frag} {mg : Str → Option Value} {base : Heap} {k : Nat} {f : Addr} {x qual : Str} {params : Arguments} {body : List Stmt} {scope : Scope} {fd : FuncData} {N ps : List Str} {sp : Sp}
    (F : FunD K x qual params body scope [] [] f fd) (S : FnScope N ps scope) (len : ∀ vs H Q E, sp vs H Q E → vs.length = ps.length)
    (hbody : ∀ (cdv : Value) (A : Around) (outer : List Env) (s : Shared) (H : Hp) (vs : List V) (Q : VK) (E : XK), A.guards = some [] → Room k (A.deeper (envOfC qual scope s.heap.objs.size f cdv)) → sp vs H Q E →
      ∃ t, PSs (cxOf (L2.CX P w) P w K mg base N qual scope f cdv A outer s H E) body t ∧ t { nx := fun _ H' => Q .non H', rt := Q } (L2.start N vs) H) : GOk P w K mg base (k + 1) f fd ps sp := by
  obtain ⟨oc, od, dV, kV, doc, pm, an, cdv, ct, osl, rfl, lk, hcd, _, _⟩ := F.ex
  refine ⟨len, fun A outer s H args us vs Q E hg hr e0 hb r hsp => ?_⟩
  have inH : K.In s.heap := e0.mod.kin.keeps fun b o e => (e0.bs b o e).1
  have nolim : s.heap.NoLimit := e0.mod.nolimit.keeps fun b o e => (e0.bs b o e).1
  refine codeAny_call_function hr.depth (inH _ _ lk) rfl S.co S.gen rfl (PySem.W.codeRec_of inH hcd) (hb _ _ _ _ ?_)
  refine wpAny_newFunctionEnv_cells S.kind (fun y hy => ?_) fun env he s1 ic => ?_
  · rcases S.par y.1 (List.of_mem_zip hy).1 with q | q
    · exact .inl q
    · exact .inr ⟨q, PySem.W.cellsFrom_some _ _ _ (.inl q)⟩
  · subst he
    refine ⟨nolim.keeps ic.toInCall.keep, codeAny_func ?_⟩
    obtain ⟨t, ht, hq⟩ := hbody cdv A outer s H vs Q E hg (hr.deeper _) hsp
    have J := inv_start (CX := L2.CX P w) (E := E) S hr.hd e0 (len _ _ _ _ hsp) r ic
    refine wpAny_mono (ht.run [] s1 _ H _ J hq) (fun fl s2 z => ?_) fun e s2 z => z
    cases fl with
    | ret u =>
      obtain ⟨v, σ2, H2, J2, rv, q⟩ := z
      exact ⟨v, H2, J2.os, J2.bare, J2.base, J2.hok, rv, q⟩
    | next =>
      obtain ⟨σ2, H2, J2, q⟩ := z
      exact ⟨V.non, H2, J2.os, J2.bare, J2.base, J2.hok, rfl, q⟩
    | brk =>
      obtain ⟨_, _, _, q⟩ := z
      exact q.elim
    | cont =>
      obtain ⟨_, _, _, q⟩ := z
      exact q.elim
end Dp
namespace Dp
open PySem PySem.Spec L2
open PyProof.Rows hiding St

/-! ### the syntax -/
inductive Blt where
  | len | abs | max2 | min2 | sum | all | any | list | tuple | ord | str | int | repr | sorted | max1 | min1
  deriving DecidableEq
inductive Mn where
  | append | extend | pop | insert | reverse | count | index
  deriving DecidableEq
mutual
inductive E where
  | var (i : Nat)
  | cst (k : Const)
  | glb (j : Nat)
  | bin (op : Operator) (a b : E)
  | neg (a : E)
  | not (a : E)
  | cmp (op : CmpOp) (a b : E)
  | chn (op op' : CmpOp) (a b d : E)
  | and (a b : E)
  | or (a b : E)
  | ite (t a b : E)
  | call (f : Nat) (as : Es)
  | blt (b : Blt) (as : Es)
  | isi (T : Ty) (a : E)
  | mth (m : Mn) (o : E) (as : Es)
  | tup (as : Es)
  | lst (as : Es)
  | dic
  | dct (ks : List Str) (as : Es)
  | ix (a i : E)
  | sl (a : E) (lo hi : Eo)
  | rev (a : E)
  | comp (el : E) (tg : Tg) (it : It') (cd : Eo) (own : List (Str × Nat))
  | lrg1 (t : Bool) (a : E)
  | lrg2 (t : Bool) (a b : E)
inductive Es where
  | nil
  | cons (a : E) (r : Es)
inductive Eo where
  | none
  | some (a : E)
inductive It' where
  | seq (a : E)
  | rg1 (a : E)
  | rg2 (a b : E)
  | rg3 (a b d : E)
  | enu (a : E)
  | zip (a b : E)
end
mutual
inductive Sm where
  | asg (tg : Tg) (a : E)
  | par (is : List Nat) (as : Es)
  | set (o i a : E)
  | aug (i : Nat) (op : Operator) (a : E)
  | augS (o i : E) (op : Operator) (a : E)
  | exp (a : E)
  | ret (a : E)
  | retN
  | ite (t : E) (a b : Sms)
  | for (tg : Tg) (it : It') (b : Sms)
  | whl (t : E) (b : Sms)
  | brk
  | cnt
  | pass
inductive Sms where
  | nil
  | cons (a : Sm) (r : Sms)
end
/-! ### what it means -/
def cW : Const → W
  | .bool b => .bl b
  | .int i => .int i
  | .str x => .str x
  | _ => .non
def bopOf : Operator → BOp
  | .Add => bAdd | .Sub => bSub | .Mult => bMul2 | .FloorDiv => bDiv | .Mod => bMod | .Pow => bPow
  | _ => fun _ _ _ _ => False
def copOf : CmpOp → COp
  | .Eq => cEq | .NotEq => cNe | .Lt => cLt | .LtE => cLe | .Gt => cGt | .GtE => cGe | .In => inK false | .NotIn => inK true | .Is => isK false | .IsNot => isK true
def iopOf : Operator → BOp
  | .Add => iAdd | .Sub => iSub
  | _ => fun _ _ _ _ => False
def nopOf : Blt → NOp
  | .len => fLen | .abs => fAbs | .max2 => fMax2 | .min2 => fMin2 | .sum => fSum2 | .all => fAll | .any => fAny | .list => fList | .tuple => fTuple | .ord => fOrd | .str => fStr | .int => fInt | .repr => fRepr2 | .sorted => fSorted2 | .max1 => fMax1 | .min1 => fMin1
def mopOf : Mn → List AltW
  | .append => [⟨"list", fAppend⟩]
  | .extend => [⟨"list", fExtend⟩]
  | .pop => [⟨"list", fPopL⟩]
  | .insert => [⟨"list", fInsert⟩]
  | .reverse => [⟨"list", fReverse⟩]
  | .count => [⟨"list", fCountL⟩, ⟨"tuple", fCountT⟩]
  | .index => [⟨"list", fIndexL⟩, ⟨"tuple", fIndexT⟩, ⟨"str", fIndexS⟩]
def mDic : WE := fun _ S Kk _ => ∀ p, S p = none → Kk (.ref p) (S.put p (.dic []))
def mIsi (T : Ty) (a : WE) : WE := mUn (uIsi T) a
section
variable (P : Nat → Pm) (G : Nat → W)
mutual
def dE : E → WE
  | .var i => mVar i
  | .cst k => mCst (cW k)
  | .glb j => mCst (G j)
  | .bin op a b => mBin (bopOf op) (dE a) (dE b)
  | .neg a => mUn uNeg (dE a)
  | .not a => mNot (dE a)
  | .cmp op a b => mCmp (copOf op) (dE a) (dE b)
  | .chn op op' a b d => mChn (copOf op) (copOf op') (dE a) (dE b) (dE d)
  | .and a b => mAnd (dE a) (dE b)
  | .or a b => mOr (dE a) (dE b)
  | .ite t a b => mIf (dT t) (dE a) (dE b)
  | .call f as => mCall (P f) (dEs as)
  | .blt b as => mBlt (nopOf b) (dEs as)
  | .isi T a => mIsi T (dE a)
  | .mth m o as => mMth (mopOf m) (dE o) (dEs as)
  | .tup as => mTup (dEs as)
  | .lst as => mLst (dEs as)
  | .dic => mDic
  | .dct ks as => mDct (ks.map Sum.inr) (dEs as)
  | .ix a i => mBin ixK (dE a) (dE i)
  | .sl a lo hi => mSl (dE a) (dO lo) (dO hi)
  | .rev a => mUn uRev2 (dE a)
  | .lrg1 t a => mLrg1 t (dE a)
  | .lrg2 t a b => mLrg2 t (dE a) (dE b)
  | .comp el tg it cd own => mComp (dI it) tg (dC cd) (dE el) (own.map (·.2))
def dT : E → WT
  | .not a => mNotT (dT a)
  | .cmp op a b => mCmpT (copOf op) (dE a) (dE b)
  | .chn op op' a b d => mChnT (copOf op) (copOf op') (dE a) (dE b) (dE d)
  | .and a b => mAndT (dT a) (dT b)
  | .or a b => mOrT (dT a) (dT b)
  | .var i => mTru (mVar i)
  | .cst k => mTru (mCst (cW k))
  | .call f as => mTru (mCall (P f) (dEs as))
  | .blt b as => mTru (mBlt (nopOf b) (dEs as))
  | .isi T a => mTru (mIsi T (dE a))
  | .ix a i => mTru (mBin ixK (dE a) (dE i))
  | .mth m o as => mTru (mMth (mopOf m) (dE o) (dEs as))
  | _ => fun _ _ _ _ => False
def dEs : Es → WEs
  | .nil => mNil
  | .cons a r => mCons (dE a) (dEs r)
def dO : Eo → WO
  | .none => mNoPart
  | .some a => mPart (dE a)
def dC : Eo → WT
  | .none => mYes
  | .some a => dT a
def dI : It' → WI
  | .seq a => mSeq (dE a)
  | .rg1 a => mRg1 (mCons (dE a) mNil)
  | .rg2 a b => mRg2 (mCons (dE a) (mCons (dE b) mNil))
  | .rg3 a b d => mRg3 (mCons (dE a) (mCons (dE b) (mCons (dE d) mNil)))
  | .enu a => mEnu (mCons (dE a) mNil)
  | .zip a b => mZip (mCons (dE a) (mCons (dE b) mNil))
end
def mPar (is : List Nat) (a : WEs) : WS := fun E ρ S => a ρ S (fun ws S1 => ws.length = is.length ∧ E.nx (rsets ρ is ws) S1) E.ex
mutual
def dS : Sm → WS
  | .asg tg a => mAsg tg (dE P G a)
  | .par is as => mPar is (dEs P G as)
  | .set o i a => mSet (dE P G o) (dE P G i) (dE P G a)
  | .aug i op a => mAug i (iopOf op) (dE P G a)
  | .augS o i op a => mAugS (dE P G o) (dE P G i) (iopOf op) (dE P G a)
  | .exp a => mExp (dE P G a)
  | .ret a => mRet (dE P G a)
  | .retN => mRetN
  | .ite t a b => mIte (dT P G t) (dSs a) (dSs b)
  | .for tg it b => mFor (dI P G it) tg (dSs b)
  | .whl t b => mWhl (dT P G t) (dSs b)
  | .brk => mBrk
  | .cnt => mCnt
  | .pass => mPass
def dSs : Sms → WS
  | .nil => mSkip
  | .cons a r => mThen (dS a) (dSs r)
end
end
/-! ### whether it is the given syntax -/
def bltN : Blt → Str
  | .len => "len" | .abs => "abs" | .max2 => "max" | .min2 => "min" | .sum => "sum" | .all => "all" | .any => "any" | .list => "list" | .tuple => "tuple" | .ord => "ord" | .str => "str" | .int => "int" | .repr => "repr" | .sorted => "sorted" | .max1 => "max" | .min1 => "min"
def bltA : Blt → Nat
  | .max2 => 2 | .min2 => 2 | _ => 1
def mnN : Mn → Str
  | .append => "append" | .extend => "extend" | .pop => "pop" | .insert => "insert" | .reverse => "reverse" | .count => "count" | .index => "index"
def tyN : Ty → Str
  | .int => "int" | .bool => "bool" | .str => "str" | .tup => "tuple" | .lst => "list" | .dic => "dict"
def notStar : Expr → Bool
  | .Starred .. => false
  | _ => true
def notSlice : Expr → Bool
  | .Slice .. => false
  | _ => true
def notSet : Expr → Bool
  | .Set .. => false
  | _ => true
def notComp : Expr → Bool
  | .ListComp .. => false
  | .SetComp .. => false
  | .DictComp .. => false
  | _ => true
def notCall : Expr → Bool
  | .Call .. => false
  | _ => true
def notTup : Expr → Bool
  | .Tuple .. => false
  | _ => true
def chkC : Const → Bool
  | .none => true | .bool _ => true | .int _ => true | .str _ => true
  | _ => false
def opOk : Operator → Bool
  | .Add => true | .Sub => true | .Mult => true | .FloorDiv => true | .Mod => true | .Pow => true
  | _ => false
structure Sx where
  N : List Str
  sc : Scope
  fn : Str → Bool
  fns : List Str
  gls : List Str
def Sx.glob (s : Sx) (x : Str) : Bool := decide (s.sc.names.lookup x = some .globalImplicit) && !(x == ("__debug__" : Str))
def Sx.vis (s : Sx) (i : Nat) (x : Str) : Bool := decide (s.N[i]? = some x) && (decide (s.sc.names.lookup x = some .local) || decide (s.sc.names.lookup x = some .cell) || decide (s.sc.names.lookup x = some .free)) && !(x == ("__debug__" : Str)) && !(x == ("__classdict__" : Str))
def Sx.loc (s : Sx) (i : Nat) (x : Str) : Bool := decide (s.N[i]? = some x) && (decide (s.sc.names.lookup x = some .local) || (decide (s.sc.names.lookup x = some .cell) && s.fn x))
def Sx.blk (s : Sx) (scope : Scope) : Sx := { s with sc := relS scope s.sc, fn := fun x => scope.names.lookup x == some .cell }
def chkNms (s : Sx) : List Nat → List Expr → Bool
  | [], [] => true
  | i :: is, .Name x _ :: es => s.loc i x && chkNms s is es
  | _, _ => false
def chkTg (s : Sx) : Tg → Expr → Bool
  | .nm i, .Name x _ => s.loc i x
  | .tp is, .Tuple es _ _ => chkNms s is es
  | .tk i is, .Tuple [.Name x _, .Tuple es _ _] _ _ => s.loc i x && chkNms s is es
  | _, _ => false
def isTup : Expr → Bool
  | .Tuple .. => true
  | _ => false
def chkKeys : List Str → List (Option Expr) → Bool
  | [], [] => true
  | k :: ks, some (.Constant (.str x) _ _) :: r => decide (k = x) && chkKeys ks r
  | _, _ => false
mutual
def chkE : E → Sx → Expr → Bool
  | .var i, s, .Name x _ => s.vis i x
  | .cst k, _, .Constant k' _ _ => decide (k = k') && chkC k
  | .glb j, s, .Name x _ => decide (s.gls[j]? = some x) && s.glob x
  | .bin op a b, s, .BinOp l op' r _ => decide (op = op') && opOk op && chkE a s l && chkE b s r
  | .neg a, s, .UnaryOp .USub e _ => chkE a s e
  | .not a, s, .UnaryOp .Not e _ => chkE a s e
  | .cmp op a b, s, .Compare l [op'] [r] _ => decide (op = op') && !behindInMarks op r && chkE a s l && chkE b s r
  | .chn op1 op2 a b d, s, .Compare l [o1, o2] [r, q] _ => decide (op1 = o1) && decide (op2 = o2) && !lastMarks [op1, op2] [r, q] && chkE a s l && chkE b s r && chkE d s q
  | .and a b, s, .BoolOp .And (e1 :: e2 :: rest) pos => chkE a s e1 && chkE b s (match rest with | [] => e2 | _ => .BoolOp .And (e2 :: rest) pos)
  | .or a b, s, .BoolOp .Or (e1 :: e2 :: rest) pos => chkE a s e1 && chkE b s (match rest with | [] => e2 | _ => .BoolOp .Or (e2 :: rest) pos)
  | .ite t a b, s, .IfExp e1 e2 e3 _ => chkE t s e1 && chkE a s e2 && chkE b s e3
  | .call f as, s, .Call (.Name x _) es [] _ => decide (s.fns[f]? = some x) && s.glob x && chkEs as s es
  | .blt b as, s, .Call (.Name x _) es [] _ => decide (x = bltN b) && s.glob x && decide (es.length = bltA b) && chkEs as s es
  | .isi T a, s, .Call (.Name x _) [e, .Name y _] [] _ => decide (x = ("isinstance" : Str)) && s.glob x && decide (y = tyN T) && s.glob y && notStar e && chkE a s e
  | .mth m o as, s, .Call (.Attribute e x apos) es [] pos => decide (x = mnN m) && notCall e && (apos.endLine == pos.line) && decide (es.length < 30) && chkE o s e && chkEs as s es
  | .tup as, s, .Tuple es _ _ => chkEs as s es
  | .lst as, s, .List es _ => chkEs as s es
  | .dic, _, .Dict [] [] _ => true
  | .dct ks as, s, .Dict keys vals _ => chkKeys ks keys && decide (keys.length = vals.length) && decide (keys.length ≤ 15) && !keys.isEmpty && chkEs as s vals
  | .ix a i, s, .Subscript e1 e2 _ => notSlice e2 && chkE a s e1 && chkE i s e2
  | .sl a lo hi, s, .Subscript e (.Slice l h none _) _ => chkE a s e && chkO lo s l && chkO hi s h
  | .rev a, s, .Subscript e (.Slice none none (some (.UnaryOp .USub (.Constant (.int 1) _ _) _)) _) _ => chkE a s e
  | .lrg1 t a, s, .Call (.Name x _) [.Call (.Name y _) [e] [] _] [] _ => decide (x = rgN t) && s.glob x && decide (y = ("range" : Str)) && s.glob y && notStar e && chkE a s e
  | .lrg2 t a b, s, .Call (.Name x _) [.Call (.Name y _) [e, f] [] _] [] _ => decide (x = rgN t) && s.glob x && decide (y = ("range" : Str)) && s.glob y && notStar e && chkE a s e && notStar f && chkE b s f
  | .comp el tg it cd own, s, .ListComp e [⟨t, iter, ifs, 0⟩] scope _ => blkC s.N s.sc scope own && decide (∀ i ∈ tg.own, i ∈ own.map (·.2)) && notSet iter && chkI it s t iter && chkTg (s.blk scope) tg t && chkC1 cd (s.blk scope) ifs && chkE el (s.blk scope) e
  | _, _, _ => false
def chkEs : Es → Sx → List Expr → Bool
  | .nil, _, [] => true
  | .cons a r, s, e :: es => notStar e && chkE a s e && chkEs r s es
  | _, _, _ => false
def chkO : Eo → Sx → Option Expr → Bool
  | .none, _, none => true
  | .some a, s, some e => chkE a s e
  | _, _, _ => false
def chkC1 : Eo → Sx → List Expr → Bool
  | .none, _, [] => true
  | .some a, s, [e] => chkE a s e
  | _, _, _ => false
def chkI : It' → Sx → Expr → Expr → Bool
  | .seq a, s, _, e => chkE a s e
  | .rg1 a, s, _, .Call (.Name x _) [e] [] _ => decide (x = ("range" : Str)) && s.glob x && notStar e && chkE a s e
  | .rg2 a b, s, _, .Call (.Name x _) [e, f] [] _ => decide (x = ("range" : Str)) && s.glob x && notStar e && chkE a s e && notStar f && chkE b s f
  | .rg3 a b d, s, _, .Call (.Name x _) [e, f, g] [] _ => decide (x = ("range" : Str)) && s.glob x && notStar e && chkE a s e && notStar f && chkE b s f && notStar g && chkE d s g
  | .enu a, s, t, .Call (.Name x _) [e] [] _ => decide (x = ("enumerate" : Str)) && s.glob x && isTup t && notStar e && chkE a s e
  | .zip a b, s, t, .Call (.Name x _) [e, f] [] _ => decide (x = ("zip" : Str)) && s.glob x && isTup t && notStar e && chkE a s e && notStar f && chkE b s f
  | _, _, _, _ => false
end
end Dp
namespace Dp
open PySem PySem.Spec L2
open PyProof.Rows hiding St

/-- the names of built-ins that the rules lean on -/
def bnames : List Str := ["len", "abs", "max", "min", "sum", "all", "any", "list", "tuple", "ord", "str", "int", "repr", "isinstance", "bool", "dict", "range", "enumerate", "sorted", "zip", "set"]
/-- all that the rules ask of where one stands -/
structure Okx (c : Cst) (X : Cx) (Wx : WX) (k : Nat) (P : Nat → Pm) (G : Nat → W) (s : Sx) : Prop where
  hK : c.K = X.K
  calm : X.calm = true
  nd : X.N.Nodup
  gd : X.A.guards = some []
  room : Room k X.A
  tk : Takes X Wx
  po : PassesOwn (model X.prog X.w) X.A X.env X.xe
  eN : X.N = s.N
  esc : X.env.scope = s.sc
  efn : X.fn = s.fn
  bl : ∀ x ∈ bnames, X.mg x = none
  fns : ∀ (j : Nat) (x : Str), s.fns[j]? = some x → ∃ f fd ps, X.mg x = some (.ref f) ∧ PySem.W.keepIn X.K (.ref f) = true ∧ Binds X.K fd ps [] ∧ GOk X.prog X.w X.K X.mg X.base k f fd ps (spOf c (P j))
  gls : ∀ (j : Nat) (x : Str), s.gls[j]? = some x → ∃ u v, X.mg x = some u ∧ RelV v u ∧ ∀ H, RV c.K H (G j) v
section
variable {c : Cst} {X : Cx} {Wx : WX} {k : Nat} {P : Nat → Pm} {G : Nat → W} {s : Sx}
theorem Okx.gl (o : Okx c X Wx k P G s) {x : Str} (h : s.glob x = true) : Gl X x ∧ (x == ("__debug__" : Str)) = false := by
  unfold Sx.glob at h
  rw [Bool.and_eq_true] at h
  refine ⟨?_, by simpa using h.2⟩
  show X.env.scope.names.lookup x = _
  rw [o.esc]
  exact of_decide_eq_true h.1
theorem Okx.un (o : Okx c X Wx k P G s) : X.A.units + 65 < cLine := by have := o.room.un; omega
theorem Okx.mgn (o : Okx c X Wx k P G s) {x : Str} (h : x ∈ bnames) : X.mg x = none := o.bl x h
theorem star_cons {e : Expr} {es : List Expr} (h : notStar e = true) (env : Env) : starEach (e :: es) env = (false, eval e env) :: starEach es env := by
  cases e <;> first | rfl | (simp [notStar] at h)
theorem star_plain {pos : Pos} {env : Env} : ∀ {es : List Expr}, (∀ e ∈ es, notStar e = true) → (backTo pos (starEach es env)).any (·.1) = false
  | [], _ => rfl
  | e :: es, h => by
    rw [star_cons (h e (List.mem_cons_self ..))]
    have ih := star_plain (pos := pos) (env := env) (es := es) fun x hx => h x (List.mem_cons_of_mem _ hx)
    show (false || (backTo pos (starEach es env)).any (·.1)) = false
    rw [ih]; rfl
theorem star_few {pos : Pos} {env : Env} : ∀ {es : List Expr}, (∀ e ∈ es, notStar e = true) → (backTo pos (starEach es env)).all (fun x => !x.1) = true
  | [], _ => rfl
  | e :: es, h => by
    rw [star_cons (h e (List.mem_cons_self ..))]
    have ih := star_few (pos := pos) (env := env) (es := es) fun x hx => h x (List.mem_cons_of_mem _ hx)
    show (true && (backTo pos (starEach es env)).all (fun x => !x.1)) = true
    rw [ih]; rfl
theorem chkEs_star : ∀ {as : Es} {s : Sx} {es : List Expr}, chkEs as s es = true → ∀ e ∈ es, notStar e = true
  | .nil, _, [], _ => fun _ h => by cases h
  | .cons a r, s, e :: es, h => by
    simp only [chkEs, Bool.and_eq_true] at h
    intro x hx
    rcases List.mem_cons.mp hx with rfl | hx
    · exact h.1.1
    · exact chkEs_star h.2 x hx
  | .nil, _, _ :: _, h => by simp [chkEs] at h
  | .cons _ _, _, [], h => by simp [chkEs] at h
theorem tail_star {e : Expr} {es : List Expr} (h : ∀ x ∈ e :: es, notStar x = true) : ∀ x ∈ es, notStar x = true := fun x hx => h x (List.mem_cons_of_mem _ hx)
theorem set_fold {e : Expr} (h : notSet e = true) (env : Env) : ∀ x, foldedSetIterable e env x = pure x := by
  intro x
  cases e <;> first | rfl | (simp [notSet] at h)
theorem plain_ix {e : Expr} (h : notSlice e = true) : PlainIx e := by
  intro o i
  cases e <;> first | rfl | (simp [notSlice] at h)
theorem base_attr {e : Expr} (h : notCall e = true) (x : Str) (env : Env) : attributeBase e x env (eval e env) = eval e env := by
  cases e <;> first | rfl | (simp [notCall] at h)
theorem aug_store {e : Expr} (h : notSlice e = true) (ov iv new : Value) : augStore e ov iv new = (do holding [new, ov, iv] (setItem ov iv new); release [new, ov, iv] []; pure .next) := by
  cases e <;> first | rfl | (simp [notSlice] at h)
theorem swaps_not {e : Expr} (h : notComp e = true) (t : Option Expr) (l : Nat) (env : Env) : swapsWith e t l env = pure false := by
  cases e <;> first | rfl | (simp [notComp] at h)
theorem swaps_sub {e o i : Expr} {p : Pos} (l : Nat) (env : Env) : swapsWithSole [.Subscript o i p] e l env = pure false := by
  cases e <;> rfl
theorem stores_sub {e o i : Expr} {p : Pos} (env : Env) : swappedStores [.Subscript o i p] e env = pure none := by
  cases e <;> rfl
theorem stores_tup {e : Expr} {es : List Expr} {k : Nat} {p : Pos} (h : notTup e = true) (env : Env) : swappedStores [.Tuple es k p] e env = pure none := by
  cases e <;> first | rfl | (simp [notTup] at h)
theorem assign_sub {o i : Expr} {p : Pos} (h : notSlice i = true) (env : Env) (v : Value) : assign (.Subscript o i p) env v = (do
      let ov ← holding [v] (eval o env)
      let iv ← holding [v, ov] (eval i env)
      standAt p
      holding [v, ov, iv] (setItem ov iv v)
      release [v, ov, iv] []) := by
  cases i <;> first | rfl | (simp [notSlice] at h)
/-- a call of a built-in function or type, by its rule -/
theorem s_fn {f : NOp} {r : List V → Hp → VK → Prop} {id : String} {x : Str} {e : Expr} {es : List Expr} {a : WEs} {p pos : Pos} (o : Okx c X Wx k P G s) (hx : s.glob x = true) (hb : x ∈ bnames) (hv : bootBuiltins x = some (.builtin id)) (hn : x ≠ "__name__")
    (hr : CallR X (.builtin id) r) (hf : OpN c r f) (hs : ∀ y ∈ e :: es, notStar y = true) (ha : PA X (e :: es) (tA c Wx a)) : PE X (.Call (.Name x p) (e :: es) [] pos) (tE c Wx (mBlt f a)) :=
  PE.imp (pe_callB hr (o.gl hx).1 (o.bl x hb) hv ha hn (o.gl hx).2 (star_cons (hs e (List.mem_cons_self ..)) _) (star_plain (tail_star hs))) (s_blt hf)
theorem s_ty {f : NOp} {r : List V → Hp → VK → Prop} {T : String} {x : Str} {e : Expr} {es : List Expr} {a : WEs} {p pos : Pos} (o : Okx c X Wx k P G s) (hx : s.glob x = true) (hb : x ∈ bnames) (hv : bootBuiltins x = some (.type T)) (hn : x ≠ "__name__")
    (hr : CallR X (.type T) r) (hf : OpN c r f) (hs : ∀ y ∈ e :: es, notStar y = true) (ha : PA X (e :: es) (tA c Wx a)) : PE X (.Call (.Name x p) (e :: es) [] pos) (tE c Wx (mBlt f a)) :=
  PE.imp (pe_callTy hr (o.gl hx).1 (o.bl x hb) hv ha hn (o.gl hx).2 (star_cons (hs e (List.mem_cons_self ..)) _) (star_plain (tail_star hs))) (s_blt hf)
theorem s_bltAll {b : Blt} {e : Expr} {es : List Expr} {a : WEs} {p pos : Pos} (o : Okx c X Wx k P G s) (hx : s.glob (bltN b) = true) (hl : (e :: es).length = bltA b) (hs : ∀ y ∈ e :: es, notStar y = true) (ha : PA X (e :: es) (tA c Wx a)) :
    PE X (.Call (.Name (bltN b) p) (e :: es) [] pos) (tE c Wx (mBlt (nopOf b) a)) := by
  have hK := o.hK
  have hc := o.calm
  cases b
  · exact s_fn o hx (by decide +kernel) (id := "len") (by decide +kernel) (by decide +kernel) (hK ▸ r_len) o_len hs ha
  · exact s_fn o hx (by decide +kernel) (id := "abs") (by decide +kernel) (by decide +kernel) call_abs o_abs hs ha
  · exact s_fn o hx (by decide +kernel) (id := "max") (by decide +kernel) (by decide +kernel) (call_max2 hc) o_max2 hs ha
  · exact s_fn o hx (by decide +kernel) (id := "min") (by decide +kernel) (by decide +kernel) (call_min2 hc) o_min2 hs ha
  · exact s_fn o hx (by decide +kernel) (id := "sum") (by decide +kernel) (by decide +kernel) (hK ▸ CallR.or (cr_sum hc) (cr_sumT hc)) o_sum2 hs ha
  · exact s_fn o hx (by decide +kernel) (id := "all") (by decide +kernel) (by decide +kernel) (hK ▸ cr_all hc) o_all hs ha
  · exact s_fn o hx (by decide +kernel) (id := "any") (by decide +kernel) (by decide +kernel) (hK ▸ cr_any hc) o_any hs ha
  · exact s_ty o hx (by decide +kernel) (T := "list") (by decide +kernel) (by decide +kernel) (hK ▸ call_list_of) o_list hs ha
  · exact s_ty o hx (by decide +kernel) (T := "tuple") (by decide +kernel) (by decide +kernel) (show CallR X _ (rTupOfN c.K) by rw [hK]; exact call_tupleN) o_tuple hs ha
  · exact s_fn o hx (by decide +kernel) (id := "ord") (by decide +kernel) (by decide +kernel) call_ord o_ord1 hs ha
  · exact s_ty o hx (by decide +kernel) (T := "str") (by decide +kernel) (by decide +kernel) call_str_int o_str hs ha
  · exact s_ty o hx (by decide +kernel) (T := "int") (by decide +kernel) (by decide +kernel) call_int1 o_int hs ha
  · exact s_fn o hx (by decide +kernel) (id := "repr") (by decide +kernel) (by decide +kernel) (hK ▸ CallR.or cr_reprF (r_repr o.gd (by have := o.un; omega))) o_repr2 hs ha
  · exact s_fn o hx (by decide +kernel) (id := "sorted") (by decide +kernel) (by decide +kernel) (show CallR X _ (rSorted2 c.K) by rw [hK]; exact CallR.or cr_sortedBI cr_sortedBP) o_sorted2 hs ha
  · exact s_fn o hx (by decide +kernel) (id := "max") (by decide +kernel) (by decide +kernel) (hK ▸ cr_max hc) o_max1 hs ha
  · exact s_fn o hx (by decide +kernel) (id := "min") (by decide +kernel) (by decide +kernel) (hK ▸ cr_min hc) o_min1 hs ha
theorem ty_boot (T : Ty) : bootBuiltins (tyN T) = some (.type T.nm) ∧ tyN T ∈ bnames ∧ tyN T ≠ "__name__" := by
  cases T <;> decide +kernel
theorem s_isi {T : Ty} {e : Expr} {a : WE} {p p2 pos : Pos} (o : Okx c X Wx k P G s) (hx : s.glob "isinstance" = true) (hy : s.glob (tyN T) = true) (hs : notStar e = true) (ha : PE X e (tE c Wx a)) :
    PE X (.Call (.Name "isinstance" p) [e, .Name (tyN T) p2] [] pos) (tE c Wx (mIsi T a)) := by
  obtain ⟨b1, b2, b3⟩ := ty_boot T
  have hA := pa_cons ha (pa_cons (pe_bltn (pos := p2) (v := .ty T.nm) (o.gl hy).1 (o.bl _ b2) b1 rfl b3 (o.gl hy).2) pa_nil (star_cons rfl X.env)) (star_cons hs X.env)
  refine PE.imp (pe_callB (call_isi (X := X)) (o.gl hx).1 (o.bl _ (by decide +kernel)) (by decide +kernel) hA (by decide +kernel) (o.gl hx).2 (star_cons hs _) (star_plain (fun y hy => by rw [List.mem_singleton.mp hy]; rfl))) fun σ H Q q => ?_
  obtain ⟨ρ, S, Kk, Ek, re, rs, hm, po, px⟩ := q
  refine ⟨ρ, S, _, Ek, re, rs, hm, fun x S1 H1 u k1 e1 rs1 rx => ?_, px⟩
  obtain ⟨t, ty, k2⟩ := tyX_of rs1 rx k1
  exact ⟨u, .ty T.nm, _, _, isB t T, rfl, .ty _, o.hK ▸ ty, kit_ty (kit_all t T), po _ S1 H1 _ k2 e1 rs1 (.bl _)⟩
end
end Dp
namespace Dp
open PySem PySem.Spec L2
open PyProof.Rows hiding St

section
variable {c : Cst} {X : Cx} {Wx : WX} {k : Nat} {P : Nat → Pm} {G : Nat → W} {s : Sx}
theorem Okx.visi (o : Okx c X Wx k P G s) {i : Nat} {x : Str} (h : s.vis i x = true) : X.N[i]? = some x ∧ Vis X.env.scope x ∧ (x == ("__debug__" : Str)) = false ∧ (x == ("__classdict__" : Str)) = false := by
  unfold Sx.vis at h
  simp only [Bool.and_eq_true, Bool.or_eq_true, decide_eq_true_eq, Bool.not_eq_true'] at h
  obtain ⟨⟨⟨h1, h2⟩, h3⟩, h4⟩ := h
  refine ⟨by rw [o.eN]; exact h1, ?_, h3, h4⟩
  rw [o.esc]
  rcases h2 with (h | h) | h
  · exact .inl h
  · exact .inr (.inl h)
  · exact .inr (.inr h)
theorem Okx.loca (o : Okx c X Wx k P G s) {i : Nat} {x : Str} (h : s.loc i x = true) : X.N[i]? = some x ∧ Loc X.env.scope x ∧ (X.fn x = true ∨ X.env.scope.names.lookup x = some .local) := by
  unfold Sx.loc at h
  simp only [Bool.and_eq_true, Bool.or_eq_true, decide_eq_true_eq] at h
  obtain ⟨h1, h2⟩ := h
  refine ⟨by rw [o.eN]; exact h1, ?_, ?_⟩
  · rw [o.esc]
    rcases h2 with h | h
    · exact .inl h
    · exact .inr h.1
  · rcases h2 with h | h
    · exact .inr (by rw [o.esc]; exact h)
    · exact .inl (by rw [o.efn]; exact h.2)
theorem Okx.blk (o : Okx c X Wx k P G s) (s1 : Shared) (H : Hp) (scope : Scope) (C : Addr) (cl : List (Str × Addr)) (fp : List Addr) : Okx c (X.blk s1 H scope (compEnvC scope cl C X.env) fp) noW k P G (s.blk scope) where
  hK := o.hK
  calm := o.calm
  nd := o.nd
  gd := o.gd
  room := o.room
  tk := takes0
  po := PassesOwn.never
  eN := o.eN
  esc := by
    show relS scope X.env.scope = relS scope s.sc
    rw [o.esc]
  efn := rfl
  bl := o.bl
  fns := o.fns
  gls := o.gls
/-- targets -/
theorem s_nms (o : Okx c X Wx k P G s) : ∀ {is : List Nat} {es : List Expr}, chkNms s is es = true → PGs X es (gNames is) ∧ (assignEach es X.env).length = is.length ∧ (assignEach es X.env).findIdx? (·.1) = none
  | [], [], _ => ⟨pgs_nil, rfl, rfl⟩
  | [], _ :: _, h => (Bool.false_ne_true h).elim
  | _ :: _, [], h => (Bool.false_ne_true h).elim
  | i :: is, e :: es, h => by
    cases e with
    | Name x p =>
      have h : (s.loc i x && chkNms s is es) = true := h
      rw [Bool.and_eq_true] at h
      obtain ⟨h1, h2, h3⟩ := o.loca h.1
      obtain ⟨q1, q2, q3⟩ := s_nms o h.2
      refine ⟨pgs_cons (pg_name o.nd h1 h2 h3) q1 rfl, by show (assignEach es X.env).length + 1 = _; rw [q2]; rfl, ?_⟩
      show ((false, assign (.Name x p) X.env) :: assignEach es X.env).findIdx? (·.1) = none
      rw [List.findIdx?_cons, q3]; rfl
    | _ => exact (Bool.false_ne_true h).elim
theorem s_tg (o : Okx c X Wx k P G s) {tg : Tg} {e : Expr} (h : chkTg s tg e = true) : PG X e (gOf c.K tg) := by
  cases tg with
  | nm i =>
    cases e with
    | Name x p =>
      obtain ⟨h1, h2, h3⟩ := o.loca (show s.loc i x = true from h)
      exact pg_name o.nd h1 h2 h3
    | _ => exact (Bool.false_ne_true h).elim
  | tp is =>
    cases e with
    | Tuple es j p =>
      obtain ⟨q1, q2, q3⟩ := s_nms o (show chkNms s is es = true from h)
      show PG X _ (gTup c.K is.length (gNames is))
      rw [o.hK]
      exact pg_tup o.calm q1 q2 q3
    | _ => exact (Bool.false_ne_true h).elim
  | tk i is =>
    cases e with
    | Tuple es j p =>
      match es, h with
      | [.Name x p1, .Tuple es2 j2 p2], h =>
        have h : (s.loc i x && chkNms s is es2) = true := h
        rw [Bool.and_eq_true] at h
        obtain ⟨h1, h2, h3⟩ := o.loca h.1
        obtain ⟨q1, q2, q3⟩ := s_nms o h.2
        show PG X _ (gTup c.K 2 (gCons (gName i) (gCons (gTup c.K is.length (gNames is)) gNil)))
        rw [o.hK]
        exact pg_tup o.calm (pgs_cons (pg_name o.nd h1 h2 h3) (pgs_cons (pg_tup o.calm q1 q2 q3) pgs_nil rfl) rfl) rfl rfl
    | _ => exact (Bool.false_ne_true h).elim
theorem pw_of_pt {op : BoolOp} {es : List Expr} {pos : Pos} {t : TT} (h : PT X (.BoolOp op es pos) t) : PW X (.BoolOp op es pos) t := ⟨fun _ pins s σ H Q I q => h.run pins s σ H Q I q⟩
/-- each comparison has a rule -/
theorem copR (o : Okx c X Wx k P G s) (op : CmpOp) : ∃ r, OpR X (compareOp op) r ∧ OpC c r (copOf op) := by
  have hK := o.hK
  have hu := o.un
  cases op with
  | Eq => exact ⟨_, r_eq (by omega), hK ▸ o_eq⟩
  | NotEq => exact ⟨_, r_ne (by omega), hK ▸ o_ne⟩
  | Lt => exact ⟨_, r_lt, o_ord⟩
  | LtE => exact ⟨_, r_le, o_ord⟩
  | Gt => exact ⟨_, r_gt, o_ord⟩
  | GtE => exact ⟨_, r_ge, o_ord⟩
  | Is => exact ⟨_, r_is, o_is⟩
  | IsNot => exact ⟨_, r_isnot, o_is⟩
  | In => exact ⟨_, r_in hu, hK ▸ o_in⟩
  | NotIn => exact ⟨_, r_nin hu, hK ▸ o_in⟩
theorem s_mthAll {m : Mn} {e : Expr} {es : List Expr} {a : WE} {b : WEs} {apos pos : Pos} (o : Okx c X Wx k P G s) (hn : notCall e = true) (hl : (apos.endLine == pos.line) = true) (hs : ∀ y ∈ es, notStar y = true) (hle : es.length < 30)
    (ha : PE X e (tE c Wx a)) (hb : PA X es (tA c Wx b)) (hz : es = [] → b = mNil) : PE X (.Call (.Attribute e (mnN m) apos) es [] pos) (tE c Wx (mMth (mopOf m) a b)) := by
  obtain ⟨bs, h1, h2⟩ : ∃ bs : List Alt, (∀ d ∈ bs, Mth d.T (mnN m) d.id ∧ MtR X d.id d.r) ∧ ∀ d ∈ mopOf m, ∃ q ∈ bs, OpM c d q := by
    cases m with
    | append => exact ⟨[⟨"list", "list.append", rAppend⟩], fun d hd => by rw [List.mem_singleton.mp hd]; exact ⟨ml_append, mt_append⟩, fun d hd => ⟨_, List.mem_singleton.mpr rfl, by rw [List.mem_singleton.mp hd]; exact mo_append⟩⟩
    | extend => exact ⟨[⟨"list", "list.extend", rExtend⟩], fun d hd => by rw [List.mem_singleton.mp hd]; exact ⟨ml_extend, mt_extend⟩, fun d hd => ⟨_, List.mem_singleton.mpr rfl, by rw [List.mem_singleton.mp hd]; exact mo_extend⟩⟩
    | pop => exact ⟨[⟨"list", "list.pop", rPopL⟩], fun d hd => by rw [List.mem_singleton.mp hd]; exact ⟨ml_pop, mt_popU⟩, fun d hd => ⟨_, List.mem_singleton.mpr rfl, by rw [List.mem_singleton.mp hd]; exact mo_pop⟩⟩
    | insert => exact ⟨[⟨"list","list.insert", fun x vs H Q => ∃ (l : Addr) (xs : List V) (i : Int) (y : V), x = .ref l ∧ vs = [.int i, y] ∧ H l = some (.lst xs) ∧ xs.length < sizeLine ∧ 0 ≤ i ∧ i < 2 ^ 63 ∧ Q .non (upd H l (.lst (xs.take i.toNat ++ [y] ++ xs.drop i.toNat)))⟩], fun d hd => by rw [List.mem_singleton.mp hd]; exact ⟨ml_insert, mt_insert⟩, fun d hd => ⟨_, List.mem_singleton.mpr rfl, by rw [List.mem_singleton.mp hd]; exact mo_insert⟩⟩
    | reverse => exact ⟨[⟨"list", "list.reverse", rReverse⟩], fun d hd => by rw [List.mem_singleton.mp hd]; exact ⟨ml_reverse, mt_reverse⟩, fun d hd => ⟨_, List.mem_singleton.mpr rfl, by rw [List.mem_singleton.mp hd]; exact mo_reverse⟩⟩
    | count => exact ⟨[⟨"list", "list.count", rCntB false c.K⟩, ⟨"tuple", "tuple.count", rCntB true c.K⟩], fun d hd => by
        rcases List.mem_cons.mp hd with rfl | hd
        · exact ⟨ml_countL, by rw [o.hK]; exact mt_lcountB⟩
        · rw [List.mem_singleton.mp hd]; exact ⟨ml_countT, by rw [o.hK]; exact mt_tcountB⟩, fun d hd => by
        rcases List.mem_cons.mp hd with rfl | hd
        · exact ⟨_, List.mem_cons_self .., mo_countL⟩
        · rw [List.mem_singleton.mp hd]; exact ⟨_, List.mem_cons_of_mem _ (List.mem_cons_self ..), mo_countT⟩⟩
    | index => exact ⟨[⟨"list", "list.index", rIndex c.K⟩, ⟨"tuple", "tuple.index", rIndexT c.K⟩, ⟨"str", "str.index", rIndexS⟩], fun d hd => by
        rcases List.mem_cons.mp hd with rfl | hd
        · exact ⟨ml_indexL, by rw [o.hK]; exact mt_index⟩
        · rcases List.mem_cons.mp hd with rfl | hd
          · exact ⟨ml_indexT, by rw [o.hK]; exact mt_tindexB⟩
          · rw [List.mem_singleton.mp hd]; exact ⟨ml_indexS, mt_sindex⟩, fun d hd => by
        rcases List.mem_cons.mp hd with rfl | hd
        · exact ⟨_, List.mem_cons_self .., mo_indexL⟩
        · rcases List.mem_cons.mp hd with rfl | hd
          · exact ⟨_, List.mem_cons_of_mem _ (List.mem_cons_self ..), mo_indexT⟩
          · rw [List.mem_singleton.mp hd]; exact ⟨_, List.mem_cons_of_mem _ (List.mem_cons_of_mem _ (List.mem_cons_self ..)), mo_indexS⟩⟩
  cases es with
  | nil =>
    rw [hz rfl]
    exact PE.imp (pe_mU0 h1 ha (base_attr hn _ _) hl) (s_mth0 o.hK h2)
  | cons e1 es =>
    refine PE.imp (pe_mU h1 ha hb (base_attr hn _ _) ?_ hl (star_cons (hs e1 (List.mem_cons_self ..)) _) (star_plain (tail_star hs))) (s_mth o.hK h2)
    rw [Bool.and_eq_true, Bool.and_eq_true]
    exact ⟨⟨star_few hs, rfl⟩, decide_eq_true hle⟩
end
theorem keys_all : ∀ {ks : List Str} {keys : List (Option Expr)}, chkKeys ks keys = true → keys.all (·.isSome) = true ∧ ks.length = keys.length
  | [], [], _ => ⟨rfl, rfl⟩
  | [], _ :: _, h => (Bool.false_ne_true h).elim
  | _ :: _, [], h => (Bool.false_ne_true h).elim
  | k :: ks, none :: r, h => (Bool.false_ne_true h).elim
  | k :: ks, some e :: r, h => by
    match e, h with
    | .Constant (.str x) _ _, h =>
      have h : (decide (k = x) && chkKeys ks r) = true := h
      rw [Bool.and_eq_true] at h
      obtain ⟨a, b⟩ := keys_all h.2
      exact ⟨by rw [List.all_cons, a]; rfl, by rw [List.length_cons, List.length_cons, b]⟩
theorem no_pt {X : Cx} {c : Cst} {Wx : WX} {e : Expr} : PT X e (tT c Wx fun _ _ _ _ => False) := ⟨fun _ _ _ _ _ _ ⟨_, _, _, _, _, _, h, _⟩ => h.elim⟩
variable {P : Nat → Pm} {G : Nat → W}
mutual
theorem sE : ∀ (e : E) {c : Cst} {X : Cx} {Wx : WX} {k : Nat} {s : Sx} (o : Okx c X Wx k P G s) (ex : Expr), chkE e s ex = true → PE X ex (tE c Wx (dE P G e))
  | .var i, c, X, Wx, k, s, o, ex, h => by
    cases ex with
    | Name x p =>
      obtain ⟨h1, h2, h3, h4⟩ := o.visi (show s.vis i x = true from h)
      exact s_var (pe_var h1 h2 h3 h4)
    | _ => exact (Bool.false_ne_true h).elim
  | .cst q, c, X, Wx, k, s, o, ex, h => by
    cases ex with
    | Constant q' j p =>
      have h1 : (decide (q = q') && chkC q) = true := h
      rw [Bool.and_eq_true, decide_eq_true_eq] at h1
      obtain ⟨rfl, h2⟩ := h1
      cases q with
      | none => exact s_const pe_non fun H => .non
      | bool b => exact s_const pe_bl fun H => .bl b
      | int i => exact s_const pe_int fun H => .int i
      | str x => exact s_const pe_str fun H => .str x
      | _ => exact (Bool.false_ne_true h2).elim
    | _ => exact (Bool.false_ne_true h).elim
  | .glb j, c, X, Wx, k, s, o, ex, h => by
    cases ex with
    | Name x p =>
      have h : (decide (s.gls[j]? = some x) && s.glob x) = true := h
      rw [Bool.and_eq_true, decide_eq_true_eq] at h
      obtain ⟨u, v, h1, h2, h3⟩ := o.gls j x h.1
      exact s_const (pe_glob (o.gl h.2).1 h1 h2 (o.gl h.2).2) h3
    | _ => exact (Bool.false_ne_true h).elim
  | .bin op a b, c, X, Wx, k, s, o, ex, h => by
    cases ex with
    | BinOp l op' r p =>
      have h : (decide (op = op') && opOk op && chkE a s l && chkE b s r) = true := h
      simp only [Bool.and_eq_true, decide_eq_true_eq] at h
      obtain ⟨⟨⟨rfl, h1⟩, h2⟩, h3⟩ := h
      have ha := sE a o l h2
      have hb := sE b o r h3
      have hK := o.hK
      cases op with
      | Add => exact PE.imp (pe_op r_add ha hb) (s_bin (hK ▸ o_add))
      | Sub => exact PE.imp (pe_op op_sub ha hb) (s_bin o_sub)
      | Mult => exact PE.imp (pe_op r_mul2 ha hb) (s_bin (hK ▸ o_mul2))
      | FloorDiv => exact PE.imp (pe_op op_fdivW ha hb) (s_bin o_div)
      | Mod => exact PE.imp (pe_op op_mod ha hb) (s_bin o_mod)
      | Pow => exact PE.imp (pe_op op_pow ha hb) (s_bin o_pow)
      | _ => exact (Bool.false_ne_true h1).elim
    | _ => exact (Bool.false_ne_true h).elim
  | .neg a, c, X, Wx, k, s, o, ex, h => by
    cases ex with
    | UnaryOp op e p =>
      cases op with
      | USub => exact PE.imp (pe_un un_neg (sE a o e h)) (s_un o_neg)
      | _ => exact (Bool.false_ne_true h).elim
    | _ => exact (Bool.false_ne_true h).elim
  | .not a, c, X, Wx, k, s, o, ex, h => by
    cases ex with
    | UnaryOp op e p =>
      cases op with
      | Not => exact s_not o.hK (sE a o e h)
      | _ => exact (Bool.false_ne_true h).elim
    | _ => exact (Bool.false_ne_true h).elim
  | .cmp op a b, c, X, Wx, k, s, o, ex, h => by
    cases ex with
    | Compare l ops rs p =>
      match ops, rs, h with
      | [op'], [r], h =>
        have h : (decide (op = op') && !behindInMarks op r && chkE a s l && chkE b s r) = true := h
        simp only [Bool.and_eq_true, decide_eq_true_eq, Bool.not_eq_true'] at h
        obtain ⟨⟨⟨rfl, h1⟩, h2⟩, h3⟩ := h
        obtain ⟨r1, f1, g1⟩ := copR o op
        exact s_cmp f1 g1 (sE a o l h2) (sE b o r h3) h1
      | [], _, h => exact (Bool.false_ne_true h).elim
      | [_], [], h => exact (Bool.false_ne_true h).elim
      | [_], _ :: _ :: _, h => exact (Bool.false_ne_true h).elim
      | _ :: _ :: _, _, h => exact (Bool.false_ne_true h).elim
    | _ => exact (Bool.false_ne_true h).elim
  | .chn op1 op2 a b d, c, X, Wx, k, s, o, ex, h => by
    cases ex with
    | Compare l ops rs p =>
      match ops, rs, h with
      | [o1, o2], [r, q], h =>
        have h : (decide (op1 = o1) && decide (op2 = o2) && !lastMarks [op1, op2] [r, q] && chkE a s l && chkE b s r && chkE d s q) = true := h
        simp only [Bool.and_eq_true, decide_eq_true_eq, Bool.not_eq_true'] at h
        obtain ⟨⟨⟨⟨⟨rfl, rfl⟩, h1⟩, h2⟩, h3⟩, h4⟩ := h
        obtain ⟨r1, f1, g1⟩ := copR o op1
        obtain ⟨r2, f2, g2⟩ := copR o op2
        exact s_chn f1 f2 g1 g2 (sE a o l h2) (sE b o r h3) (sE d o q h4) h1
      | [], _, h => exact (Bool.false_ne_true h).elim
      | [_], _, h => exact (Bool.false_ne_true h).elim
      | [_, _], [], h => exact (Bool.false_ne_true h).elim
      | [_, _], [_], h => exact (Bool.false_ne_true h).elim
      | [_, _], _ :: _ :: _ :: _, h => exact (Bool.false_ne_true h).elim
      | _ :: _ :: _ :: _, _, h => exact (Bool.false_ne_true h).elim
    | _ => exact (Bool.false_ne_true h).elim
  | .and a b, c, X, Wx, k, s, o, ex, h => by
    cases ex with
    | BoolOp op vs p =>
      cases op with
      | Or => exact (Bool.false_ne_true h).elim
      | And =>
        match vs, h with
        | e1 :: e2 :: [], h =>
          have h : (chkE a s e1 && chkE b s e2) = true := h
          rw [Bool.and_eq_true] at h
          exact s_and o.hK (sE a o e1 h.1) (pe_one (sE b o e2 h.2))
        | e1 :: e2 :: e3 :: rest, h =>
          have h : (chkE a s e1 && chkE b s (.BoolOp .And (e2 :: e3 :: rest) p)) = true := h
          rw [Bool.and_eq_true] at h
          exact s_and o.hK (sE a o e1 h.1) (sE b o _ h.2)
        | [], h => exact (Bool.false_ne_true h).elim
        | [_], h => exact (Bool.false_ne_true h).elim
    | _ => exact (Bool.false_ne_true h).elim
  | .or a b, c, X, Wx, k, s, o, ex, h => by
    cases ex with
    | BoolOp op vs p =>
      cases op with
      | And => exact (Bool.false_ne_true h).elim
      | Or =>
        match vs, h with
        | e1 :: e2 :: [], h =>
          have h : (chkE a s e1 && chkE b s e2) = true := h
          rw [Bool.and_eq_true] at h
          exact s_or o.hK (sE a o e1 h.1) (pe_one (sE b o e2 h.2))
        | e1 :: e2 :: e3 :: rest, h =>
          have h : (chkE a s e1 && chkE b s (.BoolOp .Or (e2 :: e3 :: rest) p)) = true := h
          rw [Bool.and_eq_true] at h
          exact s_or o.hK (sE a o e1 h.1) (sE b o _ h.2)
        | [], h => exact (Bool.false_ne_true h).elim
        | [_], h => exact (Bool.false_ne_true h).elim
    | _ => exact (Bool.false_ne_true h).elim
  | .ite t a b, c, X, Wx, k, s, o, ex, h => by
    cases ex with
    | IfExp e1 e2 e3 p =>
      have h : (chkE t s e1 && chkE a s e2 && chkE b s e3) = true := h
      simp only [Bool.and_eq_true] at h
      exact s_if (sT t o e1 h.1.1) (sE a o e2 h.1.2) (sE b o e3 h.2)
    | _ => exact (Bool.false_ne_true h).elim
  | .call f as, c, X, Wx, k, s, o, ex, h => by
    cases ex with
    | Call fe es kws p =>
      cases fe with
      | Name x p1 =>
        cases kws with
        | cons _ _ => exact (Bool.false_ne_true h).elim
        | nil =>
          have h : (decide (s.fns[f]? = some x) && s.glob x && chkEs as s es) = true := h
          simp only [Bool.and_eq_true, decide_eq_true_eq] at h
          obtain ⟨⟨h1, h2⟩, h3⟩ := h
          obtain ⟨fa, fd, ps, m1, m2, m3, g⟩ := o.fns f x h1
          have st := chkEs_star h3
          have hA := sEs as o es h3
          match as, es, h3, st, hA with
          | .nil, [], _, _, _ => exact s_call0 g o.gd o.room (o.gl h2).1 m1 m2 m3 o.tk (o.gl h2).2
          | as, e :: es, _, st, hA => exact s_call g o.gd o.room (o.gl h2).1 m1 m2 m3 o.tk hA (o.gl h2).2 (star_cons (st e (List.mem_cons_self ..)) _) (star_plain (tail_star st))
          | .cons _ _, [], h3, _, _ => exact (Bool.false_ne_true h3).elim
      | _ => cases kws <;> exact (Bool.false_ne_true h).elim
    | _ => exact (Bool.false_ne_true h).elim
  | .blt b as, c, X, Wx, k, s, o, ex, h => by
    cases ex with
    | Call fe es kws p =>
      cases fe with
      | Name x p1 =>
        cases kws with
        | cons _ _ => exact (Bool.false_ne_true h).elim
        | nil =>
          have h : (decide (x = bltN b) && s.glob x && decide (es.length = bltA b) && chkEs as s es) = true := h
          simp only [Bool.and_eq_true, decide_eq_true_eq] at h
          obtain ⟨⟨⟨rfl, h2⟩, h4⟩, h3⟩ := h
          have st := chkEs_star h3
          have hA := sEs as o es h3
          cases es with
          | nil => cases b <;> simp [bltA] at h4
          | cons e es => exact s_bltAll o h2 h4 st hA
      | _ => cases kws <;> exact (Bool.false_ne_true h).elim
    | _ => exact (Bool.false_ne_true h).elim
  | .isi T a, c, X, Wx, k, s, o, ex, h => by
    cases ex with
    | Call fe es kws p =>
      match fe, es, kws, h with
      | .Name x p1, [e, .Name y p2], [], h =>
        have h : (decide (x = ("isinstance" : Str)) && s.glob x && decide (y = tyN T) && s.glob y && notStar e && chkE a s e) = true := h
        simp only [Bool.and_eq_true, decide_eq_true_eq] at h
        obtain ⟨⟨⟨⟨⟨rfl, h1⟩, rfl⟩, h2⟩, h3⟩, h4⟩ := h
        exact s_isi o h1 h2 h3 (sE a o e h4)
    | _ => exact (Bool.false_ne_true h).elim
  | .mth m a as, c, X, Wx, k, s, o, ex, h => by
    cases ex with
    | Call fe es kws p =>
      cases fe with
      | Attribute e x apos =>
        cases kws with
        | cons _ _ => exact (Bool.false_ne_true h).elim
        | nil =>
          have h : (decide (x = mnN m) && notCall e && (apos.endLine == p.line) && decide (es.length < 30) && chkE a s e && chkEs as s es) = true := h
          simp only [Bool.and_eq_true, decide_eq_true_eq] at h
          obtain ⟨⟨⟨⟨⟨rfl, h2⟩, h3⟩, h4⟩, h5⟩, h6⟩ := h
          exact s_mthAll o h2 h3 (chkEs_star h6) h4 (sE a o e h5) (sEs as o es h6) fun z => by
            subst z
            cases as with
            | nil => rfl
            | cons _ _ => exact (Bool.false_ne_true h6).elim
      | _ => cases kws <;> exact (Bool.false_ne_true h).elim
    | _ => exact (Bool.false_ne_true h).elim
  | .tup as, c, X, Wx, k, s, o, ex, h => by
    cases ex with
    | Tuple es j p => exact s_tup (sEs as o es h)
    | _ => exact (Bool.false_ne_true h).elim
  | .lst as, c, X, Wx, k, s, o, ex, h => by
    cases ex with
    | List es p => exact s_lst (sEs as o es h)
    | _ => exact (Bool.false_ne_true h).elim
  | .dic, c, X, Wx, k, s, o, ex, h => by
    cases ex with
    | Dict ks vs p =>
      match ks, vs, h with
      | [], [], _ =>
        refine PE.imp pe_dnewK fun σ H Q q => ?_
        obtain ⟨ρ, S, Kk, Ek, re, rs, hm, po, px⟩ := q
        exact fun p hp => po _ _ _ _ (hm p (rs.fresh hp)) (.new hp) (rs.new hp (.dic .nil)) (.ref p)
      | [], _ :: _, h => exact (Bool.false_ne_true h).elim
      | _ :: _, _, h => exact (Bool.false_ne_true h).elim
    | _ => exact (Bool.false_ne_true h).elim
  | .dct ks as, c, X, Wx, k, s, o, ex, h => by
    cases ex with
    | Dict keys vals p =>
      have h : (chkKeys ks keys && decide (keys.length = vals.length) && decide (keys.length ≤ 15) && !keys.isEmpty && chkEs as s vals) = true := h
      simp only [Bool.and_eq_true, decide_eq_true_eq, Bool.not_eq_true'] at h
      obtain ⟨⟨⟨⟨h1, h2⟩, h3⟩, h4⟩, h5⟩ := h
      obtain ⟨k1, k2⟩ := keys_all h1
      exact s_dct (sPr as o ks keys vals h1 h2 h5) k1 h2 (fun z => by rw [z] at h4; exact absurd h4 (by decide)) h3 (by rw [List.length_map]; exact k2)
    | _ => exact (Bool.false_ne_true h).elim
  | .ix a i, c, X, Wx, k, s, o, ex, h => by
    cases ex with
    | Subscript e1 e2 p =>
      have h : (notSlice e2 && chkE a s e1 && chkE i s e2) = true := h
      simp only [Bool.and_eq_true] at h
      exact PE.imp (pe_ix (r_ix (by have := o.un; omega)) (sE a o e1 h.1.2) (sE i o e2 h.2) (plain_ix h.1.1)) (s_bin (o.hK ▸ o_ix))
    | _ => exact (Bool.false_ne_true h).elim
  | .sl a lo hi, c, X, Wx, k, s, o, ex, h => by
    cases ex with
    | Subscript e sl p =>
      match sl, h with
      | .Slice l u none p2, h =>
        have h : (chkE a s e && chkO lo s l && chkO hi s u) = true := h
        simp only [Bool.and_eq_true] at h
        exact s_sl o.hK (sE a o e h.1.1) (sO lo o l h.1.2) (sO hi o u h.2)
    | _ => exact (Bool.false_ne_true h).elim
  | .rev a, c, X, Wx, k, s, o, ex, h => by
    cases ex with
    | Subscript e sl p =>
      match sl, h with
      | .Slice none none (some (.UnaryOp .USub (.Constant (.int 1) j p1) p2)) p3, h => exact s_rev2 o.hK (sE a o e h)
    | _ => exact (Bool.false_ne_true h).elim
  | .comp el tg it cd own, c, X, Wx, k, s, o, ex, h => by
    cases ex with
    | ListComp e gs scope p =>
      match gs, h with
      | [⟨t, iter, ifs, 0⟩], h =>
        have h : (blkC s.N s.sc scope own && decide (∀ i ∈ tg.own, i ∈ own.map (·.2)) && notSet iter && chkI it s t iter && chkTg (s.blk scope) tg t && chkC1 cd (s.blk scope) ifs && chkE el (s.blk scope) e) = true := h
        simp only [Bool.and_eq_true, decide_eq_true_eq] at h
        obtain ⟨⟨⟨⟨⟨⟨h1, h2⟩, h3⟩, h4⟩, h5⟩, h6⟩, h7⟩ := h
        have ok : BlkOk X.N X.env.scope scope own := by
          rw [o.eN, o.esc]
          exact blkOk_by h1
        exact PE.imp (pe_lc o.calm o.nd (sI it o t iter h4) ok (fun s1 H C cl fp => s_tg (o.blk s1 H scope C cl fp) h5) (fun s1 H C cl fp => sC cd (o.blk s1 H scope C cl fp) ifs h6)
          (fun s1 H C cl fp => sE el (o.blk s1 H scope C cl fp) e h7) (set_fold h3 _)) (comp_of h2)
    | _ => exact (Bool.false_ne_true h).elim
  | .lrg1 t a, c, X, Wx, k, s, o, ex, h => by
    cases ex with
    | Call fe es kws p =>
     match fe, es, kws, h with
     | .Name x p1, [.Call (.Name y p2) [e] [] p3], [], h =>
      have h : (decide (x = rgN t) && s.glob x && decide (y = ("range" : Str)) && s.glob y && notStar e && chkE a s e) = true := h
      simp only [Bool.and_eq_true, decide_eq_true_eq] at h
      obtain ⟨⟨⟨⟨⟨rfl, h1⟩, rfl⟩, h2⟩, h3⟩, h4⟩ := h
      exact s_lrg1 o.calm (o.gl h1).1 (o.bl _ (by cases t <;> decide +kernel)) (o.gl h2).1 (o.bl _ (by decide +kernel)) (sE a o e h4) (star_cons h3 _)
    | _ => exact (Bool.false_ne_true h).elim
  | .lrg2 t a b, c, X, Wx, k, s, o, ex, h => by
    cases ex with
    | Call fe es kws p =>
     match fe, es, kws, h with
     | .Name x p1, [.Call (.Name y p2) [e, f] [] p3], [], h =>
      have h : (decide (x = rgN t) && s.glob x && decide (y = ("range" : Str)) && s.glob y && notStar e && chkE a s e && notStar f && chkE b s f) = true := h
      simp only [Bool.and_eq_true, decide_eq_true_eq] at h
      obtain ⟨⟨⟨⟨⟨⟨⟨rfl, h1⟩, rfl⟩, h2⟩, h3⟩, h4⟩, h5⟩, h6⟩ := h
      exact s_lrg2 o.calm (o.gl h1).1 (o.bl _ (by cases t <;> decide +kernel)) (o.gl h2).1 (o.bl _ (by decide +kernel)) (sE a o e h4) (sE b o f h6) (star_cons h3 _) (star_cons h5 _)
    | _ => exact (Bool.false_ne_true h).elim
theorem sT : ∀ (e : E) {c : Cst} {X : Cx} {Wx : WX} {k : Nat} {s : Sx} (o : Okx c X Wx k P G s) (ex : Expr), chkE e s ex = true → PT X ex (tT c Wx (dT P G e))
  | .not a, c, X, Wx, k, s, o, ex, h => by
    cases ex with
    | UnaryOp op e p =>
      cases op with
      | Not => exact s_notT (sT a o e h)
      | _ => exact (Bool.false_ne_true h).elim
    | _ => exact (Bool.false_ne_true h).elim
  | .cmp op a b, c, X, Wx, k, s, o, ex, h => by
    cases ex with
    | Compare l ops rs p =>
      match ops, rs, h with
      | [op'], [r], h =>
        have h : (decide (op = op') && !behindInMarks op r && chkE a s l && chkE b s r) = true := h
        simp only [Bool.and_eq_true, decide_eq_true_eq, Bool.not_eq_true'] at h
        obtain ⟨⟨⟨rfl, h1⟩, h2⟩, h3⟩ := h
        obtain ⟨r1, f1, g1⟩ := copR o op
        exact s_cmpT f1 g1 (sE a o l h2) (sE b o r h3) h1
      | [], _, h => exact (Bool.false_ne_true h).elim
      | [_], [], h => exact (Bool.false_ne_true h).elim
      | [_], _ :: _ :: _, h => exact (Bool.false_ne_true h).elim
      | _ :: _ :: _, _, h => exact (Bool.false_ne_true h).elim
    | _ => exact (Bool.false_ne_true h).elim
  | .chn op1 op2 a b d, c, X, Wx, k, s, o, ex, h => by
    cases ex with
    | Compare l ops rs p =>
      match ops, rs, h with
      | [o1, o2], [r, q], h =>
        have h : (decide (op1 = o1) && decide (op2 = o2) && !lastMarks [op1, op2] [r, q] && chkE a s l && chkE b s r && chkE d s q) = true := h
        simp only [Bool.and_eq_true, decide_eq_true_eq, Bool.not_eq_true'] at h
        obtain ⟨⟨⟨⟨⟨rfl, rfl⟩, h1⟩, h2⟩, h3⟩, h4⟩ := h
        obtain ⟨r1, f1, g1⟩ := copR o op1
        obtain ⟨r2, f2, g2⟩ := copR o op2
        exact s_chnT f1 f2 g1 g2 (sE a o l h2) (sE b o r h3) (sE d o q h4) h1
      | [], _, h => exact (Bool.false_ne_true h).elim
      | [_], _, h => exact (Bool.false_ne_true h).elim
      | [_, _], [], h => exact (Bool.false_ne_true h).elim
      | [_, _], [_], h => exact (Bool.false_ne_true h).elim
      | [_, _], _ :: _ :: _ :: _, h => exact (Bool.false_ne_true h).elim
      | _ :: _ :: _ :: _, _, h => exact (Bool.false_ne_true h).elim
    | _ => exact (Bool.false_ne_true h).elim
  | .and a b, c, X, Wx, k, s, o, ex, h => by
    cases ex with
    | BoolOp op vs p =>
      cases op with
      | Or => exact (Bool.false_ne_true h).elim
      | And =>
        match vs, h with
        | e1 :: e2 :: [], h =>
          have h : (chkE a s e1 && chkE b s e2) = true := h
          rw [Bool.and_eq_true] at h
          exact (s_andT (sT a o e1 h.1) (pw_and1 (sT b o e2 h.2))).pt
        | e1 :: e2 :: e3 :: rest, h =>
          have h : (chkE a s e1 && chkE b s (.BoolOp .And (e2 :: e3 :: rest) p)) = true := h
          rw [Bool.and_eq_true] at h
          exact (s_andT (sT a o e1 h.1) (pw_of_pt (sT b o _ h.2))).pt
        | [], h => exact (Bool.false_ne_true h).elim
        | [_], h => exact (Bool.false_ne_true h).elim
    | _ => exact (Bool.false_ne_true h).elim
  | .or a b, c, X, Wx, k, s, o, ex, h => by
    cases ex with
    | BoolOp op vs p =>
      cases op with
      | And => exact (Bool.false_ne_true h).elim
      | Or =>
        match vs, h with
        | e1 :: e2 :: [], h =>
          have h : (chkE a s e1 && chkE b s e2) = true := h
          rw [Bool.and_eq_true] at h
          exact (s_orT (sT a o e1 h.1) (pw_or1 (sT b o e2 h.2))).pt
        | e1 :: e2 :: e3 :: rest, h =>
          have h : (chkE a s e1 && chkE b s (.BoolOp .Or (e2 :: e3 :: rest) p)) = true := h
          rw [Bool.and_eq_true] at h
          exact (s_orT (sT a o e1 h.1) (pw_of_pt (sT b o _ h.2))).pt
        | [], h => exact (Bool.false_ne_true h).elim
        | [_], h => exact (Bool.false_ne_true h).elim
    | _ => exact (Bool.false_ne_true h).elim
  | .var i, c, X, Wx, k, s, o, ex, h => by
    have q := sE (.var i) o ex h
    cases ex with
    | Name x p => exact s_tru o.hK q fun _ => rfl
    | _ => exact (Bool.false_ne_true h).elim
  | .cst i, c, X, Wx, k, s, o, ex, h => by
    have q := sE (.cst i) o ex h
    cases ex with
    | Constant x j p => exact s_tru o.hK q fun _ => rfl
    | _ => exact (Bool.false_ne_true h).elim
  | .call f as, c, X, Wx, k, s, o, ex, h => by
    have q := sE (.call f as) o ex h
    cases ex with
    | Call fe es kws p => exact s_tru o.hK q fun _ => rfl
    | _ => exact (Bool.false_ne_true h).elim
  | .blt b as, c, X, Wx, k, s, o, ex, h => by
    have q := sE (.blt b as) o ex h
    cases ex with
    | Call fe es kws p => exact s_tru o.hK q fun _ => rfl
    | _ => exact (Bool.false_ne_true h).elim
  | .isi T a, c, X, Wx, k, s, o, ex, h => by
    have q := sE (.isi T a) o ex h
    cases ex with
    | Call fe es kws p => exact s_tru o.hK q fun _ => rfl
    | _ => exact (Bool.false_ne_true h).elim
  | .mth m a as, c, X, Wx, k, s, o, ex, h => by
    have q := sE (.mth m a as) o ex h
    cases ex with
    | Call fe es kws p => exact s_tru o.hK q fun _ => rfl
    | _ => exact (Bool.false_ne_true h).elim
  | .ix a i, c, X, Wx, k, s, o, ex, h => by
    have q := sE (.ix a i) o ex h
    cases ex with
    | Subscript e1 e2 p => exact s_tru o.hK q fun _ => rfl
    | _ => exact (Bool.false_ne_true h).elim
  | .glb _, c, X, Wx, k, s, o, ex, _ => no_pt
  | .bin _ _ _, c, X, Wx, k, s, o, ex, _ => no_pt
  | .neg _, c, X, Wx, k, s, o, ex, _ => no_pt
  | .ite _ _ _, c, X, Wx, k, s, o, ex, _ => no_pt
  | .tup _, c, X, Wx, k, s, o, ex, _ => no_pt
  | .lst _, c, X, Wx, k, s, o, ex, _ => no_pt
  | .dic, c, X, Wx, k, s, o, ex, _ => no_pt
  | .dct _ _, c, X, Wx, k, s, o, ex, _ => no_pt
  | .sl _ _ _, c, X, Wx, k, s, o, ex, _ => no_pt
  | .rev _, c, X, Wx, k, s, o, ex, _ => no_pt
  | .comp _ _ _ _ _, c, X, Wx, k, s, o, ex, _ => no_pt
  | .lrg1 _ _, c, X, Wx, k, s, o, ex, _ => no_pt
  | .lrg2 _ _ _, c, X, Wx, k, s, o, ex, _ => no_pt
theorem sO : ∀ (a : Eo) {c : Cst} {X : Cx} {Wx : WX} {k : Nat} {s : Sx} (o : Okx c X Wx k P G s) (e : Option Expr), chkO a s e = true → PO X e (tO c Wx (dO P G a))
  | .none, c, X, Wx, k, s, o, none, _ => s_noPart
  | .some a, c, X, Wx, k, s, o, some e, h => s_part (sE a o e h)
  | .none, c, X, Wx, k, s, o, some _, h => (Bool.false_ne_true h).elim
  | .some _, c, X, Wx, k, s, o, none, h => (Bool.false_ne_true h).elim
theorem sC : ∀ (a : Eo) {c : Cst} {X : Cx} {Wx : WX} {k : Nat} {s : Sx} (o : Okx c X Wx k P G s) (es : List Expr), chkC1 a s es = true → PTs X es (tT c Wx (dC P G a))
  | .none, c, X, Wx, k, s, o, [], _ => ⟨fun pins st σ H Q I q => pts_nil.run pins st σ H Q I (s_yes (X := X) _ _ _ q)⟩
  | .some a, c, X, Wx, k, s, o, [e], h => pts_one (sT a o e h)
  | .none, c, X, Wx, k, s, o, _ :: _, h => (Bool.false_ne_true h).elim
  | .some _, c, X, Wx, k, s, o, [], h => (Bool.false_ne_true h).elim
  | .some _, c, X, Wx, k, s, o, _ :: _ :: _, h => (Bool.false_ne_true h).elim
theorem sI : ∀ (it : It') {c : Cst} {X : Cx} {Wx : WX} {k : Nat} {s : Sx} (o : Okx c X Wx k P G s) (t e : Expr), chkI it s t e = true → PI X t e (tI c Wx (dI P G it))
  | .seq a, c, X, Wx, k, s, o, t, e, h => s_seq o.hK (sE a o e h)
  | .rg1 a, c, X, Wx, k, s, o, t, e, h => by
    match e, h with
    | .Call (.Name x p1) [e1] [] p, h =>
      have h : (decide (x = ("range" : Str)) && s.glob x && notStar e1 && chkE a s e1) = true := h
      simp only [Bool.and_eq_true, decide_eq_true_eq] at h
      obtain ⟨⟨⟨rfl, h1⟩, h2⟩, h3⟩ := h
      exact s_rg1 (o.gl h1).1 (o.bl _ (by decide +kernel)) (s_cons (sE a o e1 h3) s_nil (star_cons h2 _)) (star_cons h2 _)
  | .rg2 a b, c, X, Wx, k, s, o, t, e, h => by
    match e, h with
    | .Call (.Name x p1) [e1, e2] [] p, h =>
      have h : (decide (x = ("range" : Str)) && s.glob x && notStar e1 && chkE a s e1 && notStar e2 && chkE b s e2) = true := h
      simp only [Bool.and_eq_true, decide_eq_true_eq] at h
      obtain ⟨⟨⟨⟨⟨rfl, h1⟩, h2⟩, h3⟩, h4⟩, h5⟩ := h
      exact s_rg2 (o.gl h1).1 (o.bl _ (by decide +kernel)) (s_cons (sE a o e1 h3) (s_cons (sE b o e2 h5) s_nil (star_cons h4 _)) (star_cons h2 _)) (by rw [star_cons h2, star_cons h4]; rfl) (star_cons h4 _)
  | .rg3 a b d, c, X, Wx, k, s, o, t, e, h => by
    match e, h with
    | .Call (.Name x p1) [e1, e2, e3] [] p, h =>
      have h : (decide (x = ("range" : Str)) && s.glob x && notStar e1 && chkE a s e1 && notStar e2 && chkE b s e2 && notStar e3 && chkE d s e3) = true := h
      simp only [Bool.and_eq_true, decide_eq_true_eq] at h
      obtain ⟨⟨⟨⟨⟨⟨⟨rfl, h1⟩, h2⟩, h3⟩, h4⟩, h5⟩, h6⟩, h7⟩ := h
      exact s_rg3 (o.gl h1).1 (o.bl _ (by decide +kernel)) (s_cons (sE a o e1 h3) (s_cons (sE b o e2 h5) (s_cons (sE d o e3 h7) s_nil (star_cons h6 _)) (star_cons h4 _)) (star_cons h2 _)) (star_cons h2 _)
        (star_plain (fun y hy => by
          rcases List.mem_cons.mp hy with rfl | hy
          · exact h4
          · rw [List.mem_singleton.mp hy]; exact h6))
  | .enu a, c, X, Wx, k, s, o, t, e, h => by
    match e, h with
    | .Call (.Name x p1) [e1] [] p, h =>
      have h : (decide (x = ("enumerate" : Str)) && s.glob x && isTup t && notStar e1 && chkE a s e1) = true := h
      simp only [Bool.and_eq_true, decide_eq_true_eq] at h
      obtain ⟨⟨⟨⟨rfl, h1⟩, ht⟩, h2⟩, h3⟩ := h
      cases t with
      | Tuple elts kk tpos => exact s_enu o.hK (o.gl h1).1 (o.bl _ (by decide +kernel)) (s_cons (sE a o e1 h3) s_nil (star_cons h2 _)) (star_cons h2 _)
      | _ => exact (Bool.false_ne_true ht).elim
  | .zip a b, c, X, Wx, k, s, o, t, e, h => by
    match e, h with
    | .Call (.Name x p1) [e1, e2] [] p, h =>
      have h : (decide (x = ("zip" : Str)) && s.glob x && isTup t && notStar e1 && chkE a s e1 && notStar e2 && chkE b s e2) = true := h
      simp only [Bool.and_eq_true, decide_eq_true_eq] at h
      obtain ⟨⟨⟨⟨⟨⟨rfl, h1⟩, ht⟩, h2⟩, h3⟩, h4⟩, h5⟩ := h
      cases t with
      | Tuple elts kk tpos => exact s_zip o.hK (o.gl h1).1 (o.bl _ (by decide +kernel)) (s_cons (sE a o e1 h3) (s_cons (sE b o e2 h5) s_nil (star_cons h4 _)) (star_cons h2 _)) (star_cons h2 _) (star_plain (fun y hy => by rw [List.mem_singleton.mp hy]; exact h4))
      | _ => exact (Bool.false_ne_true ht).elim
theorem sEs : ∀ (as : Es) {c : Cst} {X : Cx} {Wx : WX} {k : Nat} {s : Sx} (o : Okx c X Wx k P G s) (es : List Expr), chkEs as s es = true → PA X es (tA c Wx (dEs P G as))
  | .nil, c, X, Wx, k, s, o, [], _ => s_nil
  | .nil, c, X, Wx, k, s, o, _ :: _, h => (Bool.false_ne_true h).elim
  | .cons a r, c, X, Wx, k, s, o, [], h => (Bool.false_ne_true h).elim
  | .cons a r, c, X, Wx, k, s, o, e :: es, h => by
    have h : (notStar e && chkE a s e && chkEs r s es) = true := h
    simp only [Bool.and_eq_true] at h
    exact s_cons (sE a o e h.1.2) (sEs r o es h.2) (star_cons h.1.1 _)
theorem sPr : ∀ (as : Es) {c : Cst} {X : Cx} {Wx : WX} {k : Nat} {s : Sx} {pos : Pos} (o : Okx c X Wx k P G s) (ks : List Str) (keys : List (Option Expr)) (vals : List Expr), chkKeys ks keys = true → keys.length = vals.length → chkEs as s vals = true → Pr X c Wx pos keys vals (ks.map Sum.inr) (dEs P G as)
  | .nil, c, X, Wx, k, s, pos, o, ks, keys, vals, h, hl, h' => by
    match vals, h' with
    | [], _ =>
      match keys, hl with
      | [], _ =>
        match ks, h with
        | [], _ => exact pr_nil
  | .cons a r, c, X, Wx, k, s, pos, o, ks, keys, vals, h, hl, h' => by
    match vals, h' with
    | e :: es, h' =>
      have h' : (notStar e && chkE a s e && chkEs r s es) = true := h'
      simp only [Bool.and_eq_true] at h'
      match keys, hl with
      | q :: keys, hl =>
        match ks, q, h with
        | x :: ks, some (.Constant (.str y) _ _), h =>
          have h : (decide (x = y) && chkKeys ks keys) = true := h
          rw [Bool.and_eq_true, decide_eq_true_eq] at h
          obtain ⟨h1, h2⟩ := h
          subst h1
          exact pr_cons (sE a o e h'.1.2) (sPr r o ks keys es h2 (by simpa using hl) h'.2)
end
end Dp
namespace Dp
open PySem PySem.Spec L2
open PyProof.Rows hiding St

def iopOk : Operator → Bool
  | .Add => true | .Sub => true
  | _ => false
def notLc : E → Bool
  | .comp .. => false
  | _ => true
def Sx.lcl (s : Sx) (x : Str) : Bool := decide (s.sc.names.lookup x = some .local)
def Sx.cel (s : Sx) (x : Str) : Bool := decide (s.sc.names.lookup x = some .cell)
def Sx.isFn (s : Sx) : Bool := decide (s.sc.kind = .function)
def lcOk (s : Sx) (x : Str) (p1 : Pos) : Expr → Bool
  | .ListComp _ _ scope pos => s.isFn && s.lcl x && (p1.line == pos.line) && ((scope.names.any fun (n, k) => n == x && (k == .local || k == .cell)) == false)
  | _ => false
def chkPar (s : Sx) (as : Es) : List Nat → List Expr → Expr → Bool
  | [i, j], [.Tuple [.Name x px, .Name y py] _ _], .Tuple [a, b] _ _ => s.isFn && decide (s.N[i]? = some x) && decide (s.N[j]? = some y) && decide (i ≠ j) && decide (x ≠ y) && s.lcl x && s.lcl y && (py.line == px.line) &&
      notStar a && notStar b && !(foldedForSure 8 a && foldedForSure 8 b) && !(constantsAlone 8 a && constantsAlone 8 b) && chkEs as s [a, b]
  | [i, j, l], [.Tuple [.Name x px, .Name y py, .Name z pz] _ _], .Tuple [a, b, d] _ _ => s.isFn && decide (s.N[i]? = some x) && decide (s.N[j]? = some y) && decide (s.N[l]? = some z) && decide (i ≠ j) && decide (i ≠ l) && decide (j ≠ l) && decide (x ≠ y) && decide (x ≠ z) && decide (y ≠ z) && s.lcl x && s.lcl y && s.lcl z && (py.line == px.line) && (pz.line == px.line) &&
      notStar a && notStar b && notStar d && !(foldedForSure 8 a && (foldedForSure 8 b && foldedForSure 8 d)) && !(constantsAlone 8 a && (constantsAlone 8 b && constantsAlone 8 d)) && chkEs as s [a, b, d]
  | _, _, _ => false
def chkAsg (s : Sx) (a : E) : Tg → List Expr → Expr → Bool
  | .nm i, [.Name x p1], v => s.loc i x && chkE a s v && (notComp v || (lcOk s x p1 v && !notLc a) || s.cel x)
  | .tp is, [.Tuple es j p1], v => chkTg s (.tp is) (.Tuple es j p1) && notTup v && notComp v && chkE a s v
  | _, _, _ => false
mutual
def chkS : Sm → Sx → Stmt → Bool
  | .asg tg a, s, .Assign ts v _ => chkAsg s a tg ts v
  | .par is as, s, .Assign ts v _ => chkPar s as is ts v
  | .set o i a, s, .Assign [.Subscript eo ei _] v _ => notSlice ei && chkE o s eo && chkE i s ei && chkE a s v
  | .aug i op a, s, .AugAssign (.Name x _) op' e _ => decide (op = op') && iopOk op && s.loc i x && chkE a s e
  | .augS o i op a, s, .AugAssign (.Subscript eo ei _) op' e _ => decide (op = op') && iopOk op && notSlice ei && chkE o s eo && chkE i s ei && chkE a s e
  | .exp a, s, .Expr e _ => notComp e && chkE a s e
  | .ret a, s, .Return (some e) _ => chkE a s e
  | .retN, _, .Return none _ => true
  | .ite t a b, s, .If e p q _ => chkE t s e && chkSs a s p && chkSs b s q
  | .for tg it b, s, .For t e body [] _ => notSet e && chkI it s t e && chkTg s tg t && chkSs b s body
  | .whl t b, s, .While e body [] _ => chkE t s e && chkSs b s body
  | .brk, _, .Break _ => true
  | .cnt, _, .Continue _ => true
  | .pass, _, .Pass _ => true
  | .pass, _, .Expr (.Constant (.str _) _ _) _ => true
  | _, _, _ => false
def chkSs : Sms → Sx → List Stmt → Bool
  | .nil, _, [] => true
  | .cons a r, s, st :: rest => chkS a s st && chkSs r s rest
  | _, _, _ => false
end
theorem sw2 {x y : Str} {px py pt pt2 : Pos} {kt k2} {a b : Expr} {env : Env} (hk : env.scope.kind = .function) (hx : env.scope.names.lookup x = some .local) (hy : env.scope.names.lookup y = some .local) (hxy : x ≠ y) (hl : (py.line == px.line) = true)
    (h1 : notStar a = true) (h2 : notStar b = true) (h3 : (foldedForSure 8 a && foldedForSure 8 b) = false) (h4 : (constantsAlone 8 a && constantsAlone 8 b) = false) :
    swappedStores [.Tuple [.Name x px, .Name y py] kt pt] (.Tuple [a, b] k2 pt2) env = pure (some [x, y]) := by
  have ky : env.kindOf y = some .local := hy
  have kx : env.kindOf x = some .local := hx
  have hb : env.blockKind = .function := by unfold Env.blockKind; rw [hk]; rfl
  have hl2 : py.line = px.line := by simpa using hl
  have e1 : (y == x) = false := by simpa using Ne.symm hxy
  have e2 : (x == y) = false := by simpa using hxy
  unfold swappedStores
  have h3' : ¬ (foldedForSure 8 a = true ∧ foldedForSure 8 b = true) := by simpa using h3
  have h4' : ¬ (constantsAlone 8 a = true ∧ constantsAlone 8 b = true) := by simpa using h4
  have hd : ([x, y] : List Str).eraseDups = [x, y] := by simp [List.eraseDups_cons, e1]
  simp [hb, kx, ky, Expr.pos, hl2, List.eraseDups_cons, e1, e2, h3', h4', hxy, Ne.symm hxy]
  intro hh
  exfalso
  rcases hh with hh | hh
  · revert h1; cases a <;> first | (intro h1; exact Bool.false_ne_true h1) | (intro _; exact Bool.false_ne_true hh)
  · revert h2; cases b <;> first | (intro h1; exact Bool.false_ne_true h1) | (intro _; exact Bool.false_ne_true hh)
theorem sw3 {x y z : Str} {px py pz pt pt2 : Pos} {kt k2} {a b d : Expr} {env : Env} (hk : env.scope.kind = .function) (hx : env.scope.names.lookup x = some .local) (hy : env.scope.names.lookup y = some .local) (hz : env.scope.names.lookup z = some .local) (hxy : x ≠ y) (hxz : x ≠ z) (hyz : y ≠ z) (hl : (py.line == px.line) = true) (hm : (pz.line == px.line) = true)
    (h1 : notStar a = true) (h2 : notStar b = true) (h5 : notStar d = true) (h3 : (foldedForSure 8 a && (foldedForSure 8 b && foldedForSure 8 d)) = false) (h4 : (constantsAlone 8 a && (constantsAlone 8 b && constantsAlone 8 d)) = false) :
    swappedStores [.Tuple [.Name x px, .Name y py, .Name z pz] kt pt] (.Tuple [a, b, d] k2 pt2) env = pure (some [x, y, z]) := by
  have ky : env.kindOf y = some .local := hy
  have kx : env.kindOf x = some .local := hx
  have kz : env.kindOf z = some .local := hz
  have hb : env.blockKind = .function := by unfold Env.blockKind; rw [hk]; rfl
  have hl2 : py.line = px.line := by simpa using hl
  have hm2 : pz.line = px.line := by simpa using hm
  unfold swappedStores
  have h3' : ¬ (foldedForSure 8 a = true ∧ foldedForSure 8 b = true ∧ foldedForSure 8 d = true) := by simpa using h3
  have h4' : ¬ (constantsAlone 8 a = true ∧ constantsAlone 8 b = true ∧ constantsAlone 8 d = true) := by simpa using h4
  simp [hb, kx, ky, kz, Expr.pos, hl2, hm2, List.eraseDups_cons, h3', h4', hxy, Ne.symm hxy, hxz, Ne.symm hxz, hyz, Ne.symm hyz]
  intro hh
  exfalso
  rcases hh with hh | hh | hh
  · revert h1; cases a <;> first | (intro h1; exact Bool.false_ne_true h1) | (intro _; exact Bool.false_ne_true hh)
  · revert h2; cases b <;> first | (intro h1; exact Bool.false_ne_true h1) | (intro _; exact Bool.false_ne_true hh)
  · revert h5; cases d <;> first | (intro h1; exact Bool.false_ne_true h1) | (intro _; exact Bool.false_ne_true hh)
theorem swaps_cell {x : Str} {p : Pos} {e : Expr} {l : Nat} {env : Env} (h : env.scope.names.lookup x = some .cell) : swapsWith e (some (.Name x p)) l env = pure false := by
  have k : env.kindOf x = some .cell := h
  unfold swapsWith
  have e1 : (env.kindOf x == some NameKind.local) = false := by rw [k]; rfl
  cases e <;> first | rfl | (simp only [e1, Bool.and_false, Bool.false_and]; done) | (simp only [e1, Bool.and_false, Bool.false_and]; rfl)
theorem sws_not {t e : Expr} (h : notComp e = true) (l : Nat) (env : Env) : swapsWithSole [t] e l env = pure false := swaps_not h _ _ _
theorem sws_tup {t : Expr} {es : List Expr} {j : Nat} {p : Pos} (l : Nat) (env : Env) : swapsWithSole [t] (.Tuple es j p) l env = pure false := rfl
variable {P : Nat → Pm} {G : Nat → W}
theorem par_of {c : Cst} {Wx : WX} {is : List Nat} {a : WEs} {D : Ends} {σ : L2.St} {H : Hp} (h : tS c Wx (mPar is a) D σ H) : tA c Wx a σ H fun vs H1 => vs.length = is.length ∧ D.nx (sets σ is vs) H1 := by
  obtain ⟨E, ρ, S, re, rs, hm, rd⟩ := h
  refine ⟨ρ, S, _, E.ex, re, rs, hm, fun ws S1 H1 vs k1 e1 rs1 rv => ?_, rd.ex σ⟩
  exact ⟨by rw [← rv.length]; exact k1.1, rd.nx _ S1 _ H1 k1.2 e1 (RE.sets (re.tst (e1.tst rs)) rv) rs1⟩
theorem par2_of {c : Cst} {Wx : WX} {i j : Nat} {a : WEs} {D : Ends} {σ : L2.St} {H : Hp} (h : tS c Wx (mPar [i, j] a) D σ H) : tPar i j (tA c Wx a) D σ H := by
  obtain ⟨ρ, S, Kk, Ek, re, rs, hm, po, px⟩ := par_of h
  refine ⟨ρ, S, Kk, Ek, re, rs, hm, fun ws S1 H1 vs k1 e1 rs1 rv => ?_, px⟩
  obtain ⟨hl, q⟩ := po ws S1 H1 vs k1 e1 rs1 rv
  match vs, hl, q with
  | [v, w], _, q => exact ⟨v, w, rfl, q⟩
theorem par3_of {c : Cst} {Wx : WX} {i j l : Nat} {a : WEs} {D : Ends} {σ : L2.St} {H : Hp} (h : tS c Wx (mPar [i, j, l] a) D σ H) : tPar3 i j l (tA c Wx a) D σ H := by
  obtain ⟨ρ, S, Kk, Ek, re, rs, hm, po, px⟩ := par_of h
  refine ⟨ρ, S, Kk, Ek, re, rs, hm, fun ws S1 H1 vs k1 e1 rs1 rv => ?_, px⟩
  obtain ⟨hl, q⟩ := po ws S1 H1 vs k1 e1 rs1 rv
  match vs, hl, q with
  | [v, w, u], _, q => exact ⟨v, w, u, rfl, q⟩
theorem lcl_of {s : Sx} {x : Str} (h : s.lcl x = true) : s.sc.names.lookup x = some .local := of_decide_eq_true h
theorem Okx.nth {c : Cst} {X : Cx} {Wx : WX} {k : Nat} {s : Sx} (o : Okx c X Wx k P G s) {i : Nat} {x : Str} (h : s.N[i]? = some x) : X.N[i]? = some x := by rw [o.eN]; exact h
theorem Okx.lk {c : Cst} {X : Cx} {Wx : WX} {k : Nat} {s : Sx} (o : Okx c X Wx k P G s) {x : Str} (h : s.lcl x = true) : X.env.scope.names.lookup x = some .local := by rw [o.esc]; exact lcl_of h
theorem s_asgN {c : Cst} {X : Cx} {Wx : WX} {k : Nat} {s : Sx} (o : Okx c X Wx k P G s) (i : Nat) (a : E) (x : Str) (p1 pos : Pos) (v : Expr) (h : (s.loc i x && chkE a s v && (notComp v || (lcOk s x p1 v && !notLc a) || s.cel x)) = true) : PS X (.Assign [.Name x p1] v pos) (tS c Wx (mAsg (.nm i) (dE P G a))) := by
  simp only [Bool.and_eq_true, Bool.or_eq_true] at h
  obtain ⟨⟨h1, h2⟩, h3⟩ := h
  rcases h3 with (h3 | h3) | h3
  · obtain ⟨l1, l2, l3⟩ := o.loca h1
    exact PS.imp (ps_set o.nd l1 l2 (sE a o v h2) (swaps_not h3 _ _ _) l3) fun D σ H q => asg_of (fun _ _ _ q => q) q
  rotate_left
  · obtain ⟨l1, l2, l3⟩ := o.loca h1
    have hc : X.env.scope.names.lookup x = some .cell := by rw [o.esc]; exact of_decide_eq_true h3
    exact PS.imp (ps_set o.nd l1 l2 (sE a o v h2) (swaps_cell hc) l3) fun D σ H q => asg_of (fun _ _ _ q => q) q
  · obtain ⟨l1, _, _⟩ := o.loca h1
    obtain ⟨h3, h4⟩ := h3
    cases a with
    | comp el tg it cd own =>
      cases v with
      | ListComp e gs scope p =>
        match gs, h2 with
        | [⟨t, iter, ifs, 0⟩], h =>
          have h : (blkC s.N s.sc scope own && decide (∀ i ∈ tg.own, i ∈ own.map (·.2)) && notSet iter && chkI it s t iter && chkTg (s.blk scope) tg t && chkC1 cd (s.blk scope) ifs && chkE el (s.blk scope) e) = true := h
          simp only [Bool.and_eq_true, decide_eq_true_eq] at h
          obtain ⟨⟨⟨⟨⟨⟨h1, h2⟩, h3'⟩, h4⟩, h5⟩, h6⟩, h7⟩ := h
          have ok : BlkOk X.N X.env.scope scope own := by
            rw [o.eN, o.esc]
            exact blkOk_by h1
          have h3 : (s.isFn && s.lcl x && (p1.line == p.line) && ((scope.names.any fun (n, k) => n == x && (k == .local || k == .cell)) == false)) = true := h3
          simp only [Bool.and_eq_true] at h3
          obtain ⟨⟨⟨g1, g2⟩, g3⟩, g4⟩ := h3
          have kf : X.env.scope.kind = .function := by rw [o.esc]; exact of_decide_eq_true g1
          refine PS.imp (ps_setLc o.calm o.nd l1 (o.lk g2) (sw_true kf (o.lk g2) g3 (by simpa using g4)) (sI it o t iter h4) ok (fun s1 H C cl fp => s_tg (o.blk s1 H scope C cl fp) h5) (fun s1 H C cl fp => sC cd (o.blk s1 H scope C cl fp) ifs h6)
            (fun s1 H C cl fp => sE el (o.blk s1 H scope C cl fp) e h7) (set_fold h3' _)) fun D σ H q => asg_of (te := _) (comp_of h2) q
      | _ => exact (Bool.false_ne_true h2).elim
    | _ => exact (Bool.false_ne_true h4).elim
theorem s_asgAll {c : Cst} {X : Cx} {Wx : WX} {k : Nat} {s : Sx} (o : Okx c X Wx k P G s) (tg : Tg) (a : E) (ts : List Expr) (v : Expr) (pos : Pos) (h : chkAsg s a tg ts v = true) : PS X (.Assign ts v pos) (tS c Wx (mAsg tg (dE P G a))) := by
  cases tg with
  | nm i =>
    match ts, h with
    | [.Name x p1], h => exact s_asgN o i a x p1 pos v h
  | tp is =>
    match ts, h with
    | [.Tuple es j p1], h =>
      have h : (chkTg s (.tp is) (.Tuple es j p1) && notTup v && notComp v && chkE a s v) = true := h
      simp only [Bool.and_eq_true] at h
      obtain ⟨⟨⟨h1, h2⟩, h3⟩, h4⟩ := h
      exact PS.imp (ps_asg (sE a o v h4) (s_tg o h1) (sws_not h3 _ _) (stores_tup h2 _) rfl) fun D σ H q => asg_of (fun _ _ _ q => q) q
  | tk i is =>
    match ts, h with
    | [], h => exact (Bool.false_ne_true h).elim
    | _ :: _, h => exact (Bool.false_ne_true h).elim
mutual
theorem sS : ∀ (a : Sm) {c : Cst} {X : Cx} {Wx : WX} {k : Nat} {s : Sx} (o : Okx c X Wx k P G s) (st : Stmt), chkS a s st = true → PS X st (tS c Wx (dS P G a))
  | .asg tg a, c, X, Wx, k, s, o, st, h => by
    cases st with
    | Assign ts v pos => exact s_asgAll o tg a ts v pos h
    | _ => exact (Bool.false_ne_true h).elim
  | .par is as, c, X, Wx, k, s, o, st, h => by
    cases st with
    | Assign ts v pos =>
      match is, ts, v, h with
      | [i, j], [.Tuple [.Name x px, .Name y py] _ _], .Tuple [a, b] _ _, h =>
        have h : (s.isFn && decide (s.N[i]? = some x) && decide (s.N[j]? = some y) && decide (i ≠ j) && decide (x ≠ y) && s.lcl x && s.lcl y && (py.line == px.line) && notStar a && notStar b && !(foldedForSure 8 a && foldedForSure 8 b) && !(constantsAlone 8 a && constantsAlone 8 b) && chkEs as s [a, b]) = true := h
        simp only [Bool.and_eq_true, decide_eq_true_eq] at h
        obtain ⟨⟨⟨⟨⟨⟨⟨⟨⟨⟨⟨⟨h1, h2⟩, h3⟩, h4⟩, h5⟩, h6⟩, h7⟩, h8⟩, h9⟩, h10⟩, h11⟩, h12⟩, h13⟩ := h
        have kf : X.env.scope.kind = .function := by rw [o.esc]; exact of_decide_eq_true h1
        exact PS.imp (ps_par o.calm o.nd (o.nth h2) (o.nth h3) h4 (o.lk h6) (o.lk h7) (sEs as o [a, b] h13) (sw2 kf (o.lk h6) (o.lk h7) h5 h8 h9 h10 (by rw [Bool.not_eq_true'] at h11; exact h11) (by rw [Bool.not_eq_true'] at h12; exact h12)) rfl) fun D σ H q => par2_of q
      | [i, j, l], [.Tuple [.Name x px, .Name y py, .Name z pz] _ _], .Tuple [a, b, d] _ _, h =>
        have h : (s.isFn && decide (s.N[i]? = some x) && decide (s.N[j]? = some y) && decide (s.N[l]? = some z) && decide (i ≠ j) && decide (i ≠ l) && decide (j ≠ l) && decide (x ≠ y) && decide (x ≠ z) && decide (y ≠ z) && s.lcl x && s.lcl y && s.lcl z && (py.line == px.line) && (pz.line == px.line) &&
          notStar a && notStar b && notStar d && !(foldedForSure 8 a && (foldedForSure 8 b && foldedForSure 8 d)) && !(constantsAlone 8 a && (constantsAlone 8 b && constantsAlone 8 d)) && chkEs as s [a, b, d]) = true := h
        simp only [Bool.and_eq_true, decide_eq_true_eq] at h
        obtain ⟨⟨⟨⟨⟨⟨⟨⟨⟨⟨⟨⟨⟨⟨⟨⟨⟨⟨⟨⟨h1, h2⟩, h3⟩, h3'⟩, h4⟩, h4'⟩, h4''⟩, h5⟩, h5'⟩, h5''⟩, h6⟩, h7⟩, h7'⟩, h8⟩, h8'⟩, h9⟩, h10⟩, h10'⟩, h11⟩, h12⟩, h13⟩ := h
        have kf : X.env.scope.kind = .function := by rw [o.esc]; exact of_decide_eq_true h1
        exact PS.imp (ps_par3 o.calm o.nd (o.nth h2) (o.nth h3) (o.nth h3') h4 h4' h4'' (o.lk h6) (o.lk h7) (o.lk h7') (sEs as o [a, b, d] h13) (sw3 kf (o.lk h6) (o.lk h7) (o.lk h7') h5 h5' h5'' h8 h8' h9 h10 h10' (by rw [Bool.not_eq_true'] at h11; exact h11) (by rw [Bool.not_eq_true'] at h12; exact h12)) rfl) fun D σ H q => par3_of q
    | _ => exact (Bool.false_ne_true h).elim
  | .set oo i a, c, X, Wx, k, s, o, st, h => by
    cases st with
    | Assign ts v pos =>
      match ts, h with
      | [.Subscript eo ei p1], h =>
        have h : (notSlice ei && chkE oo s eo && chkE i s ei && chkE a s v) = true := h
        simp only [Bool.and_eq_true] at h
        obtain ⟨⟨⟨h1, h2⟩, h3⟩, h4⟩ := h
        exact s_set (by have := o.un; omega) (sE oo o eo h2) (sE i o ei h3) (sE a o v h4) (assign_sub h1 _) (swaps_sub _ _) (stores_sub _) rfl
    | _ => exact (Bool.false_ne_true h).elim
  | .aug i op a, c, X, Wx, k, s, o, st, h => by
    cases st with
    | AugAssign t op' e pos =>
      cases t with
      | Name x p1 =>
        have h : (decide (op = op') && iopOk op && s.loc i x && chkE a s e) = true := h
        simp only [Bool.and_eq_true, decide_eq_true_eq] at h
        obtain ⟨⟨⟨rfl, h1⟩, h2⟩, h3⟩ := h
        obtain ⟨l1, l2, l3⟩ := o.loca h2
        cases op with
        | Add => exact PS.imp (ps_aug o.nd l1 l2 (sE a o e h3) (pip_of r_iadd) l3) fun D σ H q => aug_of o_iadd q
        | Sub => exact PS.imp (ps_aug o.nd l1 l2 (sE a o e h3) (pip_of iop_sub) l3) fun D σ H q => aug_of o_isub q
        | _ => exact (Bool.false_ne_true h1).elim
      | _ => exact (Bool.false_ne_true h).elim
    | _ => exact (Bool.false_ne_true h).elim
  | .augS oo i op a, c, X, Wx, k, s, o, st, h => by
    cases st with
    | AugAssign t op' e pos =>
      cases t with
      | Subscript eo ei p1 =>
        have h : (decide (op = op') && iopOk op && notSlice ei && chkE oo s eo && chkE i s ei && chkE a s e) = true := h
        simp only [Bool.and_eq_true, decide_eq_true_eq] at h
        obtain ⟨⟨⟨⟨⟨rfl, h1⟩, h2⟩, h3⟩, h4⟩, h5⟩ := h
        have hu : X.A.units + 1 < cLine := by have := o.un; omega
        cases op with
        | Add => exact s_augS o.hK hu (sE oo o eo h3) (sE i o ei h4) (sE a o e h5) r_iadd o_iadd (aug_store h2)
        | Sub => exact s_augS o.hK hu (sE oo o eo h3) (sE i o ei h4) (sE a o e h5) iop_sub o_isub (aug_store h2)
        | _ => exact (Bool.false_ne_true h1).elim
      | _ => exact (Bool.false_ne_true h).elim
    | _ => exact (Bool.false_ne_true h).elim
  | .exp a, c, X, Wx, k, s, o, st, h => by
    cases st with
    | Expr e pos =>
      have h : (notComp e && chkE a s e) = true := h
      rw [Bool.and_eq_true] at h
      exact s_exp (sE a o e h.2) (swaps_not h.1 _ _ _)
    | _ => exact (Bool.false_ne_true h).elim
  | .ret a, c, X, Wx, k, s, o, st, h => by
    cases st with
    | Return e pos =>
      cases e with
      | some e => exact s_ret (sE a o e h)
      | none => exact (Bool.false_ne_true h).elim
    | _ => exact (Bool.false_ne_true h).elim
  | .retN, c, X, Wx, k, s, o, st, h => by
    cases st with
    | Return e pos =>
      cases e with
      | some e => exact (Bool.false_ne_true h).elim
      | none => exact s_retN
    | _ => exact (Bool.false_ne_true h).elim
  | .ite t a b, c, X, Wx, k, s, o, st, h => by
    cases st with
    | If e p q pos =>
      have h : (chkE t s e && chkSs a s p && chkSs b s q) = true := h
      simp only [Bool.and_eq_true] at h
      exact s_ite (sT t o e h.1.1) (sSs a o p h.1.2) (sSs b o q h.2)
    | _ => exact (Bool.false_ne_true h).elim
  | .for tg it b, c, X, Wx, k, s, o, st, h => by
    cases st with
    | For t e body orelse pos =>
      cases orelse with
      | nil =>
        have h : (notSet e && chkI it s t e && chkTg s tg t && chkSs b s body) = true := h
        simp only [Bool.and_eq_true] at h
        exact PS.imp (ps_for o.po o.calm (sI it o t e h.1.1.2) (s_tg o h.1.2) (sSs b o body h.2) (set_fold h.1.1.1 _)) fun D σ H q => for_of q
      | cons _ _ => exact (Bool.false_ne_true h).elim
    | _ => exact (Bool.false_ne_true h).elim
  | .whl t b, c, X, Wx, k, s, o, st, h => by
    cases st with
    | While e body orelse pos =>
      cases orelse with
      | nil =>
        have h : (chkE t s e && chkSs b s body) = true := h
        simp only [Bool.and_eq_true] at h
        exact PS.imp (ps_while o.po (sT t o e h.1) (sSs b o body h.2)) fun D σ H q => whl_of q
      | cons _ _ => exact (Bool.false_ne_true h).elim
    | _ => exact (Bool.false_ne_true h).elim
  | .brk, c, X, Wx, k, s, o, st, h => by
    cases st with
    | Break pos => exact s_brk
    | _ => exact (Bool.false_ne_true h).elim
  | .cnt, c, X, Wx, k, s, o, st, h => by
    cases st with
    | Continue pos => exact s_cnt
    | _ => exact (Bool.false_ne_true h).elim
  | .pass, c, X, Wx, k, s, o, st, h => by
    cases st with
    | Pass pos => exact s_pass
    | Expr e pos =>
      match e, h with
      | .Constant (.str x) _ _, _ => exact s_doc
    | _ => exact (Bool.false_ne_true h).elim
theorem sSs : ∀ (a : Sms) {c : Cst} {X : Cx} {Wx : WX} {k : Nat} {s : Sx} (o : Okx c X Wx k P G s) (st : List Stmt), chkSs a s st = true → PSs X st (tS c Wx (dSs P G a))
  | .nil, c, X, Wx, k, s, o, [], _ => s_skip
  | .nil, c, X, Wx, k, s, o, _ :: _, h => (Bool.false_ne_true h).elim
  | .cons a r, c, X, Wx, k, s, o, [], h => (Bool.false_ne_true h).elim
  | .cons a r, c, X, Wx, k, s, o, st :: rest, h => by
    have h : (chkS a s st && chkSs r s rest) = true := h
    rw [Bool.and_eq_true] at h
    exact s_then (sS a o st h.1) (sSs r o rest h.2)
end
/-! ### a def -/
/-- the callees and the constants of a whole, as the layer asks for them -/
structure Whole (c : Cst) (P : Program) (w : World) (mg : Str → Option Value) (base : Heap) (k : Nat) (p : Nat → Pm) (G : Nat → W) (fns gls : List Str) : Prop where
  bl : ∀ x ∈ bnames, mg x = none
  fns : ∀ (j : Nat) (x : Str), fns[j]? = some x → ∃ f fd ps, mg x = some (.ref f) ∧ PySem.W.keepIn c.K (.ref f) = true ∧ Binds c.K fd ps [] ∧ GOk P w c.K mg base k f fd ps (spOf c (p j))
  gls : ∀ (j : Nat) (x : Str), gls[j]? = some x → ∃ u v, mg x = some u ∧ RelV v u ∧ ∀ H, RV c.K H (G j) v
/-- the meaning of a def's body by a promise -/
def Keeps (p : Nat → Pm) (G : Nat → W) (n : Nat) (np : Nat) (b : Sms) (q : Pm) : Prop := ∀ ws S Kk Ek, q ws S Kk Ek → ws.length = np ∧ dSs p G b { nx := fun _ S => Kk .non S, rt := Kk, bk := fun _ _ => False, ct := fun _ _ => False, ex := Ek } (startW n ws) S
theorem def_ok {c : Cst} {P : Program} {w : World} {mg : Str → Option Value} {base : Heap} {k : Nat} {p : Nat → Pm} {G : Nat → W} {fns gls : List Str} {f : Addr} {x qual : Str} {params : Arguments} {body : List Stmt} {scope : Scope} {fd : FuncData} {N ps : List Str} {b : Sms} {q : Pm}
    (F : FunD c.K x qual params body scope [] [] f fd) (S : FnScope N ps scope) (hc : chkSs b ⟨N, scope, fun _ => true, fns, gls⟩ body = true) (W : Whole c P w mg base k p G fns gls) (hq : Keeps p G N.length ps.length b q) : GOk P w c.K mg base (k + 1) f fd ps (spOf c q) := by
  refine g_of F S (fun vs H Q E h => ?_) fun cdv A outer s H vs Q E hg hr h => ?_
  · obtain ⟨ws, S, Kk, Ek, rv, _, hm, _⟩ := h
    rw [← rv.length]
    exact (hq ws S Kk Ek hm).1
  · obtain ⟨ws, S', Kk, Ek, rv, rs, hm, po, px⟩ := h
    have o : Okx c (cxOf (L2.CX P w) P w c.K mg base N qual scope f cdv A outer s H E) (fun cls d _ H => E cls d H) k p G ⟨N, scope, fun _ => true, fns, gls⟩ := {
      hK := rfl, calm := rfl, nd := S.nd, gd := hg, room := hr, tk := takes_of rfl rfl rfl rfl, po := passes_of rfl, eN := rfl, esc := rfl, efn := rfl, bl := W.bl, fns := W.fns, gls := W.gls }
    refine ⟨_, sSs b o body hc, ?_⟩
    refine ⟨{ nx := fun _ S => Kk .non S, rt := Kk, bk := fun _ _ => False, ct := fun _ _ => False, ex := Ek }, startW N.length ws, S', re_start rv, rs, (hq ws S' Kk Ek hm).2, ⟨fun ρ' S1 σ' H' k1 e r1 s1 => ?_, fun w' S1 H1 v k1 e s1 r1 => ?_, fun _ _ _ _ k1 => k1.elim, fun _ _ _ _ k1 => k1.elim, fun σ x S1 H1 cls d k1 e1 rs1 rx => ?_⟩⟩
    · exact po .non S1 H' .non k1 e s1 .non
    · exact po w' S1 H1 v k1 e s1 r1
    · exact px x S1 H1 cls d k1 e1 rs1 rx
/-- a def that is never reached -/
theorem def_no {c : Cst} {P : Program} {w : World} {K : PySem.W.Frag} {mg : Str → Option Value} {base : Heap} {k : Nat} {f : Addr} {fd : FuncData} {ps : List Str} : GOk P w K mg base k f fd ps (spOf c fun _ _ _ _ => False) :=
  ⟨fun vs H Q E h => by obtain ⟨_, _, _, _, _, _, h, _⟩ := h; exact h.elim, fun A outer s H args us vs Q E _ _ _ _ _ h => by obtain ⟨_, _, _, _, _, _, h, _⟩ := h; exact h.elim⟩
end Dp
namespace Dp
open PySem PySem.Spec L2
open PyProof.Rows hiding St

/-! ### a law's end -/
abbrev okLaw (q : Pm) (w : W) (S : Sto) : Prop := q [w] S (fun z _ => z = .bl true) fun _ _ => False
abbrev scrObj (us : List Value) : Obj := { cls := .type "list", data := .seq us.toArray }
/-- from a heap T in which the script alone may be followed -/
theorem at_heap {P : Program} {w : World} {K : PySem.W.Frag} {cl : Nat → Addr} {mg mb : Str → Option Value} {k : Nat} {fa ad : Addr} {fd : FuncData} {x : Str} {q : Pm} {st : Shared} {us : List Value} {ns : List Int} {T : Hp} {z : W} {S : Sto}
    (kin : K.In st.heap) (g1 : st.heap.Ns mainGlobals mg) (g2 : st.heap.Ns builtinsNs mb) (g3 : ∀ y : Str, y ≠ "__name__" → mb y = bootBuiltins y) (g4 : st.heap.NoLimit) (g5 : st.gens = #[])
    (lo : st.heap.get? ad = some (scrObj us)) (rm : Room k callerA) (only : ∀ b u, T b = some u → b = ad ∧ K.lookup ad = none ∧ u = .frz (scrObj us) (.lst (ns.map V.int))) (ok : HOk P w T st.heap)
    (F : ∀ base : Heap, K.In base → base.Ns mainGlobals mg → GOk P w K mg base k fa fd [x] (spOf ⟨K, cl⟩ q)) (bd : ∀ (s : Shared) (u : Value), BindsTo s fd ⟨[u], []⟩ [(x, u)])
    (rs : RS K T S) (rv : RV K T z (.ref ad)) (good : okLaw q z S) :
    codeAny (model P w) callerA (.call (.ref fa) ⟨[.ref ad], []⟩) (fun r s' => r = .ok (.ret (.bool true)) ∧ OldK st.heap s'.heap ∧ s'.os = st.os ∧ AllBare s'.gens) st := by
  have out : ∀ {b : Addr} {o : Obj}, st.heap.get? b = some o → (∀ es n, o.data ≠ .seq es n) → T b = none := by
    intro b o e nd
    cases hb : T b with
    | none => rfl
    | some u =>
      obtain ⟨rfl, _, _⟩ := only b u hb
      rw [lo] at e
      cases e
      exact absurd rfl (nd us.toArray _)
  have nsB : ∀ {b : Addr} {m : Str → Option Value}, st.heap.Ns b m → (hidT st.heap T).Ns b m := by
    rintro b m ⟨o, es, ep, e, d, r⟩
    refine ⟨o, es, ep, hidT_get e (out e fun xs n hx => ?_), d, r⟩
    rw [d] at hx
    cases hx
  have kinB : K.In (hidT st.heap T) := by
    intro b o e
    refine hidT_get (kin b o e) ?_
    cases hb : T b with
    | none => rfl
    | some u =>
      obtain ⟨rfl, hn, _⟩ := only b u hb
      rw [hn] at e
      cases e
  obtain ⟨mc, l1, l2⟩ := g4
  have env : Env0 P w K mg (hidT st.heap T) callerA [] st T := { frames := rfl, mod := ⟨kinB, nsB g1, ⟨mb, nsB g2, g3⟩, ⟨mc, nsB l1, l2⟩⟩, bs := fun b o e => of_hidT e, bsz := Nat.le_of_eq (hidT_size _ _), funs := trivial, frf := (fun b hb => by cases hb), hok := ok, bare := .of_eq g5 }
  have sp : spOf ⟨K, cl⟩ q [.ref ad] T (fun v _ => v = .bl true) (fun _ _ _ => False) := by
    refine ⟨[z], S, _, _, .cons rv .nil, rs, good, fun w' S' H' v e _ _ r => ?_, fun x S' H' cls d e _ _ _ => e⟩
    subst e
    cases r
    rfl
  have run := (F _ kinB (nsB g1)).run callerA [] st T ⟨[.ref ad], []⟩ [.ref ad] [.ref ad] _ _ rfl rm env (bd st (.ref ad)) (.cons rfl .nil) sp
  refine codeAny_mono run fun r s' h => ?_
  match r, h with
  | .error e, h =>
    obtain ⟨_, _, _, _, _, _, _, _, _, _, _, _, no⟩ := h
    exact no.elim
  | .ok .next, h => exact False.elim h
  | .ok .brk, h => exact False.elim h
  | .ok .cont, h => exact False.elim h
  | .ok (.ret u), h =>
    obtain ⟨v, T', os, bare, un, ok', rel, hv⟩ := h
    have hv : v = .bl true := hv
    subst hv
    have hu : u = Value.bool true := rel
    subst hu
    refine ⟨rfl, OldK.of_keep ?_, os, bare⟩
    intro b o e
    cases hb : T b with
    | none => exact un.keep b o e hb (fun m => by cases m) (fun m => by cases m)
    | some u =>
      obtain ⟨rfl, _, rfl⟩ := only b u hb
      rw [lo] at e
      cases e
      exact (ok' b _ (un.frzs b _ _ hb)).1
theorem law_run {P : Program} {w : World} {K : PySem.W.Frag} {cl : Nat → Addr} {mg mb : Str → Option Value} {k : Nat} {fa ad : Addr} {fd : FuncData} {x : Str} {q : Pm} {st : Shared} {us : List Value} {ns : List Int}
    (kin : K.In st.heap) (g1 : st.heap.Ns mainGlobals mg) (g2 : st.heap.Ns builtinsNs mb) (g3 : ∀ y : Str, y ≠ "__name__" → mb y = bootBuiltins y) (g4 : st.heap.NoLimit) (g5 : st.gens = #[])
    (lo : st.heap.get? ad = some (scrObj us)) (rm : Room k callerA) (iv : IntsAre us ns) (fit : ns.length ≤ sizeLine)
    (F : ∀ base : Heap, K.In base → base.Ns mainGlobals mg → GOk P w K mg base k fa fd [x] (spOf ⟨K, cl⟩ q)) (bd : ∀ (s : Shared) (u : Value), BindsTo s fd ⟨[u], []⟩ [(x, u)])
    (good : ∀ z S, (∃ b, z = .ref b ∧ S = (fun c => if c = b then some (.frz (ns.map W.int)) else none)) ∨ (z = .kls (ns.map W.int) ∧ S = fun _ => none) → okLaw q z S) :
    codeAny (model P w) callerA (.call (.ref fa) ⟨[.ref ad], []⟩) (fun r s' => r = .ok (.ret (.bool true)) ∧ OldK st.heap s'.heap ∧ s'.os = st.os ∧ AllBare s'.gens) st := by
  have vals := vals_ints iv
  have len := iv.length
  have rvs : ∀ T : Hp, RVs K T (ns.map W.int) (ns.map V.int) := fun T => by
    clear iv fit good vals len
    induction ns with
    | nil => exact .nil
    | cons n ns ih => exact .cons (.int n) ih
  cases own : K.lookup ad with
  | some o =>
    have e := kin ad o own
    rw [lo] at e
    cases e
    refine at_heap (ns := ns) (T := fun _ => none) kin g1 g2 g3 g4 g5 lo rm (fun b u h => by cases h) (fun b u h => by cases h) F bd (z := .kls (ns.map W.int)) (S := fun _ => none) (fun b u h => by cases h) (.kls (vs := ns.map V.int) (fun H => .inr ⟨_, us.toArray, _, own, rfl, rfl, rfl, ?_, ?_⟩) (rvs _)) (good _ _ (.inr ⟨rfl, rfl⟩))
    · rw [List.size_toArray, len]; exact fit
    · simpa using vals
  | none =>
    let T : Hp := fun b => if b = ad then some (.frz (scrObj us) (.lst (ns.map V.int))) else none
    have one : ∀ b u, T b = some u → b = ad ∧ u = .frz (scrObj us) (.lst (ns.map V.int)) := fun b u h => by
      by_cases hb : b = ad
      · have h := (if_pos hb).symm.trans h
        exact ⟨hb, (Option.some.inj h).symm⟩
      · have h := (if_neg hb).symm.trans h
        cases h
    refine at_heap (T := T) kin g1 g2 g3 g4 g5 lo rm (fun b u h => ⟨(one b u h).1, own, (one b u h).2⟩) (fun b u h => ?_) F bd (z := .ref ad) (S := fun c => if c = ad then some (.frz (ns.map W.int)) else none) (fun b u h => ?_) (.ref ad) (good _ _ (.inl ⟨ad, rfl, rfl⟩))
    · obtain ⟨rfl, rfl⟩ := one b u h
      exact ⟨lo, by rw [List.length_map]; exact fit, us, _, vals, lo⟩
    · by_cases hb : b = ad
      · subst hb
        have h := (if_pos rfl).symm.trans h
        cases h
        exact ⟨_, if_pos rfl, .frz (rvs _)⟩
      · have h := (if_neg hb).symm.trans h
        cases h
/-- the walk of a law, from its promise -/
theorem walk_g {l : PySem.W.OpenLaw} {n k : Nat} {q : Program} {loose : List Str} {XP : (Str → Option Value) → Heap → Prop} {YP : World → Heap → Prop} {d : DefRec} {x : Str} {p : Pm}
    (hn : l.most = some n) (hn2 : n ≤ sizeLine) (hdf : d.params.defaults = []) (rm : Room k callerA)
    (good : ∀ (ns : List Int) z S, ns.length ≤ n → (∃ b, z = .ref b ∧ S = (fun c => if c = b then some (.frz (ns.map W.int)) else none)) ∨ (z = .kls (ns.map W.int) ∧ S = fun _ => none) → okLaw p z S)
    (F : ∀ (w : World) (mg : Str → Option Value) (fa : Addr) (h : Heap), YP w h → h.Ns mainGlobals mg → mg d.name = some (.ref fa) →
      ∃ (K : PySem.W.Frag) (cl : Nat → Addr) (fd : FuncData), K.In h ∧ (∀ (s : Shared) (u : Value), BindsTo s fd ⟨[u], []⟩ [(x, u)]) ∧
        ∀ base : Heap, K.In base → base.Ns mainGlobals mg → GOk l.prog w K mg base k fa fd [x] (spOf ⟨K, cl⟩ p)) :
    PySem.W.WalkO q loose XP YP l.row.toRowW d [] (fun f vs => PySem.call f vs) := by
  refine Att.attach_call hn hdf fun w s0 s1 mg mb fa o pm cd doc ad us ns G Y _ _ _ hm lo iv len gens => ?_
  obtain ⟨K, cl, fd, kin, bd, hF⟩ := F w mg fa _ Y G.T.g hm
  exact law_run kin G.T.g G.T.b G.T.builtins G.T.nolimit gens lo rm iv (Nat.le_trans len hn2) hF bd fun z S h => good ns z S len h
end Dp
namespace Dp
open PySem PySem.Spec L2
open PyProof.Rows hiding St

/-! ### plain steps -/
theorem ite_of {b : Bool} {A B : Prop} (h1 : b = true → A) (h2 : b = false → B) : if b = true then A else B := by
  cases b with
  | true => rw [if_pos rfl]; exact h1 rfl
  | false => rw [if_neg (by decide)]; exact h2 rfl
/-- a walk by an invariant -/
theorem for_inv {g : Sto → Prop} {tg : WG} {b : WS} {E : Ew} (I : Nat → Ro → Sto → Prop) (xs : List W) {ρ : Ro} {S : Sto} (h0 : I 0 ρ S) (hg : ∀ i ρ S, I i ρ S → g S)
    (step : ∀ i x ρ S (nx : Ro → Sto → Prop), xs[i]? = some x → I i ρ S → (∀ ρ' S', I (i + 1) ρ' S' → nx ρ' S') → tg x ρ fun ρ2 => b { E with nx := nx, ct := nx, bk := E.nx } ρ2 S)
    (fin : ∀ ρ S, I xs.length ρ S → E.nx ρ S) : forW g tg b E xs ρ S := by
  have go : ∀ (ys : List W) (i : Nat) (ρ : Ro) (S : Sto), xs.drop i = ys → i ≤ xs.length → I i ρ S → forW g tg b E ys ρ S := by
    intro ys
    induction ys with
    | nil =>
      intro i ρ S hd hi h
      have : i = xs.length := by
        have := congrArg List.length hd
        rw [List.length_drop] at this
        simp at this; omega
      subst this
      exact ⟨hg _ _ _ h, fin _ _ h⟩
    | cons y ys ih =>
      intro i ρ S hd hi h
      have hlt : i < xs.length := by
        have := congrArg List.length hd
        rw [List.length_drop] at this
        simp at this; omega
      have hx : xs[i]? = some y := by
        rw [List.drop_eq_getElem_cons hlt] at hd
        rw [List.getElem?_eq_getElem hlt]
        exact congrArg some (List.cons.inj hd).1
      have hy : xs.drop (i + 1) = ys := by
        rw [List.drop_eq_getElem_cons hlt] at hd
        exact (List.cons.inj hd).2
      exact ⟨hg _ _ _ h, step i y ρ S _ hx h fun ρ' S' h' => ih (i + 1) ρ' S' hy hlt h'⟩
  exact go xs 0 ρ S rfl (Nat.zero_le _) h0
theorem comp_inv {g : Sto → Prop} {tg : WG} {cd : WT} {el : WE} {ρ : Ro} {F : List W → Sto → Prop} (I : Nat → List W → Sto → Prop) (xs : List W) {S : Sto} (h0 : I 0 [] S) (hg : ∀ i acc S, I i acc S → g S)
    (step : ∀ i x acc S (nx : List W → Sto → Prop), xs[i]? = some x → I i acc S → (∀ acc' S', I (i + 1) acc' S' → nx acc' S') → tg x ρ fun ρ2 => cd ρ2 S (fun b S1 => if b = true then el ρ2 S1 (fun w S2 => acc.length < sizeLine ∧ nx (acc ++ [w]) S2) (fun _ _ => False) else nx acc S1) (fun _ _ => False))
    (fin : ∀ acc S, I xs.length acc S → F acc S) : compW g tg cd el ρ F xs [] S := by
  have go : ∀ (ys : List W) (i : Nat) (acc : List W) (S : Sto), xs.drop i = ys → i ≤ xs.length → I i acc S → compW g tg cd el ρ F ys acc S := by
    intro ys
    induction ys with
    | nil =>
      intro i acc S hd hi h
      have : i = xs.length := by
        have := congrArg List.length hd
        rw [List.length_drop] at this
        simp at this; omega
      subst this
      exact ⟨hg _ _ _ h, fin _ _ h⟩
    | cons y ys ih =>
      intro i acc S hd hi h
      have hlt : i < xs.length := by
        have := congrArg List.length hd
        rw [List.length_drop] at this
        simp at this; omega
      have hx : xs[i]? = some y := by
        rw [List.drop_eq_getElem_cons hlt] at hd
        rw [List.getElem?_eq_getElem hlt]
        exact congrArg some (List.cons.inj hd).1
      have hy : xs.drop (i + 1) = ys := by
        rw [List.drop_eq_getElem_cons hlt] at hd
        exact (List.cons.inj hd).2
      exact ⟨hg _ _ _ h, step i y acc S _ hx h fun acc' S' h' => ih (i + 1) acc' S' hy hlt h'⟩
  exact go xs 0 [] S rfl (Nat.zero_le _) h0
theorem whl_inv {t : WT} {b : WS} {E : Ew} (I : Nat → Ro → Sto → Prop) {n : Nat} {ρ : Ro} {S : Sto} (h0 : I n ρ S)
    (step : ∀ n ρ S (nx : Ro → Sto → Prop), I n ρ S → (∀ m ρ' S', m < n → I m ρ' S' → nx ρ' S') → t ρ S (fun k S1 => if k = true then b { E with nx := nx, ct := nx, bk := E.nx } ρ S1 else E.nx ρ S1) E.ex) : mWhl t b E ρ S := by
  have go : ∀ (N n : Nat) (ρ : Ro) (S : Sto), n < N → I n ρ S → whlW t b E N ρ S := by
    intro N
    induction N with
    | zero => intro n ρ S h _; exact absurd h (Nat.not_lt_zero _)
    | succ N ih => intro n ρ S h hi; exact step n ρ S _ hi fun m ρ' S' hm hi' => ih m ρ' S' (by omega) hi'
  exact ⟨n + 1, go (n + 1) n ρ S (Nat.lt_succ_self _) h0⟩

/-! ### stores -/
/-- all but f stays -/
def Kp (S S' : Sto) (f : Addr) : Prop := ∀ a c, a ≠ f → S a = some c → S' a = some c
theorem Kp.refl {S : Sto} {f : Addr} : Kp S S f := fun _ _ _ h => h
theorem Kp.trans {S S1 S2 : Sto} {f : Addr} (a : Kp S S1 f) (b : Kp S1 S2 f) : Kp S S2 f := fun x c h e => b x c h (a x c h e)
theorem Kp.put {S : Sto} {f : Addr} {c : Ce} : Kp S (S.put f c) f := fun a d h e => by rw [put_ne h]; exact e
theorem Kp.new {S : Sto} {f p : Addr} {c : Ce} (h : S p = none) : Kp S (S.put p c) f := fun a d _ e => by
  rw [put_ne (fun z => by rw [z, h] at e; cases e)]; exact e
theorem new_ne {S : Sto} {p a : Addr} {c : Ce} (h : S p = none) (e : S a = some c) : a ≠ p := fun z => by rw [z, h] at e; cases e
/-- a store within a store -/
def Sub (F S : Sto) : Prop := ∀ a c, F a = some c → S a = some c
theorem Sub.refl {S : Sto} : Sub S S := fun _ _ h => h
theorem Sub.trans {A B C : Sto} (h : Sub A B) (k : Sub B C) : Sub A C := fun a c e => k a c (h a c e)
theorem Sub.kp {F S S' : Sto} {f : Addr} (h : Sub F S) (k : Kp S S' f) (n : F f = none) : Sub F S' := fun a c e => k a c (fun z => by rw [z, n] at e; cases e) (h a c e)
theorem Sub.putHot {F S : Sto} {f : Addr} {c : Ce} (h : Sub F S) (n : F f = none) : Sub F (S.put f c) := h.kp .put n
theorem Sub.new {F S : Sto} {p : Addr} {c : Ce} (h : Sub F S) (n : S p = none) : Sub F (S.put p c) := fun a d e => by
  have := h a d e
  rw [put_ne (new_ne n this)]; exact this
theorem Sub.ext {F S : Sto} {p : Addr} {c : Ce} (h : Sub F S) (n : S p = none) : Sub (F.put p c) (S.put p c) := fun a d e => by
  by_cases z : a = p
  · subst z; rw [put_same] at e ⊢; exact e
  · rw [put_ne z] at e ⊢; exact h a d e
theorem Sub.none {F S : Sto} {p : Addr} (h : Sub F S) (n : S p = none) : F p = none := by
  cases e : F p with
  | none => rfl
  | some c => rw [h p c e] at n; cases n
theorem Sub.mine {F : Sto} {p : Addr} {c : Ce} (n : F p = Option.none) : Sub F (F.put p c) := fun a d e => by
  rw [put_ne (new_ne n e)]; exact e
theorem Lw.sub {F S : Sto} {a : Addr} {xs : List W} (h : Sub F S) (l : Lw F a xs) : Lw S a xs := by
  rcases l with l | l
  · exact .inl (h _ _ l)
  · exact .inr (h _ _ l)
mutual
theorem Den.sub {F S : Sto} (h : Sub F S) : ∀ {w : W} {d : PyData}, Den F w d → Den S w d
  | _, _, .non => .non
  | _, _, .bl b => .bl b
  | _, _, .int b => .int b
  | _, _, .str b => .str b
  | _, _, .tup t => .tup (Dens.sub h t)
  | _, _, .lst l t => .lst (l.sub h) (Dens.sub h t)
theorem Dens.sub {F S : Sto} (h : Sub F S) : ∀ {w : List W} {d : List PyData}, Dens F w d → Dens S w d
  | _, _, .nil => .nil
  | _, _, .cons a t => .cons (Den.sub h a) (Dens.sub h t)
end
theorem Dens.append {S : Sto} {a b : List W} {x y : List PyData} (h : Dens S a x) (k : Dens S b y) : Dens S (a ++ b) (x ++ y) := by
  induction a generalizing x with
  | nil => cases h; exact k
  | cons w ws ih => cases h with | cons h t => exact .cons h (ih t)
theorem Dens.take {S : Sto} {a : List W} {x : List PyData} (n : Nat) (h : Dens S a x) : Dens S (a.take n) (x.take n) := by
  induction a generalizing x n with
  | nil => cases h; simp; exact .nil
  | cons w ws ih =>
    cases h with
    | cons h t =>
      cases n with
      | zero => exact .nil
      | succ n => simp; exact .cons h (ih n t)
theorem Dens.drop {S : Sto} {a : List W} {x : List PyData} (n : Nat) (h : Dens S a x) : Dens S (a.drop n) (x.drop n) := by
  induction a generalizing x n with
  | nil => cases h; simp; exact .nil
  | cons w ws ih =>
    cases h with
    | cons h t =>
      cases n with
      | zero => exact .cons h t
      | succ n => simp; exact ih n t
theorem Dens.length {S : Sto} {a : List W} {x : List PyData} (h : Dens S a x) : a.length = x.length := by
  induction a generalizing x with
  | nil => cases h; rfl
  | cons w ws ih => cases h with | cons h t => rw [List.length_cons, List.length_cons, ih t]
theorem Dens.get {S : Sto} {a : List W} {x : List PyData} (h : Dens S a x) {i : Nat} {w : W} (e : a[i]? = some w) : ∃ d, x[i]? = some d ∧ Den S w d := by
  induction a generalizing x i with
  | nil => simp at e
  | cons z ws ih =>
    cases h with
    | cons h t =>
      cases i with
      | zero => simp at e; subst e; exact ⟨_, by simp, h⟩
      | succ i => simpa using ih t (by simpa using e)
theorem dens_ints {S : Sto} : ∀ ns : List Int, Dens S (ns.map W.int) (ns.map PyData.int)
  | [] => .nil
  | n :: ns => .cons (.int n) (dens_ints ns)
theorem Dens.mem {S : Sto} {a : List W} {x : List PyData} (h : Dens S a x) {w : W} (e : w ∈ a) : ∃ d ∈ x, Den S w d := by
  obtain ⟨i, hi, e⟩ := List.getElem_of_mem e
  obtain ⟨d, h1, h2⟩ := h.get (i := i) (w := w) (by rw [List.getElem?_eq_getElem hi, e])
  exact ⟨d, List.mem_of_getElem? h1, h2⟩
/-- the frozen part and the store have grown -/
structure Grow (F S F' S' : Sto) : Prop where
  ff : Sub F F'
  fs : Sub F' S'
  nw : ∀ a, S a ≠ none → F a = none → F' a = none
  kp : ∀ a c, S a = some c → S' a = some c
theorem Grow.refl {F S : Sto} (h : Sub F S) : Grow F S F S := ⟨.refl, h, fun _ _ h => h, fun _ _ h => h⟩
theorem Grow.new {F S F' S' : Sto} (g : Grow F S F' S') {p : Addr} (c : Ce) (h : S' p = none) : Grow F S (F'.put p c) (S'.put p c) := by
  refine ⟨g.ff.trans (.mine (g.fs.none h)), g.fs.ext h, fun a h1 h2 => ?_, fun a d e => ?_⟩
  · have : a ≠ p := fun z => by
      subst z
      cases e : S a with
      | none => exact h1 e
      | some d => rw [g.kp _ _ e] at h; cases h
    rw [put_ne this]; exact g.nw a h1 h2
  · rw [put_ne (new_ne h (g.kp a d e))]; exact g.kp a d e
theorem Grow.kept {F S F' S' : Sto} (g : Grow F S F' S') (f : Addr) : Kp S S' f := fun a c _ e => g.kp a c e
/-! ### leaves -/
theorem get_l {S : Sto} {a : Addr} {xs : List W} {i : Int} {w : W} {K : WK} (h : S a = some (.lst xs)) (e : atI xs i = some w) (k : K w S) : getK (.ref a) (.int i) S K := by unfold getK; exact .inl ⟨xs, i, w, rfl, .inl h, e, k⟩
theorem ix_l {S : Sto} {a : Addr} {xs : List W} {i : Int} {w : W} {K : WK} (h : S a = some (.lst xs)) (e : atI xs i = some w) (k : K w S) : ixK (.ref a) (.int i) S K := by unfold ixK; exact .inl ⟨xs, i, w, rfl, .inl h, e, k⟩
theorem set_l {S : Sto} {a : Addr} {xs : List W} {i : Int} {j : Nat} {v : W} {K : Sto → Prop} (h : S a = some (.lst xs)) (e : ixN xs.length i = some j) (k : K (S.put a (.lst (xs.set j v)))) : setK (.ref a) (.int i) v S K := by unfold setK; exact .inl ⟨xs, i, j, h, rfl, e, k⟩
theorem step_ {a b : WS} {E : Ew} {ρ : Ro} {S : Sto} (h : a { E with nx := fun ρ' S' => b E ρ' S' } ρ S) : mThen a b E ρ S := by unfold mThen; exact h
theorem then_join {a b : WS} {E : Ew} {ρ : Ro} {S : Sto} (R : Ro → Sto → Prop) (h1 : ∀ nx : Ro → Sto → Prop, (∀ ρ' S', R ρ' S' → nx ρ' S') → a { E with nx := nx } ρ S) (h2 : ∀ ρ' S', R ρ' S' → b E ρ' S') : mThen a b E ρ S := by unfold mThen; exact h1 _ h2
theorem test_join {P : Nat → Pm} {G : Nat → W} {t : Dp.E} {a b : Sms} {E : Ew} {ρ : Ro} {S : Sto} (R : Bool → Sto → Prop) (h1 : ∀ Kt : Bool → Sto → Prop, (∀ k S', R k S' → Kt k S') → dT P G t ρ S Kt E.ex) (h2 : ∀ k S', R k S' → if k = true then dSs P G a E ρ S' else dSs P G b E ρ S') : dS P G (.ite t a b) E ρ S := h1 _ h2
theorem rg1_join {P : Nat → Pm} {G : Nat → W} {tg : Tg} {e : Dp.E} {b : Sms} {E : Ew} {ρ : Ro} {S : Sto} (R : Int → Sto → Prop) (h : ∀ K' : WK, (∀ j S', R j S' → K' (.int j) S') → dE P G e ρ S K' E.ex)
    (hK : ∀ j S', R j S' → (-(2 ^ 62) ≤ j ∧ j < 2 ^ 62) ∧ forW (fun _ => True) (wgOf tg) (dSs P G b) E (rgList 0 1 j.toNat) ρ S') : dS P G (.for tg (.rg1 e) b) E ρ S := h _ hK
theorem if_join {t : WT} {a b : WE} {ρ : Ro} {S : Sto} {K : WK} {X : EK} (R : W → Sto → Prop) (h : ∀ K' : WK, (∀ w S', R w S' → K' w S') → mIf t a b ρ S K' X) (hK : ∀ w S', R w S' → K w S') : mIf t a b ρ S K X := h K hK
theorem eq_d {S : Sto} {x y : W} {d e : PyData} {K : Bool → Prop} (h : Den S x d) (k : Den S y e) (s1 : SeqAt.shaped d = true) (s2 : SeqAt.shaped e = true) (q : K (PyData.eqv d e)) : eqK S x y K := by unfold eqK; exact .inr ⟨d, e, h, k, s1, s2, q⟩
theorem eq_f {S : Sto} {x y : W} {K : Bool → Prop} (h : flat x = true) (k : flat y = true) (q : K (eqF x y)) : eqK S x y K := by unfold eqK; exact .inl ⟨h, k, q⟩
theorem canLay_ints : ∀ ns : List Int, PyData.canLayAll0 (ns.map PyData.int) = true
  | [] => rfl
  | n :: ns => by simp only [List.map_cons, PyData.canLayAll0, canLay_ints ns]; rfl
theorem depth_ints : ∀ ns : List Int, PyData.depthAll (ns.map PyData.int) ≤ PyData.depth (.int 0)
  | [] => Nat.zero_le _
  | n :: ns => Nat.max_le.mpr ⟨Nat.le_refl _, depth_ints ns⟩
theorem shaped_ints (ns : List Int) : SeqAt.shaped (.list (ns.map PyData.int)) = true := by
  have h := depth_ints ns
  have e : PyData.depth (.int 0) = 0 := rfl
  unfold SeqAt.shaped
  rw [Bool.and_eq_true, decide_eq_true_eq]
  refine ⟨canLay_ints ns, ?_⟩
  show PyData.depthAll _ + 1 ≤ 64
  omega
theorem len_l {S : Sto} {a : Addr} {xs : List W} {K : WK} (h : S a = some (.lst xs)) (k : K (.int xs.length) S) : fLen [.ref a] S K := by unfold fLen; exact .inl ⟨xs, .inl h, k⟩
theorem len_s {S : Sto} {x : Str} {K : WK} (h : x.length ≤ sizeLine) (k : K (.int x.length) S) : fLen [.str x] S K := by unfold fLen; exact ⟨h, k⟩
theorem len_t {S : Sto} {xs : List W} {K : WK} (k : K (.int xs.length) S) : fLen [.tup xs] S K := by unfold fLen; exact k
theorem in_sign {S : Sto} {c : Nat} {z : Str} {K : Bool → Prop} (k : K (decide (c ∈ z.cps.toList))) : inK false (.str ⟨#[c]⟩) (.str z) S K := by unfold inK; exact .inl ⟨c, rfl, k⟩
theorem signs_at {z : Str} {i : Nat} {x : W} (h : (signs z)[i]? = some x) : ∃ c, z.cps.toList[i]? = some c ∧ x = .str ⟨#[c]⟩ := by
  unfold signs at h
  rw [List.getElem?_map] at h
  cases e : z.cps.toList[i]? with
  | none => rw [e] at h; cases h
  | some c => rw [e] at h; exact ⟨c, rfl, (Option.some.inj h).symm⟩
theorem rg_at {lo c : Int} {n i : Nat} {x : W} (h : (rgList lo c n)[i]? = some x) : i < n ∧ x = .int (lo + (i : Nat) * c) := by
  unfold rgList at h
  rw [List.getElem?_map] at h
  by_cases hi : i < n
  · rw [List.getElem?_range hi] at h; exact ⟨hi, (Option.some.inj h).symm⟩
  · rw [List.getElem?_eq_none (by simpa using hi)] at h; cases h
theorem rg_len {lo c : Int} {n : Nat} : (rgList lo c n).length = n := by simp [rgList]
theorem cut_to {α : Type} {xs : List α} {v : Int} (h : 0 ≤ v) : cutW xs none (some v) = xs.take v.toNat := by
  unfold cutW
  show (xs.drop 0).take ((if v < 0 then (v + (xs.length : Int)).toNat else min v.toNat xs.length) - 0) = _
  rw [if_neg (by omega), List.drop_zero, Nat.sub_zero]
  rcases Nat.le_total v.toNat xs.length with e | e
  · rw [Nat.min_eq_left e]
  · rw [Nat.min_eq_right e, List.take_length, List.take_of_length_le e]
theorem cut_from {α : Type} {xs : List α} {v : Int} (h : 0 ≤ v) : cutW xs (some v) none = xs.drop v.toNat := by
  unfold cutW
  show (xs.drop (if v < 0 then (v + (xs.length : Int)).toNat else min v.toNat xs.length)).take (xs.length - (if v < 0 then (v + (xs.length : Int)).toNat else min v.toNat xs.length)) = _
  rw [if_neg (by omega)]
  rcases Nat.le_total v.toNat xs.length with e | e
  · rw [Nat.min_eq_left e, List.take_of_length_le (by rw [List.length_drop]; omega)]
  · rw [Nat.min_eq_right e, List.drop_of_length_le e, List.drop_length, List.take_nil]
theorem cut_map {α β : Type} (g : α → β) (xs : List α) (lo hi : Option Int) : cutW (xs.map g) lo hi = (cutW xs lo hi).map g := by
  unfold cutW
  rw [List.length_map, List.map_take, List.map_drop]
theorem str_len (l : List Nat) : (⟨l.toArray⟩ : Str).length = l.length := by simp [Str.length]
theorem sl_s {S : Sto} {z : Str} {lo hi : Option Int} {K : WK} (h : z.length ≤ sizeLine) (k : K (.str ⟨(cutW z.cps.toList lo hi).toArray⟩) S) : slK (.str z) lo hi S K := by unfold slK; exact ⟨h, k⟩
theorem sl_l {S : Sto} {a : Addr} {ws : List W} {lo hi : Option Int} {K : WK} (h : Lw S a ws) (k : ∀ p, S p = none → K (.ref p) (S.put p (.lst (cutW ws lo hi)))) : slK (.ref a) lo hi S K := by unfold slK; exact ⟨ws, h, k⟩
theorem sl_t {S : Sto} {ws : List W} {lo hi : Option Int} {K : WK} (k : K (.tup (cutW ws lo hi)) S) : slK (.tup ws) lo hi S K := by unfold slK; exact k
theorem ix_t {S : Sto} {ws : List W} {i : Int} {w : W} {K : WK} (e : atI ws i = some w) (k : K w S) : ixK (.tup ws) (.int i) S K := by unfold ixK; exact ⟨w, e, k⟩
theorem in_no {S : Sto} {a : Addr} {x : W} {K : Bool → Prop} (h : S a = some (.lst [])) (f : flat x = true) (k : K true) : inK true x (.ref a) S K := by unfold inK; exact .inl ⟨[], .inl h, f, rfl, k⟩
theorem sl_k {S : Sto} {ws : List W} {lo hi : Option Int} {K : WK} (k : ∀ p, S p = none → K (.ref p) (S.put p (.lst (cutW ws lo hi)))) : slK (.kls ws) lo hi S K := by unfold slK; exact k
theorem in_t {n : Bool} {S : Sto} {x : W} {ws : List W} {b : Bool} {K : Bool → Prop} (f : flat x = true) (h : ws.all flat = true) (e : (ws.any fun w => eqF w x) = b) (k : K (if n then !b else b)) : inK n x (.tup ws) S K := by unfold inK; exact ⟨f, h, by rw [e]; exact k⟩
theorem small {n : Nat} (h : Nat.ble n 1000 = true) : n ≤ sizeLine := Nat.le_trans (Nat.le_of_ble_eq_true h) (by decide)
theorem repr_a {S : Sto} {x : W} {d : PyData} {K : WK} (h : Den S x d) (h1 : d.showable = true) (h2 : d.depth ≤ 60) (h3 : d.shown.length ≤ sizeLine) (k : K (.str d.shown) S) : fRepr2 [x] S K := by unfold fRepr2; exact ⟨d, h, h1, h2, h3, k⟩
theorem repr_d {S : Sto} {x : W} {d : PyData} {K : WK} (r : isRefW x = true) (h : Den S x d) (h1 : d.showable = true) (h2 : d.depth ≤ 60) (h3 : d.shown.length ≤ sizeLine) (k : K (.str d.shown) S) : fRepr2 [x] S K := repr_a h h1 h2 h3 k
theorem mul_t {S : Sto} {xs : List W} {k : Int} {K : WK} (h1 : xs ≠ []) (h2 : 1 ≤ k) (h3 : k ≤ 1000) (h4 : xs.length ≤ 1000) (q : K (.tup (List.replicate k.toNat xs).flatten) S) : bMul2 (.tup xs) (.int k) S K := by unfold bMul2; exact ⟨h1, h2, h3, h4, q⟩
theorem mul_l {S : Sto} {a : Addr} {xs : List W} {n : Int} {K : WK} (h : S a = some (.lst xs)) (h0 : -(2 ^ 63) ≤ n) (h1 : n < 2 ^ 63) (h2 : xs.length * n.toNat ≤ sizeLine) (q : ∀ p, S p = none → K (.ref p) (S.put p (.lst (List.replicate n.toNat xs).flatten))) : bMul2 (.ref a) (.int n) S K := by
  unfold bMul2
  show bMul _ _ _ _
  unfold bMul
  exact ⟨xs, h, h0, h1, h2, q⟩
theorem kp_all {S S' : Sto} (h : ∀ g, Kp S S' g) : Sub S S' := fun a c e => h (a + 1) a c (Nat.ne_of_lt (Nat.lt_succ_self a)) e
theorem log2_lt {n b : Nat} (h : n < 2 ^ b) (h0 : 0 < b) : n.log2 < b := PySem.Flt.log2_lt_of h0 h
theorem mul_i {i j : Int} {S : Sto} {K : WK} (a b : Nat) (h : i.natAbs < 2 ^ (a + 1)) (h' : j.natAbs < 2 ^ (b + 1)) (ab : a + b < 900000) (k : K (.int (i * j)) S) : bMul2 (.int i) (.int j) S K := by
  unfold bMul2
  show bMul _ _ _ _
  unfold bMul
  refine ⟨?_, k⟩
  have h1 := log2_lt h (by omega)
  have h2 := log2_lt h' (by omega)
  omega
theorem atI_pos {α : Type} {xs : List α} {i : Int} {w : α} (h0 : 0 ≤ i) (h : xs[i.toNat]? = some w) : atI xs i = some w := by
  have hl : i.toNat < xs.length := (List.getElem?_eq_some_iff.mp h).1
  unfold atI ixN
  rw [if_pos h0, if_pos (by omega)]
  exact h
theorem ixN_pos {n : Nat} {i : Int} (h0 : 0 ≤ i) (h : i < n) : ixN n i = some i.toNat := by
  unfold ixN
  rw [if_pos h0, if_pos h]
end Dp
namespace Dp
open PySem PySem.Spec L2
open PyProof.Rows hiding St

/-! ### small data -/
/-- data whose text is short -/
structure Nice (d : PyData) : Prop where
  lay : d.canLay0 = true
  shorts : d.intsShort 210 = true
  show_ : d.showable = true
  deep : d.depth ≤ 8
  light : d.weight ≤ 700
theorem strOk_iff {x : Str} : PyData.strOk x = true ↔ ∀ c ∈ x.cps.toList, c < 0x110000 := by
  unfold PyData.strOk
  rw [Array.all_eq_true_iff_forall_mem]
  constructor
  · intro h c hc
    have := h c (Array.mem_toList_iff.mp hc)
    simpa using this
  · intro h c hc
    simpa using h c (Array.mem_toList_iff.mpr hc)
theorem nice_str {x : Str} (h : PyData.strOk x = true) (l : x.length ≤ 700) : Nice (.str x) := ⟨h, rfl, rfl, Nat.zero_le _, l⟩
theorem nice_int {i : Int} (h : i.natAbs < 10 ^ 205) : Nice (.int i) := by
  have h2 : i.natAbs < 2 ^ 699 := Nat.lt_of_lt_of_le h (by decide +kernel)
  have h3 := log2_lt h2 (by decide)
  refine ⟨rfl, ?_, ?_, Nat.zero_le _, ?_⟩
  · have e := int_text_length_le10 (k := 205) (by decide) h
    show decide ((Str.ofString (toString i)).length ≤ 210) = true
    rw [PySem.ofString_length]; exact decide_eq_true (by omega)
  · show decide (i.natAbs.log2 < 1920) = true
    exact decide_eq_true (by omega)
  · show (if (i == 0) = true then 0 else i.natAbs.log2 + 1) ≤ 700
    split <;> omega
theorem nice_bl (b : Bool) : Nice (.bool b) := ⟨rfl, rfl, rfl, Nat.zero_le _, Nat.zero_le _⟩
theorem nice_non : Nice .none := ⟨rfl, rfl, rfl, Nat.zero_le _, Nat.zero_le _⟩
theorem all_nice {ds : List PyData} (h : ∀ d ∈ ds, Nice d) : PyData.canLayAll0 ds = true ∧ PyData.intsShortAll 210 ds = true ∧ PyData.showableAll ds = true ∧ PyData.depthAll ds ≤ 8 ∧ PyData.weightAll ds ≤ 701 * ds.length := by
  induction ds with
  | nil => exact ⟨rfl, rfl, rfl, Nat.zero_le _, Nat.zero_le _⟩
  | cons d ds ih =>
    obtain ⟨a1, a2, a3, a4, a5⟩ := ih fun x hx => h x (List.mem_cons_of_mem _ hx)
    obtain ⟨b1, b2, b3, b4, b5⟩ := h d (List.mem_cons_self ..)
    refine ⟨?_, ?_, ?_, Nat.max_le.mpr ⟨b4, a4⟩, ?_⟩
    · simp only [PyData.canLayAll0, a1, b1]; rfl
    · simp only [PyData.intsShortAll, a2, b2]; rfl
    · simp only [PyData.showableAll, a3, b3]; rfl
    · simp only [PyData.weightAll, List.length_cons]; omega
theorem show_list {ds : List PyData} (h : ∀ d ∈ ds, Nice d) (l : ds.length ≤ 110) : (PyData.list ds).showable = true ∧ (PyData.list ds).depth ≤ 60 ∧ (PyData.list ds).shown.length ≤ sizeLine ∧ SeqAt.shaped (.list ds) = true := by
  obtain ⟨a1, a2, a3, a4, a5⟩ := all_nice h
  have dp : (PyData.list ds).depth ≤ 9 := by show PyData.depthAll ds + 1 ≤ 9; omega
  have lv := PyData.leavesShort_of_canLay0 210 (.list ds) a1 a2
  have sh := PyData.shown_le 210 (by decide) (.list ds) lv
  have w : (PyData.list ds).weight = PyData.weightAll ds := by simp only [PyData.weight]
  rw [w] at sh
  refine ⟨a3, by omega, ?_, ?_⟩
  · rw [sizeLine_eq]; omega
  · unfold SeqAt.shaped
    rw [Bool.and_eq_true, decide_eq_true_eq]
    exact ⟨a1, by omega⟩
theorem nice_tup1 {d : PyData} (h : Nice d) (hd : d.depth ≤ 7) (hw : d.weight ≤ 699) : Nice (.tuple [d]) := by
  obtain ⟨b1, b2, b3, b4, b5⟩ := h
  refine ⟨?_, ?_, ?_, ?_, ?_⟩
  · simp only [PyData.canLay0, PyData.canLayAll0, b1]; rfl
  · simp only [PyData.intsShort, PyData.intsShortAll, b2]; rfl
  · simp only [PyData.showable, PyData.showableAll, b3]; rfl
  · show max d.depth 0 + 1 ≤ 8; omega
  · simp only [PyData.weight, PyData.weightAll]; omega
theorem nice_lst1 {d : PyData} (h : Nice d) (hd : d.depth ≤ 7) (hw : d.weight ≤ 699) : Nice (.list [d]) := by
  obtain ⟨b1, b2, b3, b4, b5⟩ := nice_tup1 h hd hw
  exact ⟨b1, b2, b3, b4, b5⟩
theorem shaped_nice {d : PyData} (h : Nice d) : SeqAt.shaped d = true := by
  unfold SeqAt.shaped
  rw [Bool.and_eq_true, decide_eq_true_eq]
  exact ⟨h.lay, by have := h.deep; omega⟩
/-- small data, checked -/
def niceB (d : PyData) : Bool := d.canLay0 && d.intsShort 210 && d.showable && decide (d.depth ≤ 8) && decide (d.weight ≤ 700)
theorem nice_by {d : PyData} (h : niceB d = true) : Nice d := by
  unfold niceB at h
  simp only [Bool.and_eq_true, decide_eq_true_eq] at h
  exact ⟨h.1.1.1.1, h.1.1.1.2, h.1.1.2, h.1.2, h.2⟩
/-! ### texts -/
theorem sok_of (s : String) : PyData.strOk (Str.ofString s) = true := by
  rw [strOk_iff, Str.ofString_eq_toList]
  intro c hc
  have hc : c ∈ s.toList.map Char.toNat := by simpa using hc
  obtain ⟨ch, _, rfl⟩ := List.mem_map.mp hc
  have h := ch.valid
  rcases h with h | ⟨_, h⟩
  · have h : ch.toNat < 0xd800 := h
    omega
  · exact h
theorem sok_app {x y : Str} (h : PyData.strOk x = true) (k : PyData.strOk y = true) : PyData.strOk (x ++ y) = true := by
  rw [strOk_iff] at *
  intro c hc
  have e : (x ++ y).cps.toList = x.cps.toList ++ y.cps.toList := by
    show (x.cps ++ y.cps).toList = _
    simp
  rw [e] at hc
  rcases List.mem_append.mp hc with hc | hc
  · exact h c hc
  · exact k c hc
theorem len_app (x y : Str) : (x ++ y).length = x.length + y.length := strLen_append ..
theorem cut_mem {α : Type} {xs : List α} {lo hi : Option Int} {c : α} (h : c ∈ cutW xs lo hi) : c ∈ xs := List.mem_of_mem_drop (List.mem_of_mem_take h)
theorem sok_cut {x : Str} (h : PyData.strOk x = true) (lo hi : Option Int) : PyData.strOk ⟨(cutW x.cps.toList lo hi).toArray⟩ = true := by
  rw [strOk_iff] at *
  intro c hc
  exact h c (cut_mem (by simpa using hc))
theorem len_toList (x : Str) : x.cps.toList.length = x.length := by simp [Str.length]
theorem len_cut (x : Str) (lo hi : Option Int) : (⟨(cutW x.cps.toList lo hi).toArray⟩ : Str).length ≤ x.length := by
  have : (⟨(cutW x.cps.toList lo hi).toArray⟩ : Str).length = (cutW x.cps.toList lo hi).length := by simp [Str.length]
  rw [this]
  unfold cutW
  rw [List.length_take, List.length_drop, len_toList]
  omega
theorem sok_one {x : Str} {ch : Nat} (h : PyData.strOk x = true) (k : ch ∈ x.cps.toList) : PyData.strOk ⟨#[ch]⟩ = true := by
  rw [strOk_iff] at *
  intro c hc
  have : c = ch := by simpa using hc
  rw [this]; exact h ch k
theorem atI_mem {α : Type} {xs : List α} {i : Int} {w : α} (h : atI xs i = some w) : w ∈ xs := by
  unfold atI at h
  cases e : ixN xs.length i with
  | none => rw [e] at h; cases h
  | some j => rw [e] at h; exact List.mem_of_getElem? h
theorem atI_some {α : Type} {xs : List α} {i : Int} (h0 : 0 ≤ i) (h : i < xs.length) : ∃ w, atI xs i = some w ∧ w ∈ xs := by
  have hl : i.toNat < xs.length := by omega
  refine ⟨xs[i.toNat], atI_pos h0 (List.getElem?_eq_getElem hl), List.getElem_mem hl⟩
/-- one sign of a text -/
theorem ix_s {S : Sto} {z : Str} {i : Int} {K : WK} (hz : z.length ≤ sizeLine) (h0 : 0 ≤ i) (h : i < z.length) (k : ∀ ch ∈ z.cps.toList, K (.str ⟨#[ch]⟩) S) : ixK (.str z) (.int i) S K := by
  obtain ⟨w, e, m⟩ := atI_some (xs := z.cps.toList) h0 (by rw [len_toList]; exact h)
  unfold ixK
  exact ⟨hz, w, e, k w m⟩
end Dp
namespace Dp
open PySem PySem.Spec L2
open PyProof.Rows hiding St

/-! ### the feed that is a dict -/
abbrev kC : Key := Sum.inr ("cells" : Str)
abbrev kA : Key := Sum.inr ("at" : Str)
abbrev kL : Key := Sum.inr ("left" : Str)
abbrev kT : Key := Sum.inr ("turn" : Str)
abbrev fdD (sc : Addr) (i c t : Int) : List (Key × W) := [(kC, W.ref sc), (kA, .int i), (kL, .int c), (kT, .int t)]
theorem kne1 : Str.ofString "cells" ≠ Str.ofString "at" := by decide +kernel
theorem kne2 : Str.ofString "cells" ≠ Str.ofString "left" := by decide +kernel
theorem kne3 : Str.ofString "cells" ≠ Str.ofString "turn" := by decide +kernel
theorem kne4 : Str.ofString "at" ≠ Str.ofString "left" := by decide +kernel
theorem kne5 : Str.ofString "at" ≠ Str.ofString "turn" := by decide +kernel
theorem kne6 : Str.ofString "left" ≠ Str.ofString "turn" := by decide +kernel
theorem val_cells {sc : Addr} {i c t : Int} : valW (fdD sc i c t) (kC) = some (.ref sc) := by simp [valW, kne1, Ne.symm kne1, kne2, Ne.symm kne2, kne3, Ne.symm kne3, kne4, Ne.symm kne4, kne5, Ne.symm kne5, kne6, Ne.symm kne6]
theorem val_at {sc : Addr} {i c t : Int} : valW (fdD sc i c t) (kA) = some (.int i) := by simp [valW, kne1, Ne.symm kne1, kne2, Ne.symm kne2, kne3, Ne.symm kne3, kne4, Ne.symm kne4, kne5, Ne.symm kne5, kne6, Ne.symm kne6]
theorem val_left {sc : Addr} {i c t : Int} : valW (fdD sc i c t) (kL) = some (.int c) := by simp [valW, kne1, Ne.symm kne1, kne2, Ne.symm kne2, kne3, Ne.symm kne3, kne4, Ne.symm kne4, kne5, Ne.symm kne5, kne6, Ne.symm kne6]
theorem val_turn {sc : Addr} {i c t : Int} : valW (fdD sc i c t) (kT) = some (.int t) := by simp [valW, kne1, Ne.symm kne1, kne2, Ne.symm kne2, kne3, Ne.symm kne3, kne4, Ne.symm kne4, kne5, Ne.symm kne5, kne6, Ne.symm kne6]
theorem put_at {sc : Addr} {i c t j : Int} : putW (fdD sc i c t) (kA) (.int j) = fdD sc j c t := by simp [putW, kne1, Ne.symm kne1, kne2, Ne.symm kne2, kne3, Ne.symm kne3, kne4, Ne.symm kne4, kne5, Ne.symm kne5, kne6, Ne.symm kne6]
theorem put_left {sc : Addr} {i c t j : Int} : putW (fdD sc i c t) (kL) (.int j) = fdD sc i j t := by simp [putW, kne1, Ne.symm kne1, kne2, Ne.symm kne2, kne3, Ne.symm kne3, kne4, Ne.symm kne4, kne5, Ne.symm kne5, kne6, Ne.symm kne6]
theorem put_turn {sc : Addr} {i c t j : Int} : putW (fdD sc i c t) (kT) (.int j) = fdD sc i c j := by simp [putW, kne1, Ne.symm kne1, kne2, Ne.symm kne2, kne3, Ne.symm kne3, kne4, Ne.symm kne4, kne5, Ne.symm kne5, kne6, Ne.symm kne6]
structure DAt (S : Sto) (f sc : Addr) (ns : List Int) (i c t : Int) : Prop where
  ne : sc ≠ f
  hf : S f = some (.dic (fdD sc i c t))
  hs : S sc = some (.lst (List.map W.int ns))
theorem DAt.put {S : Sto} {f sc : Addr} {ns : List Int} {i c t : Int} (h : DAt S f sc ns i c t) (i' c' t' : Int) : DAt (S.put f (.dic (fdD sc i' c' t'))) f sc ns i' c' t' := ⟨h.ne, put_same, by rw [put_ne h.ne]; exact h.hs⟩
theorem DAt.new {S : Sto} {f sc p : Addr} {ns : List Int} {i c t : Int} {ce : Ce} (h : DAt S f sc ns i c t) (n : S p = none) : DAt (S.put p ce) f sc ns i c t := ⟨h.ne, by rw [put_ne (new_ne n h.hf)]; exact h.hf, by rw [put_ne (new_ne n h.hs)]; exact h.hs⟩
section
variable {S : Sto} {f sc : Addr} {ns : List Int} {i c t : Int} {K : WK}
theorem DAt.cells (h : DAt S f sc ns i c t) (k : K (.ref sc) S) : ixK (.ref f) (.str "cells") S K := by unfold ixK; exact .inr ⟨_, kC, _, h.hf, rfl, val_cells, k⟩
theorem DAt.at_ (h : DAt S f sc ns i c t) (k : K (.int i) S) : ixK (.ref f) (.str "at") S K := by unfold ixK; exact .inr ⟨_, kA, _, h.hf, rfl, val_at, k⟩
theorem DAt.left (h : DAt S f sc ns i c t) (k : K (.int c) S) : ixK (.ref f) (.str "left") S K := by unfold ixK; exact .inr ⟨_, kL, _, h.hf, rfl, val_left, k⟩
theorem DAt.turn (h : DAt S f sc ns i c t) (k : K (.int t) S) : ixK (.ref f) (.str "turn") S K := by unfold ixK; exact .inr ⟨_, kT, _, h.hf, rfl, val_turn, k⟩
theorem DAt.setAt {j : Int} {K : Sto → Prop} (h : DAt S f sc ns i c t) (k : K (S.put f (.dic (fdD sc j c t)))) : setK (.ref f) (.str "at") (.int j) S K := by unfold setK; exact .inr ⟨_, kA, h.hf, rfl, by show 4 < sizeLine; decide, by rw [put_at]; exact k⟩
theorem DAt.setLeft {j : Int} {K : Sto → Prop} (h : DAt S f sc ns i c t) (k : K (S.put f (.dic (fdD sc i j t)))) : setK (.ref f) (.str "left") (.int j) S K := by unfold setK; exact .inr ⟨_, kL, h.hf, rfl, by show 4 < sizeLine; decide, by rw [put_left]; exact k⟩
theorem DAt.setTurn {j : Int} {K : Sto → Prop} (h : DAt S f sc ns i c t) (k : K (S.put f (.dic (fdD sc i c j)))) : setK (.ref f) (.str "turn") (.int j) S K := by unfold setK; exact .inr ⟨_, kT, h.hf, rfl, by show 4 < sizeLine; decide, by rw [put_turn]; exact k⟩
end
/-- a feed that is a dict, its turn at most n -/
def DFd (S : Sto) (f sc : Addr) (n : Nat) : Prop := ∃ ns i c t, DAt S f sc ns i c t ∧ 0 ≤ t ∧ t ≤ (n : Int)
theorem DFd.new {S : Sto} {f sc p : Addr} {n : Nat} {ce : Ce} (h : DFd S f sc n) (e : S p = none) : DFd (S.put p ce) f sc n := by
  obtain ⟨ns, i, c, t, a, b⟩ := h
  exact ⟨ns, i, c, t, a.new e, b⟩
theorem DFd.mono {S : Sto} {f sc : Addr} {n m : Nat} (h : DFd S f sc n) (k : n ≤ m) : DFd S f sc m := by
  obtain ⟨ns, i, c, t, a, b, d⟩ := h
  exact ⟨ns, i, c, t, a, b, by omega⟩
theorem DFd.sub {S S' : Sto} {f sc : Addr} {n : Nat} (h : DFd S f sc n) (k : Sub S S') : DFd S' f sc n := by
  obtain ⟨ns, i, c, t, a, b⟩ := h
  exact ⟨ns, i, c, t, ⟨a.ne, k _ _ a.hf, k _ _ a.hs⟩, b⟩
theorem DFd.own {S : Sto} {f sc : Addr} {n : Nat} (h : DFd S f sc n) : ∃ c, S f = some c := by
  obtain ⟨_, _, _, _, a, _⟩ := h
  exact ⟨_, a.hf⟩
theorem DFd.apart {S : Sto} {f sc q : Addr} {n : Nat} (h : DFd S f sc n) (e : S q = none) : q ≠ f ∧ q ≠ sc := by
  obtain ⟨_, _, _, _, a, _⟩ := h
  exact ⟨Ne.symm (new_ne e a.hf), Ne.symm (new_ne e a.hs)⟩
theorem DFd.put {S : Sto} {f sc q : Addr} {n : Nat} {c : Ce} (h : DFd S f sc n) (e : q ≠ f ∧ q ≠ sc) : DFd (S.put q c) f sc n := by
  obtain ⟨ns, i, c, t, a, b⟩ := h
  exact ⟨ns, i, c, t, ⟨a.ne, by rw [put_ne (Ne.symm e.1)]; exact a.hf, by rw [put_ne (Ne.symm e.2)]; exact a.hs⟩, b⟩
theorem Kp.putNew {S S1 : Sto} {f q : Addr} {c : Ce} (k : Kp S S1 f) (h : S q = none) : Kp S (S1.put q c) f := fun a d n e => by
  rw [put_ne (new_ne h e)]; exact k a d n e
structure DWd (F S : Sto) (f sc : Addr) (n : Nat) : Prop where
  sub : Sub F S
  fn : F f = none
  fd : DFd S f sc n
theorem DWd.kp {F S S' : Sto} {f sc : Addr} {n m : Nat} (w : DWd F S f sc n) (k : Kp S S' f) (fd : DFd S' f sc m) : DWd F S' f sc m := ⟨w.sub.kp k w.fn, w.fn, fd⟩
theorem fresh_oldD {S S1 : Sto} {f sc p : Addr} {n : Nat} (kp : Kp S S1 f) (fd : DFd S1 f sc n) (h : S1 p = none) : S p = none := by
  cases e : S p with
  | none => rfl
  | some c =>
    by_cases z : p = f
    · subst z
      obtain ⟨d, hd⟩ := fd.own
      rw [hd] at h; cases h
    · rw [kp p c z e] at h; cases h
theorem rep_one {α : Type} (n : Nat) (x : α) : (List.replicate n [x]).flatten = List.replicate n x := by
  induction n with
  | zero => rfl
  | succ n ih => rw [List.replicate_succ, List.flatten_cons, ih, List.replicate_succ]; rfl
theorem sum_set : ∀ (l : List Int) (i : Nat) (x y : Int), l[i]? = some y → (l.set i x).sum = l.sum - y + x
  | [], i, x, y, h => by simp at h
  | a :: l, 0, x, y, h => by
    have h : a = y := by simpa using h
    subst h
    simp only [List.set_cons_zero, List.sum_cons]; omega
  | a :: l, i + 1, x, y, h => by
    have h : l[i]? = some y := by simpa using h
    simp only [List.set_cons_succ, List.sum_cons, sum_set l i x y h]; omega
theorem le_sum : ∀ {l : List Int}, (∀ r ∈ l, 0 ≤ r) → 0 ≤ l.sum ∧ ∀ r ∈ l, r ≤ l.sum
  | [], _ => ⟨by simp, fun r h => by cases h⟩
  | a :: l, h => by
    obtain ⟨h1, h2⟩ := le_sum (l := l) fun r hr => h r (List.mem_cons_of_mem _ hr)
    have h3 := h a (List.mem_cons_self ..)
    refine ⟨by simp only [List.sum_cons]; omega, fun r hr => ?_⟩
    simp only [List.sum_cons]
    rcases List.mem_cons.mp hr with rfl | hr
    · omega
    · have := h2 r hr; omega
theorem sum_rep (n : Nat) (x : Int) : (List.replicate n x).sum = n * x := by
  induction n with
  | zero => simp
  | succ n ih => rw [List.replicate_succ, List.sum_cons, ih]; push_cast; rw [Int.add_mul, Int.one_mul]; omega
theorem log_small {m : Int} (h : 0 < m) (h' : m < 2 ^ 64) : m.natAbs.log2 < 9000 := by have := log2_lt (n := m.natAbs) (b := 64) (by omega) (by decide); omega
def pDrawD : Pm := fun ws S Kk Ek => ∃ f sc m n, ws = [.ref f, .int m] ∧ 0 < m ∧ m < 2 ^ 64 ∧ DFd S f sc n ∧ n < 10 ^ 6 ∧ ∀ k S', 0 ≤ k → k < m → Kp S S' f → DFd S' f sc (n + 1) → Kk (.int k) S'
def pFeedD : Pm := fun ws S Kk Ek => ∃ z ns, ws = [z] ∧ ((∃ b, z = .ref b ∧ S b = some (.frz (List.map W.int ns))) ∨ z = .kls (List.map W.int ns)) ∧ ns.length ≤ 63 ∧ ∀ f sc S', DFd S' f sc 0 → Kk (.ref f) S'
end Dp
namespace Dp
open PySem PySem.Spec L2
open PyProof.Rows hiding St

/-! ### data that may be shown -/
structure Fine (d : PyData) : Prop where
  lay : d.canLay0 = true
  shorts : d.intsShort 210 = true
  show_ : d.showable = true
  deep : d.depth ≤ 8
  light : d.weight ≤ 40000
theorem Nice.fine {d : PyData} (h : Nice d) : Fine d := ⟨h.lay, h.shorts, h.show_, h.deep, Nat.le_trans h.light (by decide)⟩
theorem fine_show {d : PyData} (h : Fine d) : d.showable = true ∧ d.depth ≤ 60 ∧ d.shown.length ≤ sizeLine ∧ SeqAt.shaped d = true := by
  have lv := PyData.leavesShort_of_canLay0 210 d h.lay h.shorts
  have sh := PyData.shown_le 210 (by decide) d lv
  have h4 := h.deep
  have h5 := h.light
  refine ⟨h.show_, by omega, by rw [sizeLine_eq]; omega, ?_⟩
  unfold SeqAt.shaped
  rw [Bool.and_eq_true, decide_eq_true_eq]
  exact ⟨h.lay, by omega⟩
theorem all_fine {B : Nat} {ds : List PyData} (h : ∀ d ∈ ds, Fine d ∧ d.depth ≤ 7 ∧ d.weight ≤ B) : PyData.canLayAll0 ds = true ∧ PyData.intsShortAll 210 ds = true ∧ PyData.showableAll ds = true ∧ PyData.depthAll ds ≤ 7 ∧ PyData.weightAll ds ≤ (B + 1) * ds.length := by
  induction ds with
  | nil => exact ⟨rfl, rfl, rfl, Nat.zero_le _, Nat.zero_le _⟩
  | cons d ds ih =>
    obtain ⟨a1, a2, a3, a4, a5⟩ := ih fun x hx => h x (List.mem_cons_of_mem _ hx)
    obtain ⟨⟨b1, b2, b3, _, _⟩, b4, b5⟩ := h d (List.mem_cons_self ..)
    refine ⟨?_, ?_, ?_, Nat.max_le.mpr ⟨b4, a4⟩, ?_⟩
    · simp only [PyData.canLayAll0, a1, b1]; rfl
    · simp only [PyData.intsShortAll, a2, b2]; rfl
    · simp only [PyData.showableAll, a3, b3]; rfl
    · simp only [PyData.weightAll, List.length_cons, Nat.mul_add, Nat.mul_one]; omega
theorem fine_tup {ds : List PyData} (B : Nat) (h : ∀ d ∈ ds, Fine d ∧ d.depth ≤ 7 ∧ d.weight ≤ B) (l : (B + 1) * ds.length ≤ 40000) : Fine (.tuple ds) := by
  obtain ⟨a1, a2, a3, a4, a5⟩ := all_fine h
  exact ⟨a1, a2, a3, by show PyData.depthAll ds + 1 ≤ 8; omega, by show PyData.weightAll ds ≤ _; omega⟩
theorem fine_lst {ds : List PyData} (B : Nat) (h : ∀ d ∈ ds, Fine d ∧ d.depth ≤ 7 ∧ d.weight ≤ B) (l : (B + 1) * ds.length ≤ 40000) : Fine (.list ds) := by
  obtain ⟨a1, a2, a3, a4, a5⟩ := all_fine h
  exact ⟨a1, a2, a3, by show PyData.depthAll ds + 1 ≤ 8; omega, by show PyData.weightAll ds ≤ _; omega⟩
def fineB (d : PyData) : Bool := d.canLay0 && d.intsShort 210 && d.showable && decide (d.depth ≤ 8) && decide (d.weight ≤ 40000)
theorem fine_by {d : PyData} (h : fineB d = true) : Fine d := by
  unfold fineB at h
  simp only [Bool.and_eq_true, decide_eq_true_eq] at h
  exact ⟨h.1.1.1.1, h.1.1.1.2, h.1.1.2, h.1.2, h.2⟩
theorem len_weight : ∀ ds : List PyData, ds.length ≤ PyData.weightAll ds
  | [] => Nat.zero_le _
  | d :: ds => by have := len_weight ds; simp only [PyData.weightAll, List.length_cons]; omega
theorem fine_len {ds : List PyData} (h : Fine (.tuple ds)) : ds.length ≤ 40000 := Nat.le_trans (len_weight ds) h.light
theorem filter_lay {q : PyData → Bool} : ∀ {ds : List PyData}, PyData.canLayAll0 ds = true → PyData.canLayAll0 (ds.filter q) = true ∧ PyData.depthAll (ds.filter q) ≤ PyData.depthAll ds
  | [], _ => ⟨rfl, Nat.le_refl _⟩
  | d :: ds, h => by
    have h : (d.canLay0 && PyData.canLayAll0 ds) = true := h
    rw [Bool.and_eq_true] at h
    obtain ⟨i1, i2⟩ := filter_lay (q := q) h.2
    rw [List.filter_cons]
    split
    · exact ⟨by show (d.canLay0 && _) = true; rw [h.1, i1]; rfl, Nat.max_le.mpr ⟨Nat.le_max_left .., Nat.le_trans i2 (Nat.le_max_right ..)⟩⟩
    · exact ⟨i1, Nat.le_trans i2 (Nat.le_max_right ..)⟩
theorem shaped_filter {q : PyData → Bool} {ds : List PyData} (h : Fine (.tuple ds)) : SeqAt.shaped (.list (ds.filter q)) = true := by
  obtain ⟨a, b⟩ := filter_lay (q := q) (ds := ds) h.lay
  have c : PyData.depthAll ds + 1 ≤ 8 := h.deep
  unfold SeqAt.shaped
  rw [Bool.and_eq_true, decide_eq_true_eq]
  exact ⟨a, by show PyData.depthAll _ + 1 ≤ 64; omega⟩
theorem eqv_nil (es : List PyData) : PyData.eqv (.list es) (.list []) = es.isEmpty := by cases es <;> rfl
theorem fine_int {i : Int} (h : i.natAbs < 2 ^ 30) : Fine (.int i) ∧ (PyData.int i).depth ≤ 7 ∧ (PyData.int i).weight ≤ 30 := by
  have h3 := log2_lt h (by decide)
  refine ⟨(nice_int (by omega)).fine, Nat.zero_le _, ?_⟩
  show (if (i == 0) = true then 0 else i.natAbs.log2 + 1) ≤ 30
  split <;> omega
theorem den_ints {S : Sto} (ns : List Int) : Den S (.tup (ns.map W.int)) (.tuple (ns.map PyData.int)) := .tup (dens_ints ns)
/-! ### [x for x in xs if ..] -/
theorem filt {cd : WT} {v : Nat} {ρ : Ro} {F : List W → Sto → Prop} {S : Sto} {ws : List W} {ds : List PyData} (h : Dens S ws ds) (q : PyData → Bool) (hl : ws.length < sizeLine) (hv : ∀ w, rget (rset ρ v (some w)) v = some w)
    (step : ∀ w d S' (Kt : Bool → Sto → Prop), d ∈ ds → Den S' w d → (∀ g, Kp S S' g) → (∀ S'', (∀ g, Kp S S'' g) → Kt (q d) S'') → cd (rset ρ v (some w)) S' Kt (fun _ _ => False))
    (fin : ∀ acc S', Dens S' acc (ds.filter q) → (∀ g, Kp S S' g) → F acc S') : compW (fun _ => True) (wgOf (.nm v)) cd (mVar v) ρ F ws [] S := by
  refine comp_inv (fun i acc S' => Dens S acc ((ds.take i).filter q) ∧ acc.length ≤ i ∧ i ≤ ws.length ∧ ∀ g, Kp S S' g) ws ⟨by simp; exact .nil, Nat.zero_le _, Nat.zero_le _, fun g => .refl⟩ (fun _ _ _ _ => trivial) ?_ ?_
  · rintro i w acc S' nx hw ⟨hd, l1, l2, kp⟩ hnx
    obtain ⟨d, e, dd⟩ := h.get hw
    have hi := (List.getElem?_eq_some_iff.mp hw).1
    refine step w d S' _ (List.mem_of_getElem? e) (dd.sub (kp_all kp)) kp fun S'' kp' => ?_
    refine ite_of (fun hq => ?_) fun hq => ?_
    · show mVar v _ S'' _ _
      unfold mVar
      rw [hv w]
      refine ⟨by omega, hnx _ _ ⟨?_, by rw [List.length_append]; show acc.length + 1 ≤ _; omega, hi, kp'⟩⟩
      rw [List.take_add_one, e, List.filter_append]
      refine hd.append ?_
      show Dens S [w] ((List.filter q [d]))
      rw [List.filter_cons, if_pos hq]
      exact .cons dd .nil
    · refine hnx _ _ ⟨?_, by omega, hi, kp'⟩
      rw [List.take_add_one, e, List.filter_append]
      show Dens S acc (_ ++ List.filter q [d])
      rw [List.filter_cons, if_neg (by rw [hq]; decide)]
      simpa using hd
  · rintro acc S' ⟨hd, l1, l2, kp⟩
    rw [h.length, List.take_length] at hd
    exact fin acc S' (hd.sub (kp_all kp)) kp
end Dp
namespace Dp
open PySem PySem.Spec L2
open PyProof.Rows hiding St

/-! ### comprehensions that give one thing for each place -/
theorem comp_idx {g : Sto → Prop} {tg : WG} {el : WE} {ρ : Ro} {F : List W → Sto → Prop} {S : Sto} (xs : List W) (f : Nat → W) (hl : xs.length < sizeLine) (hg : ∀ S', (∀ g, Kp S S' g) → g S')
    (step : ∀ i x S' (Kt : WK), xs[i]? = some x → (∀ g, Kp S S' g) → (∀ S'', (∀ g, Kp S S'' g) → Kt (f i) S'') → tg x ρ fun ρ2 => el ρ2 S' Kt (fun _ _ => False))
    (fin : ∀ S', (∀ g, Kp S S' g) → F ((List.range xs.length).map f) S') : compW g tg mYes el ρ F xs [] S := by
  refine comp_inv (fun i acc S' => acc = (List.range i).map f ∧ i ≤ xs.length ∧ ∀ g, Kp S S' g) xs ⟨rfl, Nat.zero_le _, fun g => .refl⟩ (fun _ _ _ h => hg _ h.2.2) ?_ ?_
  · rintro i x acc S' nx hx ⟨rfl, hi, kp⟩ hnx
    have hi := (List.getElem?_eq_some_iff.mp hx).1
    exact step i x S' (fun w S2 => ((List.range i).map f).length < sizeLine ∧ nx ((List.range i).map f ++ [w]) S2) hx kp fun S'' kp' => ⟨by rw [List.length_map, List.length_range]; omega, hnx _ _ ⟨by rw [List.range_succ, List.map_append]; rfl, hi, kp'⟩⟩
  · rintro acc S' ⟨rfl, _, kp⟩
    exact fin S' kp
/-- those that pass, what each gives -/
theorem comp_fil {g : Sto → Prop} {tg : WG} {cd : WT} {el : WE} {ρ : Ro} {F : List W → Sto → Prop} {S : Sto} (xs : List W) (q : Nat → Bool) (v : Nat → W) (hl : xs.length < sizeLine) (hg : ∀ S', (∀ g, Kp S S' g) → g S')
    (step : ∀ i x S' (KT : WK) (KF : Sto → Prop), xs[i]? = some x → (∀ g, Kp S S' g) → (q i = true → ∀ S'', (∀ g, Kp S S'' g) → KT (v i) S'') → (q i = false → ∀ S'', (∀ g, Kp S S'' g) → KF S'') → tg x ρ fun ρ2 => cd ρ2 S' (fun b S1 => if b = true then el ρ2 S1 KT (fun _ _ => False) else KF S1) (fun _ _ => False))
    (fin : ∀ S', (∀ g, Kp S S' g) → F (((List.range xs.length).filter q).map v) S') : compW g tg cd el ρ F xs [] S := by
  refine comp_inv (fun i acc S' => acc = ((List.range i).filter q).map v ∧ i ≤ xs.length ∧ ∀ g, Kp S S' g) xs ⟨rfl, Nat.zero_le _, fun g => .refl⟩ (fun _ _ _ h => hg _ h.2.2) ?_ ?_
  · rintro i x acc S' nx hx ⟨rfl, hi, kp⟩ hnx
    have hi := (List.getElem?_eq_some_iff.mp hx).1
    have hlen : (((List.range i).filter q).map v).length < sizeLine := by
      have := List.length_filter_le q (List.range i)
      rw [List.length_range] at this
      rw [List.length_map]; omega
    refine step i x S' (fun w S2 => (((List.range i).filter q).map v).length < sizeLine ∧ nx (((List.range i).filter q).map v ++ [w]) S2) (nx (((List.range i).filter q).map v)) hx kp (fun hq S'' kp' => ⟨hlen, hnx _ _ ⟨?_, hi, kp'⟩⟩) fun hq S'' kp' => hnx _ _ ⟨?_, hi, kp'⟩
    · rw [List.range_succ, List.filter_append, List.map_append, List.filter_cons, if_pos hq]; rfl
    · rw [List.range_succ, List.filter_append, List.map_append, List.filter_cons, if_neg (by rw [hq]; decide)]; simp
  · rintro acc S' ⟨rfl, _, kp⟩
    exact fin S' kp
theorem perm_sum {xs ys : List Int} (h : xs.Perm ys) : xs.sum = ys.sum := by
  induction h with
  | nil => rfl
  | cons x _ ih => rw [List.sum_cons, List.sum_cons, ih]
  | swap x y l => simp only [List.sum_cons]; omega
  | trans _ _ a b => exact a.trans b
theorem none_in {α : Type} {P : α → Prop} : ∀ x ∈ ([] : List α), P x := fun x h => absurd h List.not_mem_nil
theorem fix_rg {lo c : Int} {n : Nat} : (wkFix (rgList lo c n)).items.length = n := rgList_len ..
theorem fix_len (xs : List W) : (wkFix xs).items.length = xs.length := rfl
theorem range_get {α : Type} (d : α) (xs : List α) : (List.range xs.length).map (fun i => xs.getD i d) = xs := by
  apply List.ext_getElem
  · simp
  · intro i h1 h2
    rw [List.getElem_map, List.getElem_range, List.getD_eq_getElem?_getD, List.getElem?_eq_getElem h2]; rfl
theorem range_map {α β : Type} (d : α) (f : α → β) (xs : List α) : (List.range xs.length).map (fun i => f (xs.getD i d)) = xs.map f := by
  have := congrArg (List.map f) (range_get d xs)
  rw [List.map_map] at this
  exact this
theorem map_range {α β : Type} (f : α → β) (g : Nat → α) (n : Nat) : (List.range n).map (fun i => f (g i)) = ((List.range n).map g).map f := by rw [List.map_map]; rfl
theorem ints_at {xs : List Int} {i : Nat} {x : W} (h : (xs.map W.int)[i]? = some x) : i < xs.length ∧ x = .int (xs.getD i 0) := by
  rw [List.getElem?_map] at h
  cases e : xs[i]? with
  | none => rw [e] at h; cases h
  | some v =>
    rw [e] at h
    refine ⟨(List.getElem?_eq_some_iff.mp e).1, ?_⟩
    rw [List.getD_eq_getElem?_getD, e]
    exact (Option.some.inj h).symm
theorem getD_mem {α : Type} {d : α} {xs : List α} {i : Nat} (h : i < xs.length) : xs.getD i d ∈ xs := by
  rw [List.getD_eq_getElem?_getD, List.getElem?_eq_getElem h]
  exact List.getElem_mem h
theorem get_some {α : Type} {d : α} {xs : List α} {i : Nat} (h : i < xs.length) : xs[i]? = some (xs.getD i d) := by
  rw [List.getD_eq_getElem?_getD, List.getElem?_eq_getElem h]; rfl
theorem int_at {xs : List Int} {i : Int} (h0 : 0 ≤ i) (h : i < xs.length) : atI (xs.map W.int) i = some (.int (xs.getD i.toNat 0)) :=
  atI_pos h0 (by rw [List.getElem?_map, get_some (d := 0) (show i.toNat < xs.length by omega)]; rfl)
theorem enu_at {ws : List W} {i : Nat} {x : W} (h : (enuW 0 ws)[i]? = some x) : ∃ w, ws[i]? = some w ∧ x = .tup [.int (i : Nat), w] := by
  have hl := (List.getElem?_eq_some_iff.mp h).1
  rw [enuW_len] at hl
  refine ⟨ws[i], List.getElem?_eq_getElem hl, ?_⟩
  have := enuW_at ws 0 i _ (List.getElem?_eq_getElem hl)
  rw [this] at h
  rw [← Option.some.inj h, Nat.zero_add]
/-- ints that are small: fine data -/
theorem fine_ints_of {xs : List Int} (h : ∀ x ∈ xs, x.natAbs < 2 ^ 60) (l : xs.length ≤ 300) : Fine (.tuple (xs.map PyData.int)) ∧ (PyData.tuple (xs.map PyData.int)).depth ≤ 7 ∧ (PyData.tuple (xs.map PyData.int)).weight ≤ 61 * xs.length := by
  have hd : ∀ d ∈ xs.map PyData.int, Fine d ∧ d.depth ≤ 6 ∧ d.weight ≤ 60 := fun d hd => by
    obtain ⟨x, hx, rfl⟩ := List.mem_map.mp hd
    have hb := h x hx
    have b : (2 : Nat) ^ 60 < 10 ^ 205 := by decide +kernel
    have h3 := log2_lt hb (by decide)
    refine ⟨(nice_int (Nat.lt_trans hb b)).fine, Nat.zero_le _, ?_⟩
    show (if (x == 0) = true then 0 else x.natAbs.log2 + 1) ≤ 60
    split <;> omega
  obtain ⟨a1, a2, a3, a4, a5⟩ := all_fine (B := 60) fun d m => ⟨(hd d m).1, Nat.le_trans (hd d m).2.1 (by decide), (hd d m).2.2⟩
  rw [List.length_map] at a5
  have a6 : PyData.depthAll (xs.map PyData.int) ≤ 6 := by
    clear a1 a2 a3 a4 a5
    generalize xs.map PyData.int = ds at hd
    induction ds with
    | nil => exact Nat.zero_le _
    | cons d ds ih => exact Nat.max_le.mpr ⟨(hd d (List.mem_cons_self ..)).2.1, ih fun e m => hd e (List.mem_cons_of_mem _ m)⟩
  refine ⟨⟨a1, a2, a3, by show PyData.depthAll _ + 1 ≤ 8; omega, by show PyData.weightAll _ ≤ _; omega⟩, by show PyData.depthAll _ + 1 ≤ 7; omega, by show PyData.weightAll _ ≤ _; omega⟩
end Dp
namespace Dp
open PySem PySem.Spec L2
open PyProof.Rows hiding St

theorem eqF_str (x : Str) : eqF (.str x) (.str x) = true := by
  show (x == x) = true
  exact beq_self_eq_true x
theorem big {k : Nat} (h : k ≤ 100000) : k < sizeLine := Nat.lt_of_le_of_lt h (by decide)
theorem bigE {k : Nat} (h : k ≤ 100000) : k ≤ sizeLine := Nat.le_of_lt (big h)
theorem sum_low {B : Nat} : ∀ {xs : List Int}, (∀ x ∈ xs, x.natAbs < B) → xs.sum.natAbs ≤ B * xs.length
  | [], _ => by simp
  | x :: xs, h => by
    have h1 := h x (List.mem_cons_self ..)
    have h2 := sum_low (xs := xs) fun y hy => h y (List.mem_cons_of_mem _ hy)
    rw [List.sum_cons, List.length_cons, Nat.mul_add, Nat.mul_one]
    omega
theorem zip_ints {xs ys : List Int} {i : Nat} {x : W} (h : (zipW (List.map W.int xs) (List.map W.int ys))[i]? = some x) : i < xs.length ∧ i < ys.length ∧ x = .tup [.int (xs.getD i 0), .int (ys.getD i 0)] := by
  obtain ⟨w, u, h1, h2, rfl⟩ := zipW_get h
  obtain ⟨a1, rfl⟩ := ints_at h1
  obtain ⟨a2, rfl⟩ := ints_at h2
  exact ⟨a1, a2, rfl⟩
theorem mapD {α β : Type} {f : α → β} {xs : List α} {i : Nat} {d : α} {e : β} (h : i < xs.length) : (xs.map f).getD i e = f (xs.getD i d) := by
  rw [List.getD_eq_getElem?_getD, List.getElem?_map, get_some (d := d) h]; rfl
/-! ### numbers by kind -/
def numB : PyData → Bool
  | .int _ => true
  | _ => false
def valI : PyData → Int
  | .int i => i
  | _ => 0
def pNum : Pm := fun ws S Kk Ek => ∃ w d, ws = [w] ∧ Den S w d ∧ Kk (.bl (numB d)) S
theorem kNumA (p : Nat → Pm) (G : Nat → W) : Keeps p G 1 1 (.cons (.ret (.and (.isi .int (.var 0)) (.not (.isi .bool (.var 0))))) .nil) pNum := by
  rintro ws S Kk Ek ⟨w, d, rfl, hd, k⟩
  refine ⟨rfl, ?_⟩
  cases hd with
  | lst l h => ((conv => whnf); refine step_ ?_; (conv => whnf)); exact .inl ⟨_, l, k⟩
  | _ => ((conv => whnf); refine step_ ?_; (conv => whnf)); exact k
theorem num_ints {S : Sto} : ∀ {ws : List W} {ds : List PyData}, Dens S ws ds → ds.all numB = true → ws = List.map W.int (ds.map valI)
  | [], _, .nil, _ => rfl
  | w :: ws, d :: ds, .cons h t, k => by
    rw [List.all_cons, Bool.and_eq_true] at k
    rw [num_ints t k.2]
    cases h with
    | int i => rfl
    | _ => exact (Bool.false_ne_true k.1).elim
theorem ints_num (xs : List Int) : (xs.map PyData.int).all numB = true ∧ (xs.map PyData.int).map valI = xs := by
  induction xs with
  | nil => exact ⟨rfl, rfl⟩
  | cons x xs ih => exact ⟨by rw [List.map_cons, List.all_cons, ih.1]; rfl, by rw [List.map_cons, List.map_cons, ih.2]; rfl⟩
theorem filter_nil {q : PyData → Bool} {ds : List PyData} : (ds.filter q).isEmpty = ds.all (fun d => !q d) := by
  induction ds with
  | nil => rfl
  | cons d ds ih =>
    rw [List.filter_cons, List.all_cons]
    cases h : q d with
    | true => rw [if_pos rfl]; rfl
    | false => rw [if_neg (by decide), ih]; rfl
theorem eqv_nilT (es : List PyData) : PyData.eqv (.tuple es) (.tuple []) = es.isEmpty := by cases es <;> rfl
/-- small: fine, shallow, light -/
def Smal (d : PyData) : Prop := Fine d ∧ d.depth ≤ 7 ∧ d.weight ≤ 700
theorem smal_int {i : Int} (h : i.natAbs < 10 ^ 205) : Smal (.int i) := ⟨(nice_int h).fine, Nat.zero_le _, (nice_int h).light⟩
theorem smal_i {i : Int} (h : i.natAbs < 2 ^ 400) : Smal (.int i) := smal_int (Nat.lt_trans h (by decide +kernel))
theorem smal_by {d : PyData} (h : (fineB d && decide (d.depth ≤ 7) && decide (d.weight ≤ 700)) = true) : Smal d := by
  simp only [Bool.and_eq_true, decide_eq_true_eq] at h
  exact ⟨fine_by h.1.1, h.1.2, h.2⟩
theorem smal_ints {xs : List Int} (h : ∀ x ∈ xs, x.natAbs < 2 ^ 400) : ∀ d ∈ xs.map PyData.int, Smal d := fun d hd => by
  obtain ⟨r, hr, rfl⟩ := List.mem_map.mp hd
  exact smal_i (h r hr)
theorem smal_show {d : PyData} (h : Fine d) : d.showable = true ∧ d.depth ≤ 60 ∧ d.shown.length ≤ sizeLine := by
  obtain ⟨a, b, c, _⟩ := fine_show h
  exact ⟨a, b, c⟩
/-- a thing picked from a list of made things -/
theorem pick_l {S F : Sto} {q : Addr} {ows : List W} {ods : List PyData} {c : Int} {K : WK} (hq : S q = some (.lst ows)) (hd : Dens F ows ods) (c0 : 0 ≤ c) (c1 : c < (ows.length : Int)) (hK : ∀ w' d, d ∈ ods → Den F w' d → K w' S) : ixK (.ref q) (.int c) S K := by
  obtain ⟨x, e, m⟩ := atI_some c0 c1
  obtain ⟨d, dm, dd⟩ := hd.mem m
  exact ix_l hq e (hK x d dm dd)
/-- one of ints written out -/
theorem pick_i {S : Sto} {q : Addr} {xs : List Int} {c : Int} {K : WK} (hq : S q = some (.lst (xs.map W.int))) (c0 : 0 ≤ c) (c1 : c < (xs.length : Int)) (hK : ∀ v ∈ xs, K (.int v) S) : ixK (.ref q) (.int c) S K :=
  ix_l hq (int_at c0 c1) (hK _ (getD_mem (by omega)))
theorem Dens.set {S : Sto} {a : List W} {x : List PyData} {w : W} {d : PyData} (i : Nat) (h : Dens S a x) (k : Den S w d) : Dens S (a.set i w) (x.set i d) := by
  induction a generalizing x i with
  | nil => cases h; exact .nil
  | cons z ws ih =>
    cases h with
    | cons h t =>
      cases i with
      | zero => exact .cons k t
      | succ i => exact .cons h (ih i t)
theorem smal_set {ds : List PyData} {i : Nat} {d : PyData} (h : ∀ e ∈ ds, Smal e) (k : Smal d) : ∀ e ∈ ds.set i d, Smal e := fun e he => by
  rcases List.mem_or_eq_of_mem_set he with he | rfl
  · exact h e he
  · exact k
theorem fine_smal {ds : List PyData} (h : ∀ d ∈ ds, Smal d) (l : ds.length ≤ 28) : Fine (.tuple ds) := fine_tup 700 h (by omega)
theorem fine_smalL {ds : List PyData} (h : ∀ d ∈ ds, Smal d) (l : ds.length ≤ 28) : Fine (.list ds) := fine_lst 700 h (by omega)
theorem map_erase {α β : Type} (f : α → β) : ∀ (xs : List α) (i : Nat), (xs.map f).eraseIdx i = (xs.eraseIdx i).map f
  | [], _ => rfl
  | _ :: _, 0 => rfl
  | x :: xs, i + 1 => by show f x :: (xs.map f).eraseIdx i = f x :: (xs.eraseIdx i).map f; rw [map_erase f xs i]
/-- fine, of that depth and weight -/
structure FinD (k B : Nat) (d : PyData) : Prop where
  fine : Fine d
  deep : d.depth ≤ k
  light : d.weight ≤ B
theorem FinD.mono {k B k' B' : Nat} {d : PyData} (h : FinD k B d) (a : k ≤ k') (b : B ≤ B') : FinD k' B' d := ⟨h.fine, Nat.le_trans h.deep a, Nat.le_trans h.light b⟩
theorem find_all {k B : Nat} : ∀ {ds : List PyData}, (∀ d ∈ ds, FinD k B d) → PyData.canLayAll0 ds = true ∧ PyData.intsShortAll 210 ds = true ∧ PyData.showableAll ds = true ∧ PyData.depthAll ds ≤ k ∧ PyData.weightAll ds ≤ (B + 1) * ds.length
  | [], _ => ⟨rfl, rfl, rfl, Nat.zero_le _, Nat.zero_le _⟩
  | d :: ds, h => by
    obtain ⟨a1, a2, a3, a4, a5⟩ := find_all (ds := ds) fun x hx => h x (List.mem_cons_of_mem _ hx)
    obtain ⟨⟨b1, b2, b3, _, _⟩, b4, b5⟩ := h d (List.mem_cons_self ..)
    refine ⟨?_, ?_, ?_, Nat.max_le.mpr ⟨b4, a4⟩, ?_⟩
    · simp only [PyData.canLayAll0, a1, b1]; rfl
    · simp only [PyData.intsShortAll, a2, b2]; rfl
    · simp only [PyData.showableAll, a3, b3]; rfl
    · simp only [PyData.weightAll, List.length_cons, Nat.mul_add, Nat.mul_one]; omega
theorem fd_tup {k B : Nat} {ds : List PyData} (h : ∀ d ∈ ds, FinD k B d) (hk : k ≤ 7) (hB : (B + 1) * ds.length ≤ 40000) : FinD (k + 1) ((B + 1) * ds.length) (.tuple ds) := by
  obtain ⟨a1, a2, a3, a4, a5⟩ := find_all h
  exact ⟨⟨a1, a2, a3, by show PyData.depthAll ds + 1 ≤ 8; omega, by show PyData.weightAll ds ≤ _; omega⟩, by show PyData.depthAll ds + 1 ≤ _; omega, a5⟩
theorem fd_lst {k B : Nat} {ds : List PyData} (h : ∀ d ∈ ds, FinD k B d) (hk : k ≤ 7) (hB : (B + 1) * ds.length ≤ 40000) : FinD (k + 1) ((B + 1) * ds.length) (.list ds) := by
  obtain ⟨a1, a2, a3, a4, a5⟩ := find_all h
  exact ⟨⟨a1, a2, a3, by show PyData.depthAll ds + 1 ≤ 8; omega, by show PyData.weightAll ds ≤ _; omega⟩, by show PyData.depthAll ds + 1 ≤ _; omega, a5⟩
theorem fd_int {b : Nat} {i : Int} (h : i.natAbs < 2 ^ b) (h0 : 0 < b) (hb : b ≤ 600) : FinD 0 b (.int i) := by
  have h3 := log2_lt h h0
  refine ⟨(nice_int (Nat.lt_of_lt_of_le (Nat.lt_of_lt_of_le h (Nat.pow_le_pow_right (by decide) hb)) (by decide +kernel))).fine, Nat.zero_le _, ?_⟩
  show (if (i == 0) = true then 0 else i.natAbs.log2 + 1) ≤ b
  split <;> omega
theorem fd_ints {b : Nat} {xs : List Int} (h : ∀ x ∈ xs, x.natAbs < 2 ^ b) (h0 : 0 < b) (hb : b ≤ 600) : ∀ d ∈ xs.map PyData.int, FinD 0 b d := fun d hd => by
  obtain ⟨x, hx, rfl⟩ := List.mem_map.mp hd
  exact fd_int (h x hx) h0 hb
theorem FinD.show_ {k B : Nat} {d : PyData} (h : FinD k B d) : d.showable = true ∧ d.depth ≤ 60 ∧ d.shown.length ≤ sizeLine := smal_show h.fine
def pairD (p : Int × Int) : PyData := .tuple [.int p.1, .int p.2]
theorem dens_pairs {S : Sto} : ∀ ps : List (Int × Int), Dens S (ps.map pairW) (ps.map pairD)
  | [] => .nil
  | p :: ps => .cons (.tup (.cons (.int _) (.cons (.int _) .nil))) (dens_pairs ps)
theorem fd_pairs {b : Nat} {ps : List (Int × Int)} (h : ∀ p ∈ ps, p.1.natAbs < 2 ^ b ∧ p.2.natAbs < 2 ^ b) (h0 : 0 < b) (hb : b ≤ 600) : ∀ d ∈ ps.map pairD, FinD 1 ((b + 1) * 2) d := fun d hd => by
  obtain ⟨p, hp, rfl⟩ := List.mem_map.mp hd
  obtain ⟨h1, h2⟩ := h p hp
  refine fd_tup (k := 0) (B := b) (ds := [.int p.1, .int p.2]) (fun e he => ?_) (by decide) (by show (b + 1) * 2 ≤ _; omega)
  simp only [List.mem_cons, List.not_mem_nil, or_false] at he
  rcases he with rfl | rfl
  · exact fd_int h1 h0 hb
  · exact fd_int h2 h0 hb
theorem Sub.up {S S' : Sto} (h : Sub S S') {a : Addr} {c : Ce} (e : S a = some c) : S' a = some c := h a c e
theorem up_new {S : Sto} {p a : Addr} {c d : Ce} (h : S p = none) (e : S a = some d) : (S.put p c) a = some d := by rw [put_ne (new_ne h e)]; exact e
theorem kps_none {S S1 : Sto} {p : Addr} (h : ∀ g, Kp S S1 g) (n : S1 p = none) : S p = none := by
  cases e : S p with
  | none => rfl
  | some c => rw [kp_all h _ _ e] at n; cases n
end Dp
namespace Dp.K33
open PySem PySem.Spec L2
open PyProof.Rows hiding St
/-! what the program prints: the defs as my syntax -/
def top (i : Nat) : Stmt := PySem.Challenge.pw_meadowballs_k33_dues_and_fair_draws.main.body.getD i (.Pass ⟨0, 0, 0, 0⟩)
abbrev fns : List Str := ["dues", "are_fair", "drawn_on", "_law_feed", "_law_draw", "_law_drawn_order", "_law_strips", "_law_pairs", "_law_fair", "_law_otherwise", "_law_counts", "_law_dues_right", "law"]
abbrev gls : List Str := []
abbrev N_dues : List Str := ["many", "pairs", "ball", "found", "strips", "draw", "width", "worth", "drawn"]
abbrev A_dues : List Str := ["many", "pairs", "ball"]
def b_dues : Sms :=
  .cons (.asg (.nm 3) (.cst (.int 0)))
  (.cons (.for (.tp [4, 5]) (.seq (.var 1))
  (.cons (.asg (.nm 3) (.bin .Sub (.var 3) (.blt .sum (.cons (.comp (.var 7) (.tp [6, 7]) (.seq (.var 4)) .none [("width", 6), ("worth", 7)]) .nil))))
  (.cons (.for (.tk 8 [6, 7]) (.zip (.var 5) (.var 4))
  (.cons (.ite (.cmp .Eq (.var 8) (.var 2))
  (.cons (.asg (.nm 3) (.bin .Add (.var 3) (.bin .Mult (.var 0) (.var 7))))
  (.nil))
  (.nil))
  (.nil)))
  (.nil))))
  (.cons (.ret (.var 3))
  (.nil)))
theorem k_dues : chkSs b_dues ⟨N_dues, defScope (top 1), fun _ => true, fns, gls⟩ (defBody (top 1)) = true := by decide +kernel
theorem sc_dues : FnScope N_dues A_dues (defScope (top 1)) := ⟨rfl, rfl, rfl, by decide +kernel, rfl, by decide +kernel, by decide +kernel⟩
abbrev N_are_fair : List Str := ["many", "strips", "draws", "k", "drawn", "draw", "ball"]
abbrev A_are_fair : List Str := ["many", "strips", "draws"]
def b_are_fair : Sms :=
  .cons (.for (.nm 3) (.rg1 (.blt .len (.cons (.var 1) .nil)))
  (.cons (.asg (.nm 4) (.comp (.ix (.var 5) (.var 3)) (.nm 5) (.seq (.var 2)) .none [("draw", 5)]))
  (.cons (.ite (.not (.blt .all (.cons (.comp (.cmp .Eq (.mth .count (.var 4) (.cons (.var 6) .nil)) (.mth .count (.var 4) (.cons (.cst (.int 0)) .nil))) (.nm 6) (.rg1 (.var 0)) .none [("ball", 6)]) .nil)))
  (.cons (.ret (.cst (.bool false)))
  (.nil))
  (.nil))
  (.nil))))
  (.cons (.ret (.cst (.bool true)))
  (.nil))
theorem k_are_fair : chkSs b_are_fair ⟨N_are_fair, defScope (top 2), fun _ => true, fns, gls⟩ (defBody (top 2)) = true := by decide +kernel
theorem sc_are_fair : FnScope N_are_fair A_are_fair (defScope (top 2)) := ⟨rfl, rfl, rfl, by decide +kernel, rfl, by decide +kernel, by decide +kernel⟩
abbrev N_drawn_on : List Str := ["strips", "draw", "accounts", "whole", "width", "worth", "found", "one", "ball"]
abbrev A_drawn_on : List Str := ["strips", "draw", "accounts"]
def b_drawn_on : Sms :=
  .cons (.asg (.nm 3) (.blt .sum (.cons (.comp (.var 5) (.tp [4, 5]) (.seq (.var 0)) .none [("width", 4), ("worth", 5)]) .nil)))
  (.cons (.asg (.nm 6) (.comp (.bin .Sub (.var 7) (.var 3)) (.nm 7) (.seq (.var 2)) .none [("one", 7)]))
  (.cons (.for (.tk 8 [4, 5]) (.zip (.var 1) (.var 0))
  (.cons (.set (.var 6) (.var 8) (.bin .Add (.ix (.var 6) (.var 8)) (.bin .Mult (.blt .len (.cons (.var 2) .nil)) (.var 5))))
  (.nil)))
  (.cons (.ret (.blt .tuple (.cons (.var 6) .nil)))
  (.nil))))
theorem k_drawn_on : chkSs b_drawn_on ⟨N_drawn_on, defScope (top 4), fun _ => true, fns, gls⟩ (defBody (top 4)) = true := by decide +kernel
theorem sc_drawn_on : FnScope N_drawn_on A_drawn_on (defScope (top 4)) := ⟨rfl, rfl, rfl, by decide +kernel, rfl, by decide +kernel, by decide +kernel⟩
abbrev N_law_feed : List Str := ["_law_script"]
abbrev A_law_feed : List Str := ["_law_script"]
def b_law_feed : Sms :=
  .cons (.ret (.dct ["cells", "at", "left", "turn"] (.cons (.blt .list (.cons (.sl (.var 0) .none (.some (.cst (.int 63)))) .nil)) (.cons (.cst (.int 0)) (.cons (.cst (.int 0)) (.cons (.cst (.int 0)) .nil))))))
  (.nil)
theorem k_law_feed : chkSs b_law_feed ⟨N_law_feed, defScope (top 6), fun _ => true, fns, gls⟩ (defBody (top 6)) = true := by decide +kernel
theorem sc_law_feed : FnScope N_law_feed A_law_feed (defScope (top 6)) := ⟨rfl, rfl, rfl, by decide +kernel, rfl, by decide +kernel, by decide +kernel⟩
abbrev N_law_draw : List Str := ["_law_feed_here", "_law_many", "_law_found", "_law_at", "_law_turn", "_law_cells", "_law_cell", "_law_mixed"]
abbrev A_law_draw : List Str := ["_law_feed_here", "_law_many"]
def b_law_draw : Sms :=
  .cons (.set (.var 0) (.cst (.str "turn")) (.bin .Add (.ix (.var 0) (.cst (.str "turn"))) (.cst (.int 1))))
  (.cons (.ite (.cmp .Gt (.ix (.var 0) (.cst (.str "left"))) (.cst (.int 0)))
  (.cons (.asg (.nm 2) (.bin .Mod (.ix (.var 0) (.cst (.str "left"))) (.var 1)))
  (.cons (.set (.var 0) (.cst (.str "left")) (.bin .FloorDiv (.ix (.var 0) (.cst (.str "left"))) (.var 1)))
  (.cons (.ret (.var 2))
  (.nil))))
  (.nil))
  (.cons (.par [3, 4, 5] (.cons (.ix (.var 0) (.cst (.str "at"))) (.cons (.ix (.var 0) (.cst (.str "turn"))) (.cons (.ix (.var 0) (.cst (.str "cells"))) .nil))))
  (.cons (.set (.var 0) (.cst (.str "at")) (.bin .Add (.var 3) (.cst (.int 1))))
  (.cons (.asg (.nm 6) (.ite (.cmp .NotEq (.var 5) (.lst .nil)) (.ix (.var 5) (.bin .Mod (.var 3) (.blt .len (.cons (.var 5) .nil)))) (.cst (.int 103))))
  (.cons (.ite (.and (.cmp .GtE (.var 6) (.bin .Pow (.cst (.int 10)) (.cst (.int 18)))) (.cmp .Lt (.var 3) (.blt .len (.cons (.var 5) .nil))))
  (.cons (.set (.var 0) (.cst (.str "left")) (.bin .FloorDiv (.var 6) (.var 1)))
  (.cons (.ret (.bin .Mod (.var 6) (.var 1)))
  (.nil)))
  (.nil))
  (.cons (.asg (.nm 7) (.bin .Mod (.bin .Pow (.bin .Add (.bin .Add (.bin .Mod (.var 6) (.cst (.int 2147483249))) (.bin .Mult (.bin .Mult (.cst (.int 809)) (.var 4)) (.var 4))) (.cst (.int 71))) (.cst (.int 5))) (.cst (.int 2147483237))))
  (.cons (.ret (.bin .Mod (.bin .FloorDiv (.bin .Mod (.bin .Pow (.bin .Add (.var 7) (.bin .Mult (.cst (.int 65011)) (.var 4))) (.cst (.int 5))) (.cst (.int 2147483179))) (.cst (.int 64))) (.var 1)))
  (.nil))))))))
theorem k_law_draw : chkSs b_law_draw ⟨N_law_draw, defScope (top 7), fun _ => true, fns, gls⟩ (defBody (top 7)) = true := by decide +kernel
theorem sc_law_draw : FnScope N_law_draw A_law_draw (defScope (top 7)) := ⟨rfl, rfl, rfl, by decide +kernel, rfl, by decide +kernel, by decide +kernel⟩
abbrev N_law_drawn_order : List Str := ["_law_feed_here", "_law_some", "_law_rest", "_law_k"]
abbrev A_law_drawn_order : List Str := ["_law_feed_here", "_law_some"]
def b_law_drawn_order : Sms :=
  .cons (.asg (.nm 2) (.blt .list (.cons (.var 1) .nil)))
  (.cons (.ret (.comp (.mth .pop (.var 2) (.cons (.call 4 (.cons (.var 0) (.cons (.blt .len (.cons (.var 2) .nil)) .nil))) .nil)) (.nm 3) (.rg1 (.blt .len (.cons (.var 1) .nil))) .none [("_law_k", 3)]))
  (.nil))
theorem k_law_drawn_order : chkSs b_law_drawn_order ⟨N_law_drawn_order, defScope (top 8), fun _ => true, fns, gls⟩ (defBody (top 8)) = true := by decide +kernel
theorem sc_law_drawn_order : FnScope N_law_drawn_order A_law_drawn_order (defScope (top 8)) := ⟨rfl, rfl, rfl, by decide +kernel, rfl, by decide +kernel, by decide +kernel⟩
abbrev N_law_strips : List Str := ["_law_feed_here", "_law_few", "_law_top", "_law_k"]
abbrev A_law_strips : List Str := ["_law_feed_here", "_law_few"]
def b_law_strips : Sms :=
  .cons (.asg (.nm 2) (.ix (.lst (.cons (.cst (.int 1001)) (.cons (.cst (.int 4)) (.cons (.cst (.int 2)) .nil)))) (.call 4 (.cons (.var 0) (.cons (.cst (.int 3)) .nil)))))
  (.cons (.ret (.blt .tuple (.cons (.comp (.tup (.cons (.bin .Add (.cst (.int 1)) (.call 4 (.cons (.var 0) (.cons (.cst (.int 1000)) .nil)))) (.cons (.call 4 (.cons (.var 0) (.cons (.var 2) .nil))) .nil))) (.nm 3) (.rg1 (.var 1)) .none [("_law_k", 3)]) .nil)))
  (.nil))
theorem k_law_strips : chkSs b_law_strips ⟨N_law_strips, defScope (top 9), fun _ => true, fns, gls⟩ (defBody (top 9)) = true := by decide +kernel
theorem sc_law_strips : FnScope N_law_strips A_law_strips (defScope (top 9)) := ⟨rfl, rfl, rfl, by decide +kernel, rfl, by decide +kernel, by decide +kernel⟩
abbrev N_law_pairs : List Str := ["_law_feed_here", "_law_many", "_law_found", "_law_k", "_law_few", "_law_strips_here"]
abbrev A_law_pairs : List Str := ["_law_feed_here", "_law_many"]
def b_law_pairs : Sms :=
  .cons (.asg (.nm 2) (.lst .nil))
  (.cons (.for (.nm 3) (.rg1 (.call 4 (.cons (.var 0) (.cons (.cst (.int 6)) .nil))))
  (.cons (.asg (.nm 4) (.bin .Add (.cst (.int 1)) (.call 4 (.cons (.var 0) (.cons (.var 1) .nil)))))
  (.cons (.asg (.nm 5) (.call 6 (.cons (.var 0) (.cons (.var 4) .nil))))
  (.cons (.exp (.mth .append (.var 2) (.cons (.tup (.cons (.var 5) (.cons (.blt .tuple (.cons (.sl (.call 5 (.cons (.var 0) (.cons (.lrg1 false (.var 1)) .nil))) .none (.some (.var 4))) .nil)) .nil))) .nil)))
  (.nil)))))
  (.cons (.ret (.blt .tuple (.cons (.var 2) .nil)))
  (.nil)))
theorem k_law_pairs : chkSs b_law_pairs ⟨N_law_pairs, defScope (top 10), fun _ => true, fns, gls⟩ (defBody (top 10)) = true := by decide +kernel
theorem sc_law_pairs : FnScope N_law_pairs A_law_pairs (defScope (top 10)) := ⟨rfl, rfl, rfl, by decide +kernel, rfl, by decide +kernel, by decide +kernel⟩
abbrev N_law_fair : List Str := ["_law_feed_here", "_law_many", "_law_few", "_law_found", "_law_k", "_law_order", "_law_turn", "_law_strip"]
abbrev A_law_fair : List Str := ["_law_feed_here", "_law_many", "_law_few"]
def b_law_fair : Sms :=
  .cons (.asg (.nm 3) (.lst .nil))
  (.cons (.for (.nm 4) (.rg1 (.blt .min2 (.cons (.call 4 (.cons (.var 0) (.cons (.cst (.int 3)) .nil))) (.cons (.bin .FloorDiv (.cst (.int 23)) (.var 1)) .nil))))
  (.cons (.asg (.nm 5) (.call 5 (.cons (.var 0) (.cons (.lrg1 false (.var 1)) .nil))))
  (.cons (.for (.nm 6) (.rg1 (.var 1))
  (.cons (.exp (.mth .append (.var 3) (.cons (.blt .tuple (.cons (.comp (.ix (.var 5) (.bin .Mod (.bin .Add (.var 7) (.var 6)) (.var 1))) (.nm 7) (.rg1 (.var 2)) .none [("_law_strip", 7)]) .nil)) .nil)))
  (.nil)))
  (.nil))))
  (.cons (.ret (.blt .tuple (.cons (.call 5 (.cons (.var 0) (.cons (.var 3) .nil))) .nil)))
  (.nil)))
theorem k_law_fair : chkSs b_law_fair ⟨N_law_fair, defScope (top 11), fun _ => true, fns, gls⟩ (defBody (top 11)) = true := by decide +kernel
theorem sc_law_fair : FnScope N_law_fair A_law_fair (defScope (top 11)) := ⟨rfl, rfl, rfl, by decide +kernel, rfl, by decide +kernel, by decide +kernel⟩
abbrev N_law_otherwise : List Str := ["_law_feed_here", "_law_many", "_law_draws", "_law_way", "_law_at", "_law_to", "_law_row", "_law_a", "_law_b", "_law_kept", "_law_free", "_law_ball"]
abbrev A_law_otherwise : List Str := ["_law_feed_here", "_law_many", "_law_draws"]
def b_law_otherwise : Sms :=
  .cons (.asg (.nm 3) (.call 4 (.cons (.var 0) (.cons (.cst (.int 4)) .nil))))
  (.cons (.ite (.cmp .Eq (.var 2) (.tup .nil))
  (.cons (.ret (.var 2))
  (.nil))
  (.nil))
  (.cons (.par [4, 5] (.cons (.call 4 (.cons (.var 0) (.cons (.blt .len (.cons (.var 2) .nil)) .nil))) (.cons (.call 4 (.cons (.var 0) (.cons (.blt .len (.cons (.var 2) .nil)) .nil))) .nil)))
  (.cons (.ite (.cmp .Eq (.var 3) (.cst (.int 0)))
  (.cons (.ret (.bin .Add (.sl (.var 2) .none (.some (.var 4))) (.sl (.var 2) (.some (.bin .Add (.var 4) (.cst (.int 1)))) .none)))
  (.nil))
  (.nil))
  (.cons (.ite (.cmp .Eq (.var 3) (.cst (.int 1)))
  (.cons (.ret (.bin .Add (.bin .Add (.sl (.var 2) .none (.some (.var 4))) (.tup (.cons (.ix (.var 2) (.var 5)) .nil))) (.sl (.var 2) (.some (.var 4)) .none)))
  (.nil))
  (.nil))
  (.cons (.asg (.nm 6) (.blt .list (.cons (.ix (.var 2) (.var 4)) .nil)))
  (.cons (.par [7, 8] (.cons (.call 4 (.cons (.var 0) (.cons (.blt .len (.cons (.var 6) .nil)) .nil))) (.cons (.call 4 (.cons (.var 0) (.cons (.blt .len (.cons (.var 6) .nil)) .nil))) .nil)))
  (.cons (.ite (.cmp .Eq (.var 3) (.cst (.int 2)))
  (.cons (.asg (.nm 9) (.ix (.var 6) (.var 7)))
  (.cons (.set (.var 6) (.var 7) (.ix (.var 6) (.var 8)))
  (.cons (.set (.var 6) (.var 8) (.var 9))
  (.nil))))
  (.nil))
  (.cons (.asg (.nm 10) (.comp (.var 11) (.nm 11) (.rg1 (.var 1)) (.some (.cmp .NotIn (.var 11) (.var 6))) [("_law_ball", 11)]))
  (.cons (.ite (.and (.cmp .Eq (.var 3) (.cst (.int 3))) (.cmp .NotEq (.var 10) (.lst .nil)))
  (.cons (.set (.var 6) (.var 7) (.ix (.var 10) (.call 4 (.cons (.var 0) (.cons (.blt .len (.cons (.var 10) .nil)) .nil)))))
  (.nil))
  (.nil))
  (.cons (.ret (.bin .Add (.bin .Add (.sl (.var 2) .none (.some (.var 4))) (.tup (.cons (.blt .tuple (.cons (.var 6) .nil)) .nil))) (.sl (.var 2) (.some (.bin .Add (.var 4) (.cst (.int 1)))) .none)))
  (.nil)))))))))))
theorem k_law_otherwise : chkSs b_law_otherwise ⟨N_law_otherwise, defScope (top 12), fun _ => true, fns, gls⟩ (defBody (top 12)) = true := by decide +kernel
theorem sc_law_otherwise : FnScope N_law_otherwise A_law_otherwise (defScope (top 12)) := ⟨rfl, rfl, rfl, by decide +kernel, rfl, by decide +kernel, by decide +kernel⟩
abbrev N_law_counts : List Str := ["_law_many", "_law_strips_here", "_law_draws", "_law_found", "_law_ball", "_law_draw_here", "_law_k"]
abbrev A_law_counts : List Str := ["_law_many", "_law_strips_here", "_law_draws"]
def b_law_counts : Sms :=
  .cons (.asg (.nm 3) (.lst .nil))
  (.cons (.for (.nm 4) (.rg1 (.var 0))
  (.cons (.exp (.mth .append (.var 3) (.cons (.comp (.blt .len (.cons (.comp (.cst (.int 1)) (.nm 5) (.seq (.var 2)) (.some (.cmp .Eq (.ix (.var 5) (.var 6)) (.var 4))) [("_law_draw_here", 5)]) .nil)) (.nm 6) (.rg1 (.blt .len (.cons (.var 1) .nil))) .none [("_law_k", 6)]) .nil)))
  (.nil)))
  (.cons (.ret (.var 3))
  (.nil)))
theorem k_law_counts : chkSs b_law_counts ⟨N_law_counts, defScope (top 13), fun _ => true, fns, gls⟩ (defBody (top 13)) = true := by decide +kernel
theorem sc_law_counts : FnScope N_law_counts A_law_counts (defScope (top 13)) := ⟨rfl, rfl, rfl, by decide +kernel, rfl, by decide +kernel, by decide +kernel⟩
abbrev N_law_dues_right : List Str := ["_law_many", "_law_pairs_here", "_law_ball", "_law_number", "_law_strips_here", "_law_draw_here", "_law_whole", "_law_strip", "_law_mine"]
abbrev A_law_dues_right : List Str := ["_law_many", "_law_pairs_here"]
def b_law_dues_right : Sms :=
  .cons (.for (.nm 2) (.rg1 (.var 0))
  (.cons (.asg (.nm 3) (.cst (.int 0)))
  (.cons (.for (.tp [4, 5]) (.seq (.var 1))
  (.cons (.asg (.nm 6) (.blt .sum (.cons (.comp (.ix (.var 7) (.cst (.int 1))) (.nm 7) (.seq (.var 4)) .none [("_law_strip", 7)]) .nil)))
  (.cons (.asg (.nm 8) (.ite (.cmp .In (.var 2) (.var 5)) (.bin .Mult (.var 0) (.ix (.ix (.var 4) (.mth .index (.var 5) (.cons (.var 2) .nil))) (.cst (.int 1)))) (.cst (.int 0))))
  (.cons (.asg (.nm 3) (.bin .Sub (.bin .Add (.var 3) (.var 8)) (.var 6)))
  (.nil)))))
  (.cons (.ite (.cmp .NotEq (.blt .repr (.cons (.call 0 (.cons (.var 0) (.cons (.var 1) (.cons (.var 2) .nil)))) .nil)) (.blt .repr (.cons (.var 3) .nil)))
  (.cons (.ret (.cst (.bool false)))
  (.nil))
  (.nil))
  (.nil)))))
  (.cons (.ret (.cst (.bool true)))
  (.nil))
theorem k_law_dues_right : chkSs b_law_dues_right ⟨N_law_dues_right, defScope (top 14), fun _ => true, fns, gls⟩ (defBody (top 14)) = true := by decide +kernel
theorem sc_law_dues_right : FnScope N_law_dues_right A_law_dues_right (defScope (top 14)) := ⟨rfl, rfl, rfl, by decide +kernel, rfl, by decide +kernel, by decide +kernel⟩
abbrev N_law : List Str := ["_law_script", "_law_feed_here", "_law_many", "_law_rows", "_law_seen", "_law_pairs_here", "_law_few", "_law_strips_here", "_law_fair_here", "_law_others", "_law_more", "_law_k", "_law_draws", "_law_counts_here", "_law_due", "_law_row", "_law_one", "_law_own", "_law_ball", "_law_accounts", "_law_first", "_law_draw_here"]
abbrev A_law : List Str := ["_law_script"]
def b_law : Sms :=
  .cons (.asg (.nm 1) (.call 3 (.cons (.var 0) .nil)))
  (.cons (.asg (.nm 2) (.bin .Add (.cst (.int 1)) (.call 4 (.cons (.var 1) (.cons (.cst (.int 16)) .nil)))))
  (.cons (.asg (.nm 3) (.lst (.cons (.call 7 (.cons (.var 1) (.cons (.var 2) .nil))) (.cons (.call 7 (.cons (.var 1) (.cons (.var 2) .nil))) .nil))))
  (.cons (.asg (.nm 4) (.blt .repr (.cons (.var 3) .nil)))
  (.cons (.for (.nm 5) (.seq (.bin .Add (.var 3) (.sl (.var 3) .none (.some (.cst (.int 1))))))
  (.cons (.ite (.not (.call 11 (.cons (.var 2) (.cons (.var 5) .nil))))
  (.cons (.ret (.cst (.bool false)))
  (.nil))
  (.nil))
  (.nil)))
  (.cons (.asg (.nm 6) (.bin .Add (.cst (.int 1)) (.call 4 (.cons (.var 1) (.cons (.var 2) .nil)))))
  (.cons (.asg (.nm 7) (.call 6 (.cons (.var 1) (.cons (.var 6) .nil))))
  (.cons (.asg (.nm 8) (.call 8 (.cons (.var 1) (.cons (.var 2) (.cons (.var 6) .nil)))))
  (.cons (.asg (.nm 9) (.lst (.cons (.var 8) (.cons (.call 9 (.cons (.var 1) (.cons (.var 2) (.cons (.var 8) .nil)))) (.cons (.call 9 (.cons (.var 1) (.cons (.var 2) (.cons (.var 8) .nil)))) (.cons (.var 8) .nil))))))
  (.cons (.asg (.nm 10) (.lst .nil))
  (.cons (.for (.nm 11) (.rg1 (.call 4 (.cons (.var 1) (.cons (.cst (.int 5)) .nil))))
  (.cons (.exp (.mth .append (.var 10) (.cons (.blt .tuple (.cons (.sl (.call 5 (.cons (.var 1) (.cons (.lrg1 false (.var 2)) .nil))) .none (.some (.var 6))) .nil)) .nil)))
  (.nil)))
  (.cons (.exp (.mth .append (.var 9) (.cons (.blt .tuple (.cons (.var 10) .nil)) .nil)))
  (.cons (.for (.nm 12) (.seq (.var 9))
  (.cons (.asg (.nm 13) (.call 10 (.cons (.var 2) (.cons (.var 7) (.cons (.var 12) .nil)))))
  (.cons (.asg (.nm 14) (.cmp .Eq (.comp (.var 15) (.nm 15) (.seq (.var 13)) (.some (.cmp .NotEq (.var 15) (.ix (.var 13) (.cst (.int 0))))) [("_law_row", 15)]) (.lst .nil)))
  (.cons (.ite (.cmp .NotEq (.blt .repr (.cons (.call 1 (.cons (.var 2) (.cons (.var 7) (.cons (.var 12) .nil)))) .nil)) (.blt .repr (.cons (.var 14) .nil)))
  (.cons (.ret (.cst (.bool false)))
  (.nil))
  (.nil))
  (.cons (.asg (.nm 5) (.blt .tuple (.cons (.comp (.tup (.cons (.var 7) (.cons (.var 16) .nil))) (.nm 16) (.seq (.var 12)) .none [("_law_one", 16)]) .nil)))
  (.cons (.asg (.nm 17) (.comp (.call 0 (.cons (.var 2) (.cons (.var 5) (.cons (.var 18) .nil)))) (.nm 18) (.rg1 (.var 2)) .none [("_law_ball", 18)]))
  (.cons (.ite (.and (.var 14) (.cmp .NotEq (.var 17) (.bin .Mult (.lst (.cons (.cst (.int 0)) .nil)) (.var 2))))
  (.cons (.ret (.cst (.bool false)))
  (.nil))
  (.nil))
  (.nil))))))))
  (.cons (.asg (.nm 19) (.blt .tuple (.cons (.bin .Add (.lst (.cons (.bin .Sub (.cst (.int 0)) (.bin .Mult (.cst (.int 3)) (.bin .Sub (.var 2) (.cst (.int 1))))) .nil)) (.bin .Mult (.lst (.cons (.cst (.int 3)) .nil)) (.bin .Sub (.var 2) (.cst (.int 1))))) .nil)))
  (.cons (.asg (.nm 20) (.var 19))
  (.cons (.for (.nm 21) (.seq (.var 8))
  (.cons (.asg (.nm 19) (.call 2 (.cons (.var 7) (.cons (.var 21) (.cons (.var 19) .nil)))))
  (.nil)))
  (.cons (.ret (.and (.cmp .Eq (.blt .repr (.cons (.var 19) .nil)) (.blt .repr (.cons (.var 20) .nil))) (.cmp .Eq (.blt .repr (.cons (.var 3) .nil)) (.var 4))))
  (.nil)))))))))))))))))
theorem k_law : chkSs b_law ⟨N_law, defScope (top 15), fun _ => true, fns, gls⟩ (defBody (top 15)) = true := by decide +kernel
theorem sc_law : FnScope N_law A_law (defScope (top 15)) := ⟨rfl, rfl, rfl, by decide +kernel, rfl, by decide +kernel, by decide +kernel⟩
end Dp.K33
namespace Dp.K33
open PySem PySem.Spec L2
open PyProof.Rows hiding St

theorem kDraw (p : Nat → Pm) (G : Nat → W) : Keeps p G 8 2 b_law_draw pDrawD := by
  rintro ws S Kk Ek ⟨f, sc, m, n, rfl, m0, m1, ⟨ns, i, c, t, hF, t0, t1⟩, hn, post⟩
  have m9 : m.natAbs.log2 < 9000 := by have := log2_lt (n := m.natAbs) (b := 64) (by omega) (by decide); omega
  have md : ∀ x : Int, 0 ≤ x % m ∧ x % m < m := fun x => ⟨Int.emod_nonneg _ (by omega), Int.emod_lt_of_pos _ m0⟩
  refine ⟨rfl, ?_⟩
  unfold b_law_draw
  ((conv => whnf); refine step_ ?_; (conv => whnf)); refine hF.turn ?_
  (conv => whnf); refine hF.setTurn ?_
  have hF1 := hF.put i c (t + 1)
  ((conv => whnf); refine step_ ?_; (conv => whnf)); refine hF1.left ?_
  (conv => whnf); refine ite_of (fun h => ?_) fun h => ?_
  · ((conv => whnf); refine step_ ?_; (conv => whnf)); refine hF1.left ?_
    (conv => whnf); refine ⟨m0, ?_⟩
    ((conv => whnf); refine step_ ?_; (conv => whnf)); refine hF1.left ?_
    (conv => whnf); refine ⟨⟨m0, m9⟩, ?_⟩
    (conv => whnf); refine hF1.setLeft ?_
    ((conv => whnf); refine step_ ?_; (conv => whnf))
    exact post _ _ (md _).1 (md _).2 (Kp.put.trans .put) ⟨ns, i, _, _, hF1.put _ _ _, by omega, by omega⟩
  · ((conv => whnf); refine step_ ?_; (conv => whnf)); refine hF1.at_ ?_
    (conv => whnf); refine hF1.turn ?_
    (conv => whnf); refine hF1.cells ?_
    (conv => whnf); refine ⟨rfl, ?_⟩
    ((conv => whnf); refine step_ ?_; (conv => whnf)); refine hF1.setAt ?_
    have hF3 := hF1.put (i + 1) c (t + 1)
    (conv => whnf); refine then_join (fun ρ' S' => ∃ cell : Int, ρ' = [some (.ref f), some (.int m), none, some (.int i), some (.int (t + 1)), some (.ref sc), some (.int cell), none] ∧ DAt S' f sc ns (i + 1) c (t + 1) ∧ Kp S S' f) (fun nx hnx => ?_) ?_
    · (conv => whnf); refine ⟨small rfl, fun p hp => ?_⟩
      have hF4 := hF3.new (ce := .lst []) hp
      have kp4 : Kp S (((S.put f (.dic (fdD sc i c (t + 1)))).put f (.dic (fdD sc (i + 1) c (t + 1)))).put p (.lst [])) f := (Kp.put.trans .put).trans (.new hp)
      (conv => whnf); refine eq_d (.lst (.inl hF4.hs) (dens_ints ns)) (.lst (.inl put_same) .nil) (shaped_ints ns) (by decide) ?_
      (conv => whnf); refine ite_of (fun h => ?_) fun h => ?_
      · have hl : 0 < ns.length := by
          cases ns with
          | nil => exact absurd h (by decide)
          | cons _ _ => exact Nat.succ_pos _
        have hm : (0 : Int) < (List.map W.int ns).length := by rw [List.length_map]; omega
        (conv => whnf); refine len_l hF4.hs ?_
        (conv => whnf); refine ⟨hm, ?_⟩
        have z0 : 0 ≤ i % ((List.map W.int ns).length : Int) := Int.emod_nonneg _ (by omega)
        have z1 := Int.emod_lt_of_pos i hm
        have z2 : (i % ((List.map W.int ns).length : Int)).toNat < ns.length := by rw [List.length_map] at z1 ⊢; omega
        (conv => whnf); refine ix_l hF4.hs (atI_pos (w := .int (ns[(i % ((List.map W.int ns).length : Int)).toNat]'z2)) z0 (by rw [List.getElem?_map, List.getElem?_eq_getElem z2]; rfl)) ?_
        (conv => whnf); exact hnx _ _ ⟨_, rfl, hF4, kp4⟩
      · (conv => whnf); exact hnx _ _ ⟨103, rfl, hF4, kp4⟩
    · rintro ρ' S2 ⟨cell, rfl, hF3, kp2⟩
      (conv => whnf); refine then_join (fun ρ' S' => ρ' = [some (.ref f), some (.int m), none, some (.int i), some (.int (t + 1)), some (.ref sc), some (.int cell), none] ∧ S' = S2) (fun nx hnx => ?_) ?_
      · (conv => whnf); refine ⟨by decide, ?_⟩
        (conv => whnf); refine ite_of (fun h => ?_) fun h => ?_
        · (conv => whnf); refine len_l hF3.hs ?_
          (conv => whnf); refine ite_of (fun h => ?_) fun h => ?_
          · ((conv => whnf); refine step_ ?_; (conv => whnf)); refine ⟨⟨m0, m9⟩, ?_⟩
            (conv => whnf); refine hF3.setLeft ?_
            ((conv => whnf); refine step_ ?_; (conv => whnf)); refine ⟨m0, ?_⟩
            (conv => whnf); exact post _ _ (md _).1 (md _).2 (kp2.trans .put) ⟨ns, _, _, _, hF3.put _ _ _, by omega, by omega⟩
          · (conv => whnf); exact hnx _ _ ⟨rfl, rfl⟩
        · (conv => whnf); exact hnx _ _ ⟨rfl, rfl⟩
      · rintro ρ' S' ⟨rfl, rfl⟩
        have b1 : ∀ x : Int, 0 ≤ x % 2147483249 ∧ x % 2147483249 < 2147483249 := fun x => ⟨Int.emod_nonneg x (by decide), Int.emod_lt_of_pos x (by decide)⟩
        have b2 : ∀ x : Int, 0 ≤ x % 2147483237 ∧ x % 2147483237 < 2147483237 := fun x => ⟨Int.emod_nonneg x (by decide), Int.emod_lt_of_pos x (by decide)⟩
        have bt : (t + 1).natAbs < 2 ^ 31 := by omega
        have bq : 0 ≤ (t + 1) * (t + 1) ∧ (t + 1) * (t + 1) ≤ 1000001 * 1000001 := ⟨Int.mul_nonneg (by omega) (by omega), Int.mul_le_mul (by omega) (by omega) (by omega) (by decide)⟩
        ((conv => whnf); refine step_ ?_; (conv => whnf)); refine ⟨by decide, ?_⟩
        (conv => whnf); refine mul_i 30 30 (by decide) bt (by decide) ?_
        (conv => whnf); refine mul_i 100 30 (by omega) bt (by decide) ?_
        have e1 := b1 cell
        have e2 : 809 * (t + 1) * (t + 1) = 809 * ((t + 1) * (t + 1)) := Int.mul_assoc ..
        (conv => whnf); refine ⟨⟨by decide, by decide, by rw [e2]; omega⟩, ?_⟩
        (conv => whnf); refine ⟨by decide, ?_⟩
        have e3 := b2 ((cell % 2147483249 + 809 * (t + 1) * (t + 1) + 71) ^ Int.toNat 5)
        ((conv => whnf); refine step_ ?_; (conv => whnf)); refine mul_i 30 30 (by decide) bt (by decide) ?_
        (conv => whnf); refine ⟨⟨by decide, by decide, by omega⟩, ?_⟩
        (conv => whnf); refine ⟨by decide, ?_⟩
        (conv => whnf); refine ⟨by decide, ?_⟩
        (conv => whnf); refine ⟨m0, ?_⟩
        (conv => whnf); exact post _ _ (md _).1 (md _).2 kp2 ⟨ns, _, _, _, hF3, by omega, by omega⟩
theorem kFeed (p : Nat → Pm) (G : Nat → W) : Keeps p G 1 1 b_law_feed pFeedD := by
  rintro ws S Kk Ek ⟨z, ns, rfl, hz, hl, post⟩
  refine ⟨rfl, ?_⟩
  unfold b_law_feed
  ((conv => whnf); refine step_ ?_; (conv => whnf)); intro f hf
  have fin : ∀ (p : Addr) (S1 : Sto), S1 f = some (.dic []) → S1 p = none → ∀ xs, xs = cutW (ns.map W.int) none (some 63) → ∀ S2, S2 = S1.put p (.lst xs) → ∀ q : Addr, S2 q = none → ∀ S3, S3 = S2.put q (.lst xs) → S3 f = some (.dic []) ∧ Kk (.ref f) (S3.put f (.dic (fdD q 0 0 0))) := by
    rintro p S1 h1 hp xs rfl S2 rfl q hq S3 rfl
    have c2 : (S1.put p (.lst (cutW (ns.map W.int) none (some 63)))) f = some (.dic []) := by rw [put_ne (new_ne hp h1)]; exact h1
    have ne : f ≠ q := new_ne hq c2
    refine ⟨by rw [put_ne ne]; exact c2, ?_⟩
    exact post _ q _ ⟨_, 0, 0, 0, ⟨Ne.symm ne, put_same, by rw [put_ne (Ne.symm ne), put_same, cut_map]⟩, by omega, by omega⟩
  rcases hz with ⟨b, rfl, hb⟩ | rfl
  · have nb : b ≠ f := new_ne hf hb
    (conv => whnf); refine sl_l (.inr (by rw [put_ne nb]; exact hb)) fun p hp => ?_
    (conv => whnf); refine ⟨_, .inl put_same, fun q hq => ?_⟩
    (conv => whnf); exact ⟨rfl, fin p _ put_same hp _ rfl _ rfl q hq _ rfl⟩
  · (conv => whnf); refine sl_k fun p hp => ?_
    (conv => whnf); refine ⟨_, .inl put_same, fun q hq => ?_⟩
    (conv => whnf); exact ⟨rfl, fin p _ put_same hp _ rfl _ rfl q hq _ rfl⟩
end Dp.K33
namespace Dp.K33
open PySem PySem.Spec L2
open PyProof.Rows hiding St

structure AccOk (xs : List Int) : Prop where
  one : 0 < xs.length
  few : xs.length ≤ 16
  nul : xs.sum = 0
  low : ∀ x ∈ xs, x.natAbs < 2 ^ 31
def glob : Nat → W := fun _ => .non
structure DrwOk (m : Int) (ss : List (Int × Int)) (ds : List Int) : Prop where
  len : ss.length = ds.length
  few : ds.length ≤ 16
  lo : ∀ s ∈ ss, 0 ≤ s.1 ∧ s.1 ≤ 1000 ∧ 0 ≤ s.2 ∧ s.2 ≤ 1000
  ball : ∀ d ∈ ds, 0 ≤ d ∧ d < m
theorem mem_erase {α : Type} {xs : List α} {i : Nat} {x : α} (h : x ∈ xs.eraseIdx i) : x ∈ xs := (List.eraseIdx_sublist xs i).subset h
theorem rg_ints (n : Nat) : rgList 0 1 n = List.map W.int ((List.range n).map fun (i : Nat) => (i : Int)) := by
  unfold rgList
  rw [List.map_map]
  refine List.map_congr_left fun i _ => ?_
  show W.int (0 + (i : Nat) * 1) = W.int (i : Int)
  rw [Int.zero_add, Int.mul_one]
/-! ### accounts behind a draw -/
/-- the worth that comes to a ball -/
def getsL (n : Int) (L : List (Int × Int)) (j : Int) : Int := (L.map fun p => if p.1 = j then n * p.2 else 0).sum
def addL (n : Int) (xs : List Int) : List (Int × Int) → List Int
  | [] => xs
  | p :: L => addL n (xs.set p.1.toNat (xs.getD p.1.toNat 0 + n * p.2)) L
theorem addL_len (n : Int) : ∀ (L : List (Int × Int)) (xs : List Int), (addL n xs L).length = xs.length
  | [], _ => rfl
  | p :: L, xs => by show (addL n _ L).length = _; rw [addL_len n L, List.length_set]
theorem addL_snoc (n : Int) : ∀ (L : List (Int × Int)) (xs : List Int) (p : Int × Int), addL n xs (L ++ [p]) = (addL n xs L).set p.1.toNat ((addL n xs L).getD p.1.toNat 0 + n * p.2)
  | [], _, _ => rfl
  | a :: L, xs, p => addL_snoc n L _ p
theorem addL_at (n : Int) : ∀ (L : List (Int × Int)) (xs : List Int) (j : Nat), j < xs.length → (∀ p ∈ L, 0 ≤ p.1) → (addL n xs L).getD j 0 = xs.getD j 0 + getsL n L j
  | [], xs, j, _, _ => by simp [addL, getsL]
  | p :: L, xs, j, hj, h0 => by
    have hp := h0 p (List.mem_cons_self ..)
    show (addL n _ L).getD j 0 = _
    rw [addL_at n L _ j (by rw [List.length_set]; exact hj) fun x hx => h0 x (List.mem_cons_of_mem _ hx)]
    show _ = xs.getD j 0 + ((List.map (fun p => if p.1 = (j : Int) then n * p.2 else 0) (p :: L)).sum)
    rw [List.map_cons, List.sum_cons]
    by_cases e : p.1 = (j : Int)
    · have e2 : p.1.toNat = j := by omega
      rw [e2, List.getD_eq_getElem?_getD, List.getElem?_set_self hj, if_pos e]
      show xs.getD j 0 + n * p.2 + getsL n L j = xs.getD j 0 + (n * p.2 + getsL n L j)
      omega
    · have e2 : p.1.toNat ≠ j := by omega
      rw [List.getD_eq_getElem?_getD, List.getElem?_set_ne e2, if_neg e, ← List.getD_eq_getElem?_getD]
      show xs.getD j 0 + getsL n L j = xs.getD j 0 + (0 + getsL n L j)
      omega
theorem addL_sum (n : Int) : ∀ (L : List (Int × Int)) (xs : List Int), (∀ p ∈ L, 0 ≤ p.1 ∧ p.1 < xs.length) → (addL n xs L).sum = xs.sum + n * (L.map (·.2)).sum
  | [], xs, _ => by simp [addL]
  | p :: L, xs, h => by
    have hp := h p (List.mem_cons_self ..)
    have hl : p.1.toNat < xs.length := by omega
    show (addL n _ L).sum = _
    rw [addL_sum n L _ fun x hx => by rw [List.length_set]; exact h x (List.mem_cons_of_mem _ hx), sum_set xs _ _ (xs.getD p.1.toNat 0) (get_some hl), List.map_cons, List.sum_cons, Int.mul_add]
    omega
/-- what the law reckons for a ball -/
def dueAt (n : Int) (L : List (Int × Int)) (x : Int) (j : Int) : Int := x + (L.map fun p => ((if p.1 = j then n else 0) - 1) * p.2).sum
theorem due_eq (n : Int) (x j : Int) : ∀ L : List (Int × Int), dueAt n L x j = x - (L.map (·.2)).sum + getsL n L j
  | [] => by simp [dueAt, getsL]
  | p :: L => by
    have ih := due_eq n x j L
    unfold dueAt getsL at *
    simp only [List.map_cons, List.sum_cons]
    by_cases e : p.1 = j
    · rw [if_pos e, if_pos e, Int.sub_mul, Int.one_mul]; omega
    · rw [if_neg e, if_neg e, Int.sub_mul, Int.one_mul, Int.zero_mul]; omega
def prsL (ss : List (Int × Int)) (ds : List Int) : List (Int × Int) := ds.zip (ss.map (·.2))
def drawnL (ss : List (Int × Int)) (ds acc : List Int) : List Int := (List.range acc.length).map fun j => dueAt acc.length (prsL ss ds) (acc.getD j 0) (j : Int)
theorem prs_len {m : Int} {ss : List (Int × Int)} {ds : List Int} (ok : DrwOk m ss ds) : (prsL ss ds).length = ds.length := by unfold prsL; rw [List.length_zip, List.length_map, ok.len, Nat.min_self]
theorem prs_at {ss : List (Int × Int)} {ds : List Int} {i : Nat} (h : i < ds.length) (h' : i < ss.length) : (prsL ss ds)[i]? = some (ds.getD i 0, (ss.getD i (0, 0)).2) := by
  unfold prsL
  rw [List.getElem?_zip_eq_some]
  exact ⟨get_some h, by rw [List.getElem?_map, get_some (d := (0, 0)) h']; rfl⟩
theorem prs_ball {m : Int} {ss : List (Int × Int)} {ds : List Int} (ok : DrwOk m ss ds) : ∀ p ∈ prsL ss ds, 0 ≤ p.1 ∧ p.1 < m ∧ 0 ≤ p.2 ∧ p.2 ≤ 1000 := fun p hp => by
  have hp : (p.1, p.2) ∈ ds.zip (ss.map (·.2)) := hp
  have h1 := List.of_mem_zip hp
  have := ok.ball _ h1.1
  obtain ⟨s, hs, e⟩ := List.mem_map.mp h1.2
  have h2 := ok.lo s hs
  rw [e] at h2
  omega
theorem prs_snd {m : Int} {ss : List (Int × Int)} {ds : List Int} (ok : DrwOk m ss ds) : (prsL ss ds).map (·.2) = ss.map (·.2) := by
  unfold prsL
  rw [List.map_snd_zip (by rw [List.length_map, ok.len]; exact Nat.le_refl _)]
theorem drawn_eq {ss : List (Int × Int)} {ds acc : List Int} (ok : DrwOk acc.length ss ds) : addL acc.length (acc.map fun x => x - (ss.map (·.2)).sum) (prsL ss ds) = drawnL ss ds acc := by
  apply List.ext_getElem
  · rw [addL_len, List.length_map]; simp [drawnL]
  · intro j h1 h2
    have hj : j < acc.length := by rw [addL_len, List.length_map] at h1; exact h1
    have e1 : (addL acc.length (acc.map fun x => x - (ss.map (·.2)).sum) (prsL ss ds))[j] = (addL acc.length (acc.map fun x => x - (ss.map (·.2)).sum) (prsL ss ds)).getD j 0 := by
      rw [List.getD_eq_getElem?_getD, List.getElem?_eq_getElem h1]; rfl
    rw [e1, addL_at _ _ _ _ (by rw [List.length_map]; exact hj) fun p hp => (prs_ball ok p hp).1, mapD (d := 0) hj]
    have e2 : (drawnL ss ds acc)[j]'h2 = dueAt acc.length (prsL ss ds) (acc.getD j 0) (j : Int) := by simp [drawnL]
    rw [e2, due_eq, prs_snd ok]
theorem sum_minus (c : Int) : ∀ xs : List Int, (xs.map fun x => x - c).sum = xs.sum - xs.length * c
  | [] => by simp
  | x :: xs => by
    rw [List.map_cons, List.sum_cons, List.sum_cons, List.length_cons, sum_minus c xs]
    push_cast
    rw [Int.add_mul, Int.one_mul]; omega
theorem drawn_sum {ss : List (Int × Int)} {ds acc : List Int} (ok : DrwOk acc.length ss ds) (h : acc.sum = 0) : (drawnL ss ds acc).sum = 0 := by
  rw [← drawn_eq ok, addL_sum _ _ _ fun p hp => by have := prs_ball ok p hp; rw [List.length_map]; omega, sum_minus, prs_snd ok, h]
  omega
theorem worth_b {m : Int} {ss : List (Int × Int)} {ds : List Int} (ok : DrwOk m ss ds) : 0 ≤ (ss.map (·.2)).sum ∧ (ss.map (·.2)).sum ≤ 16000 := by
  have key : ∀ ss : List (Int × Int), (∀ s ∈ ss, 0 ≤ s.2 ∧ s.2 ≤ 1000) → 0 ≤ (ss.map (·.2)).sum ∧ (ss.map (·.2)).sum ≤ 1000 * ss.length := by
    intro ss
    induction ss with
    | nil => intro _; simp
    | cons s ss ih =>
      intro h
      have h1 := h s (List.mem_cons_self ..)
      have h2 := ih fun x hx => h x (List.mem_cons_of_mem _ hx)
      rw [List.map_cons, List.sum_cons, List.length_cons]
      push_cast; omega
  have := key ss fun s hs => (ok.lo s hs).2.2
  have h1 := ok.len
  have h2 := ok.few
  omega
theorem gets_b {n j : Int} (hn : 0 ≤ n) (hn2 : n ≤ 16) : ∀ L : List (Int × Int), (∀ p ∈ L, 0 ≤ p.2 ∧ p.2 ≤ 1000) → 0 ≤ getsL n L j ∧ getsL n L j ≤ 16000 * L.length
  | [], _ => by simp [getsL]
  | p :: L, h => by
    have h1 := h p (List.mem_cons_self ..)
    have h2 := gets_b (j := j) hn hn2 L fun x hx => h x (List.mem_cons_of_mem _ hx)
    have h3 : 0 ≤ n * p.2 := Int.mul_nonneg hn h1.1
    have h4 : n * p.2 ≤ 16 * 1000 := Int.mul_le_mul hn2 h1.2 h1.1 (by decide)
    unfold getsL at *
    rw [List.map_cons, List.sum_cons, List.length_cons]
    push_cast
    split <;> omega
theorem drawn_b {ss : List (Int × Int)} {ds acc : List Int} (ok : DrwOk acc.length ss ds) (oa : AccOk acc) : ∀ x ∈ drawnL ss ds acc, x.natAbs < 2 ^ 40 := fun x hx => by
  unfold drawnL at hx
  obtain ⟨j, hj, rfl⟩ := List.mem_map.mp hx
  have hj := List.mem_range.mp hj
  have h1 := oa.low _ (getD_mem (d := 0) hj)
  have h2 := worth_b ok
  have few := oa.few
  have h3 := gets_b (n := acc.length) (j := (j : Int)) (by omega) (by omega) (prsL ss ds) fun p hp => (prs_ball ok p hp).2.2
  rw [prs_len ok] at h3
  have h4 := ok.few
  rw [due_eq, prs_snd ok]
  omega
def pDrawn : Pm := fun ws S Kk Ek => ∃ ss ds acc, ws = [.tup (ss.map pairW), .tup (List.map W.int ds), .tup (List.map W.int acc)] ∧ AccOk acc ∧ DrwOk acc.length ss ds ∧ ∀ S', (∀ g, Kp S S' g) → Kk (.tup (List.map W.int (drawnL ss ds acc))) S'
theorem pairs_at {ss : List (Int × Int)} {i : Nat} {x : W} (h : (ss.map pairW)[i]? = some x) : i < ss.length ∧ x = .tup [.int (ss.getD i (0, 0)).1, .int (ss.getD i (0, 0)).2] := by
  rw [List.getElem?_map] at h
  cases e : ss[i]? with
  | none => rw [e] at h; cases h
  | some v =>
    rw [e] at h
    refine ⟨(List.getElem?_eq_some_iff.mp e).1, ?_⟩
    rw [List.getD_eq_getElem?_getD, e]
    exact (Option.some.inj h).symm
theorem kDrawnOn (p : Nat → Pm) : Keeps p glob 9 3 b_drawn_on pDrawn := by
  rintro ws S Kk Ek ⟨ss, ds, acc, rfl, oa, ok, k⟩
  refine ⟨rfl, ?_⟩
  unfold b_drawn_on
  have few := ok.few
  have len := ok.len
  have few2 := oa.few
  have lw : (List.map W.int acc).length = acc.length := List.length_map ..
  ((conv => whnf); refine step_ ?_; (conv => whnf)); refine comp_idx (ss.map pairW) (fun i => .int (ss.getD i (0, 0)).2) (big (by rw [List.length_map]; omega)) (fun _ _ => trivial) (fun i x S' Kt hx kp kt => ?_) fun S1 kp1 p1 h1 => ?_
  · obtain ⟨hi, rfl⟩ := pairs_at hx
    (conv => whnf); exact ⟨rfl, kt _ kp⟩
  have e1 : (List.range (ss.map pairW).length).map (fun i => W.int (ss.getD i (0, 0)).2) = List.map W.int (ss.map (·.2)) := by
    rw [List.length_map, List.map_map]; exact range_map (0, 0) (fun s : Int × Int => W.int s.2) ss
  rw [e1]
  (conv => whnf); refine ⟨_, .inl put_same, ?_⟩
  have kp2 : ∀ g, Kp S (S1.put p1 (.lst (List.map W.int (ss.map (·.2))))) g := fun g => (kp1 g).trans (.new h1)
  generalize S1.put p1 (.lst (List.map W.int (ss.map (·.2)))) = S2 at kp2 ⊢
  (conv => whnf); refine step_ ?_
  (conv => whnf); refine comp_idx (List.map W.int acc) (fun i => .int (acc.getD i 0 - (ss.map (·.2)).sum)) (big (by omega)) (fun _ _ => trivial) (fun i x S' Kt hx kp kt => ?_) fun S3 kp3 q hq => ?_
  · obtain ⟨hi, rfl⟩ := ints_at hx
    (conv => whnf); exact kt _ kp
  have e2 : (List.range (List.map W.int acc).length).map (fun i => W.int (acc.getD i 0 - (ss.map (·.2)).sum)) = List.map W.int (acc.map fun x => x - (ss.map (·.2)).sum) := by
    rw [lw, List.map_map]; exact range_map 0 (fun x => W.int (x - (ss.map (·.2)).sum)) acc
  rw [e2]
  have Sq : S q = none := kps_none (fun g => (kp2 g).trans (kp3 g)) hq
  have kp4 : ∀ g, Kp S (S3.put q (.lst (List.map W.int (acc.map fun x => x - (ss.map (·.2)).sum)))) g := fun g => ((kp2 g).trans (kp3 g)).trans (.new hq)
  have lz : (zipW (List.map W.int ds) (ss.map pairW)).length = ds.length := by rw [zipW_len, List.length_map, List.length_map, len, Nat.min_self]
  (conv => whnf); refine step_ ?_
  (conv => whnf); refine ⟨List.map W.int ds, ss.map pairW, .tup, .tup, ?_⟩
  refine for_inv (fun i ρ' S' => ∃ o4 o5 o7 o8, ρ' = [some (.tup (ss.map pairW)), some (.tup (List.map W.int ds)), some (.tup (List.map W.int acc)), some (.int (ss.map (·.2)).sum), o4, o5, some (.ref q), o7, o8] ∧ S' q = some (.lst (List.map W.int (addL acc.length (acc.map fun x => x - (ss.map (·.2)).sum) ((prsL ss ds).take i)))) ∧ ∀ g, Kp S S' g) _ ?_ (fun _ _ _ _ => ⟨.tup, .tup⟩) ?_ ?_
  · exact ⟨_, _, _, _, rfl, put_same, kp4⟩
  · rintro i y ρ' S5 nx hy ⟨o4, o5, o7, o8, rfl, q1, kp5⟩ hnx
    obtain ⟨w, u, hw, hu, rfl⟩ := zipW_get (show (zipW (List.map W.int ds) (ss.map pairW))[i]? = some y from hy)
    obtain ⟨hi, rfl⟩ := ints_at hw
    obtain ⟨hi2, rfl⟩ := pairs_at hu
    have hb := ok.ball _ (getD_mem (d := 0) hi)
    have hl := ok.lo _ (getD_mem (d := (0, 0)) hi2)
    have ll : (addL acc.length (acc.map fun x => x - (ss.map (·.2)).sum) ((prsL ss ds).take i)).length = acc.length := by rw [addL_len, List.length_map]
    (conv => whnf); refine ⟨rfl, ?_⟩
    (conv => whnf); refine step_ ?_
    (conv => whnf); refine ix_l q1 (int_at hb.1 (by rw [ll]; exact hb.2)) ?_
    (conv => whnf); refine len_t ?_
    rw [lw]
    (conv => whnf); refine mul_i 10 10 (by omega) (by omega) (by decide) ?_
    (conv => whnf); refine set_l q1 (ixN_pos hb.1 (by rw [List.length_map, ll]; exact hb.2)) ?_
    (conv => whnf); refine hnx _ _ ⟨_, _, _, _, rfl, ?_, fun g => (kp5 g).putNew Sq⟩
    rw [put_same, List.take_add_one, prs_at hi hi2]
    show some (Ce.lst _) = some (Ce.lst (List.map W.int (addL _ _ (_ ++ [_]))))
    rw [addL_snoc, List.map_set]
  · rintro ρ' S5 ⟨o4, o5, o7, o8, rfl, q1, kp5⟩
    have el : (prsL ss ds).take (zipW (List.map W.int ds) (ss.map pairW)).length = prsL ss ds := by rw [lz, ← prs_len ok, List.take_length]
    have q1 : S5 q = some (.lst (List.map W.int (drawnL ss ds acc))) := by
      rw [← drawn_eq ok, ← el]; exact q1
    ((conv => whnf); refine step_ ?_; (conv => whnf)); refine ⟨_, .inl q1, ?_⟩
    exact k _ kp5
end Dp.K33
namespace Dp.K33
open PySem PySem.Spec L2
open PyProof.Rows hiding St

abbrev Drw := List (Int × Int) × List Int
def pW (p : Drw) : W := .tup [.tup (p.1.map pairW), .tup (List.map W.int p.2)]
def dueOne (n : Int) (p : Drw) (b : Int) : Int := getsL n (prsL p.1 p.2) b - (p.1.map (·.2)).sum
def duesOf (n : Int) (pp : List Drw) (b : Int) : Int := (pp.map fun p => dueOne n p b).sum
theorem dues_snoc (n : Int) (pp : List Drw) (p : Drw) (b : Int) : duesOf n (pp ++ [p]) b = duesOf n pp b + dueOne n p b := by
  unfold duesOf
  rw [List.map_append, List.sum_append, List.map_cons, List.map_nil, List.sum_cons, List.sum_nil, Int.add_zero]
theorem gets_snoc (n : Int) (L : List (Int × Int)) (p : Int × Int) (b : Int) : getsL n (L ++ [p]) b = getsL n L b + (if p.1 = b then n * p.2 else 0) := by
  unfold getsL
  rw [List.map_append, List.sum_append, List.map_cons, List.map_nil, List.sum_cons, List.sum_nil, Int.add_zero]
def pDues : Pm := fun ws S Kk Ek => ∃ n pp b, ws = [.int n, .tup (pp.map pW), .int b] ∧ 0 ≤ n ∧ n ≤ 16 ∧ pp.length ≤ 100 ∧ (∀ p ∈ pp, DrwOk n p.1 p.2) ∧ ∀ S', (∀ g, Kp S S' g) → Kk (.int (duesOf n pp b)) S'
theorem drws_at {pp : List Drw} {i : Nat} {x : W} (h : (pp.map pW)[i]? = some x) : ∃ p, pp[i]? = some p ∧ x = pW p := by
  rw [List.getElem?_map] at h
  cases e : pp[i]? with
  | none => rw [e] at h; cases h
  | some v => rw [e] at h; exact ⟨v, rfl, (Option.some.inj h).symm⟩
theorem worth_map (ss : List (Int × Int)) : (List.range (ss.map pairW).length).map (fun i => W.int (ss.getD i (0, 0)).2) = List.map W.int (ss.map (·.2)) := by
  rw [List.length_map, List.map_map]; exact range_map (0, 0) (fun s : Int × Int => W.int s.2) ss
theorem kDues (p : Nat → Pm) : Keeps p glob 9 3 b_dues pDues := by
  rintro ws S Kk Ek ⟨n, pp, b, rfl, n0, n1, lp, hp, k⟩
  refine ⟨rfl, ?_⟩
  unfold b_dues
  ((conv => whnf); refine step_ ?_; (conv => whnf)); (conv => whnf); refine step_ ?_
  (conv => whnf); refine for_inv (fun i ρ' S' => ∃ o4 o5 o6 o7 o8, ρ' = [some (.int n), some (.tup (pp.map pW)), some (.int b), some (.int (duesOf n (pp.take i) b)), o4, o5, o6, o7, o8] ∧ ∀ g, Kp S S' g) (pp.map pW) ⟨_, _, _, _, _, rfl, fun g => .refl⟩ (fun _ _ _ _ => trivial) ?_ ?_
  · rintro i y ρ' S1 nx hy ⟨o4, o5, o6, o7, o8, rfl, kp1⟩ hnx
    obtain ⟨⟨ss, ds⟩, hi, rfl⟩ := drws_at hy
    have ok : DrwOk n ss ds := hp _ (List.mem_of_getElem? hi)
    have few := ok.few
    have len := ok.len
    (conv => whnf); refine ⟨rfl, ?_⟩
    (conv => whnf); refine step_ ?_
    (conv => whnf); refine comp_idx (ss.map pairW) (fun i => .int (ss.getD i (0, 0)).2) (big (by rw [List.length_map]; omega)) (fun _ _ => trivial) (fun i x S' Kt hx kp kt => ?_) fun S2 kp2 p1 h1 => ?_
    · obtain ⟨hi, rfl⟩ := pairs_at hx
      (conv => whnf); exact ⟨rfl, kt _ kp⟩
    rw [worth_map]
    (conv => whnf); refine ⟨_, .inl put_same, ?_⟩
    have kp3 : ∀ g, Kp S (S2.put p1 (.lst (List.map W.int (ss.map (·.2))))) g := fun g => ((kp1 g).trans (kp2 g)).trans (.new h1)
    generalize S2.put p1 (.lst (List.map W.int (ss.map (·.2)))) = S3 at kp3 ⊢
    have lz : (zipW (List.map W.int ds) (ss.map pairW)).length = ds.length := by rw [zipW_len, List.length_map, List.length_map, len, Nat.min_self]
    (conv => whnf); refine step_ ?_
    (conv => whnf); refine ⟨List.map W.int ds, ss.map pairW, .tup, .tup, ?_⟩
    refine for_inv (fun k ρ' S' => ∃ o6 o7 o8, ρ' = [some (.int n), some (.tup (pp.map pW)), some (.int b), some (.int (duesOf n (pp.take i) b - (ss.map (·.2)).sum + getsL n ((prsL ss ds).take k) b)), some (.tup (ss.map pairW)), some (.tup (List.map W.int ds)), o6, o7, o8] ∧ ∀ g, Kp S S' g) _ ?_ (fun _ _ _ _ => ⟨.tup, .tup⟩) ?_ ?_
    · refine ⟨o6, o7, o8, ?_, kp3⟩
      have e0 : getsL n ((prsL ss ds).take 0) b = 0 := rfl
      rw [e0, Int.add_zero]; rfl
    · rintro k y ρ' S4 nx2 hy2 ⟨o6, o7, o8, rfl, kp4⟩ hnx2
      obtain ⟨w, u, hw, hu, rfl⟩ := zipW_get (show (zipW (List.map W.int ds) (ss.map pairW))[k]? = some y from hy2)
      obtain ⟨hk, rfl⟩ := ints_at hw
      obtain ⟨hk2, rfl⟩ := pairs_at hu
      have hl := ok.lo _ (getD_mem (d := (0, 0)) hk2)
      have e1 : getsL n ((prsL ss ds).take (k + 1)) b = getsL n ((prsL ss ds).take k) b + (if ds.getD k 0 = b then n * (ss.getD k (0, 0)).2 else 0) := by
        rw [List.take_add_one, prs_at hk hk2]; exact gets_snoc _ _ _ _
      (conv => whnf); refine ⟨rfl, ?_⟩
      (conv => whnf); refine step_ ?_
      (conv => whnf); refine eq_f rfl rfl ?_
      (conv => whnf); refine ite_of (fun h => ?_) fun h => ?_
      · have h : ds.getD k 0 = b := eq_of_beq h
        ((conv => whnf); refine step_ ?_; (conv => whnf)); refine mul_i 10 10 (by omega) (by omega) (by decide) ?_
        (conv => whnf); refine hnx2 _ _ ⟨some (.int (ss.getD k (0, 0)).1), some (.int (ss.getD k (0, 0)).2), some (.int (ds.getD k 0)), ?_, kp4⟩
        rw [e1, if_pos h, ← Int.add_assoc]; rfl
      · have h : ¬ ds.getD k 0 = b := fun e => by
          have h : (ds.getD k 0 == b) = false := h
          rw [e] at h; simp at h
        (conv => whnf); refine hnx2 _ _ ⟨some (.int (ss.getD k (0, 0)).1), some (.int (ss.getD k (0, 0)).2), some (.int (ds.getD k 0)), ?_, kp4⟩
        rw [e1, if_neg h, Int.add_zero]; rfl
    · rintro ρ' S4 ⟨o6, o7, o8, rfl, kp4⟩
      have el : (prsL ss ds).take (zipW (List.map W.int ds) (ss.map pairW)).length = prsL ss ds := by rw [lz, ← prs_len ok, List.take_length]
      refine hnx _ _ ⟨some (.tup (ss.map pairW)), some (.tup (List.map W.int ds)), o6, o7, o8, ?_, kp4⟩
      rw [List.take_add_one, hi]
      show _ = [_, _, _, some (W.int (duesOf n (pp.take i ++ [(ss, ds)]) b)), _, _, _, _, _]
      rw [dues_snoc, show dueOne n (ss, ds) b = getsL n (prsL ss ds) b - (ss.map (·.2)).sum from rfl]
      show [_, _, _, some (W.int (duesOf n (pp.take i) b - (ss.map (·.2)).sum + getsL n ((prsL ss ds).take (zipW (List.map W.int ds) (ss.map pairW)).length) b)), _, _, _, _, _] = _
      rw [el]
      congr 5
      congr 1
      omega
  · rintro ρ' S1 ⟨o4, o5, o6, o7, o8, rfl, kp1⟩
    have el : pp.take (pp.map pW).length = pp := by rw [List.length_map, List.take_length]
    rw [el]
    ((conv => whnf); refine step_ ?_; (conv => whnf)); exact k _ kp1
/-! ### rows of draws -/
def rowsW (rows : List (List Int)) : List W := rows.map fun row => .tup (List.map W.int row)
theorem rows_at {rows : List (List Int)} {i : Nat} {x : W} (h : (rowsW rows)[i]? = some x) : i < rows.length ∧ x = .tup (List.map W.int (rows.getD i [])) := by
  unfold rowsW at h
  rw [List.getElem?_map] at h
  cases e : rows[i]? with
  | none => rw [e] at h; cases h
  | some v =>
    rw [e] at h
    refine ⟨(List.getElem?_eq_some_iff.mp e).1, ?_⟩
    rw [List.getD_eq_getElem?_getD, e]
    exact (Option.some.inj h).symm
structure RowsOk (n : Int) (few : Nat) (rows : List (List Int)) : Prop where
  n1 : 1 ≤ n
  n2 : n ≤ 16
  few2 : few ≤ 16
  many : rows.length ≤ 60
  len : ∀ row ∈ rows, row.length = few
  ball : ∀ row ∈ rows, ∀ d ∈ row, 0 ≤ d ∧ d < n
def colL (rows : List (List Int)) (k : Nat) : List Int := rows.map fun row => row.getD k 0
def countAt (rows : List (List Int)) (k : Nat) (b : Int) : Nat := (colL rows k).count b
def fairAt (n : Int) (rows : List (List Int)) (k : Nat) : Bool := (List.range n.toNat).all fun b => decide (countAt rows k (b : Int) = countAt rows k 0)
def fairB (n : Int) (few : Nat) (rows : List (List Int)) : Bool := (List.range few).all fun k => fairAt n rows k
def pAre : Pm := fun ws S Kk Ek => ∃ (n : Int) (ss : List (Int × Int)) (rows : List (List Int)), ws = [.int n, .tup (ss.map pairW), .tup (rowsW rows)] ∧ RowsOk n ss.length rows ∧ ∀ S', (∀ g, Kp S S' g) → Kk (.bl (fairB n ss.length rows)) S'
theorem count_int (m : Int) : ∀ vs : List Int, (List.map W.int vs).countP (fun w => eqF w (.int m)) = vs.count m
  | [] => rfl
  | v :: vs => by
    rw [List.map_cons, List.countP_cons, List.count_cons, count_int m vs]
    rfl
theorem ints_flat : ∀ vs : List Int, (List.map W.int vs).all flat = true
  | [] => rfl
  | v :: vs => by rw [List.map_cons, List.all_cons, ints_flat vs]; rfl
theorem kAre (p : Nat → Pm) : Keeps p glob 7 3 b_are_fair pAre := by
  rintro ws S Kk Ek ⟨n, ss, rows, rfl, ok, k⟩
  refine ⟨rfl, ?_⟩
  unfold b_are_fair
  have n1 := ok.n1
  have n2 := ok.n2
  have few := ok.few2
  have many := ok.many
  have lr : (rowsW rows).length = rows.length := by unfold rowsW; rw [List.length_map]
  have ls : (ss.map pairW).length = ss.length := List.length_map ..
  (conv => whnf); refine step_ ?_
  (conv => whnf); refine len_t ?_
  rw [ls]
  (conv => whnf); refine ⟨by omega, ?_⟩
  refine for_inv (fun i ρ' S' => ∃ o3 o4 o5 o6, ρ' = [some (.int n), some (.tup (ss.map pairW)), some (.tup (rowsW rows)), o3, o4, o5, o6] ∧ (∀ j, j < i → fairAt n rows j = true) ∧ ∀ g, Kp S S' g) _ ⟨_, _, _, _, rfl, fun j h => absurd h (Nat.not_lt_zero _), fun g => .refl⟩ (fun _ _ _ _ => trivial) ?_ ?_
  · rintro i y ρ' S1 nx hy ⟨o3, o4, o5, o6, rfl, hf, kp1⟩ hnx
    obtain ⟨hi, rfl⟩ := rg_at hy
    have hi : i < ss.length := by omega
    have ei : (0 : Int) + (i : Nat) * 1 = (i : Int) := by omega
    rw [ei]
    ((conv => whnf); refine step_ ?_; (conv => whnf)); refine comp_idx (rowsW rows) (fun j => .int ((rows.getD j []).getD i 0)) (big (by omega)) (fun _ _ => trivial) (fun j x S' Kt hx kp kt => ?_) fun S2 kp2 p2 h2 => ?_
    · obtain ⟨hj, rfl⟩ := rows_at hx
      have hgr := ok.len _ (getD_mem (d := []) hj)
      have := int_at (xs := rows.getD j []) (i := (i : Int)) (by omega) (by omega)
      rw [Int.toNat_natCast] at this
      (conv => whnf); refine ix_t this ?_
      (conv => whnf); exact kt _ kp
    have ec : (List.range (rowsW rows).length).map (fun j => W.int ((rows.getD j []).getD i 0)) = List.map W.int (colL rows i) := by
      unfold colL
      rw [lr, List.map_map]; exact range_map [] (fun row : List Int => W.int (row.getD i 0)) rows
    rw [ec]
    have kp3 : ∀ g, Kp S (S2.put p2 (.lst (List.map W.int (colL rows i)))) g := fun g => ((kp1 g).trans (kp2 g)).trans (.new h2)
    have c3 : (S2.put p2 (.lst (List.map W.int (colL rows i)))) p2 = some (.lst (List.map W.int (colL rows i))) := put_same
    generalize S2.put p2 (.lst (List.map W.int (colL rows i))) = S3 at kp3 c3 ⊢
    (conv => whnf); refine step_ ?_
    (conv => whnf); refine ⟨by omega, ?_⟩
    refine comp_idx _ (fun b => .bl (decide (countAt rows i (b : Int) = countAt rows i 0))) (big (by show (rgList _ _ _).length ≤ _; rw [rgList_len]; omega)) (fun _ _ => trivial) (fun j x S' Kt hx kp kt => ?_) fun S4 kp4 p4 h4 => ?_
    · obtain ⟨hj, rfl⟩ := rg_at hx
      have ej : (0 : Int) + (j : Nat) * 1 = (j : Int) := by omega
      rw [ej]
      have c3' := kp_all kp _ _ c3
      (conv => whnf); refine ⟨_, List.mem_cons_self .., .inl ⟨rfl, _, .inl c3'⟩, ?_⟩
      (conv => whnf); refine ⟨_, .inl c3', rfl, ints_flat _, ?_⟩
      rw [count_int]
      (conv => whnf); refine ⟨_, List.mem_cons_self .., .inl ⟨rfl, _, .inl c3'⟩, ?_⟩
      (conv => whnf); refine ⟨_, .inl c3', rfl, ints_flat _, ?_⟩
      rw [show cW (.int 0) = W.int 0 from rfl, count_int]
      (conv => whnf); refine eq_f rfl rfl ?_
      have := kt _ kp
      have e2 : decide (countAt rows i (j : Int) = countAt rows i 0) = eqF (.int ((colL rows i).count (j : Int) : Nat)) (.int ((colL rows i).count 0 : Nat)) := by
        show decide ((colL rows i).count (j : Int) = (colL rows i).count 0) = ((((colL rows i).count (j : Int) : Nat) : Int) == (((colL rows i).count 0 : Nat) : Int))
        by_cases z : (colL rows i).count (j : Int) = (colL rows i).count 0
        · rw [decide_eq_true z, z]; simp
        · rw [decide_eq_false z]; exact (beq_eq_false_iff_ne.mpr (fun e => z (by omega))).symm
      rw [e2] at this; exact this
    have eb : (List.range (wkFix (rgList 0 1 n.toNat)).items.length).map (fun (b : Nat) => W.bl (decide (countAt rows i (b : Int) = countAt rows i 0))) = ((List.range n.toNat).map fun (b : Nat) => decide (countAt rows i (b : Int) = countAt rows i 0)).map W.bl := by
      rw [fix_rg, List.map_map]; rfl
    rw [eb]
    have kp5 : ∀ g, Kp S (S4.put p4 (.lst (((List.range n.toNat).map fun (b : Nat) => decide (countAt rows i (b : Int) = countAt rows i 0)).map W.bl))) g := fun g => ((kp3 g).trans (kp4 g)).trans (.new h4)
    have ea : ((List.range n.toNat).map fun (b : Nat) => decide (countAt rows i (b : Int) = countAt rows i 0)).all id = fairAt n rows i := by
      rw [List.all_map]; rfl
    (conv => whnf); refine ⟨_, .inl put_same, ?_⟩
    rw [ea]
    (conv => whnf); refine ite_of (fun h => ?_) fun h => ?_
    · have h : (!fairAt n rows i) = true := h
      rw [Bool.not_eq_true'] at h
      ((conv => whnf); refine step_ ?_; (conv => whnf))
      have := k _ kp5
      have e : fairB n ss.length rows = false := by
        unfold fairB
        rw [List.all_eq_false]
        exact ⟨i, List.mem_range.mpr hi, by rw [h]; decide⟩
      rw [e] at this; exact this
    · have h : (!fairAt n rows i) = false := h
      rw [Bool.not_eq_false'] at h
      (conv => whnf); refine hnx _ _ ⟨_, _, _, _, rfl, fun j hj => ?_, kp5⟩
      rcases Nat.lt_succ_iff_lt_or_eq.mp hj with hj | rfl
      · exact hf j hj
      · exact h
  · rintro ρ' S1 ⟨o3, o4, o5, o6, rfl, hf, kp1⟩
    rw [fix_rg, Int.toNat_natCast] at hf
    ((conv => whnf); refine step_ ?_; (conv => whnf))
    have := k _ kp1
    have e : fairB n ss.length rows = true := by
      unfold fairB
      rw [List.all_eq_true]
      exact fun j hj => hf j (List.mem_range.mp hj)
    rw [e] at this; exact this
end Dp.K33
namespace Dp.K33
open PySem PySem.Spec L2
open PyProof.Rows hiding St

def prom0 : Nat → Pm := fun _ _ _ _ _ => False
def prom1 : Nat → Pm
  | 0 => pDues
  | 4 => pDrawD
  | _ => fun _ _ _ _ => False
/-! ### an order drawn -/
theorem perm_eraseG {α : Type} {d : α} : ∀ {xs : List α} {i : Nat}, i < xs.length → (xs.getD i d :: xs.eraseIdx i).Perm xs
  | [], _, h => absurd h (Nat.not_lt_zero _)
  | _ :: _, 0, _ => List.Perm.refl _
  | x :: xs, i + 1, h => (List.Perm.swap x (xs.getD i d) (xs.eraseIdx i)).trans (List.Perm.cons x (perm_eraseG (xs := xs) (i := i) (by simpa using h)))
theorem perm_back {α β : Type} {f : α → β} (g : β → α) (hg : ∀ x, g (f x) = x) {ys : List β} {zs : List α} (h : ys.Perm (zs.map f)) : ∃ zs' : List α, ys = zs'.map f ∧ zs'.Perm zs := by
  refine ⟨ys.map g, ?_, ?_⟩
  · rw [List.map_map]
    conv => lhs; rw [← List.map_id ys]
    refine List.map_congr_left fun y hy => ?_
    obtain ⟨z, _, rfl⟩ := List.mem_map.mp (h.mem_iff.mp hy)
    show f z = f (g (f z))
    rw [hg]
  · have := h.map g
    rw [List.map_map] at this
    have e : List.map (g ∘ f) zs = zs := by
      conv => rhs; rw [← List.map_id zs]
      exact List.map_congr_left fun x _ => hg x
    rw [e] at this; exact this
def unI : W → Int
  | .int i => i
  | _ => 0
def unR : W → List Int
  | .tup ws => ws.map unI
  | _ => []
theorem unR_row (row : List Int) : unR (.tup (List.map W.int row)) = row := by
  show (List.map W.int row).map unI = row
  rw [List.map_map]
  conv => rhs; rw [← List.map_id row]
  rfl
def pOrder : Pm := fun ws S Kk Ek => ∃ f sc n b xs, ws = [.ref f, .ref b] ∧ S b = some (.lst xs) ∧ xs.length ≤ 100 ∧ DFd S f sc n ∧ n < 900000 ∧ ∀ ys p S', ys.Perm xs → S' p = some (.lst ys) → S p = none → Kp S S' f → DFd S' f sc (n + xs.length) → Kk (.ref p) S'
theorem kOrder : Keeps prom1 glob 4 2 b_law_drawn_order pOrder := by
  rintro ws S Kk Ek ⟨f, sc, n, b, xs, rfl, hb, lx, fd, hn, post⟩
  refine ⟨rfl, ?_⟩
  unfold b_law_drawn_order
  ((conv => whnf); refine step_ ?_; (conv => whnf)); refine ⟨xs, .inl hb, fun r hr => ?_⟩
  have ra := fd.apart hr
  have b2 : (S.put r (.lst xs)) b = some (.lst xs) := up_new hr hb
  ((conv => whnf); refine step_ ?_; (conv => whnf)); refine len_l b2 ?_
  (conv => whnf); refine ⟨by omega, ?_⟩
  refine comp_inv (fun i acc S' => ∃ rest, acc.length = i ∧ (acc ++ rest).Perm xs ∧ S' r = some (.lst rest) ∧ Kp S S' f ∧ DFd S' f sc (n + i)) _ ⟨xs, rfl, List.Perm.refl _, put_same, .new hr, fd.new hr⟩ (fun _ _ _ _ => trivial) ?_ ?_
  · rintro i y acc S2 nx hy ⟨rest, la, pe, hr2, kp2, fd2⟩ hnx
    obtain ⟨hi, rfl⟩ := rg_at hy
    have hl := pe.length_eq
    rw [List.length_append] at hl
    have hi : i < xs.length := by omega
    (conv => whnf); refine ⟨_, List.mem_singleton.mpr rfl, .inl ⟨rfl, _, .inl hr2⟩, ?_⟩
    (conv => whnf); refine len_l hr2 ?_
    (conv => whnf); refine ⟨f, sc, _, _, rfl, by omega, by omega, fd2, by omega, fun c S3 c0 c1 kp3 fd3 => ?_⟩
    have hr3 := kp3 _ _ ra.1 hr2
    have hc : c.toNat < rest.length := by omega
    (conv => whnf); refine ⟨_, c.toNat, rest.getD c.toNat .non, hr3, by omega, ixN_pos c0 (by omega), get_some hc, ?_⟩
    (conv => whnf); refine ⟨by rw [la]; exact big (by omega), hnx _ _ ⟨rest.eraseIdx c.toNat, by rw [List.length_append, la]; rfl, ?_, put_same, (kp2.trans kp3).putNew hr, (fd3.put ra).mono (by omega)⟩⟩
    have := perm_eraseG (d := W.non) hc
    rw [List.append_assoc]
    exact (List.Perm.append_left acc this).trans pe
  · rintro acc S2 ⟨rest, la, pe, hr2, kp2, fd2⟩ p hp
    rw [fix_rg, Int.toNat_natCast] at la fd2
    have hl := pe.length_eq
    rw [List.length_append, la] at hl
    have e : rest = [] := List.length_eq_zero_iff.mp (by omega)
    rw [e, List.append_nil] at pe
    have Sp := fresh_oldD kp2 fd2 hp
    exact post acc p _ pe put_same Sp (kp2.trans (.new hp)) (fd2.new hp)
/-! ### strips -/
def pStrips : Pm := fun ws S Kk Ek => ∃ f sc n m, ws = [.ref f, .int m] ∧ 1 ≤ m ∧ m ≤ 16 ∧ DFd S f sc n ∧ n < 900000 ∧ ∀ (ss : List (Int × Int)) S', ss.length = m.toNat → (∀ s ∈ ss, 0 ≤ s.1 ∧ s.1 ≤ 1000 ∧ 0 ≤ s.2 ∧ s.2 ≤ 1000) → Kp S S' f → DFd S' f sc (n + 33) → Kk (.tup (ss.map pairW)) S'
theorem kStrips : Keeps prom1 glob 4 2 b_law_strips pStrips := by
  rintro ws S Kk Ek ⟨f, sc, n, m, rfl, m1, m2, fd, hn, post⟩
  refine ⟨rfl, ?_⟩
  unfold b_law_strips
  ((conv => whnf); refine step_ ?_; (conv => whnf)); refine ⟨small rfl, fun p0 h0 => ?_⟩
  have p0a := fd.apart h0
  (conv => whnf); refine ⟨f, sc, 3, n, rfl, by decide, by decide, fd.new h0, by omega, fun c S1 c0 c1 kp1 fd1 => ?_⟩
  (conv => whnf); refine pick_i (xs := [1001, 4, 2]) (kp1 _ _ p0a.1 put_same) c0 c1 fun t ht => ?_
  have ht : 0 < t ∧ t ≤ 1001 := by
    simp only [List.mem_cons, List.not_mem_nil, or_false] at ht
    rcases ht with rfl | rfl | rfl <;> decide
  have kp01 : Kp S S1 f := Kp.trans (.new h0) kp1
  ((conv => whnf); refine step_ ?_; (conv => whnf)); refine ⟨by omega, ?_⟩
  refine comp_inv (fun i acc S' => ∃ ss : List (Int × Int), acc = ss.map pairW ∧ ss.length = i ∧ (∀ s ∈ ss, 0 ≤ s.1 ∧ s.1 ≤ 1000 ∧ 0 ≤ s.2 ∧ s.2 ≤ 1000) ∧ Kp S S' f ∧ DFd S' f sc (n + 1 + 2 * i)) _ ⟨[], rfl, rfl, none_in, kp01, fd1⟩ (fun _ _ _ _ => trivial) ?_ ?_
  · rintro i y acc S2 nx hy ⟨ss, rfl, l1, l2, kp2, fd2⟩ hnx
    obtain ⟨hi, rfl⟩ := rg_at hy
    (conv => whnf); refine ⟨f, sc, 1000, _, rfl, by decide, by decide, fd2, by omega, fun d1 S3 x0 x1 kp3 fd3 => ?_⟩
    (conv => whnf); refine ⟨f, sc, t, _, rfl, by omega, by omega, fd3, by omega, fun d2 S4 y0 y1 kp4 fd4 => ?_⟩
    (conv => whnf); refine ⟨small rfl, ?_⟩
    refine ⟨by rw [List.length_map, l1]; exact big (by omega), hnx _ _ ⟨ss ++ [(1 + d1, d2)], by rw [List.map_append]; rfl, by rw [List.length_append, l1]; rfl, fun s hs => ?_, (kp2.trans kp3).trans kp4, fd4⟩⟩
    rcases List.mem_append.mp hs with hs | hs
    · exact l2 s hs
    · rw [List.mem_singleton.mp hs]; exact ⟨by omega, by omega, by omega, by omega⟩
  · rintro acc S2 ⟨ss, rfl, l1, l2, kp2, fd2⟩ p hp
    rw [fix_rg] at l1 fd2
    (conv => whnf); refine ⟨_, .inl put_same, ?_⟩
    exact post ss _ l1 l2 (kp2.trans (.new hp)) ((fd2.new hp).mono (by omega))
def prom2 : Nat → Pm
  | 0 => pDues
  | 4 => pDrawD
  | 5 => pOrder
  | 6 => pStrips
  | _ => fun _ _ _ _ => False
def nums (m : Int) : List Int := (List.range m.toNat).map fun (i : Nat) => (i : Int)
theorem nums_mem {m x : Int} (h : x ∈ nums m) : 0 ≤ x ∧ x < m := by
  obtain ⟨i, hi, rfl⟩ := List.mem_map.mp h
  have := List.mem_range.mp hi
  omega
theorem nums_nodup (m : Int) : (nums m).Nodup := by
  unfold nums
  refine List.pairwise_map.mpr ?_
  refine List.Pairwise.imp ?_ (List.nodup_range (n := m.toNat))
  intro a b h e
  exact h (by omega)
theorem nums_len (m : Int) : (nums m).length = m.toNat := by unfold nums; rw [List.length_map, List.length_range]
def pPairs : Pm := fun ws S Kk Ek => ∃ f sc n m, ws = [.ref f, .int m] ∧ 1 ≤ m ∧ m ≤ 16 ∧ DFd S f sc n ∧ n < 800000 ∧ ∀ (pp : List Drw) S', pp.length ≤ 5 → (∀ p ∈ pp, DrwOk m p.1 p.2 ∧ p.2.Nodup) → Kp S S' f → DFd S' f sc (n + 300) → Kk (.tup (pp.map pW)) S'
theorem kPairs : Keeps prom2 glob 6 2 b_law_pairs pPairs := by
  rintro ws S Kk Ek ⟨f, sc, n, m, rfl, m1, m2, fd, hn, post⟩
  refine ⟨rfl, ?_⟩
  unfold b_law_pairs
  ((conv => whnf); refine step_ ?_; (conv => whnf)); refine ⟨small rfl, fun q hq => ?_⟩
  have qa := fd.apart hq
  ((conv => whnf); refine step_ ?_; (conv => whnf)); refine ⟨f, sc, 6, n, rfl, by decide, by decide, fd.new hq, by omega, fun c S1 c0 c1 kp1 fd1 => ?_⟩
  (conv => whnf); refine ⟨by omega, ?_⟩
  refine for_inv (fun i ρ' S' => ∃ (pp : List Drw) (o3 o4 o5 : Option W), ρ' = [some (.ref f), some (.int m), some (.ref q), o3, o4, o5] ∧ pp.length = i ∧ (∀ p ∈ pp, DrwOk m p.1 p.2 ∧ p.2.Nodup) ∧ S' q = some (.lst (pp.map pW)) ∧ Kp S S' f ∧ DFd S' f sc (n + 1 + 50 * i)) _ ⟨[], _, _, _, rfl, rfl, none_in, kp1 _ _ qa.1 put_same, Kp.trans (.new hq) kp1, fd1⟩ (fun _ _ _ _ => trivial) ?_ ?_
  · rintro i y ρ' S2 nx hy ⟨pp, o3, o4, o5, rfl, l1, l2, hq2, kp2, fd2⟩ hnx
    obtain ⟨hi, rfl⟩ := rg_at hy
    have hi : i < 6 := by omega
    ((conv => whnf); refine step_ ?_; (conv => whnf)); refine ⟨f, sc, m, _, rfl, by omega, by omega, fd2, by omega, fun a S3 a0 a1 kp3 fd3 => ?_⟩
    ((conv => whnf); refine step_ ?_; (conv => whnf)); refine ⟨f, sc, _, _, rfl, by omega, by omega, fd3, by omega, fun ss S4 s1 s2 kp4 fd4 => ?_⟩
    have hq4 := kp4 _ _ qa.1 (kp3 _ _ qa.1 hq2)
    ((conv => whnf); refine step_ ?_; (conv => whnf)); refine ⟨_, List.mem_singleton.mpr rfl, .inl ⟨rfl, _, .inl hq4⟩, ?_⟩
    (conv => whnf); refine ⟨⟨by decide, by decide, by omega, by omega, by omega⟩, fun r hr => ?_⟩
    rw [rg_ints, show (List.range m.toNat).map (fun (i : Nat) => (i : Int)) = nums m from rfl]
    have ln := nums_len m
    (conv => whnf); refine ⟨f, sc, _, _, _, rfl, put_same, by rw [List.length_map, ln]; omega, fd4.new hr, by omega, fun ys p S5 pe hp Sp kp5 fd5 => ?_⟩
    obtain ⟨zs, rfl, pz⟩ := perm_back unI (fun _ => rfl) pe
    rw [List.length_map, ln] at fd5
    have hq5 : S5 q = some (.lst (pp.map pW)) := kp5 _ _ qa.1 (up_new hr hq4)
    (conv => whnf); refine sl_l (.inl hp) fun p2 hp2 => ?_
    (conv => whnf); refine ⟨_, .inl put_same, ?_⟩
    have e : cutW (List.map W.int zs) none (some (1 + a)) = List.map W.int (zs.take (1 + a).toNat) := by rw [cut_to (by omega), List.map_take]
    rw [e]
    have hq6 : (S5.put p2 (.lst (cutW (List.map W.int zs) none (some (1 + a))))) q = some (.lst (pp.map pW)) := up_new hp2 hq5
    rw [e] at hq6
    have Sq := hq
    have lz := pz.length_eq
    rw [ln] at lz
    (conv => whnf); refine ⟨small rfl, ?_⟩
    (conv => whnf); refine ⟨_, hq6, by rw [List.length_map, l1]; exact big (by omega), ?_⟩
    (conv => whnf); refine hnx _ _ ⟨pp ++ [(ss, zs.take (1 + a).toNat)], _, _, _, rfl, by rw [List.length_append, l1]; rfl, fun p hp => ?_, by rw [put_same, List.map_append]; rfl, (((kp2.trans kp3).trans kp4).trans (((Kp.new hr).trans kp5).trans (.new hp2))).putNew Sq, ((fd5.new hp2).put qa).mono (by omega)⟩
    rcases List.mem_append.mp hp with hp | hp
    · exact l2 p hp
    · rw [List.mem_singleton.mp hp]
      have ly : (zs.take (1 + a).toNat).length = (1 + a).toNat := by rw [List.length_take, lz]; omega
      exact ⟨⟨by rw [s1, ly], by rw [ly]; omega, s2, fun d hd => nums_mem (pz.mem_iff.mp (List.mem_of_mem_take hd))⟩, (pz.nodup_iff.mpr (nums_nodup m)).sublist (List.take_sublist ..)⟩
  · rintro ρ' S2 ⟨pp, o3, o4, o5, rfl, l1, l2, hq2, kp2, fd2⟩
    rw [fix_rg] at l1 fd2
    ((conv => whnf); refine step_ ?_; (conv => whnf)); refine ⟨_, .inl hq2, ?_⟩
    exact post pp _ (by omega) l2 kp2 (fd2.mono (by omega))
end Dp.K33
namespace Dp.K33
open PySem PySem.Spec L2
open PyProof.Rows hiding St

/-! ### how often each ball is drawn in each place -/
def cntR (rows : List (List Int)) (few : Nat) (b : Nat) : List Int := (List.range few).map fun k => (countAt rows k (b : Int) : Int)
def pCounts : Pm := fun ws S Kk Ek => ∃ (n : Int) (ss : List (Int × Int)) (rows : List (List Int)), ws = [.int n, .tup (ss.map pairW), .tup (rowsW rows)] ∧ RowsOk n ss.length rows ∧
  ∀ (as : List Addr) q S', as.length = n.toNat → S' q = some (.lst (as.map W.ref)) → (∀ j a, as[j]? = some a → S' a = some (.lst (List.map W.int (cntR rows ss.length j)))) → (∀ g, Kp S S' g) → Kk (.ref q) S'
theorem cnt_rows (rows : List (List Int)) (k : Nat) (b : Int) : ((List.range rows.length).filter fun j => decide ((rows.getD j []).getD k 0 = b)).length = countAt rows k b := by
  unfold countAt colL
  have e := range_get [] rows
  conv => rhs; rw [← e]
  rw [List.map_map, List.count, List.countP_map, List.countP_eq_length_filter]
  rfl
theorem kCounts (p : Nat → Pm) : Keeps p glob 7 3 b_law_counts pCounts := by
  rintro ws S Kk Ek ⟨n, ss, rows, rfl, ok, post⟩
  refine ⟨rfl, ?_⟩
  unfold b_law_counts
  have n1 := ok.n1
  have n2 := ok.n2
  have few := ok.few2
  have many := ok.many
  have lr : (rowsW rows).length = rows.length := by unfold rowsW; rw [List.length_map]
  have ls : (ss.map pairW).length = ss.length := List.length_map ..
  ((conv => whnf); refine step_ ?_; (conv => whnf)); refine ⟨small rfl, fun q hq => ?_⟩
  (conv => whnf); refine step_ ?_
  (conv => whnf); refine ⟨by omega, ?_⟩
  refine for_inv (fun i ρ' S' => ∃ (as : List Addr) (o4 o5 o6 : Option W), ρ' = [some (.int n), some (.tup (ss.map pairW)), some (.tup (rowsW rows)), some (.ref q), o4, o5, o6] ∧ as.length = i ∧ S' q = some (.lst (as.map W.ref)) ∧ (∀ j a, as[j]? = some a → a ≠ q ∧ S' a = some (.lst (List.map W.int (cntR rows ss.length j)))) ∧ ∀ g, Kp S S' g) _ ⟨[], _, _, _, rfl, rfl, put_same, fun j a h => by simp at h, fun g => .new hq⟩ (fun _ _ _ _ => trivial) ?_ ?_
  · rintro i y ρ' S1 nx hy ⟨as, o4, o5, o6, rfl, la, hq1, ha, kp1⟩ hnx
    obtain ⟨hi, rfl⟩ := rg_at hy
    have ei : (0 : Int) + (i : Nat) * 1 = (i : Int) := by omega
    rw [ei]
    ((conv => whnf); refine step_ ?_; (conv => whnf)); refine ⟨_, List.mem_singleton.mpr rfl, .inl ⟨rfl, _, .inl hq1⟩, ?_⟩
    (conv => whnf); refine len_t ?_
    rw [ls]
    (conv => whnf); refine ⟨by omega, ?_⟩
    refine comp_idx _ (fun k => .int (countAt rows k (i : Int) : Nat)) (big (by show (rgList _ _ _).length ≤ _; rw [rgList_len]; omega)) (fun _ _ => trivial) (fun k x S' Kt hx kp kt => ?_) fun S2 kp2 p2 h2 => ?_
    · obtain ⟨hk, rfl⟩ := rg_at hx
      have hk : k < ss.length := by omega
      have ek : (0 : Int) + (k : Nat) * 1 = (k : Int) := by omega
      rw [ek]
      (conv => whnf)
      refine comp_fil (rowsW rows) (fun j => decide ((rows.getD j []).getD k 0 = (i : Int))) (fun _ => .int 1) (big (by omega)) (fun _ _ => trivial) ?_ ?_
      · intro j x S3 KT KF hx kp3 hT hF
        obtain ⟨hj, rfl⟩ := rows_at hx
        have hgr := ok.len _ (getD_mem (d := []) hj)
        have := int_at (xs := rows.getD j []) (i := (k : Int)) (by omega) (by omega)
        rw [Int.toNat_natCast] at this
        (conv => whnf); refine ix_t this ?_
        (conv => whnf); refine eq_f rfl rfl ?_
        (conv => whnf); refine ite_of (fun h => ?_) fun h => ?_
        · have h : (rows.getD j []).getD k 0 = (i : Int) := eq_of_beq h
          (conv => whnf); exact hT (decide_eq_true h) _ kp3
        · have h : ¬ (rows.getD j []).getD k 0 = (i : Int) := fun e => by
            have h : ((rows.getD j []).getD k 0 == (i : Int)) = false := h
            rw [e] at h; simp at h
          exact hF (decide_eq_false h) _ kp3
      · intro S3 kp3 p3 h3
        (conv => whnf); refine len_l put_same ?_
        rw [List.length_map, lr, cnt_rows]
        exact kt _ fun g => ((kp g).trans (kp3 g)).trans (.new h3)
    have e : (List.range (wkFix (rgList 0 1 (ss.length : Int).toNat)).items.length).map (fun k => W.int (countAt rows k (i : Int) : Nat)) = List.map W.int (cntR rows ss.length i) := by
      rw [fix_rg, Int.toNat_natCast]; unfold cntR; rw [List.map_map]; rfl
    rw [e]
    have kp3 : ∀ g, Kp S1 (S2.put p2 (.lst (List.map W.int (cntR rows ss.length i)))) g := fun g => (kp2 g).trans (.new h2)
    have hq3 : (S2.put p2 (.lst (List.map W.int (cntR rows ss.length i)))) q = some (.lst (as.map W.ref)) := kp_all kp3 _ _ hq1
    have c3 : (S2.put p2 (.lst (List.map W.int (cntR rows ss.length i)))) p2 = some (.lst (List.map W.int (cntR rows ss.length i))) := put_same
    have nq : p2 ≠ q := fun z => by
      have := kp_all kp2 _ _ hq1
      rw [← z, h2] at this; cases this
    generalize S2.put p2 (.lst (List.map W.int (cntR rows ss.length i))) = S3 at kp3 hq3 c3 ⊢
    (conv => whnf); refine ⟨_, hq3, by rw [List.length_map, la]; exact big (by omega), ?_⟩
    (conv => whnf); refine hnx _ _ ⟨as ++ [p2], _, _, _, rfl, by rw [List.length_append, la]; rfl, by rw [put_same, List.map_append]; rfl, fun j a h => ?_, fun g => ((kp1 g).trans (kp3 g)).putNew hq⟩
    rcases Nat.lt_trichotomy j as.length with hj | rfl | hj
    · rw [List.getElem?_append_left hj] at h
      have := ha j a h
      exact ⟨this.1, by rw [put_ne this.1]; exact kp_all kp3 _ _ this.2⟩
    · rw [List.getElem?_append_right (Nat.le_refl _), Nat.sub_self] at h
      cases h
      exact ⟨nq, by rw [put_ne nq, la]; exact c3⟩
    · rw [List.getElem?_eq_none (by rw [List.length_append]; show as.length + 1 ≤ j; omega)] at h
      cases h
  · rintro ρ' S1 ⟨as, o4, o5, o6, rfl, la, hq1, ha, kp1⟩
    rw [fix_rg] at la
    ((conv => whnf); refine step_ ?_; (conv => whnf)); exact post as q S1 la hq1 (fun j a h => (ha j a h).2) kp1
/-! ### the dues, reckoned by the law -/
theorem any_int (m : Int) : ∀ vs : List Int, ((List.map W.int vs).any fun w => eqF w (.int m)) = decide (m ∈ vs)
  | [] => by simp
  | v :: vs => by
    rw [List.map_cons, List.any_cons, any_int m vs]
    show ((v == m) || decide (m ∈ vs)) = _
    by_cases e : v = m
    · subst e; simp
    · have e2 : ¬ m = v := fun z => e z.symm
      simp [e, e2, List.mem_cons]
theorem gets_nodup (n : Int) : ∀ (ds ws : List Int) (b : Int) (j : Nat), ds.Nodup → ds.length = ws.length → ds[j]? = some b → getsL n (ds.zip ws) b = n * ws.getD j 0
  | [], _, _, _, _, _, h => by simp at h
  | d :: ds, [], _, _, _, l, _ => by simp at l
  | d :: ds, w :: ws, b, 0, nd, l, h => by
    have e : d = b := by simpa using h
    subst e
    have nd := List.nodup_cons.mp nd
    have z : getsL n (ds.zip ws) d = 0 := by
      unfold getsL
      have : ∀ p ∈ ds.zip ws, (if p.1 = d then n * p.2 else 0) = 0 := fun p hp => by
        rw [if_neg (fun e : p.1 = d => nd.1 (e ▸ (List.of_mem_zip (show (p.1, p.2) ∈ ds.zip ws from hp)).1))]
      rw [List.map_congr_left this]
      generalize ds.zip ws = L
      induction L with
      | nil => rfl
      | cons x L ih => rw [List.map_cons, List.sum_cons, ih]; rfl
    have : getsL n ((d :: ds).zip (w :: ws)) d = n * w + getsL n (ds.zip ws) d := by
      unfold getsL
      rw [List.zip_cons_cons, List.map_cons, List.sum_cons, if_pos rfl]
    rw [this, z, Int.add_zero]; rfl
  | d :: ds, w :: ws, b, j + 1, nd, l, h => by
    have h : ds[j]? = some b := by simpa using h
    have nd := List.nodup_cons.mp nd
    have ne : ¬ d = b := fun e => nd.1 (e ▸ List.mem_of_getElem? h)
    have : getsL n ((d :: ds).zip (w :: ws)) b = 0 + getsL n (ds.zip ws) b := by
      unfold getsL
      rw [List.zip_cons_cons, List.map_cons, List.sum_cons, if_neg ne]
    rw [this, Int.zero_add, gets_nodup n ds ws b j nd.2 (by simpa using l) h]; rfl
theorem gets_none (n : Int) {ds ws : List Int} {b : Int} (h : b ∉ ds) : getsL n (ds.zip ws) b = 0 := by
  unfold getsL
  have : ∀ p ∈ ds.zip ws, (if p.1 = b then n * p.2 else 0) = 0 := fun p hp => by
    rw [if_neg (fun e : p.1 = b => h (e ▸ (List.of_mem_zip (show (p.1, p.2) ∈ ds.zip ws from hp)).1))]
  rw [List.map_congr_left this]
  generalize ds.zip ws = L
  induction L with
  | nil => rfl
  | cons x L ih => rw [List.map_cons, List.sum_cons, ih]; rfl
/-- the first place of a thing -/
theorem first_at {b : Int} : ∀ {ds : List Int}, b ∈ ds → ∃ j : Nat, j < ds.length ∧ ds[j]? = some b ∧ ∀ (m : Nat) x, m < j → ds[m]? = some x → x ≠ b
  | d :: ds, h => by
    by_cases e : d = b
    · exact ⟨0, Nat.succ_pos _, by rw [e]; rfl, fun m x hm => absurd hm (Nat.not_lt_zero _)⟩
    · rcases List.mem_cons.mp h with h | h
      · exact absurd h.symm e
      · obtain ⟨j, h1, h2, h3⟩ := first_at h
        refine ⟨j + 1, Nat.succ_lt_succ h1, by simpa using h2, fun m x hm hx => ?_⟩
        cases m with
        | zero => cases hx; exact e
        | succ m => exact h3 m x (by omega) (by simpa using hx)
theorem due_b {n b : Int} {p : Drw} (n0 : 0 ≤ n) (n1 : n ≤ 16) (ok : DrwOk n p.1 p.2) : (dueOne n p b).natAbs ≤ 272000 := by
  have h2 := worth_b ok
  have h3 := gets_b (n := n) (j := b) n0 n1 (prsL p.1 p.2) fun q hq => (prs_ball ok q hq).2.2
  rw [prs_len ok] at h3
  have h4 := ok.few
  unfold dueOne
  omega
theorem dues_b {n b : Int} (n0 : 0 ≤ n) (n1 : n ≤ 16) : ∀ {pp : List Drw}, (∀ p ∈ pp, DrwOk n p.1 p.2) → (duesOf n pp b).natAbs ≤ 272000 * pp.length
  | [], _ => by simp [duesOf]
  | p :: pp, h => by
    have h1 := due_b (b := b) n0 n1 (h p (List.mem_cons_self ..))
    have h2 := dues_b (b := b) n0 n1 (pp := pp) fun x hx => h x (List.mem_cons_of_mem _ hx)
    unfold duesOf at *
    rw [List.map_cons, List.sum_cons, List.length_cons]
    omega
def pRight : Pm := fun ws S Kk Ek => ∃ (n : Int) (pp : List Drw), ws = [.int n, .tup (pp.map pW)] ∧ 1 ≤ n ∧ n ≤ 16 ∧ pp.length ≤ 100 ∧ (∀ p ∈ pp, DrwOk n p.1 p.2 ∧ p.2.Nodup) ∧ ∀ S', (∀ g, Kp S S' g) → Kk (.bl true) S'
theorem kRight : Keeps prom1 glob 9 2 b_law_dues_right pRight := by
  rintro ws S Kk Ek ⟨n, pp, rfl, n1, n2, lp, hp, post⟩
  refine ⟨rfl, ?_⟩
  unfold b_law_dues_right
  (conv => whnf); refine step_ ?_
  (conv => whnf); refine ⟨by omega, ?_⟩
  refine for_inv (fun i ρ' S' => ∃ o2 o3 o4 o5 o6 o7 o8, ρ' = [some (.int n), some (.tup (pp.map pW)), o2, o3, o4, o5, o6, o7, o8] ∧ ∀ g, Kp S S' g) _ ⟨_, _, _, _, _, _, _, rfl, fun g => .refl⟩ (fun _ _ _ _ => trivial) ?_ ?_
  · rintro b y ρ' S1 nx hy ⟨o2, o3, o4, o5, o6, o7, o8, rfl, kp1⟩ hnx
    obtain ⟨hb, rfl⟩ := rg_at hy
    have eb : (0 : Int) + (b : Nat) * 1 = (b : Int) := by omega
    rw [eb]
    ((conv => whnf); refine step_ ?_; (conv => whnf)); (conv => whnf); refine step_ ?_
    (conv => whnf); refine for_inv (fun i ρ' S' => ∃ o4 o5 o6 o7 o8, ρ' = [some (.int n), some (.tup (pp.map pW)), some (.int (b : Int)), some (.int (duesOf n (pp.take i) (b : Int))), o4, o5, o6, o7, o8] ∧ ∀ g, Kp S S' g) (pp.map pW) ⟨_, _, _, _, _, rfl, kp1⟩ (fun _ _ _ _ => trivial) ?_ ?_
    · rintro i y ρ' S2 nx2 hy2 ⟨o4, o5, o6, o7, o8, rfl, kp2⟩ hnx2
      obtain ⟨⟨ss, ds⟩, hi, rfl⟩ := drws_at hy2
      obtain ⟨ok, nd⟩ : DrwOk n ss ds ∧ ds.Nodup := hp _ (List.mem_of_getElem? hi)
      have few := ok.few
      have len := ok.len
      (conv => whnf); refine ⟨rfl, ?_⟩
      (conv => whnf); refine step_ ?_
      (conv => whnf); refine comp_idx (ss.map pairW) (fun i => .int (ss.getD i (0, 0)).2) (big (by rw [List.length_map]; omega)) (fun _ _ => trivial) (fun i x S' Kt hx kp kt => ?_) fun S3 kp3 p3 h3 => ?_
      · obtain ⟨hi, rfl⟩ := pairs_at hx
        (conv => whnf); refine ix_t (by rfl) ?_
        (conv => whnf); exact kt _ kp
      rw [worth_map]
      (conv => whnf); refine ⟨_, .inl put_same, ?_⟩
      have kp4 : ∀ g, Kp S (S3.put p3 (.lst (List.map W.int (ss.map (·.2))))) g := fun g => ((kp2 g).trans (kp3 g)).trans (.new h3)
      generalize S3.put p3 (.lst (List.map W.int (ss.map (·.2)))) = S4 at kp4 ⊢
      (conv => whnf); refine then_join (fun ρ' S' => ∃ o7, ρ' = [some (.int n), some (.tup (pp.map pW)), some (.int (b : Int)), some (.int (duesOf n (pp.take i) (b : Int))), some (.tup (ss.map pairW)), some (.tup (List.map W.int ds)), some (.int (ss.map (·.2)).sum), o7, some (.int (getsL n (prsL ss ds) (b : Int)))] ∧ S' = S4) (fun nx hnx => ?_) ?_
      · (conv => whnf); refine in_t rfl (ints_flat _) (any_int _ _) ?_
        (conv => whnf); refine ite_of (fun h => ?_) fun h => ?_
        · have h : (b : Int) ∈ ds := of_decide_eq_true h
          obtain ⟨j, j1, j2, j3⟩ := first_at h
          have j4 : j < ss.length := by omega
          have hl := ok.lo _ (getD_mem (d := (0, 0)) j4)
          (conv => whnf); refine ⟨_, List.mem_cons_of_mem _ (List.mem_cons_self ..), rfl, ?_⟩
          (conv => whnf); refine ⟨j, .int b, rfl, ints_flat _, by rw [List.getElem?_map, j2]; rfl, by show ((b : Int) == (b : Int)) = true; exact beq_self_eq_true _, fun m z hm hz => ?_, ?_⟩
          · obtain ⟨_, rfl⟩ := ints_at hz
            have hm2 : m < ds.length := by omega
            show (ds.getD m 0 == (b : Int)) = false
            exact beq_eq_false_iff_ne.mpr (j3 m _ hm (get_some hm2))
          have ats : atI (ss.map pairW) (j : Int) = some (.tup [.int (ss.getD j (0, 0)).1, .int (ss.getD j (0, 0)).2]) := atI_pos (by omega) (by rw [List.getElem?_map]; show Option.map pairW (ss[(j : Int).toNat]?) = _; rw [Int.toNat_natCast, get_some (d := (0, 0)) j4]; rfl)
          (conv => whnf); refine ix_t ats ?_
          (conv => whnf); refine ix_t (by rfl) ?_
          (conv => whnf); refine mul_i 10 10 (by omega) (by omega) (by decide) ?_
          (conv => whnf); refine hnx _ _ ⟨o7, ?_, rfl⟩
          unfold prsL
          rw [gets_nodup n ds (ss.map (·.2)) b j nd (by rw [List.length_map, len]) j2, mapD (d := (0, 0)) j4]; rfl
        · have h : (b : Int) ∉ ds := of_decide_eq_false h
          (conv => whnf); refine hnx _ _ ⟨o7, ?_, rfl⟩
          unfold prsL
          rw [gets_none n h]; rfl
      · rintro ρ' S' ⟨o7, rfl, rfl⟩
        ((conv => whnf); refine step_ ?_; (conv => whnf)); refine hnx2 _ _ ⟨some (.tup (ss.map pairW)), some (.tup (List.map W.int ds)), some (.int (ss.map (·.2)).sum), o7, some (.int (getsL n (prsL ss ds) (b : Int))), ?_, kp4⟩
        rw [List.take_add_one, hi]
        show _ = [_, _, _, some (W.int (duesOf n (pp.take i ++ [(ss, ds)]) b)), _, _, _, _, _]
        rw [dues_snoc, show dueOne n (ss, ds) b = getsL n (prsL ss ds) b - (ss.map (·.2)).sum from rfl, ← Int.add_sub_assoc]; rfl
    · rintro ρ' S2 ⟨o4, o5, o6, o7, o8, rfl, kp2⟩
      have el : pp.take (pp.map pW).length = pp := by rw [List.length_map, List.take_length]
      rw [el]
      have db := dues_b (b := (b : Int)) (by omega) n2 fun p h => (hp p h).1
      obtain ⟨q1, q2, q3⟩ := (fd_int (b := 40) (i := duesOf n pp b) (by omega) (by decide) (by decide)).show_
      ((conv => whnf); refine step_ ?_; (conv => whnf)); refine ⟨n, pp, (b : Int), rfl, by omega, n2, lp, fun p h => (hp p h).1, fun S3 kp3 => ?_⟩
      (conv => whnf); refine repr_a (.int _) q1 q2 q3 ?_
      (conv => whnf); refine repr_a (.int _) q1 q2 q3 ?_
      (conv => whnf); refine eq_f rfl rfl ?_
      rw [eqF_str]
      (conv => whnf); exact hnx _ _ ⟨_, _, _, _, _, _, _, rfl, fun g => (kp2 g).trans (kp3 g)⟩
  · rintro ρ' S1 ⟨o2, o3, o4, o5, o6, o7, o8, rfl, kp1⟩
    ((conv => whnf); refine step_ ?_; (conv => whnf)); exact post _ kp1
end Dp.K33
namespace Dp.K33
open PySem PySem.Spec L2
open PyProof.Rows hiding St

/-! ### fair draws: orders turned about -/
def turnRow (m few : Nat) (os : List Int) (t : Nat) : List Int := (List.range few).map fun k => os.getD ((k + t) % m) 0
def turnRows (m few : Nat) (os : List Int) (t : Nat) : List (List Int) := (List.range t).map (turnRow m few os)
theorem turn_col {m k : Nat} {os : List Int} (l : os.length = m) (hk : k < m) : (List.range m).map (fun t => os.getD ((k + t) % m) 0) = os.drop k ++ os.take k := by
  apply List.ext_getElem
  · rw [List.length_map, List.length_range, List.length_append, List.length_drop, List.length_take, l]; omega
  · intro t h1 h2
    rw [List.length_map, List.length_range] at h1
    rw [List.getElem_map, List.getElem_range]
    by_cases e : k + t < m
    · rw [Nat.mod_eq_of_lt e, List.getElem_append_left (by rw [List.length_drop, l]; omega), List.getElem_drop, List.getD_eq_getElem?_getD, List.getElem?_eq_getElem (by omega)]; rfl
    · have e2 : (k + t) % m = k + t - m := by rw [Nat.mod_eq_sub_mod (by omega), Nat.mod_eq_of_lt (by omega)]
      rw [e2, List.getElem_append_right (by rw [List.length_drop, l]; omega), List.getElem_take, List.getD_eq_getElem?_getD, List.getElem?_eq_getElem (by omega)]
      simp only [List.length_drop, l]
      show os[k + t - m] = os[t - (m - k)]
      congr 1
      omega
theorem turn_at {m few : Nat} {os : List Int} {t k : Nat} (hk : k < few) : (turnRow m few os t).getD k 0 = os.getD ((k + t) % m) 0 := by
  unfold turnRow
  rw [List.getD_eq_getElem?_getD, List.getElem?_map, List.getElem?_range hk]; rfl
theorem nums_count {m : Int} {b : Nat} (h : b < m.toNat) : (nums m).count (b : Int) = 1 := by
  have nd := nums_nodup m
  have hm : (b : Int) ∈ nums m := List.mem_map.mpr ⟨b, List.mem_range.mpr h, rfl⟩
  have h1 := List.nodup_iff_count.mp nd (b : Int)
  have h2 := List.count_pos_iff.mpr hm
  omega
theorem turn_count {m : Int} {few k b : Nat} {os : List Int} (pe : os.Perm (nums m)) (hk : k < few) (hf : few ≤ m.toNat) (hb : b < m.toNat) : countAt (turnRows m.toNat few os m.toNat) k (b : Int) = 1 := by
  have lo : os.length = m.toNat := by rw [pe.length_eq, nums_len]
  unfold countAt colL turnRows
  rw [List.map_map]
  have e : (List.range m.toNat).map ((fun row : List Int => row.getD k 0) ∘ turnRow m.toNat few os) = (List.range m.toNat).map (fun t => os.getD ((k + t) % m.toNat) 0) := List.map_congr_left fun t _ => turn_at hk
  rw [e, turn_col lo (by omega), List.count_append, Nat.add_comm, ← List.count_append, List.take_append_drop, pe.count_eq, nums_count hb]
theorem count_app (xs ys : List (List Int)) (k : Nat) (b : Int) : countAt (xs ++ ys) k b = countAt xs k b + countAt ys k b := by
  unfold countAt colL
  rw [List.map_append, List.count_append]
theorem rowsW_app (xs ys : List (List Int)) : rowsW (xs ++ ys) = rowsW xs ++ rowsW ys := List.map_append ..
theorem turnRows_snoc (m few : Nat) (os : List Int) (t : Nat) : turnRows m few os (t + 1) = turnRows m few os t ++ [turnRow m few os t] := by
  unfold turnRows
  rw [List.range_succ, List.map_append]; rfl
def pFair : Pm := fun ws S Kk Ek => ∃ f sc n m few, ws = [.ref f, .int m, .int few] ∧ 1 ≤ m ∧ m ≤ 16 ∧ 1 ≤ few ∧ few ≤ m ∧ DFd S f sc n ∧ n < 800000 ∧ ∀ rows S', RowsOk m few.toNat rows → rows.length ≤ 23 → fairB m few.toNat rows = true → Kp S S' f → DFd S' f sc (n + 60) → Kk (.tup (rowsW rows)) S'
theorem kFair : Keeps prom2 glob 8 3 b_law_fair pFair := by
  rintro ws S Kk Ek ⟨f, sc, n, m, few, rfl, m1, m2, f1, f2, fd, hn, post⟩
  refine ⟨rfl, ?_⟩
  unfold b_law_fair
  ((conv => whnf); refine step_ ?_; (conv => whnf)); refine ⟨small rfl, fun q hq => ?_⟩
  have qa := fd.apart hq
  ((conv => whnf); refine step_ ?_; (conv => whnf)); refine ⟨f, sc, 3, n, rfl, by decide, by decide, fd.new hq, by omega, fun d S1 d0 d1 kp1 fd1 => ?_⟩
  have m9 := log_small (m := m) (by omega) (by omega)
  (conv => whnf); refine ⟨by omega, ?_⟩
  have h23 : 0 ≤ 23 / m := Int.ediv_nonneg (by decide) (by omega)
  (conv => whnf); refine ⟨by split <;> omega, ?_⟩
  obtain ⟨c, hc⟩ : ∃ c : Int, c = if (23 / m) < d then 23 / m else d := ⟨_, rfl⟩
  have h24 : 23 / m * m ≤ 23 := Int.ediv_mul_le _ (by omega)
  have c0 : 0 ≤ c := by rw [hc]; split <;> omega
  have c2 : c ≤ 2 := by rw [hc]; split <;> omega
  have c3 : c ≤ 23 / m := by rw [hc]; split <;> omega
  rw [← hc]
  have c4 : c.toNat * m.toNat ≤ 23 := by
    have : c * m ≤ 23 / m * m := Int.mul_le_mul_of_nonneg_right c3 (by omega)
    have e : ((c.toNat * m.toNat : Nat) : Int) = c * m := by rw [Int.natCast_mul, Int.toNat_of_nonneg c0, Int.toNat_of_nonneg (by omega)]
    omega
  have ln := nums_len m
  refine for_inv (fun i ρ' S' => ∃ (rows : List (List Int)) (o4 o5 o6 o7 : Option W), ρ' = [some (.ref f), some (.int m), some (.int few), some (.ref q), o4, o5, o6, o7] ∧ rows.length = i * m.toNat ∧ (∀ row ∈ rows, row.length = few.toNat ∧ ∀ d ∈ row, 0 ≤ d ∧ d < m) ∧ (∀ k b : Nat, k < few.toNat → b < m.toNat → countAt rows k (b : Int) = i) ∧ S' q = some (.lst (rowsW rows)) ∧ Kp S S' f ∧ DFd S' f sc (n + 1 + 16 * i)) _ ⟨[], _, _, _, _, rfl, by rw [Nat.zero_mul]; rfl, none_in, fun k b _ _ => rfl, kp1 _ _ qa.1 put_same, Kp.trans (.new hq) kp1, fd1⟩ (fun _ _ _ _ => trivial) ?_ ?_
  · rintro i y ρ' S2 nx hy ⟨rows, o4, o5, o6, o7, rfl, l1, l2, l3, hq2, kp2, fd2⟩ hnx
    obtain ⟨hi, rfl⟩ := rg_at hy
    have hi2 : i < 2 := by omega
    have lim : (i + 1) * m.toNat ≤ 23 := Nat.le_trans (Nat.mul_le_mul_right _ (show i + 1 ≤ c.toNat by omega)) c4
    rw [Nat.add_mul, Nat.one_mul] at lim
    ((conv => whnf); refine step_ ?_; (conv => whnf)); refine ⟨⟨by decide, by decide, by omega, by omega, by omega⟩, fun r hr => ?_⟩
    rw [rg_ints, show (List.range m.toNat).map (fun (i : Nat) => (i : Int)) = nums m from rfl]
    (conv => whnf); refine ⟨f, sc, _, _, _, rfl, put_same, by rw [List.length_map, ln]; omega, fd2.new hr, by omega, fun ys p S3 pe hp Sp kp3 fd3 => ?_⟩
    obtain ⟨os, rfl, pz⟩ := perm_back unI (fun _ => rfl) pe
    rw [List.length_map, ln] at fd3
    have hq3 : S3 q = some (.lst (rowsW rows)) := kp3 _ _ qa.1 (up_new hr hq2)
    have lo : os.length = m.toNat := by rw [pz.length_eq, ln]
    have npq : p ≠ q := fun z => by
      rw [z, up_new hr hq2] at Sp; cases Sp
    (conv => whnf); refine step_ ?_
    (conv => whnf); refine ⟨by omega, ?_⟩
    have kp03 : Kp S S3 f := kp2.trans (Kp.trans (.new hr) kp3)
    refine for_inv (fun t ρ' S' => ∃ (o6 o7 : Option W), ρ' = [some (.ref f), some (.int m), some (.int few), some (.ref q), some (.int i), some (.ref p), o6, o7] ∧ S' q = some (.lst (rowsW (rows ++ turnRows m.toNat few.toNat os t))) ∧ S' p = some (.lst (List.map W.int os)) ∧ Kp S S' f ∧ DFd S' f sc (n + 1 + 16 * i + m.toNat)) _ ⟨o6, o7, ?_, ?_, hp, kp03, fd3⟩ (fun _ _ _ _ => trivial) ?_ ?_
    · have e : (0 : Int) + (i : Nat) * 1 = (i : Int) := by omega
      rw [e]; rfl
    · rw [show turnRows m.toNat few.toNat os 0 = [] from rfl, List.append_nil]; exact hq3
    · rintro t y ρ' S4 nx2 hy2 ⟨o6, o7, rfl, hq4, hp4, kp4, fd4⟩ hnx2
      obtain ⟨ht, rfl⟩ := rg_at hy2
      have et : (0 : Int) + (t : Nat) * 1 = (t : Int) := by omega
      rw [et]
      ((conv => whnf); refine step_ ?_; (conv => whnf)); refine ⟨_, List.mem_singleton.mpr rfl, .inl ⟨rfl, _, .inl hq4⟩, ?_⟩
      (conv => whnf); refine ⟨by omega, ?_⟩
      refine comp_idx _ (fun k => .int (os.getD ((k + t) % m.toNat) 0)) (big (by show (rgList _ _ _).length ≤ _; rw [rgList_len]; omega)) (fun _ _ => trivial) (fun k x S' Kt hx kp kt => ?_) fun S5 kp5 p5 h5 => ?_
      · obtain ⟨hk, rfl⟩ := rg_at hx
        have ek : (0 : Int) + (k : Nat) * 1 = (k : Int) := by omega
        rw [ek]
        have hp5 := kp_all kp _ _ hp4
        have em : ((k : Int) + (t : Int)) % m = (((k + t) % m.toNat : Nat) : Int) := by
          rw [Int.natCast_emod, Int.toNat_of_nonneg (by omega), Int.natCast_add]
        have z1 : (k + t) % m.toNat < m.toNat := Nat.mod_lt _ (by omega)
        (conv => whnf); refine ⟨by omega, ?_⟩
        rw [em]
        have := int_at (xs := os) (i := (((k + t) % m.toNat : Nat) : Int)) (by omega) (by omega)
        rw [Int.toNat_natCast] at this
        (conv => whnf); refine ix_l hp5 this ?_
        (conv => whnf); exact kt _ kp
      have e : (List.range (wkFix (rgList 0 1 few.toNat)).items.length).map (fun k => W.int (os.getD ((k + t) % m.toNat) 0)) = List.map W.int (turnRow m.toNat few.toNat os t) := by
        rw [fix_rg]; unfold turnRow; rw [List.map_map]; rfl
      rw [e]
      (conv => whnf); refine ⟨_, .inl put_same, ?_⟩
      have kp6 : ∀ g, Kp S4 (S5.put p5 (.lst (List.map W.int (turnRow m.toNat few.toNat os t)))) g := fun g => (kp5 g).trans (.new h5)
      have hq6 := kp_all kp6 _ _ hq4
      have hp6 := kp_all kp6 _ _ hp4
      have fd6 := fd4.sub (kp_all kp6)
      generalize S5.put p5 (.lst (List.map W.int (turnRow m.toNat few.toNat os t))) = S6 at kp6 hq6 hp6 fd6 ⊢
      have l7 : (rowsW (rows ++ turnRows m.toNat few.toNat os t)).length ≤ 23 := by
        unfold rowsW turnRows
        rw [List.length_map, List.length_append, List.length_map, List.length_range]; omega
      (conv => whnf); refine ⟨_, hq6, big (by omega), ?_⟩
      (conv => whnf); refine hnx2 _ _ ⟨_, _, rfl, ?_, by rw [put_ne npq]; exact hp6, (kp4.trans (kp6 f)).putNew hq, fd6.put qa⟩
      rw [put_same, turnRows_snoc, ← List.append_assoc, rowsW_app (rows ++ turnRows m.toNat few.toNat os t)]; rfl
    · rintro ρ' S4 ⟨o6, o7, rfl, hq4, hp4, kp4, fd4⟩
      rw [fix_rg] at hq4
      refine hnx _ _ ⟨rows ++ turnRows m.toNat few.toNat os m.toNat, _, _, _, _, rfl, ?_, fun row hr => ?_, fun k b hk hb => ?_, hq4, kp4, fd4.mono (by omega)⟩
      · unfold turnRows
        rw [List.length_append, List.length_map, List.length_range, l1, Nat.add_mul, Nat.one_mul]
      · rcases List.mem_append.mp hr with hr | hr
        · exact l2 row hr
        · obtain ⟨t, ht, rfl⟩ := List.mem_map.mp hr
          refine ⟨by unfold turnRow; rw [List.length_map, List.length_range], fun d hd => ?_⟩
          obtain ⟨k, hk, rfl⟩ := List.mem_map.mp hd
          exact nums_mem (pz.mem_iff.mp (getD_mem (by rw [lo]; exact Nat.mod_lt _ (by omega))))
      · rw [count_app, l3 k b hk hb, turn_count pz hk (by omega) hb]
  · rintro ρ' S2 ⟨rows, o4, o5, o6, o7, rfl, l1, l2, l3, hq2, kp2, fd2⟩
    rw [fix_rg] at l1 l3 fd2
    have lw : (rowsW rows).length = rows.length := by unfold rowsW; rw [List.length_map]
    ((conv => whnf); refine step_ ?_; (conv => whnf)); refine ⟨f, sc, _, _, _, rfl, hq2, by rw [lw]; omega, fd2, by omega, fun ys p S3 pe hp Sp kp3 fd3 => ?_⟩
    obtain ⟨rows', rfl, pz⟩ := perm_back unR unR_row pe
    rw [lw] at fd3
    (conv => whnf); refine ⟨_, .inl hp, ?_⟩
    have ll := pz.length_eq
    have cnt : ∀ k b : Nat, countAt rows' k (b : Int) = countAt rows k (b : Int) := fun k b => (pz.map _).count_eq _
    refine post rows' _ ⟨m1, m2, by omega, by omega, fun row hr => (l2 row (pz.mem_iff.mp hr)).1, fun row hr => (l2 row (pz.mem_iff.mp hr)).2⟩ (by omega) ?_ (kp2.trans kp3) (fd3.mono (by omega))
    unfold fairB
    rw [List.all_eq_true]
    intro k hk
    have hk := List.mem_range.mp hk
    unfold fairAt
    rw [List.all_eq_true]
    intro b hb
    have hb := List.mem_range.mp hb
    have e0 := l3 k 0 hk (by omega)
    rw [← cnt] at e0
    have e1 := l3 k b hk hb
    rw [← cnt] at e1
    refine decide_eq_true ?_
    rw [e1]; exact e0.symm
end Dp.K33
namespace Dp.K33
open PySem PySem.Spec L2
open PyProof.Rows hiding St

theorem in_l {n : Bool} {S : Sto} {a : Addr} {x : W} {ws : List W} {b : Bool} {K : Bool → Prop} (h : S a = some (.lst ws)) (f : flat x = true) (hf : ws.all flat = true) (e : (ws.any fun w => eqF w x) = b) (k : K (if n then !b else b)) : inK n x (.ref a) S K := by unfold inK; exact .inl ⟨ws, .inl h, f, hf, by rw [e]; exact k⟩
theorem den_rows {S : Sto} (rows : List (List Int)) : Dens S (rowsW rows) (rows.map fun row => .tuple (row.map PyData.int)) := by
  unfold rowsW
  induction rows with
  | nil => exact .nil
  | cons r rows ih => exact .cons (den_ints r) ih
theorem fine_rows {m : Int} {few : Nat} {rows : List (List Int)} (ok : RowsOk m few rows) : ∀ d ∈ rows.map (fun row => PyData.tuple (row.map PyData.int)), FinD 1 96 d := fun d hd => by
  obtain ⟨row, hr, rfl⟩ := List.mem_map.mp hd
  have n2 := ok.n2
  have few2 := ok.few2
  have l := ok.len row hr
  have := fd_tup (k := 0) (B := 5) (ds := row.map PyData.int) (fd_ints (fun x hx => by have := ok.ball row hr x hx; omega) (by decide) (by decide)) (by decide) (by rw [List.length_map]; omega)
  rw [List.length_map] at this
  exact this.mono (by decide) (by omega)
theorem fine_rowsT {m : Int} {few : Nat} {rows : List (List Int)} (ok : RowsOk m few rows) : FinD 2 6000 (.tuple (rows.map fun row => .tuple (row.map PyData.int))) := by
  have many := ok.many
  have := fd_tup (fine_rows ok) (by decide) (by rw [List.length_map]; omega)
  rw [List.length_map] at this
  exact this.mono (by decide) (by omega)
theorem rows_sub {m : Int} {few : Nat} {rows rows' : List (List Int)} (ok : RowsOk m few rows) (h : ∀ r ∈ rows', r ∈ rows ∨ (r.length = few ∧ ∀ d ∈ r, 0 ≤ d ∧ d < m)) (l : rows'.length ≤ 60) : RowsOk m few rows' :=
  ⟨ok.n1, ok.n2, ok.few2, l, fun r hr => (h r hr).elim (ok.len r) (·.1), fun r hr => (h r hr).elim (ok.ball r) (·.2)⟩
theorem cut_rows_to {rows : List (List Int)} {i : Int} (h : 0 ≤ i) : cutW (rowsW rows) none (some i) = rowsW (rows.take i.toNat) := by rw [cut_to h]; unfold rowsW; rw [List.map_take]
theorem cut_rows_from {rows : List (List Int)} {i : Int} (h : 0 ≤ i) : cutW (rowsW rows) (some i) none = rowsW (rows.drop i.toNat) := by rw [cut_from h]; unfold rowsW; rw [List.map_drop]
theorem rowsW_len (rows : List (List Int)) : (rowsW rows).length = rows.length := by unfold rowsW; rw [List.length_map]
theorem row_at {rows : List (List Int)} {i : Int} (h0 : 0 ≤ i) (h : i < rows.length) : atI (rowsW rows) i = some (.tup (List.map W.int (rows.getD i.toNat []))) :=
  atI_pos h0 (by unfold rowsW; rw [List.getElem?_map, get_some (d := []) (show i.toNat < rows.length by omega)]; rfl)
def pOther : Pm := fun ws S Kk Ek => ∃ f sc n m few rows, ws = [.ref f, .int m, .tup (rowsW rows)] ∧ 1 ≤ few ∧ RowsOk m few rows ∧ rows.length ≤ 30 ∧ DFd S f sc n ∧ n < 800000 ∧ ∀ rows' S', RowsOk m few rows' → rows'.length ≤ 31 → Kp S S' f → DFd S' f sc (n + 10) → Kk (.tup (rowsW rows')) S'
theorem kOther : Keeps prom2 glob 12 3 b_law_otherwise pOther := by
  rintro ws S Kk Ek ⟨f, sc, n, m, few, rows, rfl, f1, ok, lr, fd, hn, post⟩
  refine ⟨rfl, ?_⟩
  unfold b_law_otherwise
  have lw : (rowsW rows).length = rows.length := by unfold rowsW; rw [List.length_map]
  have m1 := ok.n1
  have m2 := ok.n2
  have f2 := ok.few2
  ((conv => whnf); refine step_ ?_; (conv => whnf)); refine ⟨f, sc, 4, n, rfl, by decide, by decide, fd, by omega, fun way S1 w0 w1 kp1 fd1 => ?_⟩
  obtain ⟨_, _, _, sh⟩ := fine_show (fine_rowsT ok).fine
  (conv => whnf); refine step_ ?_
  (conv => whnf); refine ⟨small rfl, ?_⟩
  (conv => whnf); refine eq_d (.tup (den_rows rows)) (.tup .nil) sh (by decide) ?_
  rw [eqv_nilT]
  (conv => whnf); refine ite_of (fun h => ?_) fun h => ?_
  · ((conv => whnf); refine step_ ?_; (conv => whnf)); exact post rows _ ok (by omega) kp1 (fd1.mono (by omega))
  have hl : 0 < rows.length := by
    cases rows with
    | nil => exact absurd h (by decide)
    | cons _ _ => exact Nat.succ_pos _
  (conv => whnf); refine step_ ?_
  (conv => whnf); refine len_t ?_
  rw [lw]
  (conv => whnf); refine ⟨f, sc, _, n + 1, rfl, by omega, by omega, fd1, by omega, fun at_ S2 a0 a1 kp2 fd2 => ?_⟩
  (conv => whnf); refine len_t ?_
  rw [lw]
  (conv => whnf); refine ⟨f, sc, _, n + 2, rfl, by omega, by omega, fd2, by omega, fun to S3 t0 t1 kp3 fd3 => ?_⟩
  (conv => whnf); refine ⟨rfl, ?_⟩
  have kp03 := (kp1.trans kp2).trans kp3
  have sub1 : ∀ k : Nat, ∀ row ∈ rows.take k, row ∈ rows := fun k row h => List.mem_of_mem_take h
  have sub2 : ∀ k : Nat, ∀ row ∈ rows.drop k, row ∈ rows := fun k row h => List.mem_of_mem_drop h
  (conv => whnf); refine step_ ?_
  (conv => whnf); refine eq_f rfl rfl ?_
  (conv => whnf); refine ite_of (fun h0 => ?_) fun h0 => ?_
  · ((conv => whnf); refine step_ ?_; (conv => whnf)); refine sl_t ?_
    (conv => whnf); refine sl_t ?_
    rw [cut_rows_to a0, cut_rows_from (show 0 ≤ at_ + 1 by omega)]
    (conv => whnf); refine ⟨?_, ?_⟩
    · simp only [List.length_append, rowsW_len, List.length_take, List.length_drop]; exact bigE (by omega)
    rw [← rowsW_app]
    refine post _ _ (rows_sub ok (fun r hr => ?_) ?_) ?_ kp03 (fd3.mono (by omega))
    · rcases List.mem_append.mp hr with hr | hr
      · exact .inl (sub1 _ r hr)
      · exact .inl (sub2 _ r hr)
    · rw [List.length_append, List.length_take, List.length_drop]; omega
    · rw [List.length_append, List.length_take, List.length_drop]; omega
  (conv => whnf); refine step_ ?_
  (conv => whnf); refine eq_f rfl rfl ?_
  (conv => whnf); refine ite_of (fun h1 => ?_) fun h1 => ?_
  · ((conv => whnf); refine step_ ?_; (conv => whnf)); refine sl_t ?_
    rw [cut_rows_to a0]
    (conv => whnf); refine ix_t (row_at t0 t1) ?_
    (conv => whnf); refine ⟨small rfl, ?_⟩
    (conv => whnf); refine ⟨?_, ?_⟩
    · simp only [List.length_append, rowsW_len, List.length_take, List.length_singleton]; exact bigE (by omega)
    (conv => whnf); refine sl_t ?_
    rw [cut_rows_from a0]
    (conv => whnf); refine ⟨?_, ?_⟩
    · simp only [List.length_append, rowsW_len, List.length_take, List.length_drop, List.length_singleton]; exact bigE (by omega)
    rw [show [W.tup (List.map W.int (rows.getD to.toNat []))] = rowsW [rows.getD to.toNat []] from rfl, ← rowsW_app, ← rowsW_app]
    refine post _ _ (rows_sub ok (fun r hr => ?_) ?_) ?_ kp03 (fd3.mono (by omega))
    · rcases List.mem_append.mp hr with hr | hr
      · rcases List.mem_append.mp hr with hr | hr
        · exact .inl (sub1 _ r hr)
        · rw [List.mem_singleton.mp hr]; exact .inl (getD_mem (by omega))
      · exact .inl (sub2 _ r hr)
    · rw [List.length_append, List.length_append, List.length_take, List.length_drop]; show _ + 1 + _ ≤ _; omega
    · rw [List.length_append, List.length_append, List.length_take, List.length_drop]; show _ + 1 + _ ≤ _; omega
  -- the row, turned about
  have hrow : rows.getD at_.toNat [] ∈ rows := getD_mem (by omega)
  have rlen := ok.len _ hrow
  have rball := ok.ball _ hrow
  obtain ⟨row, erow⟩ : ∃ row, row = rows.getD at_.toNat [] := ⟨_, rfl⟩
  have atr := row_at (rows := rows) a0 a1
  rw [← erow] at rlen rball atr
  (conv => whnf); refine step_ ?_
  (conv => whnf); refine ix_t atr ?_
  (conv => whnf); intro q hq
  have qa := fd3.apart hq
  have Sq := fresh_oldD kp03 fd3 hq
  have kp4 : Kp S (S3.put q (.lst (List.map W.int row))) f := kp03.trans (.new hq)
  have fd4 := fd3.new (ce := .lst (List.map W.int row)) hq
  have c4 : (S3.put q (.lst (List.map W.int row))) q = some (.lst (List.map W.int row)) := put_same
  generalize S3.put q (.lst (List.map W.int row)) = S4 at kp4 fd4 c4 ⊢
  have lwr : (List.map W.int row).length = row.length := List.length_map ..
  (conv => whnf); refine step_ ?_
  (conv => whnf); refine len_l c4 ?_
  rw [lwr]
  (conv => whnf); refine ⟨f, sc, _, n + 3, rfl, by omega, by omega, fd4, by omega, fun a S5 x0 x1 kp5 fd5 => ?_⟩
  have c5 := kp5 _ _ qa.1 c4
  (conv => whnf); refine len_l c5 ?_
  rw [lwr]
  (conv => whnf); refine ⟨f, sc, _, n + 4, rfl, by omega, by omega, fd5, by omega, fun b S6 y0 y1 kp6 fd6 => ?_⟩
  have c6 := kp6 _ _ qa.1 c5
  have kp06 := (kp4.trans kp5).trans kp6
  (conv => whnf); refine ⟨rfl, ?_⟩
  (conv => whnf); refine then_join (fun ρ' S' => ∃ (r1 : List Int) (o9 : Option W), ρ' = [some (.ref f), some (.int m), some (.tup (rowsW rows)), some (.int way), some (.int at_), some (.int to), some (.ref q), some (.int a), some (.int b), o9, none, none] ∧ r1.length = few ∧ (∀ d ∈ r1, 0 ≤ d ∧ d < m) ∧ S' q = some (.lst (List.map W.int r1)) ∧ Kp S S' f ∧ DFd S' f sc (n + 5)) (fun nx hnx => ?_) ?_
  · (conv => whnf); refine eq_f rfl rfl ?_
    (conv => whnf); refine ite_of (fun h => ?_) fun h => ?_
    · ((conv => whnf); refine step_ ?_; (conv => whnf)); refine ix_l c6 (int_at x0 x1) ?_
      ((conv => whnf); refine step_ ?_; (conv => whnf)); refine ix_l c6 (int_at y0 y1) ?_
      (conv => whnf); refine set_l c6 (ixN_pos x0 (by rw [lwr]; exact x1)) ?_
      rw [← List.map_set]
      have c7 : (S6.put q (.lst (List.map W.int (row.set a.toNat (row.getD b.toNat 0))))) q = some (.lst (List.map W.int (row.set a.toNat (row.getD b.toNat 0)))) := put_same
      ((conv => whnf); refine step_ ?_; (conv => whnf)); refine set_l c7 (ixN_pos y0 (by rw [List.length_map, List.length_set]; exact y1)) ?_
      rw [← List.map_set]
      (conv => whnf); refine hnx _ _ ⟨(row.set a.toNat (row.getD b.toNat 0)).set b.toNat (row.getD a.toNat 0), _, rfl, by rw [List.length_set, List.length_set]; exact rlen, fun d hd => ?_, put_same, (kp06.putNew Sq).putNew Sq, (fd6.put qa).put qa⟩
      rcases List.mem_or_eq_of_mem_set hd with hd | rfl
      · rcases List.mem_or_eq_of_mem_set hd with hd | rfl
        · exact rball d hd
        · exact rball _ (getD_mem (by omega))
      · exact rball _ (getD_mem (by omega))
    · (conv => whnf); exact hnx _ _ ⟨row, _, rfl, rlen, rball, c6, kp06, fd6⟩
  rintro ρ' S7 ⟨r1, o9, rfl, l1, b1, c7, kp7, fd7⟩
  (conv => whnf); refine step_ ?_
  (conv => whnf); refine ⟨by omega, ?_⟩
  refine comp_fil _ (fun (j : Nat) => !decide ((j : Int) ∈ r1)) (fun j => .int (j : Nat)) (big (by show (rgList _ _ _).length ≤ _; rw [rgList_len]; omega)) (fun _ _ => trivial) ?_ ?_
  · intro j x S8 KT KF hx kp8 hT hF
    obtain ⟨hj, rfl⟩ := rg_at hx
    have ej : (0 : Int) + (j : Nat) * 1 = (j : Int) := by omega
    rw [ej]
    (conv => whnf); refine in_l (kp_all kp8 _ _ c7) rfl (ints_flat _) (any_int _ _) ?_
    (conv => whnf); refine ite_of (fun h => ?_) fun h => ?_
    · (conv => whnf); exact hT h _ kp8
    · exact hF h _ kp8
  intro S8 kp8 p8 h8
  obtain ⟨free, hf⟩ : ∃ free : List Int, free = (((List.range (wkFix (rgList 0 1 m.toNat)).items.length).filter (fun (j : Nat) => !decide ((j : Int) ∈ r1))).map fun (j : Nat) => (j : Int)) := ⟨_, rfl⟩
  have ef : ((List.range (wkFix (rgList 0 1 m.toNat)).items.length).filter (fun (j : Nat) => !decide ((j : Int) ∈ r1))).map (fun (j : Nat) => W.int (j : Nat)) = List.map W.int free := by rw [hf, List.map_map]; rfl
  have fball : ∀ d ∈ free, 0 ≤ d ∧ d < m := fun d hd => by
    rw [hf] at hd
    obtain ⟨j, hj, rfl⟩ := List.mem_map.mp hd
    have := List.mem_range.mp (List.mem_filter.mp hj).1
    rw [fix_rg] at this
    omega
  have lfr : free.length ≤ 16 := by
    rw [hf, List.length_map, fix_rg]
    have := List.length_filter_le (fun j : Nat => !decide ((j : Int) ∈ r1)) (List.range m.toNat)
    rw [List.length_range] at this
    omega
  rw [ef]
  have kp9 : Kp S (S8.put p8 (.lst (List.map W.int free))) f := (kp7.trans (kp8 f)).trans (.new h8)
  have fd9 : DFd (S8.put p8 (.lst (List.map W.int free))) f sc (n + 5) := (fd7.sub (kp_all kp8)).new h8
  have c9 : (S8.put p8 (.lst (List.map W.int free))) q = some (.lst (List.map W.int r1)) := up_new h8 (kp_all kp8 _ _ c7)
  have f9 : (S8.put p8 (.lst (List.map W.int free))) p8 = some (.lst (List.map W.int free)) := put_same
  generalize S8.put p8 (.lst (List.map W.int free)) = S9 at kp9 fd9 c9 f9 ⊢
  (conv => whnf); refine then_join (fun ρ' S' => ∃ (r2 : List Int) (o10 o11 : Option W), ρ' = [some (.ref f), some (.int m), some (.tup (rowsW rows)), some (.int way), some (.int at_), some (.int to), some (.ref q), some (.int a), some (.int b), o9, o10, o11] ∧ r2.length = few ∧ (∀ d ∈ r2, 0 ≤ d ∧ d < m) ∧ S' q = some (.lst (List.map W.int r2)) ∧ Kp S S' f ∧ DFd S' f sc (n + 6)) (fun nx hnx => ?_) ?_
  · (conv => whnf); refine eq_f rfl rfl ?_
    (conv => whnf); refine ite_of (fun h => ?_) fun h => ?_
    · (conv => whnf); refine ⟨small rfl, fun p hp => ?_⟩
      (conv => whnf); refine eq_d (.lst (.inl (up_new hp f9)) (dens_ints free)) (.lst (.inl put_same) .nil) (shaped_ints free) (by decide) ?_
      rw [eqv_nil]
      (conv => whnf); refine ite_of (fun h => ?_) fun h => ?_
      · have hfl : 0 < free.length := by
          cases free with
          | nil => exact absurd h (by decide)
          | cons _ _ => exact Nat.succ_pos _
        ((conv => whnf); refine step_ ?_; (conv => whnf)); refine len_l (up_new hp f9) ?_
        rw [show (List.map W.int free).length = free.length from List.length_map ..]
        (conv => whnf); refine ⟨f, sc, _, n + 5, rfl, by omega, by omega, fd9.new hp, by omega, fun c S10 z0 z1 kp10 fd10 => ?_⟩
        have p8a : p8 ≠ f := fun z => by rw [z] at h8; obtain ⟨_, e⟩ := (fd7.sub (kp_all kp8)).own; rw [h8] at e; cases e
        (conv => whnf); refine ix_l (kp10 _ _ p8a (up_new hp f9)) (int_at z0 z1) ?_
        (conv => whnf); refine set_l (kp10 _ _ qa.1 (up_new hp c9)) (ixN_pos x0 (by rw [List.length_map, l1, ← rlen]; exact x1)) ?_
        rw [← List.map_set]
        (conv => whnf); refine hnx _ _ ⟨r1.set a.toNat (free.getD c.toNat 0), _, _, rfl, by rw [List.length_set]; exact l1, fun d hd => ?_, put_same, ((kp9.trans (.new hp)).trans kp10).putNew Sq, fd10.put qa⟩
        rcases List.mem_or_eq_of_mem_set hd with hd | rfl
        · exact b1 d hd
        · exact fball _ (getD_mem (by omega))
      · (conv => whnf); exact hnx _ _ ⟨r1, _, _, rfl, l1, b1, up_new hp c9, kp9.trans (.new hp), (fd9.new hp).mono (by omega)⟩
    · (conv => whnf); exact hnx _ _ ⟨r1, _, _, rfl, l1, b1, c9, kp9, fd9.mono (by omega)⟩
  rintro ρ' S10 ⟨r2, o10, o11, rfl, l2, b2, c10, kp10, fd10⟩
  ((conv => whnf); refine step_ ?_; (conv => whnf)); refine sl_t ?_
  rw [cut_rows_to a0]
  (conv => whnf); refine ⟨_, .inl c10, ?_⟩
  (conv => whnf); refine ⟨small rfl, ?_⟩
  (conv => whnf); refine ⟨?_, ?_⟩
  · simp only [List.length_append, rowsW_len, List.length_take, List.length_singleton]; exact bigE (by omega)
  (conv => whnf); refine sl_t ?_
  rw [cut_rows_from (show 0 ≤ at_ + 1 by omega)]
  (conv => whnf); refine ⟨?_, ?_⟩
  · simp only [List.length_append, rowsW_len, List.length_take, List.length_drop, List.length_singleton]; exact bigE (by omega)
  rw [show [W.tup (List.map W.int r2)] = rowsW [r2] from rfl, ← rowsW_app, ← rowsW_app]
  refine post _ _ (rows_sub ok (fun r hr => ?_) ?_) ?_ kp10 (fd10.mono (by omega))
  · rcases List.mem_append.mp hr with hr | hr
    · rcases List.mem_append.mp hr with hr | hr
      · exact .inl (sub1 _ r hr)
      · rw [List.mem_singleton.mp hr]; exact .inr ⟨l2, b2⟩
    · exact .inl (sub2 _ r hr)
  · rw [List.length_append, List.length_append, List.length_take, List.length_drop]; show _ + 1 + _ ≤ _; omega
  · rw [List.length_append, List.length_append, List.length_take, List.length_drop]; show _ + 1 + _ ≤ _; omega
end Dp.K33
namespace Dp.K33
open PySem PySem.Spec L2
open PyProof.Rows hiding St

/-! ### sums over places -/
def sumR (N : Nat) (f : Nat → Int) : Int := ((List.range N).map f).sum
theorem sumR_succ (N : Nat) (f : Nat → Int) : sumR (N + 1) f = sumR N f + f N := by
  unfold sumR
  rw [List.range_succ, List.map_append, List.sum_append, List.map_cons, List.map_nil, List.sum_cons, List.sum_nil, Int.add_zero]
theorem sumR_congr {f g : Nat → Int} : ∀ {N : Nat}, (∀ k, k < N → f k = g k) → sumR N f = sumR N g
  | 0, _ => rfl
  | N + 1, h => by rw [sumR_succ, sumR_succ, sumR_congr fun k hk => h k (by omega), h N (by omega)]
theorem sumR_add (f g : Nat → Int) : ∀ N : Nat, sumR N f + sumR N g = sumR N fun k => f k + g k
  | 0 => rfl
  | N + 1 => by rw [sumR_succ, sumR_succ, sumR_succ, ← sumR_add f g N]; omega
theorem sumR_sub (f g : Nat → Int) : ∀ N : Nat, sumR N f - sumR N g = sumR N fun k => f k - g k
  | 0 => rfl
  | N + 1 => by rw [sumR_succ, sumR_succ, sumR_succ, ← sumR_sub f g N]; omega
theorem sumR_zero {f : Nat → Int} : ∀ {N : Nat}, (∀ k, k < N → f k = 0) → sumR N f = 0
  | 0, _ => rfl
  | N + 1, h => by rw [sumR_succ, sumR_zero fun k hk => h k (by omega), h N (by omega)]; rfl
theorem sumR_const (c : Int) : ∀ N : Nat, sumR N (fun _ => c) = N * c
  | 0 => by rw [show sumR 0 (fun _ => c) = 0 from rfl]; omega
  | N + 1 => by rw [sumR_succ, sumR_const c N]; push_cast; rw [Int.add_mul, Int.one_mul]
theorem sumR_one {v : Int} : ∀ {N : Nat}, 0 ≤ v → v < N → sumR N (fun b => if v = (b : Int) then 1 else 0) = 1
  | 0, h, h' => by omega
  | N + 1, h, h' => by
    rw [sumR_succ]
    by_cases e : v = (N : Int)
    · rw [if_pos e, sumR_zero fun k hk => if_neg (by omega)]; rfl
    · rw [if_neg e, sumR_one h (by omega)]; rfl
theorem count_all {N : Nat} : ∀ {vs : List Int}, (∀ v ∈ vs, 0 ≤ v ∧ v < N) → sumR N (fun b => (vs.count (b : Int) : Int)) = vs.length
  | [], _ => sumR_zero fun _ _ => rfl
  | v :: vs, h => by
    have hv := h v (List.mem_cons_self ..)
    have e : ∀ b : Nat, b < N → (((v :: vs).count (b : Int) : Nat) : Int) = (vs.count (b : Int) : Int) + (if v = (b : Int) then 1 else 0) := fun b _ => by
      rw [List.count_cons]
      by_cases e : v = (b : Int)
      · rw [if_pos e, if_pos (by simpa using e)]; rfl
      · rw [if_neg e, if_neg (by simpa using e)]; rfl
    rw [sumR_congr e, ← sumR_add (fun b => (vs.count (b : Int) : Int)), sumR_one hv.1 hv.2, count_all fun x hx => h x (List.mem_cons_of_mem _ hx)]; rfl
/-! ### what comes to each ball over all draws -/
theorem prs_range {ss : List (Int × Int)} {ds : List Int} (l : ss.length = ds.length) : prsL ss ds = (List.range ss.length).map fun k => (ds.getD k 0, (ss.getD k (0, 0)).2) := by
  apply List.ext_getElem?
  intro i
  by_cases h : i < ss.length
  · rw [prs_at (by omega) h, List.getElem?_map, List.getElem?_range h]; rfl
  · rw [List.getElem?_eq_none (by unfold prsL; rw [List.length_zip, List.length_map]; omega), List.getElem?_eq_none (by rw [List.length_map, List.length_range]; omega)]
theorem gets_range {n : Int} {ss : List (Int × Int)} {ds : List Int} (l : ss.length = ds.length) (b : Int) : getsL n (prsL ss ds) b = sumR ss.length fun k => if ds.getD k 0 = b then n * (ss.getD k (0, 0)).2 else 0 := by
  unfold getsL sumR
  rw [prs_range l, List.map_map]; rfl
theorem worth_range (ss : List (Int × Int)) : (ss.map (·.2)).sum = sumR ss.length fun k => (ss.getD k (0, 0)).2 := by
  unfold sumR
  rw [range_map (0, 0) (fun s : Int × Int => s.2) ss]
theorem count_cons_at (row : List Int) (rows : List (List Int)) (k : Nat) (b : Int) : (countAt (row :: rows) k b : Int) = (if row.getD k 0 = b then 1 else 0) + (countAt rows k b : Int) := by
  unfold countAt colL
  rw [List.map_cons, List.count_cons]
  by_cases e : row.getD k 0 = b
  · rw [if_pos e, if_pos (by simpa using e)]; omega
  · rw [if_neg e, if_neg (by simpa using e)]; omega
def withS (ss : List (Int × Int)) (rows : List (List Int)) : List Drw := rows.map fun row => (ss, row)
theorem dues_total (n : Int) (ss : List (Int × Int)) (b : Int) : ∀ rows : List (List Int), (∀ row ∈ rows, row.length = ss.length) → duesOf n (withS ss rows) b = sumR ss.length fun k => n * (ss.getD k (0, 0)).2 * (countAt rows k b : Int) - rows.length * (ss.getD k (0, 0)).2
  | [], _ => by
    rw [sumR_zero fun k _ => ?_]
    · rfl
    · show n * _ * ((0 : Nat) : Int) - ((0 : Nat) : Int) * _ = 0
      simp
  | row :: rows, h => by
    have l := h row (List.mem_cons_self ..)
    have ih := dues_total n ss b rows fun r hr => h r (List.mem_cons_of_mem _ hr)
    have e : duesOf n (withS ss (row :: rows)) b = dueOne n (ss, row) b + duesOf n (withS ss rows) b := by
      unfold duesOf withS
      rw [List.map_cons, List.map_cons, List.sum_cons]
    rw [e, ih]
    show getsL n (prsL ss row) b - (ss.map (·.2)).sum + _ = _
    rw [gets_range l.symm, worth_range, sumR_sub, sumR_add]
    refine sumR_congr fun k hk => ?_
    rw [count_cons_at, List.length_cons]
    push_cast
    rw [Int.mul_add, Int.add_mul, Int.one_mul]
    split
    · rw [Int.mul_one]; omega
    · rw [Int.mul_zero]; omega
theorem fair_iff {n : Int} {few : Nat} {rows : List (List Int)} : fairB n few rows = true ↔ ∀ k b : Nat, k < few → b < n.toNat → countAt rows k (b : Int) = countAt rows k 0 := by
  unfold fairB fairAt
  simp only [List.all_eq_true, List.mem_range, decide_eq_true_eq]
  exact ⟨fun h k b hk hb => h k hk b hb, fun h k hk b hb => h k b hk hb⟩
theorem fair_dues {n : Int} {ss : List (Int × Int)} {rows : List (List Int)} (ok : RowsOk n ss.length rows) (h : fairB n ss.length rows = true) {b : Nat} (hb : b < n.toNat) : duesOf n (withS ss rows) (b : Int) = 0 := by
  rw [dues_total n ss b rows ok.len]
  refine sumR_zero fun k hk => ?_
  have n1 := ok.n1
  have hf := fair_iff.mp h
  have hall : sumR n.toNat (fun b => (countAt rows k (b : Int) : Int)) = rows.length := by
    have := count_all (N := n.toNat) (vs := colL rows k) fun v hv => by
      obtain ⟨row, hr, rfl⟩ := List.mem_map.mp hv
      have := ok.ball row hr _ (getD_mem (d := 0) (by rw [ok.len row hr]; exact hk))
      omega
    rw [show (colL rows k).length = rows.length from List.length_map ..] at this
    exact this
  rw [sumR_congr (g := fun _ => (countAt rows k (b : Int) : Int)) fun c hc => by rw [hf k c hk hc, hf k b hk hb], sumR_const, Int.toNat_of_nonneg (by omega)] at hall
  rw [← hall, Int.mul_right_comm n, Int.sub_self]
/-! ### the rows of counts -/
theorem dens_refs {S : Sto} (g : Nat → List Int) : ∀ {as : List Addr}, (∀ j a, as[j]? = some a → S a = some (.lst (List.map W.int (g j)))) → Dens S (as.map W.ref) ((List.range as.length).map fun j => .list ((g j).map PyData.int))
  | [], _ => .nil
  | a :: as, h => by
    rw [List.length_cons, List.range_succ_eq_map, List.map_cons, List.map_cons, List.map_map]
    exact .cons (.lst (.inl (h 0 a rfl)) (dens_ints _)) (dens_refs (fun j => g (j + 1)) fun j b hb => h (j + 1) b hb)
theorem eqv_ints : ∀ a b : List Int, PyData.eqv (.list (a.map PyData.int)) (.list (b.map PyData.int)) = decide (a = b)
  | [], [] => rfl
  | [], _ :: _ => rfl
  | _ :: _, [] => rfl
  | x :: a, y :: b => by
    have ih := eqv_ints a b
    have ih : PyData.eqvAll (a.map PyData.int) (b.map PyData.int) = decide (a = b) := ih
    show (x == y && PyData.eqvAll (a.map PyData.int) (b.map PyData.int)) = _
    rw [ih]
    by_cases e : x = y
    · subst e; simp
    · have : (x == y) = false := by simpa using e
      rw [this]; simp [e]
theorem due_fair {n : Int} {few : Nat} {rows : List (List Int)} : ((List.range n.toNat).map fun j => PyData.list ((cntR rows few j).map PyData.int)).all (fun d => !(!PyData.eqv d (.list ((cntR rows few 0).map PyData.int)))) = fairB n few rows := by
  rw [Bool.eq_iff_iff, fair_iff]
  simp only [List.all_map, List.all_eq_true, List.mem_range, Function.comp, Bool.not_not, eqv_ints, decide_eq_true_eq]
  constructor
  · intro h k b hk hb
    have := List.map_inj_left.mp (h b hb) k (List.mem_range.mpr hk)
    exact Int.ofNat.inj this
  · intro h b hb
    refine List.map_inj_left.mpr fun k hk => ?_
    have := h k b (List.mem_range.mp hk) hb
    show ((countAt rows k (b : Int) : Nat) : Int) = ((countAt rows k 0 : Nat) : Int)
    rw [this]
end Dp.K33
namespace Dp.K33
open PySem PySem.Spec L2
open PyProof.Rows hiding St

def prom : Nat → Pm
  | 0 => pDues
  | 1 => pAre
  | 2 => pDrawn
  | 3 => pFeedD
  | 4 => pDrawD
  | 5 => pOrder
  | 6 => pStrips
  | 7 => pPairs
  | 8 => pFair
  | 9 => pOther
  | 10 => pCounts
  | 11 => pRight
  | _ => fun _ _ _ _ => False
def pLaw : Pm := fun ws S Kk Ek => ∃ z ns, ws = [z] ∧ ((∃ b, z = .ref b ∧ S b = some (.frz (List.map W.int ns))) ∨ z = .kls (List.map W.int ns)) ∧ ns.length ≤ 63 ∧ ∀ S', Kk (.bl true) S'
def pD (p : Drw) : PyData := .tuple [.tuple (p.1.map pairD), .tuple (p.2.map PyData.int)]
theorem fine_pw {m : Int} {p : Drw} (hm : m ≤ 16) (ok : DrwOk m p.1 p.2) : FinD 3 738 (pD p) := by
  have l1 := ok.len
  have l2 := ok.few
  have dp := fd_tup (k := 1) (B := 22) (ds := p.1.map pairD) (fd_pairs (b := 10) (fun q hq => by have := ok.lo q hq; omega) (by decide) (by decide)) (by decide) (by rw [List.length_map]; omega)
  have dd := fd_tup (k := 0) (B := 5) (ds := p.2.map PyData.int) (fd_ints (fun x hx => by have := ok.ball x hx; omega) (by decide) (by decide)) (by decide) (by rw [List.length_map]; omega)
  rw [List.length_map] at dp dd
  refine (fd_tup (k := 2) (B := 368) (fun e he => ?_) (by decide) (by show 369 * 2 ≤ _; decide)).mono (by decide) (by show 369 * 2 ≤ _; decide)
  simp only [List.mem_cons, List.not_mem_nil, or_false] at he
  rcases he with rfl | rfl
  · exact dp.mono (by decide) (by omega)
  · exact dd.mono (by decide) (by omega)
theorem fine_pps {m : Int} {pp : List Drw} (hm : m ≤ 16) (l : pp.length ≤ 5) (h : ∀ p ∈ pp, DrwOk m p.1 p.2) : FinD 4 3695 (.tuple (pp.map pD)) := by
  have := fd_tup (k := 3) (B := 738) (ds := pp.map pD) (fun d hd => by obtain ⟨p, hp, rfl⟩ := List.mem_map.mp hd; exact fine_pw hm (h p hp)) (by decide) (by rw [List.length_map]; omega)
  rw [List.length_map] at this
  exact this.mono (by decide) (by omega)
theorem den_pps {S : Sto} : ∀ pp : List Drw, Dens S (pp.map pW) (pp.map pD)
  | [] => .nil
  | p :: pp => .cons (.tup (.cons (.tup (dens_pairs p.1)) (.cons (den_ints p.2) .nil))) (den_pps pp)
theorem sb : ∀ b : Bool, (PyData.bool b).shown.length ≤ sizeLine := fun b => by cases b <;> exact Nat.le_trans (show _ ≤ 10 by decide) (by decide)
theorem filtG {g : Sto → Prop} {cd : WT} {v : Nat} {ρ : Ro} {F : List W → Sto → Prop} {S : Sto} {ws : List W} {ds : List PyData} (h : Dens S ws ds) (q : PyData → Bool) (hl : ws.length < sizeLine) (hg : ∀ S', (∀ g, Kp S S' g) → g S') (hv : ∀ w, rget (rset ρ v (some w)) v = some w)
    (step : ∀ w d S' (Kt : Bool → Sto → Prop), d ∈ ds → Den S' w d → (∀ g, Kp S S' g) → (∀ S'', (∀ g, Kp S S'' g) → Kt (q d) S'') → cd (rset ρ v (some w)) S' Kt (fun _ _ => False))
    (fin : ∀ acc S', Dens S' acc (ds.filter q) → (∀ g, Kp S S' g) → F acc S') : compW g (wgOf (.nm v)) cd (mVar v) ρ F ws [] S := by
  refine comp_inv (fun i acc S' => Dens S acc ((ds.take i).filter q) ∧ acc.length ≤ i ∧ i ≤ ws.length ∧ ∀ g, Kp S S' g) ws ⟨by simp; exact .nil, Nat.zero_le _, Nat.zero_le _, fun g => .refl⟩ (fun _ _ _ h => hg _ h.2.2.2) ?_ ?_
  · rintro i w acc S' nx hw ⟨hd, l1, l2, kp⟩ hnx
    obtain ⟨d, e, dd⟩ := h.get hw
    have hi := (List.getElem?_eq_some_iff.mp hw).1
    refine step w d S' _ (List.mem_of_getElem? e) (dd.sub (kp_all kp)) kp fun S'' kp' => ?_
    refine ite_of (fun hq => ?_) fun hq => ?_
    · show mVar v _ S'' _ _
      unfold mVar
      rw [hv w]
      refine ⟨by omega, hnx _ _ ⟨?_, by rw [List.length_append]; show acc.length + 1 ≤ _; omega, hi, kp'⟩⟩
      rw [List.take_add_one, e, List.filter_append]
      refine hd.append ?_
      show Dens S [w] ((List.filter q [d]))
      rw [List.filter_cons, if_pos hq]
      exact .cons dd .nil
    · refine hnx _ _ ⟨?_, by omega, hi, kp'⟩
      rw [List.take_add_one, e, List.filter_append]
      show Dens S acc (_ ++ List.filter q [d])
      rw [List.filter_cons, if_neg (by rw [hq]; decide)]
      simpa using hd
  · rintro acc S' ⟨hd, l1, l2, kp⟩
    rw [h.length, List.take_length] at hd
    exact fin acc S' (hd.sub (kp_all kp)) kp
theorem kLaw : Keeps prom glob 22 1 b_law pLaw := by
  rintro ws S Kk Ek ⟨z, ns, rfl, hz, hl, post⟩
  refine ⟨rfl, ?_⟩
  unfold b_law
  ((conv => whnf); refine step_ ?_; (conv => whnf)); refine ⟨z, ns, rfl, hz, hl, fun f sc S1 fd1 => ?_⟩
  ((conv => whnf); refine step_ ?_; (conv => whnf)); refine ⟨f, sc, 16, 0, rfl, by decide, by decide, fd1, by decide, fun m0 S2 a0 a1 kp2 fd2 => ?_⟩
  obtain ⟨m, em⟩ : ∃ m : Int, m = 1 + m0 := ⟨_, rfl⟩
  (conv => whnf)
  rw [← em]
  have m1 : 1 ≤ m := by omega
  have m2 : m ≤ 16 := by omega
  ((conv => whnf); refine step_ ?_; (conv => whnf)); refine ⟨f, sc, _, m, rfl, m1, m2, fd2, by decide, fun pp S3 l3 ok3 kp3 fd3 => ?_⟩
  (conv => whnf); refine ⟨f, sc, _, m, rfl, m1, m2, fd3, by decide, fun qq S4 l4 ok4 kp4 fd4 => ?_⟩
  (conv => whnf); refine ⟨small rfl, fun p0 h0 => ?_⟩
  have p0f := (fd4.apart h0).1
  have fd5 := fd4.new (ce := .lst [.tup (pp.map pW), .tup (qq.map pW)]) h0
  have c5 : (S4.put p0 (.lst [.tup (pp.map pW), .tup (qq.map pW)])) p0 = some (.lst [.tup (pp.map pW), .tup (qq.map pW)]) := put_same
  generalize S4.put p0 (.lst [.tup (pp.map pW), .tup (qq.map pW)]) = S5 at fd5 c5 ⊢
  have frow : FinD 5 7392 (.list [.tuple (pp.map pD), .tuple (qq.map pD)]) := by
    refine (fd_lst (k := 4) (B := 3695) (fun e he => ?_) (by decide) (by show 3696 * 2 ≤ _; decide)).mono (by decide) (by show 3696 * 2 ≤ _; decide)
    simp only [List.mem_cons, List.not_mem_nil, or_false] at he
    rcases he with rfl | rfl
    · exact fine_pps m2 l3 fun p h => (ok3 p h).1
    · exact fine_pps m2 l4 fun p h => (ok4 p h).1
  have drow : ∀ S : Sto, S p0 = some (.lst [.tup (pp.map pW), .tup (qq.map pW)]) → Den S (.ref p0) (.list [.tuple (pp.map pD), .tuple (qq.map pD)]) := fun S h => .lst (.inl h) (.cons (.tup (den_pps pp)) (.cons (.tup (den_pps qq)) .nil))
  obtain ⟨r1, r2, r3⟩ := frow.show_
  ((conv => whnf); refine step_ ?_; (conv => whnf)); refine repr_a (drow _ c5) r1 r2 r3 ?_
  obtain ⟨seen, eseen⟩ : ∃ seen, seen = (PyData.list [.tuple (pp.map pD), .tuple (qq.map pD)]).shown := ⟨_, rfl⟩
  (conv => whnf)
  rw [← eseen]
  (conv => whnf); refine step_ ?_
  (conv => whnf); refine sl_l (.inl c5) fun p1 h1 => ?_
  rw [show cutW [W.tup (pp.map pW), .tup (qq.map pW)] none (some 1) = [.tup (pp.map pW)] from by rw [cut_to (by decide)]; rfl]
  (conv => whnf); refine ⟨_, _, up_new h1 c5, put_same, small rfl, fun p2 h2 => ?_⟩
  have kp7 : ∀ g, Kp S5 ((S5.put p1 (.lst [.tup (pp.map pW)])).put p2 (.lst ([.tup (pp.map pW), .tup (qq.map pW)] ++ [.tup (pp.map pW)]))) g := fun g => Kp.trans (.new h1) (.new h2)
  have c7 := kp_all kp7 _ _ c5
  have fd7 := fd5.sub (kp_all kp7)
  have t7 : ((S5.put p1 (.lst [.tup (pp.map pW)])).put p2 (.lst ([.tup (pp.map pW), .tup (qq.map pW)] ++ [.tup (pp.map pW)]))) p2 = some (.lst ([pp, qq, pp].map fun x : List Drw => W.tup (x.map pW))) := put_same
  generalize ((S5.put p1 (.lst [.tup (pp.map pW)])).put p2 (.lst ([.tup (pp.map pW), .tup (qq.map pW)] ++ [.tup (pp.map pW)]))) = S7 at c7 fd7 t7 ⊢
  have hall : ∀ x ∈ ([pp, qq, pp] : List (List Drw)), x.length ≤ 5 ∧ ∀ p ∈ x, DrwOk m p.1 p.2 ∧ p.2.Nodup := fun x hx => by
    simp only [List.mem_cons, List.not_mem_nil, or_false] at hx
    rcases hx with rfl | rfl | rfl
    · exact ⟨l3, ok3⟩
    · exact ⟨l4, ok4⟩
    · exact ⟨l3, ok3⟩
  generalize ([pp, qq, pp] : List (List Drw)) = all at t7 hall ⊢
  (conv => whnf); refine ⟨_, .inl t7, ?_⟩
  refine for_inv (fun i ρ' S' => ∃ o5, ρ' = [some z, some (.ref f), some (.int m), some (.ref p0), some (.str seen), o5, none, none, none, none, none, none, none, none, none, none, none, none, none, none, none, none] ∧ S' p2 = some (.lst (all.map fun x : List Drw => W.tup (x.map pW))) ∧ S' p0 = some (.lst [.tup (pp.map pW), .tup (qq.map pW)]) ∧ DFd S' f sc 601) _ ⟨_, rfl, t7, c7, fd7⟩ (fun i ρ S h => by obtain ⟨_, _, h, _⟩ := h; exact .inl h) ?_ ?_
  · rintro i w ρ' S8 nx' hw ⟨o5, rfl, t8, c8, fd8⟩ hnx'
    obtain ⟨x, hm, rfl⟩ := List.mem_map.mp (List.mem_of_getElem? (show (all.map fun x : List Drw => W.tup (x.map pW))[i]? = some w from hw))
    obtain ⟨lx, okx⟩ := hall _ hm
    ((conv => whnf); refine step_ ?_; (conv => whnf)); refine ⟨m, x, rfl, m1, m2, by omega, okx, fun S9 kp9 => ?_⟩
    (conv => whnf); exact hnx' _ _ ⟨_, rfl, kp_all kp9 _ _ t8, kp_all kp9 _ _ c8, fd8.sub (kp_all kp9)⟩
  rintro ρ' S8 ⟨o5, rfl, t8, c8, fd8⟩
  clear t7 t8 hall all c7 c5 h2 h1 kp7 fd7 hz
  ((conv => whnf); refine step_ ?_; (conv => whnf)); refine ⟨f, sc, m, _, rfl, by omega, by omega, fd8, by decide, fun fw0 S9 b0 b1 kp9 fd9 => ?_⟩
  have c9 := kp9 _ _ p0f c8
  obtain ⟨fw, ef⟩ : ∃ fw : Int, fw = 1 + fw0 := ⟨_, rfl⟩
  (conv => whnf)
  rw [← ef]
  have f1 : 1 ≤ fw := by omega
  have f2 : fw ≤ m := by omega
  ((conv => whnf); refine step_ ?_; (conv => whnf)); refine ⟨f, sc, _, fw, rfl, f1, by omega, fd9, by decide, fun ss S10 s1 s2 kp10 fd10 => ?_⟩
  have c10 := kp10 _ _ p0f c9
  ((conv => whnf); refine step_ ?_; (conv => whnf)); refine ⟨f, sc, _, m, fw, rfl, m1, m2, f1, f2, fd10, by decide, fun fair S11 ok11 l11 fb11 kp11 fd11 => ?_⟩
  rw [← s1] at ok11 fb11
  have c11 := kp11 _ _ p0f c10
  ((conv => whnf); refine step_ ?_; (conv => whnf)); refine ⟨f, sc, _, m, _, fair, rfl, by omega, ok11, by omega, fd11, by decide, fun ra S12 oka la kp12 fd12 => ?_⟩
  (conv => whnf); refine ⟨f, sc, _, m, _, fair, rfl, by omega, ok11, by omega, fd12, by decide, fun rb S13 okb lb kp13 fd13 => ?_⟩
  (conv => whnf); refine ⟨small rfl, fun p3 h3 => ?_⟩
  have c13 := kp13 _ _ p0f (kp12 _ _ p0f c11)
  have n30 := new_ne h3 c13
  have p3a := fd13.apart h3
  have p0p3 : p0 ≠ p3 := n30
  have fd14 := fd13.new (ce := .lst ([fair, ra, rb, fair].map fun r => W.tup (rowsW r))) h3
  have c14 : (S13.put p3 (.lst ([fair, ra, rb, fair].map fun r => W.tup (rowsW r)))) p0 = some (.lst [.tup (pp.map pW), .tup (qq.map pW)]) := up_new h3 c13
  have q14 : (S13.put p3 (.lst ([fair, ra, rb, fair].map fun r => W.tup (rowsW r)))) p3 = some (.lst ([fair, ra, rb, fair].map fun r => W.tup (rowsW r))) := put_same
  have e14 : S13.put p3 (.lst [.tup (rowsW fair), .tup (rowsW ra), .tup (rowsW rb), .tup (rowsW fair)]) = S13.put p3 (.lst ([fair, ra, rb, fair].map fun r => W.tup (rowsW r))) := rfl
  rw [e14]
  generalize S13.put p3 (.lst ([fair, ra, rb, fair].map fun r => W.tup (rowsW r))) = S14 at fd14 c14 q14 ⊢
  ((conv => whnf); refine step_ ?_; (conv => whnf)); refine ⟨small rfl, fun p4 h4 => ?_⟩
  have p4a := fd14.apart h4
  have p0p4 : p0 ≠ p4 := new_ne h4 c14
  have p3p4 : p3 ≠ p4 := new_ne h4 q14
  ((conv => whnf); refine step_ ?_; (conv => whnf)); refine ⟨f, sc, 5, _, rfl, by decide, by decide, fd14.new h4, by decide, fun c S15 x0 x1 kp15 fd15 => ?_⟩
  (conv => whnf); refine ⟨by omega, ?_⟩
  have ln := nums_len m
  refine for_inv (fun i ρ' S' => ∃ (more : List (List Int)) (o11 : Option W), ρ' = [some z, some (.ref f), some (.int m), some (.ref p0), some (.str seen), o5, some (.int fw), some (.tup (ss.map pairW)), some (.tup (rowsW fair)), some (.ref p3), some (.ref p4), o11, none, none, none, none, none, none, none, none, none, none] ∧ more.length = i ∧ RowsOk m ss.length more ∧ S' p4 = some (.lst (rowsW more)) ∧ S' p3 = some (.lst ([fair, ra, rb, fair].map fun r => W.tup (rowsW r))) ∧ S' p0 = some (.lst [.tup (pp.map pW), .tup (qq.map pW)]) ∧ DFd S' f sc (2000 + 100 * i)) _ ⟨[], _, rfl, rfl, ⟨m1, m2, by omega, Nat.zero_le _, none_in, none_in⟩, kp15 _ _ p4a.1 put_same, kp15 _ _ p3a.1 (up_new h4 q14), kp15 _ _ p0f (up_new h4 c14), fd15.mono (by decide)⟩ (fun _ _ _ _ => trivial) ?_ ?_
  · rintro i y ρ' S16 nx hy ⟨more, o11, rfl, l16, ok16, m16, q16, c16, fd16⟩ hnx
    obtain ⟨hi, rfl⟩ := rg_at hy
    have hi : i < 5 := by omega
    ((conv => whnf); refine step_ ?_; (conv => whnf)); refine ⟨_, List.mem_singleton.mpr rfl, .inl ⟨rfl, _, .inl m16⟩, ?_⟩
    (conv => whnf); refine ⟨⟨by decide, by decide, by omega, by omega, by omega⟩, fun r hr => ?_⟩
    rw [rg_ints, show (List.range m.toNat).map (fun (i : Nat) => (i : Int)) = nums m from rfl]
    (conv => whnf); refine ⟨f, sc, _, _, _, rfl, put_same, by rw [List.length_map, ln]; omega, fd16.new hr, by omega, fun ys p S17 pe hp Sp kp17 fd17 => ?_⟩
    obtain ⟨zs, rfl, pz⟩ := perm_back unI (fun _ => rfl) pe
    rw [List.length_map, ln] at fd17
    (conv => whnf); refine sl_l (.inl hp) fun p5 h5 => ?_
    have e : cutW (List.map W.int zs) none (some fw) = List.map W.int (zs.take fw.toNat) := by rw [cut_to (by omega), List.map_take]
    rw [e]
    have m17 : (S17.put p5 (.lst (List.map W.int (zs.take fw.toNat)))) p4 = some (.lst (rowsW more)) := up_new h5 (kp17 _ _ p4a.1 (up_new hr m16))
    have q17 : (S17.put p5 (.lst (List.map W.int (zs.take fw.toNat)))) p3 = some (.lst ([fair, ra, rb, fair].map fun r => W.tup (rowsW r))) := up_new h5 (kp17 _ _ p3a.1 (up_new hr q16))
    have c17 : (S17.put p5 (.lst (List.map W.int (zs.take fw.toNat)))) p0 = some (.lst [.tup (pp.map pW), .tup (qq.map pW)]) := up_new h5 (kp17 _ _ p0f (up_new hr c16))
    have fd18 := fd17.new (ce := .lst (List.map W.int (zs.take fw.toNat))) h5
    (conv => whnf); refine ⟨_, .inl put_same, ?_⟩
    have lz : zs.length = m.toNat := by rw [pz.length_eq, ln]
    (conv => whnf); refine ⟨_, m17, by rw [rowsW_len, l16]; exact big (by omega), ?_⟩
    (conv => whnf); refine hnx _ _ ⟨more ++ [zs.take fw.toNat], _, rfl, by rw [List.length_append, l16]; rfl, ?_, by rw [put_same, rowsW_app]; rfl, by rw [put_ne p3p4]; exact q17, by rw [put_ne p0p4]; exact c17, (fd18.put p4a).mono (by omega)⟩
    refine rows_sub ok16 (fun r hr => ?_) (by rw [List.length_append, l16]; show i + 1 ≤ 60; omega)
    rcases List.mem_append.mp hr with hr | hr
    · exact .inl hr
    · rw [List.mem_singleton.mp hr]
      exact .inr ⟨by rw [List.length_take, lz, s1]; omega, fun d hd => nums_mem (pz.mem_iff.mp (List.mem_of_mem_take hd))⟩
  rintro ρ' S16 ⟨more, o11, rfl, l16, ok16, m16, q16, c16, fd16⟩
  rw [fix_rg] at l16 fd16
  have lm : more.length ≤ 4 := by omega
  ((conv => whnf); refine step_ ?_; (conv => whnf)); refine ⟨_, List.mem_singleton.mpr rfl, .inl ⟨rfl, _, .inl q16⟩, ?_⟩
  (conv => whnf); refine ⟨_, .inl m16, ?_⟩
  (conv => whnf); refine ⟨_, q16, small rfl, ?_⟩
  have t17 : (S16.put p3 (.lst (([fair, ra, rb, fair].map fun r => W.tup (rowsW r)) ++ [.tup (rowsW more)]))) p3 = some (.lst ([fair, ra, rb, fair, more].map fun r => W.tup (rowsW r))) := put_same
  have c17 : (S16.put p3 (.lst (([fair, ra, rb, fair].map fun r => W.tup (rowsW r)) ++ [.tup (rowsW more)]))) p0 = some (.lst [.tup (pp.map pW), .tup (qq.map pW)]) := by rw [put_ne p0p3]; exact c16
  generalize S16.put p3 (.lst (([fair, ra, rb, fair].map fun r => W.tup (rowsW r)) ++ [.tup (rowsW more)])) = S17 at t17 c17 ⊢
  have hall : ∀ r ∈ ([fair, ra, rb, fair, more] : List (List (List Int))), RowsOk m ss.length r := fun r hr => by
    simp only [List.mem_cons, List.not_mem_nil, or_false] at hr
    rcases hr with rfl | rfl | rfl | rfl | rfl
    · exact ok11
    · exact oka
    · exact okb
    · exact ok11
    · exact ok16
  generalize ([fair, ra, rb, fair, more] : List (List (List Int))) = all at t17 hall ⊢
  (conv => whnf); refine step_ ?_
  (conv => whnf); refine ⟨_, .inl t17, ?_⟩
  refine for_inv (fun i ρ' S' => ∃ (o5 o12 o13 o14 o15 o16 o17 o18 : Option W), ρ' = [some z, some (.ref f), some (.int m), some (.ref p0), some (.str seen), o5, some (.int fw), some (.tup (ss.map pairW)), some (.tup (rowsW fair)), some (.ref p3), some (.ref p4), o11, o12, o13, o14, o15, o16, o17, o18, none, none, none] ∧ S' p3 = some (.lst (all.map fun r => W.tup (rowsW r))) ∧ S' p0 = some (.lst [.tup (pp.map pW), .tup (qq.map pW)])) _ ⟨_, _, _, _, _, _, _, _, rfl, t17, c17⟩ (fun i ρ S h => by obtain ⟨_, _, _, _, _, _, _, _, _, h, _⟩ := h; exact .inl h) ?_ ?_
  · rintro i w ρ' S18 nx hw ⟨o5, o12, o13, o14, o15, o16, o17, o18, rfl, t18, c18⟩ hnx
    obtain ⟨r, hm, rfl⟩ := List.mem_map.mp (List.mem_of_getElem? (show (all.map fun r => W.tup (rowsW r))[i]? = some w from hw))
    have ok := hall r hm
    have many := ok.many
    have few2 := ok.few2
    ((conv => whnf); refine step_ ?_; (conv => whnf)); refine ⟨m, ss, r, rfl, ok, fun as q S19 las hq ha kp19 => ?_⟩
    have dens := dens_refs (S := S19) (fun j => cntR r ss.length j) ha
    rw [las] at dens
    ((conv => whnf); refine step_ ?_; (conv => whnf)); refine ⟨_, .inl hq, ?_⟩
    refine filtG dens (fun d => !PyData.eqv d (.list ((cntR r ss.length 0).map PyData.int))) (big (by show (as.map W.ref).length ≤ _; rw [List.length_map, las]; omega)) (fun S' kp => .inl (kp_all kp _ _ hq)) (fun _ => rfl) (fun w d S' Kt hd dd kp kt => ?_) fun acc S20 dacc kp20 p5 h5 => ?_
    · have h0 : as[0]? = some (as.getD 0 0) := get_some (by omega)
      have hq' := kp_all kp _ _ hq
      obtain ⟨j, _, rfl⟩ := List.mem_map.mp hd
      (conv => whnf); refine ix_l hq' (atI_pos (by decide) (show (as.map W.ref)[(0 : Int).toNat]? = some (.ref (as.getD 0 0)) from by rw [List.getElem?_map]; show Option.map _ (as[0]?) = _; rw [h0]; rfl)) ?_
      (conv => whnf); refine eq_d dd (.lst (.inl (kp_all kp _ _ (ha 0 _ h0))) (dens_ints _)) (shaped_ints _) (shaped_ints _) ?_
      exact kt _ kp
    have fds : Fine (.tuple ((List.range m.toNat).map fun j => .list ((cntR r ss.length j).map PyData.int))) := by
      refine (fd_tup (k := 1) (B := 112) (fun d hd => ?_) (by decide) (by rw [List.length_map, List.length_range]; omega)).fine
      obtain ⟨j, _, rfl⟩ := List.mem_map.mp hd
      have lc : (cntR r ss.length j).length = ss.length := by unfold cntR; rw [List.length_map, List.length_range]
      have := fd_lst (k := 0) (B := 6) (ds := (cntR r ss.length j).map PyData.int) (fd_ints (fun x hx => by
        obtain ⟨k, _, rfl⟩ := List.mem_map.mp hx
        have h1 : countAt r k (j : Int) ≤ r.length := by
          have := List.count_le_length (a := (j : Int)) (l := colL r k)
          rw [show (colL r k).length = r.length from List.length_map ..] at this
          exact this
        show ((countAt r k (j : Int) : Nat) : Int).natAbs < 2 ^ 6
        omega) (by decide) (by decide)) (by decide) (by rw [List.length_map, lc]; omega)
      rw [List.length_map, lc] at this
      exact this.mono (by decide) (by omega)
    have dacc5 := dacc.sub (Sub.mine (c := .lst acc) h5)
    have kp21 : ∀ g, Kp S18 (S20.put p5 (.lst acc)) g := fun g => ((kp19 g).trans (kp20 g)).trans (.new h5)
    have c5 : (S20.put p5 (.lst acc)) p5 = some (.lst acc) := put_same
    generalize S20.put p5 (.lst acc) = S21 at dacc5 kp21 c5 ⊢
    (conv => whnf); refine ⟨small rfl, fun p6 h6 => ?_⟩
    (conv => whnf); refine eq_d (.lst (.inl (up_new h6 c5)) (dacc5.sub (Sub.mine h6))) (.lst (.inl put_same) .nil) (shaped_filter fds) (by decide) ?_
    rw [eqv_nil, filter_nil, due_fair]
    have kp22 : ∀ g, Kp S18 (S21.put p6 (.lst [])) g := fun g => (kp21 g).trans (.new h6)
    generalize S21.put p6 (.lst []) = S22 at kp22 ⊢
    obtain ⟨due, edue⟩ : ∃ due, due = fairB m ss.length r := ⟨_, rfl⟩
    (conv => whnf)
    rw [← edue]
    (conv => whnf); refine step_ ?_
    (conv => whnf); refine ⟨m, ss, r, rfl, ok, fun S23 kp23 => ?_⟩
    rw [← edue]
    (conv => whnf); refine repr_a (.bl _) rfl (Nat.zero_le _) (sb _) ?_
    (conv => whnf); refine repr_a (.bl _) rfl (Nat.zero_le _) (sb _) ?_
    (conv => whnf); refine eq_f rfl rfl ?_
    rw [eqF_str]
    (conv => whnf); refine step_ ?_
    (conv => whnf); refine comp_idx (rowsW r) (fun j => pW (ss, r.getD j [])) (big (by rw [rowsW_len]; omega)) (fun _ _ => trivial) (fun j x S' Kt hx kp kt => ?_) fun S24 kp24 p7 h7 => ?_
    · obtain ⟨hj, rfl⟩ := rows_at hx
      (conv => whnf); refine ⟨small rfl, ?_⟩
      exact kt _ kp
    have e24 : (List.range (rowsW r).length).map (fun j => pW (ss, r.getD j [])) = (withS ss r).map pW := by
      rw [rowsW_len]; unfold withS; rw [List.map_map]; exact range_map [] (fun row => pW (ss, row)) r
    rw [e24]
    (conv => whnf); refine ⟨_, .inl put_same, ?_⟩
    have kp25 : ∀ g, Kp S18 (S24.put p7 (.lst ((withS ss r).map pW))) g := fun g => (((kp22 g).trans (kp23 g)).trans (kp24 g)).trans (.new h7)
    generalize S24.put p7 (.lst ((withS ss r).map pW)) = S25 at kp25 ⊢
    have lws : (withS ss r).length = r.length := List.length_map ..
    have okws : ∀ p ∈ withS ss r, DrwOk m p.1 p.2 := fun p hp => by
      obtain ⟨row, hr, rfl⟩ := List.mem_map.mp hp
      exact ⟨(ok.len row hr).symm, by rw [ok.len row hr]; exact few2, s2, ok.ball row hr⟩
    (conv => whnf); refine step_ ?_
    (conv => whnf); refine ⟨by omega, ?_⟩
    refine comp_idx _ (fun b => .int (duesOf m (withS ss r) (b : Int))) (big (by show (rgList _ _ _).length ≤ _; rw [rgList_len]; omega)) (fun _ _ => trivial) (fun b x S' Kt hx kp kt => ?_) fun S26 kp26 p8 h8 => ?_
    · obtain ⟨hb, rfl⟩ := rg_at hx
      have eb : (0 : Int) + (b : Nat) * 1 = (b : Int) := by omega
      rw [eb]
      (conv => whnf); refine ⟨m, withS ss r, (b : Int), rfl, by omega, m2, by omega, okws, fun S'' kp'' => ?_⟩
      exact kt _ fun g => (kp g).trans (kp'' g)
    obtain ⟨own, eown⟩ : ∃ own : List Int, own = (List.range m.toNat).map fun (b : Nat) => duesOf m (withS ss r) (b : Int) := ⟨_, rfl⟩
    have e26 : (List.range (wkFix (rgList 0 1 m.toNat)).items.length).map (fun (b : Nat) => W.int (duesOf m (withS ss r) (b : Int))) = List.map W.int own := by
      rw [fix_rg, eown, List.map_map]; rfl
    rw [e26]
    have kp27 : ∀ g, Kp S18 (S26.put p8 (.lst (List.map W.int own))) g := fun g => ((kp25 g).trans (kp26 g)).trans (.new h8)
    have c27 : (S26.put p8 (.lst (List.map W.int own))) p8 = some (.lst (List.map W.int own)) := put_same
    generalize S26.put p8 (.lst (List.map W.int own)) = S27 at kp27 c27 ⊢
    (conv => whnf); refine step_ ?_
    (conv => whnf); refine ite_of (fun h => ?_) fun h => ?_
    · have eo : own = List.replicate m.toNat 0 := by
        rw [eown, List.eq_replicate_iff]
        refine ⟨by rw [List.length_map, List.length_range], fun x hx => ?_⟩
        obtain ⟨b, hb, rfl⟩ := List.mem_map.mp hx
        exact fair_dues ok (edue ▸ h) (List.mem_range.mp hb)
      (conv => whnf); refine ⟨small rfl, fun p9 h9 => ?_⟩
      (conv => whnf); refine mul_l put_same (by omega) (by omega) (bigE (by show 1 * m.toNat ≤ _; omega)) fun p10 h10 => ?_
      have e10 : (List.replicate m.toNat [W.int 0]).flatten = List.map W.int (List.replicate m.toNat 0) := by rw [rep_one, List.map_replicate]
      rw [show cW (.int 0) = W.int 0 from rfl, e10, ← eo]
      (conv => whnf); refine eq_d (.lst (.inl (up_new h10 (up_new h9 c27))) (dens_ints own)) (.lst (.inl put_same) (dens_ints own)) (shaped_ints _) (shaped_ints _) ?_
      rw [eqv_ints, decide_eq_true rfl]
      (conv => whnf); refine hnx _ _ ⟨_, _, _, _, _, _, _, _, rfl, up_new h10 (up_new h9 (kp_all kp27 _ _ t18)), up_new h10 (up_new h9 (kp_all kp27 _ _ c18))⟩
    · (conv => whnf); refine hnx _ _ ⟨_, _, _, _, _, _, _, _, rfl, kp_all kp27 _ _ t18, kp_all kp27 _ _ c18⟩
  rintro ρ' S18 ⟨o5, o12, o13, o14, o15, o16, o17, o18, rfl, t18, c18⟩
  clear t17 t18 hall all
  ((conv => whnf); refine step_ ?_; (conv => whnf))
  refine mul_i 10 10 (by show (3 : Int).natAbs < _; decide) (by omega) (by decide) ?_
  (conv => whnf); refine ⟨small rfl, fun p5 h5 => ?_⟩
  (conv => whnf); refine ⟨small rfl, fun p6 h6 => ?_⟩
  (conv => whnf); refine mul_l put_same (by omega) (by omega) (bigE (by show 1 * (m - 1).toNat ≤ _; omega)) fun p7 h7 => ?_
  have e7 : (List.replicate (m - 1).toNat [W.int 3]).flatten = List.map W.int (List.replicate (m - 1).toNat 3) := by rw [rep_one, List.map_replicate]
  rw [show cW (.int 3) = W.int 3 from rfl, e7]
  have c5 : (((S18.put p5 (.lst [.int (0 - 3 * (m - 1))])).put p6 (.lst [.int 3])).put p7 (.lst (List.map W.int (List.replicate (m - 1).toNat 3)))) p5 = some (.lst [.int (0 - 3 * (m - 1))]) := up_new h7 (up_new h6 put_same)
  (conv => whnf); refine ⟨_, _, c5, put_same, by simp only [List.length_cons, List.length_nil, List.length_map, List.length_replicate]; exact bigE (by omega), fun p8 h8 => ?_⟩
  (conv => whnf); refine ⟨_, .inl put_same, ?_⟩
  obtain ⟨acc0, eacc⟩ : ∃ acc0 : List Int, acc0 = (0 - 3 * (m - 1)) :: List.replicate (m - 1).toNat 3 := ⟨_, rfl⟩
  have e8 : [W.int (0 - 3 * (m - 1))] ++ List.map W.int (List.replicate (m - 1).toNat 3) = List.map W.int acc0 := by rw [eacc]; rfl
  rw [e8]
  have l0 : acc0.length = m.toNat := by rw [eacc, List.length_cons, List.length_replicate]; omega
  have s0 : acc0.sum = 0 := by rw [eacc, List.sum_cons, sum_rep]; omega
  have b0 : ∀ x ∈ acc0, x.natAbs ≤ 48 := fun x hx => by
    rw [eacc] at hx
    rcases List.mem_cons.mp hx with rfl | hx
    · omega
    · rw [(List.mem_replicate.mp hx).2]; decide
  have kp8 : ∀ g, Kp S18 ((((S18.put p5 (.lst [.int (0 - 3 * (m - 1))])).put p6 (.lst [.int 3])).put p7 (.lst (List.map W.int (List.replicate (m - 1).toNat 3)))).put p8 (.lst (List.map W.int acc0))) g := fun g => (((Kp.new h5).trans (.new h6)).trans (.new h7)).trans (.new h8)
  have c19 := kp_all kp8 _ _ c18
  generalize ((((S18.put p5 (.lst [.int (0 - 3 * (m - 1))])).put p6 (.lst [.int 3])).put p7 (.lst (List.map W.int (List.replicate (m - 1).toNat 3)))).put p8 (.lst (List.map W.int acc0))) = S19 at c19 ⊢
  have many := ok11.many
  have few2 := ok11.few2
  have okf : ∀ p ∈ withS ss fair, DrwOk m p.1 p.2 := fun p hp => by
    obtain ⟨row, hr, rfl⟩ := List.mem_map.mp hp
    exact ⟨(ok11.len row hr).symm, by rw [ok11.len row hr]; exact few2, s2, ok11.ball row hr⟩
  ((conv => whnf); refine step_ ?_; (conv => whnf)); (conv => whnf); refine step_ ?_
  (conv => whnf); refine for_inv (fun i ρ' S' => ∃ (acc : List Int) (o21 : Option W), ρ' = [some z, some (.ref f), some (.int m), some (.ref p0), some (.str seen), o5, some (.int fw), some (.tup (ss.map pairW)), some (.tup (rowsW fair)), some (.ref p3), some (.ref p4), o11, o12, o13, o14, o15, o16, o17, o18, some (.tup (List.map W.int acc)), some (.tup (List.map W.int acc0)), o21] ∧ acc.length = m.toNat ∧ acc.sum = 0 ∧ (∀ j, j < m.toNat → acc.getD j 0 = acc0.getD j 0 + duesOf m (withS ss (fair.take i)) (j : Int)) ∧ S' p0 = some (.lst [.tup (pp.map pW), .tup (qq.map pW)])) (rowsW fair) ⟨acc0, _, rfl, l0, s0, fun j _ => by rw [show duesOf m (withS ss (fair.take 0)) (j : Int) = 0 from rfl, Int.add_zero], c19⟩ (fun _ _ _ _ => trivial) ?_ ?_
  · rintro i y ρ' S20 nx hy ⟨acc, o21, rfl, la, sa, da, c20⟩ hnx
    obtain ⟨hi, rfl⟩ := rows_at hy
    have ei : (fair.take (i + 1)) = fair.take i ++ [fair.getD i []] := by rw [List.take_add_one, get_some (d := []) hi]; rfl
    have ok1 : DrwOk m ss (fair.getD i []) := okf (ss, fair.getD i []) (List.mem_map.mpr ⟨_, getD_mem hi, rfl⟩)
    have em : (acc.length : Int) = m := by omega
    have low : ∀ x ∈ acc, x.natAbs < 2 ^ 31 := fun x hx => by
      obtain ⟨j, hj, rfl⟩ := List.mem_iff_getElem.mp hx
      have e := da j (by omega)
      rw [List.getD_eq_getElem?_getD, List.getElem?_eq_getElem hj] at e
      have e : acc[j] = acc0.getD j 0 + duesOf m (withS ss (fair.take i)) (j : Int) := e
      have h1 := b0 _ (getD_mem (d := 0) (show j < acc0.length by omega))
      have h2 := dues_b (n := m) (b := (j : Int)) (by omega) m2 (pp := withS ss (fair.take i)) fun p hp => by
        obtain ⟨row, hr, rfl⟩ := List.mem_map.mp hp
        exact okf _ (List.mem_map.mpr ⟨row, List.mem_of_mem_take hr, rfl⟩)
      have h3 : (withS ss (fair.take i)).length ≤ 60 := by unfold withS; rw [List.length_map, List.length_take]; omega
      rw [e]
      omega
    have oka : AccOk acc := ⟨by omega, by omega, sa, low⟩
    rw [← em] at ok1
    ((conv => whnf); refine step_ ?_; (conv => whnf)); refine ⟨ss, _, acc, rfl, oka, ok1, fun S21 kp21 => ?_⟩
    (conv => whnf); refine hnx _ _ ⟨drawnL ss (fair.getD i []) acc, _, rfl, by unfold drawnL; rw [List.length_map, List.length_range]; exact la, drawn_sum ok1 sa, fun j hj => ?_, kp_all kp21 _ _ c20⟩
    have e1 : (drawnL ss (fair.getD i []) acc).getD j 0 = dueAt acc.length (prsL ss (fair.getD i [])) (acc.getD j 0) (j : Int) := by
      unfold drawnL
      rw [List.getD_eq_getElem?_getD, List.getElem?_map, List.getElem?_range (by omega)]; rfl
    rw [e1, due_eq, prs_snd ok1, da j hj, ei, show withS ss (fair.take i ++ [fair.getD i []]) = withS ss (fair.take i) ++ [(ss, fair.getD i [])] from List.map_append .., dues_snoc, em]
    show _ = acc0.getD j 0 + (_ + (getsL m (prsL ss (fair.getD i [])) (j : Int) - (ss.map (·.2)).sum))
    omega
  rintro ρ' S20 ⟨acc, o21, rfl, la, sa, da, c20⟩
  rw [rowsW_len, List.take_length] at da
  have eacc2 : acc = acc0 := by
    apply List.ext_getElem?
    intro j
    by_cases hj : j < m.toNat
    · rw [get_some (d := 0) (show j < acc.length by omega), get_some (d := 0) (show j < acc0.length by omega), da j hj, fair_dues ok11 fb11 hj, Int.add_zero]
    · rw [List.getElem?_eq_none (by omega), List.getElem?_eq_none (by omega)]
  rw [eacc2]
  have fa := (fd_tup (k := 0) (B := 10) (ds := acc0.map PyData.int) (fd_ints (fun x hx => by have := b0 x hx; omega) (by decide) (by decide)) (by decide) (by rw [List.length_map]; omega)).show_
  obtain ⟨f1, f2, f3⟩ := fa
  ((conv => whnf); refine step_ ?_; (conv => whnf)); refine repr_a (den_ints acc0) f1 f2 f3 ?_
  (conv => whnf); refine repr_a (den_ints acc0) f1 f2 f3 ?_
  (conv => whnf); refine eq_f rfl rfl ?_
  rw [eqF_str]
  (conv => whnf); refine repr_a (drow _ c20) r1 r2 r3 ?_
  rw [← eseen]
  (conv => whnf); refine eq_f rfl rfl ?_
  rw [eqF_str]
  (conv => whnf); exact post _
end Dp.K33
namespace Dp.K33
open PySem PySem.Spec L2
open PyProof.Rows hiding St
/-! ### the head -/
def dd (i : Nat) (x : Str) : He.DefD := ⟨(x, none), x, x, defArgs (top i), defBody (top i), defScope (top i), [], []⟩
def fnL : List He.DefD := [dd 1 "dues", dd 2 "are_fair", dd 4 "drawn_on", dd 6 "_law_feed", dd 7 "_law_draw", dd 8 "_law_drawn_order", dd 9 "_law_strips", dd 10 "_law_pairs", dd 11 "_law_fair", dd 12 "_law_otherwise", dd 13 "_law_counts", dd 14 "_law_dues_right", dd 15 "law"]
def cfL : List He.Fa := []
def faL : List He.Fa := fns.map He.Fa.glo ++ (bnames.map He.Fa.free ++ cfL)
abbrev hk : PySem.W.Hook := He.hookD 4 faL fnL
def ob (s : PySem.W.SharedT) : He.AlD := He.obsDG 4 faL fnL (HandSHeadRun.getT s)
theorem ob_eq (s : PySem.W.SharedT) : ob s = hk.obs s.abs := He.obsDG_eq (HandSHeadRun.getT_eq s)
abbrev looseL : List Str := ["dues", "are_fair", "drawn_on", "_law_feed", "_law_draw", "_law_drawn_order", "_law_strips", "_law_pairs", "_law_fair", "_law_otherwise", "_law_counts", "_law_dues_right"]
abbrev R : PySem.W.OpenRow := PySem.W.OpenLaw.row PySem.Challenge.rw_meadowballs_k33_dues_and_fair_draws
theorem run (w : World) : HandSHeadRun.RunEq R (PySem.W.view R.prog [15]) hk ob 4000 looseL w := by
  intro os
  kernel_rfl
section
variable {P : Program} {w : World} {K : PySem.W.Frag} {h base : Heap} {mg : Str → Option Value}
abbrev cc (K : PySem.W.Frag) : Cst := ⟨K, fun _ => 0⟩
theorem glo_of (X : K.In h) (G : h.Ns mainGlobals mg) (c : He.SaysD faL fnL K) {x : Str} (hx : x ∈ fns) : mg x = some (.ref (He.ga K x)) := He.glo_ok X G (He.SaysD.facts c (List.mem_append_left _ (List.mem_map_of_mem hx)))
theorem bl_of (X : K.In h) (G : h.Ns mainGlobals mg) (c : He.SaysD faL fnL K) : ∀ x ∈ bnames, mg x = none := fun x hx => He.free_ok X G (He.SaysD.facts c (List.mem_append_right _ (List.mem_append_left _ (List.mem_map_of_mem hx))))
theorem fd_dues (c : He.SaysD faL fnL K) : ∃ fd, FunD K "dues" "dues" (defArgs (top 1)) (defBody (top 1)) (defScope (top 1)) [] [] (He.ga K "dues") fd := He.SaysD.def_ c 0 (d := dd 1 "dues") rfl
theorem bn_dues {f : Addr} {fd : FuncData} (F : FunD K "dues" "dues" (defArgs (top 1)) (defBody (top 1)) (defScope (top 1)) [] [] f fd) : Binds K fd A_dues [] := F.bindsN fun _ _ _ _ _ _ us hl => match us, hl with | [_, _, _], _ => rfl
theorem fd_are_fair (c : He.SaysD faL fnL K) : ∃ fd, FunD K "are_fair" "are_fair" (defArgs (top 2)) (defBody (top 2)) (defScope (top 2)) [] [] (He.ga K "are_fair") fd := He.SaysD.def_ c 1 (d := dd 2 "are_fair") rfl
theorem bn_are_fair {f : Addr} {fd : FuncData} (F : FunD K "are_fair" "are_fair" (defArgs (top 2)) (defBody (top 2)) (defScope (top 2)) [] [] f fd) : Binds K fd A_are_fair [] := F.bindsN fun _ _ _ _ _ _ us hl => match us, hl with | [_, _, _], _ => rfl
theorem fd_drawn_on (c : He.SaysD faL fnL K) : ∃ fd, FunD K "drawn_on" "drawn_on" (defArgs (top 4)) (defBody (top 4)) (defScope (top 4)) [] [] (He.ga K "drawn_on") fd := He.SaysD.def_ c 2 (d := dd 4 "drawn_on") rfl
theorem bn_drawn_on {f : Addr} {fd : FuncData} (F : FunD K "drawn_on" "drawn_on" (defArgs (top 4)) (defBody (top 4)) (defScope (top 4)) [] [] f fd) : Binds K fd A_drawn_on [] := F.bindsN fun _ _ _ _ _ _ us hl => match us, hl with | [_, _, _], _ => rfl
theorem fd_law_feed (c : He.SaysD faL fnL K) : ∃ fd, FunD K "_law_feed" "_law_feed" (defArgs (top 6)) (defBody (top 6)) (defScope (top 6)) [] [] (He.ga K "_law_feed") fd := He.SaysD.def_ c 3 (d := dd 6 "_law_feed") rfl
theorem bn_law_feed {f : Addr} {fd : FuncData} (F : FunD K "_law_feed" "_law_feed" (defArgs (top 6)) (defBody (top 6)) (defScope (top 6)) [] [] f fd) : Binds K fd A_law_feed [] := F.bindsN fun _ _ _ _ _ _ us hl => match us, hl with | [_], _ => rfl
theorem fd_law_draw (c : He.SaysD faL fnL K) : ∃ fd, FunD K "_law_draw" "_law_draw" (defArgs (top 7)) (defBody (top 7)) (defScope (top 7)) [] [] (He.ga K "_law_draw") fd := He.SaysD.def_ c 4 (d := dd 7 "_law_draw") rfl
theorem bn_law_draw {f : Addr} {fd : FuncData} (F : FunD K "_law_draw" "_law_draw" (defArgs (top 7)) (defBody (top 7)) (defScope (top 7)) [] [] f fd) : Binds K fd A_law_draw [] := F.bindsN fun _ _ _ _ _ _ us hl => match us, hl with | [_, _], _ => rfl
theorem fd_law_drawn_order (c : He.SaysD faL fnL K) : ∃ fd, FunD K "_law_drawn_order" "_law_drawn_order" (defArgs (top 8)) (defBody (top 8)) (defScope (top 8)) [] [] (He.ga K "_law_drawn_order") fd := He.SaysD.def_ c 5 (d := dd 8 "_law_drawn_order") rfl
theorem bn_law_drawn_order {f : Addr} {fd : FuncData} (F : FunD K "_law_drawn_order" "_law_drawn_order" (defArgs (top 8)) (defBody (top 8)) (defScope (top 8)) [] [] f fd) : Binds K fd A_law_drawn_order [] := F.bindsN fun _ _ _ _ _ _ us hl => match us, hl with | [_, _], _ => rfl
theorem fd_law_strips (c : He.SaysD faL fnL K) : ∃ fd, FunD K "_law_strips" "_law_strips" (defArgs (top 9)) (defBody (top 9)) (defScope (top 9)) [] [] (He.ga K "_law_strips") fd := He.SaysD.def_ c 6 (d := dd 9 "_law_strips") rfl
theorem bn_law_strips {f : Addr} {fd : FuncData} (F : FunD K "_law_strips" "_law_strips" (defArgs (top 9)) (defBody (top 9)) (defScope (top 9)) [] [] f fd) : Binds K fd A_law_strips [] := F.bindsN fun _ _ _ _ _ _ us hl => match us, hl with | [_, _], _ => rfl
theorem fd_law_pairs (c : He.SaysD faL fnL K) : ∃ fd, FunD K "_law_pairs" "_law_pairs" (defArgs (top 10)) (defBody (top 10)) (defScope (top 10)) [] [] (He.ga K "_law_pairs") fd := He.SaysD.def_ c 7 (d := dd 10 "_law_pairs") rfl
theorem bn_law_pairs {f : Addr} {fd : FuncData} (F : FunD K "_law_pairs" "_law_pairs" (defArgs (top 10)) (defBody (top 10)) (defScope (top 10)) [] [] f fd) : Binds K fd A_law_pairs [] := F.bindsN fun _ _ _ _ _ _ us hl => match us, hl with | [_, _], _ => rfl
theorem fd_law_fair (c : He.SaysD faL fnL K) : ∃ fd, FunD K "_law_fair" "_law_fair" (defArgs (top 11)) (defBody (top 11)) (defScope (top 11)) [] [] (He.ga K "_law_fair") fd := He.SaysD.def_ c 8 (d := dd 11 "_law_fair") rfl
theorem bn_law_fair {f : Addr} {fd : FuncData} (F : FunD K "_law_fair" "_law_fair" (defArgs (top 11)) (defBody (top 11)) (defScope (top 11)) [] [] f fd) : Binds K fd A_law_fair [] := F.bindsN fun _ _ _ _ _ _ us hl => match us, hl with | [_, _, _], _ => rfl
theorem fd_law_otherwise (c : He.SaysD faL fnL K) : ∃ fd, FunD K "_law_otherwise" "_law_otherwise" (defArgs (top 12)) (defBody (top 12)) (defScope (top 12)) [] [] (He.ga K "_law_otherwise") fd := He.SaysD.def_ c 9 (d := dd 12 "_law_otherwise") rfl
theorem bn_law_otherwise {f : Addr} {fd : FuncData} (F : FunD K "_law_otherwise" "_law_otherwise" (defArgs (top 12)) (defBody (top 12)) (defScope (top 12)) [] [] f fd) : Binds K fd A_law_otherwise [] := F.bindsN fun _ _ _ _ _ _ us hl => match us, hl with | [_, _, _], _ => rfl
theorem fd_law_counts (c : He.SaysD faL fnL K) : ∃ fd, FunD K "_law_counts" "_law_counts" (defArgs (top 13)) (defBody (top 13)) (defScope (top 13)) [] [] (He.ga K "_law_counts") fd := He.SaysD.def_ c 10 (d := dd 13 "_law_counts") rfl
theorem bn_law_counts {f : Addr} {fd : FuncData} (F : FunD K "_law_counts" "_law_counts" (defArgs (top 13)) (defBody (top 13)) (defScope (top 13)) [] [] f fd) : Binds K fd A_law_counts [] := F.bindsN fun _ _ _ _ _ _ us hl => match us, hl with | [_, _, _], _ => rfl
theorem fd_law_dues_right (c : He.SaysD faL fnL K) : ∃ fd, FunD K "_law_dues_right" "_law_dues_right" (defArgs (top 14)) (defBody (top 14)) (defScope (top 14)) [] [] (He.ga K "_law_dues_right") fd := He.SaysD.def_ c 11 (d := dd 14 "_law_dues_right") rfl
theorem bn_law_dues_right {f : Addr} {fd : FuncData} (F : FunD K "_law_dues_right" "_law_dues_right" (defArgs (top 14)) (defBody (top 14)) (defScope (top 14)) [] [] f fd) : Binds K fd A_law_dues_right [] := F.bindsN fun _ _ _ _ _ _ us hl => match us, hl with | [_, _], _ => rfl
theorem fd_law (c : He.SaysD faL fnL K) : ∃ fd, FunD K "law" "law" (defArgs (top 15)) (defBody (top 15)) (defScope (top 15)) [] [] (He.ga K "law") fd := He.SaysD.def_ c 12 (d := dd 15 "law") rfl
theorem bn_law {f : Addr} {fd : FuncData} (F : FunD K "law" "law" (defArgs (top 15)) (defBody (top 15)) (defScope (top 15)) [] [] f fd) : Binds K fd A_law [] := F.bindsN fun _ _ _ _ _ _ us hl => match us, hl with | [_], _ => rfl
abbrev Wh (P : Program) (w : World) (K : PySem.W.Frag) (mg : Str → Option Value) (base : Heap) (k : Nat) (p : Nat → Pm) : Prop := Dp.Whole (cc K) P w mg base k p glob fns gls
abbrev Fn (P : Program) (w : World) (K : PySem.W.Frag) (mg : Str → Option Value) (base : Heap) (k : Nat) (x : Str) (ps : List Str) (p : Pm) : Prop := ∃ fd, PySem.W.keepIn K (.ref (He.ga K x)) = true ∧ Binds K fd ps [] ∧ GOk P w K mg base k (He.ga K x) fd ps (spOf (cc K) p)
theorem gls_of (X : K.In h) (G : h.Ns mainGlobals mg) (c : He.SaysD faL fnL K) : ∀ (j : Nat) (x : Str), gls[j]? = some x → ∃ u v, mg x = some u ∧ RelV v u ∧ ∀ H, RV K H (glob j) v := by
  intro j x hx
  exact absurd hx (by simp [gls])
theorem wh_of {k : Nat} {p : Nat → Pm} (X : K.In h) (G : h.Ns mainGlobals mg) (c : He.SaysD faL fnL K) (f0 : Fn P w K mg base k "dues" A_dues (p 0)) (f1 : Fn P w K mg base k "are_fair" A_are_fair (p 1)) (f2 : Fn P w K mg base k "drawn_on" A_drawn_on (p 2)) (f3 : Fn P w K mg base k "_law_feed" A_law_feed (p 3)) (f4 : Fn P w K mg base k "_law_draw" A_law_draw (p 4)) (f5 : Fn P w K mg base k "_law_drawn_order" A_law_drawn_order (p 5)) (f6 : Fn P w K mg base k "_law_strips" A_law_strips (p 6)) (f7 : Fn P w K mg base k "_law_pairs" A_law_pairs (p 7)) (f8 : Fn P w K mg base k "_law_fair" A_law_fair (p 8)) (f9 : Fn P w K mg base k "_law_otherwise" A_law_otherwise (p 9)) (f10 : Fn P w K mg base k "_law_counts" A_law_counts (p 10)) (f11 : Fn P w K mg base k "_law_dues_right" A_law_dues_right (p 11)) (f12 : Fn P w K mg base k "law" A_law (p 12)) : Wh P w K mg base k p := by
  refine ⟨bl_of X G c, fun j x hx => ?_, gls_of X G c⟩
  have hm := glo_of X G c (List.mem_of_getElem? hx)
  match j, hx with
  | 0, hx => cases hx; obtain ⟨fd, a, b, g⟩ := f0; exact ⟨_, fd, _, hm, a, b, g⟩
  | 1, hx => cases hx; obtain ⟨fd, a, b, g⟩ := f1; exact ⟨_, fd, _, hm, a, b, g⟩
  | 2, hx => cases hx; obtain ⟨fd, a, b, g⟩ := f2; exact ⟨_, fd, _, hm, a, b, g⟩
  | 3, hx => cases hx; obtain ⟨fd, a, b, g⟩ := f3; exact ⟨_, fd, _, hm, a, b, g⟩
  | 4, hx => cases hx; obtain ⟨fd, a, b, g⟩ := f4; exact ⟨_, fd, _, hm, a, b, g⟩
  | 5, hx => cases hx; obtain ⟨fd, a, b, g⟩ := f5; exact ⟨_, fd, _, hm, a, b, g⟩
  | 6, hx => cases hx; obtain ⟨fd, a, b, g⟩ := f6; exact ⟨_, fd, _, hm, a, b, g⟩
  | 7, hx => cases hx; obtain ⟨fd, a, b, g⟩ := f7; exact ⟨_, fd, _, hm, a, b, g⟩
  | 8, hx => cases hx; obtain ⟨fd, a, b, g⟩ := f8; exact ⟨_, fd, _, hm, a, b, g⟩
  | 9, hx => cases hx; obtain ⟨fd, a, b, g⟩ := f9; exact ⟨_, fd, _, hm, a, b, g⟩
  | 10, hx => cases hx; obtain ⟨fd, a, b, g⟩ := f10; exact ⟨_, fd, _, hm, a, b, g⟩
  | 11, hx => cases hx; obtain ⟨fd, a, b, g⟩ := f11; exact ⟨_, fd, _, hm, a, b, g⟩
  | 12, hx => cases hx; obtain ⟨fd, a, b, g⟩ := f12; exact ⟨_, fd, _, hm, a, b, g⟩
theorem no_dues (c : He.SaysD faL fnL K) (k : Nat) : Fn P w K mg base k "dues" A_dues (fun _ _ _ _ => False) := by
  obtain ⟨fd, F⟩ := fd_dues c
  exact ⟨fd, F.kp, bn_dues F, def_no (c := cc K)⟩
theorem no_are_fair (c : He.SaysD faL fnL K) (k : Nat) : Fn P w K mg base k "are_fair" A_are_fair (fun _ _ _ _ => False) := by
  obtain ⟨fd, F⟩ := fd_are_fair c
  exact ⟨fd, F.kp, bn_are_fair F, def_no (c := cc K)⟩
theorem no_drawn_on (c : He.SaysD faL fnL K) (k : Nat) : Fn P w K mg base k "drawn_on" A_drawn_on (fun _ _ _ _ => False) := by
  obtain ⟨fd, F⟩ := fd_drawn_on c
  exact ⟨fd, F.kp, bn_drawn_on F, def_no (c := cc K)⟩
theorem no_law_feed (c : He.SaysD faL fnL K) (k : Nat) : Fn P w K mg base k "_law_feed" A_law_feed (fun _ _ _ _ => False) := by
  obtain ⟨fd, F⟩ := fd_law_feed c
  exact ⟨fd, F.kp, bn_law_feed F, def_no (c := cc K)⟩
theorem no_law_draw (c : He.SaysD faL fnL K) (k : Nat) : Fn P w K mg base k "_law_draw" A_law_draw (fun _ _ _ _ => False) := by
  obtain ⟨fd, F⟩ := fd_law_draw c
  exact ⟨fd, F.kp, bn_law_draw F, def_no (c := cc K)⟩
theorem no_law_drawn_order (c : He.SaysD faL fnL K) (k : Nat) : Fn P w K mg base k "_law_drawn_order" A_law_drawn_order (fun _ _ _ _ => False) := by
  obtain ⟨fd, F⟩ := fd_law_drawn_order c
  exact ⟨fd, F.kp, bn_law_drawn_order F, def_no (c := cc K)⟩
theorem no_law_strips (c : He.SaysD faL fnL K) (k : Nat) : Fn P w K mg base k "_law_strips" A_law_strips (fun _ _ _ _ => False) := by
  obtain ⟨fd, F⟩ := fd_law_strips c
  exact ⟨fd, F.kp, bn_law_strips F, def_no (c := cc K)⟩
theorem no_law_pairs (c : He.SaysD faL fnL K) (k : Nat) : Fn P w K mg base k "_law_pairs" A_law_pairs (fun _ _ _ _ => False) := by
  obtain ⟨fd, F⟩ := fd_law_pairs c
  exact ⟨fd, F.kp, bn_law_pairs F, def_no (c := cc K)⟩
theorem no_law_fair (c : He.SaysD faL fnL K) (k : Nat) : Fn P w K mg base k "_law_fair" A_law_fair (fun _ _ _ _ => False) := by
  obtain ⟨fd, F⟩ := fd_law_fair c
  exact ⟨fd, F.kp, bn_law_fair F, def_no (c := cc K)⟩
theorem no_law_otherwise (c : He.SaysD faL fnL K) (k : Nat) : Fn P w K mg base k "_law_otherwise" A_law_otherwise (fun _ _ _ _ => False) := by
  obtain ⟨fd, F⟩ := fd_law_otherwise c
  exact ⟨fd, F.kp, bn_law_otherwise F, def_no (c := cc K)⟩
theorem no_law_counts (c : He.SaysD faL fnL K) (k : Nat) : Fn P w K mg base k "_law_counts" A_law_counts (fun _ _ _ _ => False) := by
  obtain ⟨fd, F⟩ := fd_law_counts c
  exact ⟨fd, F.kp, bn_law_counts F, def_no (c := cc K)⟩
theorem no_law_dues_right (c : He.SaysD faL fnL K) (k : Nat) : Fn P w K mg base k "_law_dues_right" A_law_dues_right (fun _ _ _ _ => False) := by
  obtain ⟨fd, F⟩ := fd_law_dues_right c
  exact ⟨fd, F.kp, bn_law_dues_right F, def_no (c := cc K)⟩
theorem no_law (c : He.SaysD faL fnL K) (k : Nat) : Fn P w K mg base k "law" A_law (fun _ _ _ _ => False) := by
  obtain ⟨fd, F⟩ := fd_law c
  exact ⟨fd, F.kp, bn_law F, def_no (c := cc K)⟩
theorem Fn.up {k m : Nat} {x : Str} {ps : List Str} {p : Pm} (f : Fn P w K mg base k x ps p) (h : k ≤ m) : Fn P w K mg base m x ps p := by
  obtain ⟨fd, a, b, g⟩ := f
  exact ⟨fd, a, b, g.mono h⟩
theorem wh_0 (X : K.In h) (G : h.Ns mainGlobals mg) (c : He.SaysD faL fnL K) : Wh P w K mg base 0 prom0 := wh_of X G c (no_dues c _) (no_are_fair c _) (no_drawn_on c _) (no_law_feed c _) (no_law_draw c _) (no_law_drawn_order c _) (no_law_strips c _) (no_law_pairs c _) (no_law_fair c _) (no_law_otherwise c _) (no_law_counts c _) (no_law_dues_right c _) (no_law c _)
theorem ok_dues (X : K.In h) (G : h.Ns mainGlobals mg) (c : He.SaysD faL fnL K) : Fn P w K mg base 1 "dues" A_dues (prom 0) := by
  obtain ⟨fd, F⟩ := fd_dues c
  exact ⟨fd, F.kp, bn_dues F, def_ok (c := cc K) F sc_dues k_dues (wh_0 X G c) (kDues _)⟩
theorem ok_are_fair (X : K.In h) (G : h.Ns mainGlobals mg) (c : He.SaysD faL fnL K) : Fn P w K mg base 1 "are_fair" A_are_fair (prom 1) := by
  obtain ⟨fd, F⟩ := fd_are_fair c
  exact ⟨fd, F.kp, bn_are_fair F, def_ok (c := cc K) F sc_are_fair k_are_fair (wh_0 X G c) (kAre _)⟩
theorem ok_drawn_on (X : K.In h) (G : h.Ns mainGlobals mg) (c : He.SaysD faL fnL K) : Fn P w K mg base 1 "drawn_on" A_drawn_on (prom 2) := by
  obtain ⟨fd, F⟩ := fd_drawn_on c
  exact ⟨fd, F.kp, bn_drawn_on F, def_ok (c := cc K) F sc_drawn_on k_drawn_on (wh_0 X G c) (kDrawnOn _)⟩
theorem ok_law_feed (X : K.In h) (G : h.Ns mainGlobals mg) (c : He.SaysD faL fnL K) : Fn P w K mg base 1 "_law_feed" A_law_feed (prom 3) := by
  obtain ⟨fd, F⟩ := fd_law_feed c
  exact ⟨fd, F.kp, bn_law_feed F, def_ok (c := cc K) F sc_law_feed k_law_feed (wh_0 X G c) (kFeed _ _)⟩
theorem ok_law_draw (X : K.In h) (G : h.Ns mainGlobals mg) (c : He.SaysD faL fnL K) : Fn P w K mg base 1 "_law_draw" A_law_draw (prom 4) := by
  obtain ⟨fd, F⟩ := fd_law_draw c
  exact ⟨fd, F.kp, bn_law_draw F, def_ok (c := cc K) F sc_law_draw k_law_draw (wh_0 X G c) (kDraw _ _)⟩
theorem ok_law_counts (X : K.In h) (G : h.Ns mainGlobals mg) (c : He.SaysD faL fnL K) : Fn P w K mg base 1 "_law_counts" A_law_counts (prom 10) := by
  obtain ⟨fd, F⟩ := fd_law_counts c
  exact ⟨fd, F.kp, bn_law_counts F, def_ok (c := cc K) F sc_law_counts k_law_counts (wh_0 X G c) (kCounts _)⟩
theorem wh_1 (X : K.In h) (G : h.Ns mainGlobals mg) (c : He.SaysD faL fnL K) : Wh P w K mg base 1 prom1 := wh_of X G c ((ok_dues X G c).up (by decide)) (no_are_fair c _) (no_drawn_on c _) (no_law_feed c _) ((ok_law_draw X G c).up (by decide)) (no_law_drawn_order c _) (no_law_strips c _) (no_law_pairs c _) (no_law_fair c _) (no_law_otherwise c _) (no_law_counts c _) (no_law_dues_right c _) (no_law c _)
theorem ok_law_drawn_order (X : K.In h) (G : h.Ns mainGlobals mg) (c : He.SaysD faL fnL K) : Fn P w K mg base 2 "_law_drawn_order" A_law_drawn_order (prom 5) := by
  obtain ⟨fd, F⟩ := fd_law_drawn_order c
  exact ⟨fd, F.kp, bn_law_drawn_order F, def_ok (c := cc K) F sc_law_drawn_order k_law_drawn_order (wh_1 X G c) kOrder⟩
theorem ok_law_strips (X : K.In h) (G : h.Ns mainGlobals mg) (c : He.SaysD faL fnL K) : Fn P w K mg base 2 "_law_strips" A_law_strips (prom 6) := by
  obtain ⟨fd, F⟩ := fd_law_strips c
  exact ⟨fd, F.kp, bn_law_strips F, def_ok (c := cc K) F sc_law_strips k_law_strips (wh_1 X G c) kStrips⟩
theorem ok_law_dues_right (X : K.In h) (G : h.Ns mainGlobals mg) (c : He.SaysD faL fnL K) : Fn P w K mg base 2 "_law_dues_right" A_law_dues_right (prom 11) := by
  obtain ⟨fd, F⟩ := fd_law_dues_right c
  exact ⟨fd, F.kp, bn_law_dues_right F, def_ok (c := cc K) F sc_law_dues_right k_law_dues_right (wh_1 X G c) kRight⟩
theorem wh_2 (X : K.In h) (G : h.Ns mainGlobals mg) (c : He.SaysD faL fnL K) : Wh P w K mg base 2 prom2 := wh_of X G c ((ok_dues X G c).up (by decide)) (no_are_fair c _) (no_drawn_on c _) (no_law_feed c _) ((ok_law_draw X G c).up (by decide)) ((ok_law_drawn_order X G c).up (by decide)) ((ok_law_strips X G c).up (by decide)) (no_law_pairs c _) (no_law_fair c _) (no_law_otherwise c _) (no_law_counts c _) (no_law_dues_right c _) (no_law c _)
theorem ok_law_pairs (X : K.In h) (G : h.Ns mainGlobals mg) (c : He.SaysD faL fnL K) : Fn P w K mg base 3 "_law_pairs" A_law_pairs (prom 7) := by
  obtain ⟨fd, F⟩ := fd_law_pairs c
  exact ⟨fd, F.kp, bn_law_pairs F, def_ok (c := cc K) F sc_law_pairs k_law_pairs (wh_2 X G c) kPairs⟩
theorem ok_law_fair (X : K.In h) (G : h.Ns mainGlobals mg) (c : He.SaysD faL fnL K) : Fn P w K mg base 3 "_law_fair" A_law_fair (prom 8) := by
  obtain ⟨fd, F⟩ := fd_law_fair c
  exact ⟨fd, F.kp, bn_law_fair F, def_ok (c := cc K) F sc_law_fair k_law_fair (wh_2 X G c) kFair⟩
theorem ok_law_otherwise (X : K.In h) (G : h.Ns mainGlobals mg) (c : He.SaysD faL fnL K) : Fn P w K mg base 3 "_law_otherwise" A_law_otherwise (prom 9) := by
  obtain ⟨fd, F⟩ := fd_law_otherwise c
  exact ⟨fd, F.kp, bn_law_otherwise F, def_ok (c := cc K) F sc_law_otherwise k_law_otherwise (wh_2 X G c) kOther⟩
theorem wh_3 (X : K.In h) (G : h.Ns mainGlobals mg) (c : He.SaysD faL fnL K) : Wh P w K mg base 3 prom := wh_of X G c ((ok_dues X G c).up (by decide)) ((ok_are_fair X G c).up (by decide)) ((ok_drawn_on X G c).up (by decide)) ((ok_law_feed X G c).up (by decide)) ((ok_law_draw X G c).up (by decide)) ((ok_law_drawn_order X G c).up (by decide)) ((ok_law_strips X G c).up (by decide)) ((ok_law_pairs X G c).up (by decide)) ((ok_law_fair X G c).up (by decide)) ((ok_law_otherwise X G c).up (by decide)) ((ok_law_counts X G c).up (by decide)) ((ok_law_dues_right X G c).up (by decide)) (no_law c _)
theorem ok_law (X : K.In h) (G : h.Ns mainGlobals mg) (c : He.SaysD faL fnL K) {fd : FuncData} (F : FunD K "law" "law" (defArgs (top 15)) (defBody (top 15)) (defScope (top 15)) [] [] (He.ga K "law") fd) : GOk P w K mg base 4 (He.ga K "law") fd A_law (spOf (cc K) pLaw) := def_ok (c := cc K) F sc_law k_law (wh_3 X G c) kLaw
end
theorem start {ns : List Int} {z : W} {S : Sto} (hn : ns.length ≤ 63) (hz : (∃ b, z = .ref b ∧ S = (fun c => if c = b then some (.frz (ns.map W.int)) else none)) ∨ (z = .kls (ns.map W.int) ∧ S = fun _ => none)) : okLaw pLaw z S := by
  refine ⟨z, ns, rfl, ?_, hn, fun _ => rfl⟩
  rcases hz with ⟨b, rfl, rfl⟩ | ⟨rfl, _⟩
  · exact .inl ⟨b, rfl, if_pos rfl⟩
  · exact .inr rfl
end Dp.K33
open PySem PySem.W PySem.Calls PyProof.Rows
theorem PySem.Challenge.cw_meadowballs_k33_dues_and_fair_draws_holds : PySem.Challenge.rw_meadowballs_k33_dues_and_fair_draws.Holds := by
  w_on; o_law
  refine HandSHeadRun.head_any (r := OpenLaw.row PySem.Challenge.rw_meadowballs_k33_dues_and_fair_draws) (q := view (OpenLaw.row PySem.Challenge.rw_meadowballs_k33_dues_and_fair_draws).prog [15]) (H := Dp.K33.hk) (ob := Dp.K33.ob) (M := 4000) (loose := Dp.K33.looseL) (d := HandSHeadRun.topDef (OpenLaw.row PySem.Challenge.rw_meadowballs_k33_dues_and_fair_draws).prog 15) (kwd := []) Dp.K33.ob_eq
    (by kernel_rfl) (fun s => by kernel_rfl) Dp.K33.run (by kernel_rfl) (by kernel_rfl) (by kernel_rfl) (by rfl) (by first | assumption | decide +kernel) (by decide +kernel) ⟨rfl, rfl, rfl, rfl, rfl, by decide +kernel⟩ ?hw ?hc
  case hw => w_witness2
  case hc =>
    refine Dp.walk_g (l := PySem.Challenge.rw_meadowballs_k33_dues_and_fair_draws) (n := 63) (k := 4) (x := "_law_script") (p := Dp.K33.pLaw) rfl (by decide) (by kernel_rfl) ⟨rfl, by decide, by decide⟩ (fun ns z S hn hz => Dp.K33.start hn hz) ?F
    intro w mg fa h Y G hmg0
    obtain ⟨K, KX, c⟩ := Y
    have hmg : mg ("law" : PySem.Str) = some (.ref fa) := by
      have e : (HandSHeadRun.topDef (OpenLaw.row PySem.Challenge.rw_meadowballs_k33_dues_and_fair_draws).prog 15).name = ("law" : PySem.Str) := by kernel_rfl
      rw [← e]
      exact hmg0
    obtain ⟨fd, F⟩ := Dp.K33.fd_law c
    have e := hmg.symm.trans (Dp.K33.glo_of KX G c (x := "law") (by decide +kernel))
    cases e
    have b := L2.FunD.bindsA (ps := ["_law_script"]) F fun _ _ _ _ _ _ us hl => match us, hl with | [_], _ => rfl
    exact ⟨K, fun _ => 0, fd, KX, fun s v => b s [v] rfl, fun base _ _ => Dp.K33.ok_law KX G c F⟩
