import PyProof.Rows.All
import Wide.All
import OpenK.AllK
import Wide.FinOn
import HandS.ForMost
import HandS.IsInst
import HandS.Walk
import HandS.Flow
import HandS.TupAny
import HandS.Deep
import HandS.Wide
import HandS.Style
import HandS.ForExc
import HandS.CallSlots
import HandS.TupMul
import HandS.Conv
import HandS.More
import HandS.StrMore
import HandS.WordsDict
import PyProof.ReprRoads
import HandS.Defaults
import HandS.ExcInit
import HandS.ExcField
import HandS.ExcIs
import HandS.TryMany
import HandS.ClsMeth
import HandS.WordsExc
import HandS.CallRecv
import HandS.HeadWalk
import PyProof.Rows.IntBool
import HandS.SetFor
import HandS.Dict
import KE.KDictPairs
import HandS.RaiseMore
import PyProof.Rows.SumAny
import HandS.Zip
import KE.GoesEnum
import KE.GoesMore
import PyProof.EnumMake
import HandS.SortInts
import HandS.Strs
import HandS.Replace
import KE.KSortTupG
import HandS.Iter
import HandS.Sort
import HandS.EndBits
import HandS.HeadEnd
import HandS.HeadHook4
import KE.KStateDown
import HandS.Ends
import HandS.Words
import HandS.Head0
import HandS.Head1
import HandS.Head2
import HandS.HeadHook1
import HandS.HeadHook2
import PySem.Challenge.RW_meadowballs_k07_draws_by_kind
set_option Elab.async false
set_option linter.all false
set_option maxRecDepth 100000
set_option maxHeartbeats 0
/-! tuples of which it is known that they have no dict: the rules that make them, told once more -/
namespace Dp
open PySem PySem.Spec L2
open PyProof.Rows hiding St

/-- a tuple without a dict: pinned as it was made, or an object of the module -/
def TqN (K : PySem.W.Frag) (H : Hp) (a : Addr) (xs : List V) : Prop :=
  (∃ o, H a = some (.frz o (.tup xs)) ∧ o.cls = .type "tuple" ∧ o.dict = none) ∨
    ∃ (o : Obj) (its : Array Value) (n : Nat), K.lookup a = some o ∧ o.cls = .type "tuple" ∧ o.dict = none ∧ o.data = .seq its n ∧ its.size ≤ sizeLine ∧ Vals xs its.toList
theorem TqN.sq {K : PySem.W.Frag} {H : Hp} {a : Addr} {xs : List V} (h : TqN K H a xs) : SqT K H a xs := by
  rcases h with ⟨o, h, _, _⟩ | ⟨o, its, n, h1, h2, _, h3, h4, h5⟩
  · exact .inl (.inr ⟨o, h⟩)
  · exact .inr ⟨o, its, n, h1, h2, h3, h4, h5⟩
/-- wherever a new tuple of these lies -/
def FrT (H : Hp) (Q : VK) (xs : List V) : Prop := ∀ p o, H p = none → o.cls = .type "tuple" → o.dict = none → Q (.ref p) (upd H p (.frz o (.tup xs)))
section
variable {X : Cx} {pins : List (Addr × Obj)} {σ : L2.St} {H : Hp} {s : Shared}
theorem frT {us : Array Value} {xs : List V} {Q : VK} {t : Nat} (I : Inv X pins σ H s) (r : Vals xs us.toList) (z : xs.length ≤ sizeLine) (q : FrT H Q xs) :
    EP X pins σ Q (.ref s.heap.objs.size) { s with heap := s.heap.push { cls := .type "tuple", data := .seq us }, toks := t } :=
  ⟨.ref s.heap.objs.size, upd H s.heap.objs.size (.frz { cls := .type "tuple", data := .seq us } (.tup xs)), I.laid (t' := t) (fun b u e => Heap.get?_push_of_some _ e) (Nat.le_refl _)
    ⟨Heap.get?_push_size _ rfl, z, us.toList, r, ⟨_, Heap.get?_push_size _ rfl, rfl, 0, by rw [Array.toArray_toList]⟩⟩, rfl, q _ _ (I.hok.fresh (Nat.le_refl _)) rfl rfl⟩
theorem TqN.is {a : Addr} {xs : List V} (I : Inv X pins σ H s) (h : TqN X.K H a xs) : s.TypeIs (.ref a) "tuple" ∧ ∃ ob, s.heap.get? a = some ob ∧ ob.dict = none := by
  rcases h with ⟨o, h, h1, h2⟩ | ⟨o, its, n, h1, h2, h3, _⟩
  · have g := (show ObjOk X.prog X.w H s.heap a (.frz o (.tup xs)) from I.hok a _ h).1
    exact ⟨⟨o, g, h1⟩, o, g, h2⟩
  · have g := I.kIn a o h1
    exact ⟨⟨o, g, h2⟩, o, g, h3⟩
end
section
variable {X : Cx} {es : List Expr} {t : TA} {pos : Pos}
def tTupN (t : TA) : TE := fun σ H Q => t σ H fun xs H1 => xs.length ≤ sizeLine ∧ FrT H1 Q xs
theorem pe_tupN {x1} (h : PA X es t) : PE X (.Tuple es x1 pos) (tTupN t) := by
  refine ⟨fun pins s σ H Q I hq => ?_⟩
  exact wpAny_Tuple_spliced (thn (h.run pos pins s σ H _ I hq) fun us s1 ⟨xs, H1, I1, r, z, q⟩ => ⟨by rw [← r.length]; exact z, frT (us := us.toArray) (t := s1.toks) I1 r z q⟩)
def rCatN (K : PySem.W.Frag) : R2 := fun x y H Q => ∃ a b xs ys, x = .ref a ∧ y = .ref b ∧ SqT K H a xs ∧ SqT K H b ys ∧ xs.length + ys.length ≤ sizeLine ∧
  (xs = [] → Q (.ref b) H) ∧ (xs ≠ [] → ys = [] → Q (.ref a) H) ∧ (xs ≠ [] → ys ≠ [] → FrT H Q (xs ++ ys))
theorem op_catN : OpR X (binaryOp .Add) (rCatN X.K) := by
  intro pins s σ H x y v u Q I rx ry h
  obtain ⟨a, b, xs, ys, rfl, rfl, ha, hb, hz, q0, q1, q2⟩ := h
  cases rx
  cases ry
  obtain ⟨its, r1, p1, _⟩ := I.tuple ha
  obtain ⟨its2, r2, p2, _⟩ := I.tuple hb
  by_cases hx : xs = []
  · subst hx
    cases r1
    exact cat_tup0 p1 p2 ⟨.ref b, H, I, rfl, q0 rfl⟩
  · refine HT.cat_tup p1 p2 (fun z => hx (r1.nil_iff.mp z)) (fun z => ⟨.ref a, H, I, rfl, q1 hx (r2.nil_iff.mp z)⟩) (fun z => ?_) (by rw [← r1.length, ← r2.length]; exact hz)
    exact frT (us := (its ++ its2).toArray) (t := s.toks) I (r1.append r2) (by rw [List.length_append]; exact hz) (q2 hx fun w => z (r2.nil_iff.mpr w))
def rSlN (K : PySem.W.Frag) : V → Option Int → Option Int → Hp → VK → Prop := fun x lo hi H Q => ∃ a xs, x = .ref a ∧ SqT K H a xs ∧
  (HT.sIx xs.length 0 lo = 0 ∧ HT.sIx xs.length xs.length hi = xs.length → Q (.ref a) H) ∧ (¬ (HT.sIx xs.length 0 lo = 0 ∧ HT.sIx xs.length xs.length hi = xs.length) → FrT H Q (cutV xs lo hi))
theorem sl_tupN : SlR X (rSlN X.K) := by
  intro pins s σ H x v vl vu lo hi sl Q I rx hs pl pu h
  obtain ⟨a, xs, rfl, hx, q1, q2⟩ := h
  cases rx
  obtain ⟨its, r, ht, hz⟩ := I.tuple hx
  have hlen : its.toArray.size = xs.length := by rw [List.size_toArray]; exact r.length.symm
  refine ⟨"tuple", _, PyProof.Rows.slot_tuple_getitem.lookup, ht.typeIs, ?_⟩
  by_cases hw : HT.sIx xs.length 0 lo = 0 ∧ HT.sIx xs.length xs.length hi = xs.length
  · exact getItem_tuple_whole ht hs pl pu (by rw [hlen]; exact hw) ⟨.ref a, H, I, rfl, q1 hw⟩
  · refine HT.getItem_tuple_cut ht hs pl pu (by rw [hlen]; exact hw) ?_ (by rw [hlen]; exact hz)
    rw [hlen]
    exact frT (t := s.toks) I (xs := cutV xs lo hi) ((r.drop (HT.sIx xs.length 0 lo)).take (HT.sIx xs.length xs.length hi - HT.sIx xs.length 0 lo)) (Nat.le_trans (cutV_length xs lo hi) hz) (q2 hw)
def rTupOfN (K : PySem.W.Frag) : List V → Hp → VK → Prop := fun xs H Q => ∃ p ys, xs = [.ref p] ∧ ((SqL K H p ys ∧ FrT H Q ys) ∨ (SqT K H p ys ∧ Q (.ref p) H))
theorem call_tupleN : CallR X (.type "tuple") (rTupOfN X.K) := by
  intro pins s σ H xs us Q I r h
  obtain ⟨p, ys, rfl, h⟩ := h
  obtain ⟨u, rfl, rx⟩ := vals1 r
  cases rx
  rcases h with ⟨hq, q⟩ | ⟨hq, q⟩
  · obtain ⟨its, r', pl, hz⟩ := I.list hq
    have hlen := r'.length
    refine call_tuple_list pl.isList (fun h' kp => ?_) (by simp only [List.size_toArray] <;> omega)
    have I1 : Inv X pins σ H { s with heap := h' } := I.kept (t' := s.toks) kp
    exact frT (us := its.toArray) (t := s.toks) I1 r' hz q
  · obtain ⟨its, r', pl, hz⟩ := I.tuple hq
    exact call_tuple_same pl ⟨.ref p, H, I, rfl, q⟩
def tTupRgN (te : L2.St → Hp → (Int → Int → Hp → Prop) → Prop) : TE := fun σ H Q => te σ H fun a b H1 => RgOk a b ∧ FrT H1 Q (rgV a b)
theorem pe_tupRgN {te : L2.St → Hp → (Int → Int → Hp → Prop) → Prop} {e : Expr} {p pos : Pos} (hc : X.calm = true) (hg : Gl X "tuple") (hm : X.mg "tuple" = none) (he : PRg X e te) (na : starEach [e] X.env = (false, eval e X.env) :: starEach [] X.env := by rfl) : PE X (.Call (.Name "tuple" p) [e] [] pos) (tTupRgN te) := by
  refine ⟨fun pins s σ H Q I h => ?_⟩
  refine Call_ (ld_blt I hg hm boot_tuple (PyProof.Rows.callWith_type1 (args_cons (thn (he pins s σ H _ I h) fun x s1 ⟨r, a, b, t, u, v, H1, ex, hr, I1, ok, q⟩ => args_nil ?_) na) na))
  subst ex
  obtain ⟨b1, b2, b3, b4, b5⟩ := ok
  refine call_tuple_range (n := (b - a).toNat) (I1.ok.hd hc) hr (small_one b1 b2 b3 b4) (rangeSize_nat a b) b5 fun h' tk acc hk hi => ?_
  have I2 : Inv X pins σ H1 { s1 with heap := h', toks := tk } := I1.kept hk
  exact frT (us := acc) (t := tk) I2 (vals_rg hi) (by rw [rgV_length, sizeLine_eq]; omega) q
def rRepTN (K : PySem.W.Frag) : R2 := fun x y H Q => ∃ l k xs, x = .ref l ∧ y = .int k ∧ SqT K H l xs ∧ xs ≠ [] ∧ 2 ≤ k ∧ k ≤ 1000 ∧ xs.length ≤ 1000 ∧ FrT H Q (List.replicate k.toNat xs).flatten
theorem op_repTN : OpR X (binaryOp .Mult) (rRepTN X.K) := by
  intro pins s σ H x y v u Q I rx ry h
  obtain ⟨l, k, xs, rfl, rfl, hT, hne, h1, h2, hz, q⟩ := h
  obtain ⟨t, rfl⟩ := ry
  cases rx
  obtain ⟨its, r, ⟨⟨cls, dd, data, sl⟩, ho, hc, n, hd⟩, _⟩ := I.tuple hT
  simp only at hc hd
  subst hc hd
  have len := r.length
  have many : its.toArray.isEmpty = false := by
    cases its with
    | nil => cases r; exact absurd rfl hne
    | cons _ _ => rfl
  have top : (xs.length : Int) * k ≤ 1000000 := by
    have : (xs.length : Int) * k ≤ 1000 * 1000 := Int.mul_le_mul (by omega) h2 (by omega) (by decide)
    omega
  have top2 : ((its.toArray.size : Nat) : Int) * k ≤ 1000000 := by rw [List.size_toArray, ← len]; exact top
  have room : (List.replicate k.toNat xs).flatten.length ≤ sizeLine := by
    rw [PyProof.Rows.lm_len_rep_flat, sizeLine_eq]
    have := Nat.mul_le_mul (show k.toNat ≤ 1000 by omega) hz
    omega
  have rr := r.rep k.toNat
  have a0 : (decide (k < -(2 ^ 63)) || decide (k ≥ 2 ^ 63)) = false := by simp; omega
  have a1 : (its.toArray.isEmpty || k == 1) = false := by rw [many]; simp; omega
  have a2 : (decide (k ≤ 0) || its.toArray.isEmpty) = false := by rw [many]; simp; omega
  have a4 : Builtin.Tuple.tupleTooMany (((its.toArray.size : Nat) : Int) * k) = false := decide_eq_false (by rw [sizeLine_eq]; omega)
  have a5 := tuple_mulW l its.toArray n dd sl k t a0 a1 a2 (by omega) a4 (by rw [size_rep, List.size_toArray, ← rr.length]; exact room)
  have ty : s.TypeIs (.ref l) "tuple" := ⟨_, ho, rfl⟩
  have fin := frT (us := (List.replicate k.toNat its).flatten.toArray) (t := s.toks) I rr room q
  rw [← size_rep] at fin
  exact wpAny_binaryOp_repeat_ref (U := "int") (by decide) ty (fun s' => typeIs_int s' k t) noFill_tuple_mul F.fills_int_mul F.slot_int_rmul repeat_tuple F.slot_int_index.lookup
    (call_meets F.slot_int_rmul (typeIs_int s k t) F.entry_int_rmul (F.args_int_rmul_2 _ _) (int_rmul_tuple k t l its.toArray n dd sl)
      ⟨ho, rfl, ty, call_meets F.slot_tuple_mul ty F.entry_tuple_mul (F.args_tuple_mul_2 _ _) a5 ⟨ho, fin⟩⟩)
end

/-! ### what will not be written any more may be held as it is -/
def Fzb : HO → Prop
  | .lst _ => True
  | .dK _ => True
  | .dT _ => True
  | _ => False
section
variable {X : Cx} {pins : List (Addr × Obj)} {σ : L2.St} {H : Hp} {s : Shared}
theorem objAt {P : Program} {w : World} {h : Heap} {p : Addr} {u : HO} (x : ObjOk P w H h p u) (f : Fzb u) : ∃ o, h.get? p = some o := by
  cases u with
  | lst xs => obtain ⟨_, _, _, _, e⟩ := x; exact ⟨_, e⟩
  | dK kvs => obtain ⟨_, _, _, _, o, _, _, e, _⟩ := x; exact ⟨_, e⟩
  | dT kvs => obtain ⟨_, _, _, _, o, _, _, e, _⟩ := x; exact ⟨_, e⟩
  | _ => exact f.elim
theorem Inv.freeze {p : Addr} {u : HO} (I : Inv X pins σ H s) (e : H p = some u) (f : Fzb u) : ∃ o, Inv X pins σ (upd H p (.frz o u)) s := by
  obtain ⟨o, ho⟩ := objAt (I.hok p u e) f
  have np : ∀ b, H b = none → b ≠ p := fun b n z => by rw [z, e] at n; cases n
  have nt : ∀ b xs, H b = some (.tup xs) → b ≠ p := fun b xs q z => by rw [z, e] at q; cases q; exact f
  have nf : ∀ b ob xs, H b = some (.frz ob xs) → b ≠ p := fun b ob xs q z => by rw [z, e] at q; cases q; exact f
  have nb : ∀ b ps, H b = some (.tbl ps) → b ≠ p := fun b ps q z => by rw [z, e] at q; cases q; exact f
  have no : ∀ b a, H b = some (.own a) → b ≠ p := fun b a q z => by rw [z, e] at q; cases q; exact f
  refine ⟨o, ⟨I.ok, I.os, I.bare, ?_, I.loc, I.cell, ?_, ?_, ?_, ?_, I.len⟩⟩
  · exact ⟨I.base.keep, I.base.slot, fun b ob q n hx => by
      have := I.base.free b ob q n hx
      rw [upd_ne (np b this)]; exact this, I.base.there, fun b xs q => by
      have := I.base.tups b xs q
      rw [upd_ne (nt b xs this)]; exact this, fun b ob xs q => by
      have := I.base.frzs b ob xs q
      rw [upd_ne (nf b ob xs this)]; exact this, fun b ps q => by
      obtain ⟨m, h⟩ := I.base.tbls b ps q
      exact ⟨m, by rw [upd_ne (nb b _ h)]; exact h⟩⟩
  · rw [upd_ne (np _ I.free)]; exact I.free
  · intro x c hc
    rw [upd_ne (np _ (I.freeC x c hc))]; exact I.freeC x c hc
  · intro q hq
    obtain ⟨h1, h2, h3⟩ := I.pin q hq
    exact ⟨h1, by rw [upd_ne (np _ h2)]; exact h2, h3⟩
  · intro b v hv
    have st : ∀ v, H b = some v → ObjOk X.prog X.w (upd H p (.frz o u)) s.heap b v := fun v hv =>
      (I.hok b v hv).stay (fun _ _ _ q => q) (fun c q => by rw [upd_ne (no c b q)]; exact q) fun c xs q => by rw [upd_ne (nt c xs q)]; exact q
    by_cases hb : b = p
    · subst hb
      rw [upd_same] at hv; cases hv
      exact ⟨ho, st u e⟩
    · rw [upd_ne hb] at hv
      exact st v hv
def fzQ (Q : VK) : VK := fun v H => Q v H ∨ ∃ p u, v = .ref p ∧ H p = some u ∧ Fzb u ∧ ∀ o, Q (.ref p) (upd H p (.frz o u))
theorem EP.fz {Q : VK} {u : Value} (h : EP X pins σ (fzQ Q) u s) : EP X pins σ Q u s := by
  obtain ⟨v, H, I, r, q | ⟨p, x, rfl, e, f, q⟩⟩ := h
  · exact ⟨v, H, I, r, q⟩
  · obtain ⟨o, I'⟩ := Inv.freeze I e f
    exact ⟨.ref p, _, I', r, q o⟩
end
section
variable {X : Cx}
theorem pe_fz {e : Expr} {t : TE} (h : PE X e t) : PE X e (fun σ H Q => t σ H (fzQ Q)) := ⟨fun pins s σ H Q I q => thn (h.run pins s σ H _ I q) fun u s1 z => EP.fz z⟩
theorem Inv.rdM {pins : List (Addr × Obj)} {σ : L2.St} {H : Hp} {s : Shared} {l : Addr} {xs : List V} (I : Inv X pins σ H s) (h : Rd H l (.lst xs)) : xs.length ≤ sizeLine ∧ ∃ (its : List Value) (n : Nat), Vals xs its ∧ xs.length = its.length ∧ s.heap.get? l = some { cls := .type "list", data := .seq its.toArray n } := by
  obtain ⟨z, its, n, r, e⟩ := h.ok I.hok
  exact ⟨z, its, n, r, r.length, e⟩
/-- list + list, either of them held -/
def rCatL : R2 := fun x y H Q => ∃ l b xs zs, x = .ref l ∧ y = .ref b ∧ Rd H l (.lst xs) ∧ Rd H b (.lst zs) ∧ xs.length + zs.length ≤ sizeLine ∧ ∀ p, H p = none → Q (.ref p) (upd H p (.lst (xs ++ zs)))
theorem op_catL : OpR X (binaryOp .Add) rCatL := by
  intro pins s σ H x y v u Q I rx ry h
  obtain ⟨l, b, xs, zs, rfl, rfl, hH, hB, hz, q⟩ := h
  cases rx
  cases ry
  obtain ⟨z, its, n, r, hl, e⟩ := Inv.rdM I hH
  obtain ⟨z2, its2, n2, r2, hl2, e2⟩ := Inv.rdM I hB
  refine PySem.P.add_list e e2 ?_ (by rw [List.size_toArray, List.size_toArray]; omega)
  have ea : its.toArray ++ its2.toArray = (its ++ its2).toArray := by simp
  rw [ea]
  exact ⟨.ref _, _, I.lnew (t' := s.toks) (r.append r2) (by rw [List.length_append]; omega), rfl, q _ I.fresh⟩
def rExtendL : V → List V → Hp → VK → Prop := fun x vs H Q => ∃ l b xs zs, x = .ref l ∧ vs = [.ref b] ∧ H l = some (.lst xs) ∧ Rd H b (.lst zs) ∧ xs.length + zs.length ≤ sizeLine ∧ Q .non (upd H l (.lst (xs ++ zs)))
theorem mt_extendL : MtR X "list.extend" rExtendL := by
  intro pins s σ H x vs v us Q I rx rv h
  obtain ⟨l, b, xs, zs, rfl, rfl, hH, hB, hz, q⟩ := h
  cases rx
  obtain ⟨u, rfl, ru⟩ := rv.one
  cases ru
  obtain ⟨z, its, n, r, hl, e⟩ := I.lstM hH
  obtain ⟨z2, its2, n2, r2, hl2, e2⟩ := Inv.rdM I hB
  have hsz : its.toArray.size + its2.toArray.size ≤ sizeLine := by rw [List.size_toArray, List.size_toArray]; omega
  have hlong : ¬ (!its.toArray.isEmpty && Builtin.List.listTooLong (its.toArray.size + its2.toArray.size)) = true := by
    rw [notLongL hsz, Bool.and_false]
    exact Bool.false_ne_true
  refine call_meets F.slot_list_extend ⟨_, e, rfl⟩ F.entry_list_extend (F.args_list_extend_2 _ _)
    (AutoSeq1.list_extend_list_list_0 l its.toArray n b its2.toArray n2 hlong (by rw [List.size_toArray]; omega) (by omega)) ⟨e, e2, ?_⟩
  refine ⟨.non, _, I.lset (its' := its ++ its2) hH e (by simp) (r.append r2) ?_, rfl, q⟩
  rw [List.length_append]
  omega
end
end Dp
/-! my own layer: plain values (tuples as trees), a store of lists and dicts, what relates them to the heap -/
namespace Dp
open PySem PySem.Spec L2
open PyProof.Rows hiding St

inductive W where
  | non | bl (b : Bool) | int (i : Int) | str (x : Str) | tp (k : Bool) (xs : List W) | lst (xs : List W) | dct (ks : List Key) (xs : List W) | dit (ks : List (List Key)) (xs : List W) | ref (a : Addr) | ty (n : String) | kls (xs : List W) | xc (a : Addr) (n : Nat) (d : Addr) (ns : List Str) (ws : List W)
/-- a tuple; one that may be a key of a dict -/
abbrev W.tup (xs : List W) : W := .tp false xs
abbrev W.ktp (xs : List W) : W := .tp true xs
/-- the forms of a feed -/
inductive Fk where
  | d4 | l4 | l3 | l3s
  deriving DecidableEq
inductive Ce where
  | lst (xs : List W)
  | dic (kvs : List (Key × W))
  | dit (kvs : List (List Key × W))
  | fd (k : Fk) (n : Nat)
abbrev kC : Key := Sum.inr ("cells" : Str)
abbrev kA : Key := Sum.inr ("at" : Str)
abbrev kL : Key := Sum.inr ("left" : Str)
abbrev kT : Key := Sum.inr ("turn" : Str)
/-- a feed, seen from within: the script's cells, how many were taken, what is left of one, the turn -/
def fdW (k : Fk) (its : List Int) (x y z : Int) : Ce := match k with
  | .d4 => .dic [(kC, .lst (its.map W.int)), (kA, .int x), (kL, .int y), (kT, .int z)]
  | .l4 => .lst [.lst (its.map W.int), .int x, .int y, .int z]
  | .l3 => .lst [.lst (its.map W.int), .int x, .int y]
  | .l3s => .lst [.lst (its.map W.int), .int y, .int x]
abbrev Sto := Addr → Option Ce
def Sto.put (S : Sto) (a : Addr) (c : Ce) : Sto := fun b => if b = a then some c else S b
theorem put_same {S : Sto} {a : Addr} {c : Ce} : S.put a c a = some c := if_pos rfl
theorem put_ne {S : Sto} {a b : Addr} {c : Ce} (h : b ≠ a) : S.put a c b = S b := if_neg h
theorem put_put {S : Sto} {a : Addr} {c d : Ce} : (S.put a c).put a d = S.put a d := by
  funext b; unfold Sto.put; split <;> rfl
/-- an exception: its class by number, its fields -/
structure Xn where
  cls : Nat
  ns : List Str
  ws : List W
abbrev Ro := List (Option W)
abbrev WK := W → Sto → Prop
abbrev EK := Xn → Sto → Prop
abbrev WE := Ro → Sto → WK → EK → Prop
abbrev WEs := Ro → Sto → (List W → Sto → Prop) → EK → Prop
abbrev WT := Ro → Sto → (Bool → Sto → Prop) → EK → Prop
def rget : Ro → Nat → Option W
  | [], _ => none
  | x :: _, 0 => x
  | _ :: r, n + 1 => rget r n
def rset : Ro → Nat → Option W → Ro
  | [], _, _ => []
  | _ :: r, 0, w => w :: r
  | x :: r, n + 1, w => x :: rset r n w

def Sto.del (S : Sto) (a : Addr) : Sto := fun b => if b = a then none else S b
theorem sdel_same {S : Sto} {a : Addr} : S.del a a = none := if_pos rfl
theorem sdel_ne {S : Sto} {a b : Addr} (h : b ≠ a) : S.del a b = S b := if_neg h
theorem put_del {S : Sto} {a : Addr} {c : Ce} (h : S a = none) : (S.put a c).del a = S := by
  funext b; unfold Sto.del Sto.put; split
  · rename_i e; rw [e, h]
  · rfl

/-! ### relations -/
/-- a list that stands in the written part -/
def KsL (K : PySem.W.Frag) (a : Addr) (xs : List V) : Prop := ∀ H : Hp, SqL K H a xs
/-- a tuple: one without a dict, or one that may be a key -/
def TqF (k : Bool) (K : PySem.W.Frag) (H : Hp) (a : Addr) (xs : List V) : Prop := if k = true then H a = some (.tup xs) else TqN K H a xs
theorem TqF.sq {k : Bool} {K : PySem.W.Frag} {H : Hp} {a : Addr} {xs : List V} (h : TqF k K H a xs) : SqT K H a xs := by
  cases k with
  | true => exact .of h
  | false => exact TqN.sq h
mutual
inductive RV (K : PySem.W.Frag) (H : Hp) : W → V → Prop where
  | non : RV K H .non .non
  | bl (b : Bool) : RV K H (.bl b) (.bl b)
  | int (i : Int) : RV K H (.int i) (.int i)
  | str (x : Str) : RV K H (.str x) (.str x)
  | ref (a : Addr) : RV K H (.ref a) (.ref a)
  | ty (n : String) : RV K H (.ty n) (.ty n)
  | tp {k : Bool} {ws : List W} {a : Addr} {vs : List V} (h : TqF k K H a vs) (r : RVs K H ws vs) : RV K H (.tp k ws) (.ref a)
  | lst {ws : List W} {a : Addr} {vs : List V} (h : ∃ o, H a = some (.frz o (.lst vs))) (r : RVs K H ws vs) : RV K H (.lst ws) (.ref a)
  | dct {ks : List Key} {ws : List W} {a : Addr} {vs : List V} (h : ∃ o, H a = some (.frz o (.dK (ks.zip vs)))) (l : ks.length = ws.length) (r : RVs K H ws vs) : RV K H (.dct ks ws) (.ref a)
  | dit {ks : List (List Key)} {ws : List W} {a : Addr} {vs : List V} (h : ∃ o, H a = some (.frz o (.dT (ks.zip vs)))) (l : ks.length = ws.length) (r : RVs K H ws vs) : RV K H (.dit ks ws) (.ref a)
  | kls {ws : List W} {a : Addr} {vs : List V} (h : KsL K a vs) (r : RVs K H ws vs) : RV K H (.kls ws) (.ref a)
  | xc {a d : Addr} {n : Nat} {ns : List Str} {ws : List W} {vs : List V} (h : H d = some (.xd (ns.zip vs))) (r : RVs K H ws vs) : RV K H (.xc a n d ns ws) (.ref a)
inductive RVs (K : PySem.W.Frag) (H : Hp) : List W → List V → Prop where
  | nil : RVs K H [] []
  | cons {w : W} {v : V} {ws : List W} {vs : List V} (h : RV K H w v) (t : RVs K H ws vs) : RVs K H (w :: ws) (v :: vs)
end
def RKV (K : PySem.W.Frag) (H : Hp) (a : List (Key × W)) (b : List (Key × V)) : Prop := Paired (fun (p : Key × W) (q : Key × V) => p.1 = q.1 ∧ RV K H p.2 q.2) a b
def RFs (K : PySem.W.Frag) (H : Hp) (a : List (Str × W)) (b : List (Str × V)) : Prop := Paired (fun (p : Str × W) (q : Str × V) => p.1 = q.1 ∧ RV K H p.2 q.2) a b
def RTV (K : PySem.W.Frag) (H : Hp) (a : List (List Key × W)) (b : List (List Key × V)) : Prop := Paired (fun (p : List Key × W) (q : List Key × V) => p.1 = q.1 ∧ RV K H p.2 q.2) a b
inductive RC (K : PySem.W.Frag) (H : Hp) : Ce → HO → Prop where
  | lst {ws : List W} {vs : List V} (r : RVs K H ws vs) : RC K H (.lst ws) (.lst vs)
  | dic {ws : List (Key × W)} {vs : List (Key × V)} (r : RKV K H ws vs) : RC K H (.dic ws) (.dK vs)
  | dit {ws : List (List Key × W)} {vs : List (List Key × V)} (r : RTV K H ws vs) : RC K H (.dit ws) (.dT vs)
  | fd {k : Fk} {n : Nat} {its : List Int} {x y z : Int} {o : HO} (r : RC K H (fdW k its x y z) o) (l : its.length ≤ 63) (x0 : 0 ≤ x) (x1 : x ≤ n) (z0 : 0 ≤ z) (z1 : z ≤ n) : RC K H (.fd k n) o
theorem RC.fzb {K : PySem.W.Frag} {H : Hp} {c : Ce} {o : HO} (r : RC K H c o) : Fzb o := by
  induction r with
  | lst _ => trivial
  | dic _ => trivial
  | dit _ => trivial
  | fd _ _ _ _ _ _ ih => exact ih
def RS (K : PySem.W.Frag) (H : Hp) (S : Sto) : Prop := ∀ a c, S a = some c → ∃ o, H a = some o ∧ RC K H c o
def RE (K : PySem.W.Frag) (H : Hp) (ρ : Ro) (σ : St) : Prop := ρ.length ≤ σ.length ∧ ∀ i w, rget ρ i = some w → ∃ v, σ[i]? = some (some v) ∧ RV K H w v
/-- what the store does not own stays -/
def Ext (H : Hp) (S : Sto) (H' : Hp) (S' : Sto) : Prop := ∀ a o, H a = some o → S a = none → H' a = some o ∧ S' a = none
/-- the tuples stay -/
def Tst (K : PySem.W.Frag) (H H' : Hp) : Prop := (∀ a o u, H a = some (.frz o u) → H' a = some (.frz o u)) ∧ (∀ d fs, H d = some (.xd fs) → H' d = some (.xd fs)) ∧ ∀ a xs, H a = some (.tup xs) → H' a = some (.tup xs)
theorem Tst.tqN {K : PySem.W.Frag} {H H' : Hp} (t : Tst K H H') {a : Addr} {xs : List V} (h : TqN K H a xs) : TqN K H' a xs := by
  rcases h with ⟨o, h, h1, h2⟩ | h
  · exact .inl ⟨o, t.1 _ _ _ h, h1, h2⟩
  · exact .inr h
theorem Tst.tq {k : Bool} {K : PySem.W.Frag} {H H' : Hp} (t : Tst K H H') {a : Addr} {xs : List V} (h : TqF k K H a xs) : TqF k K H' a xs := by
  cases k with
  | true => exact t.2.2 _ _ h
  | false => exact t.tqN h
/-- what is not written any more stays: the general step -/
theorem Tst.upd {K : PySem.W.Frag} {H : Hp} {p : Addr} {o : HO} (h : ∀ u, H p = some u → Fzb u) : Tst K H (upd H p o) := by
  refine ⟨fun a ob u q => ?_, fun a fs q => ?_, fun a xs q => ?_⟩ <;>
  · have : a ≠ p := fun z => by subst z; exact (h _ q).elim
    rw [upd_ne this]; exact q
theorem Tst.refl {K : PySem.W.Frag} {H : Hp} : Tst K H H := ⟨fun _ _ _ h => h, fun _ _ h => h, fun _ _ h => h⟩
theorem Ext.refl {H : Hp} {S : Sto} : Ext H S H S := fun _ _ h h' => ⟨h, h'⟩
theorem Ext.trans {H H1 H2 : Hp} {S S1 S2 : Sto} (a : Ext H S H1 S1) (b : Ext H1 S1 H2 S2) : Ext H S H2 S2 := fun x o h h' => let ⟨p, q⟩ := a x o h h'; b x o p q
section
variable {K : PySem.W.Frag} {H H' : Hp} {S S' : Sto}
theorem RS.fz (rs : RS K H S) {a : Addr} {u : HO} (h : H a = some u) (n : ¬ Fzb u) : S a = none := by
  cases e : S a with
  | none => rfl
  | some c =>
    obtain ⟨o, h1, r⟩ := rs a c e
    rw [h] at h1; cases h1; exact (n r.fzb).elim
theorem RS.at_ (rs : RS K H S) {a : Addr} {c : Ce} (h : S a = some c) : ∀ u, H a = some u → Fzb u := fun u e => by
  obtain ⟨o, h1, r⟩ := rs a c h
  rw [e] at h1; cases h1; exact r.fzb
theorem RS.fresh (rs : RS K H S) {a : Addr} (h : H a = none) : S a = none := by
  cases e : S a with
  | none => rfl
  | some c =>
    obtain ⟨o, h1, _⟩ := rs a c e
    rw [h] at h1; cases h1
theorem Ext.tst (e : Ext H S H' S') (rs : RS K H S) : Tst K H H' := ⟨fun a o u h => (e a _ h (rs.fz h fun z => z)).1, fun d fs h => (e d _ h (rs.fz h fun z => z)).1, fun d fs h => (e d _ h (rs.fz h fun z => z)).1⟩
mutual
theorem RV.tst (t : Tst K H H') : ∀ {w : W} {v : V}, RV K H w v → RV K H' w v
  | _, _, .non => .non
  | _, _, .bl b => .bl b
  | _, _, .int b => .int b
  | _, _, .str b => .str b
  | _, _, .ref b => .ref b
  | _, _, .ty b => .ty b
  | _, _, .tp h r => .tp (t.tq h) (RVs.tst t r)
  | _, _, .lst ⟨o, h⟩ r => .lst ⟨o, t.1 _ _ _ h⟩ (RVs.tst t r)
  | _, _, .dct ⟨o, h⟩ l r => .dct ⟨o, t.1 _ _ _ h⟩ l (RVs.tst t r)
  | _, _, .dit ⟨o, h⟩ l r => .dit ⟨o, t.1 _ _ _ h⟩ l (RVs.tst t r)
  | _, _, .kls h r => .kls h (RVs.tst t r)
  | _, _, .xc h r => .xc (t.2.1 _ _ h) (RVs.tst t r)
theorem RVs.tst (t : Tst K H H') : ∀ {w : List W} {v : List V}, RVs K H w v → RVs K H' w v
  | _, _, .nil => .nil
  | _, _, .cons h r => .cons (RV.tst t h) (RVs.tst t r)
end
theorem RKV.tst (t : Tst K H H') {a : List (Key × W)} {b : List (Key × V)} (r : RKV K H a b) : RKV K H' a b := Paired.mapP r fun _ _ z => ⟨z.1, z.2.tst t⟩
theorem RFs.tst (t : Tst K H H') {a : List (Str × W)} {b : List (Str × V)} (r : RFs K H a b) : RFs K H' a b := Paired.mapP r fun _ _ z => ⟨z.1, z.2.tst t⟩
theorem RTV.tst (t : Tst K H H') {a : List (List Key × W)} {b : List (List Key × V)} (r : RTV K H a b) : RTV K H' a b := Paired.mapP r fun _ _ z => ⟨z.1, z.2.tst t⟩
theorem RC.tst (t : Tst K H H') {c : Ce} {o : HO} (r : RC K H c o) : RC K H' c o := by
  induction r with
  | lst r => exact .lst (r.tst t)
  | dic r => exact .dic (r.tst t)
  | dit r => exact .dit (r.tst t)
  | fd _ a b c d e ih => exact .fd ih a b c d e
theorem RE.tst (t : Tst K H H') {ρ : Ro} {σ : St} (r : RE K H ρ σ) : RE K H' ρ σ := ⟨r.1, fun i w h => let ⟨v, a, b⟩ := r.2 i w h; ⟨v, a, b.tst t⟩⟩
theorem RVs.length {w : List W} {v : List V} (r : RVs K H w v) : w.length = v.length := by
  induction w generalizing v with
  | nil => cases r; rfl
  | cons x xs ih => cases r with | cons h t => rw [List.length_cons, List.length_cons, ih t]
theorem RVs.get {w : List W} {v : List V} (r : RVs K H w v) {i : Nat} {y : V} (h : v[i]? = some y) : ∃ x, w[i]? = some x ∧ RV K H x y := by
  induction w generalizing v i with
  | nil => cases r; simp at h
  | cons x xs ih =>
    cases r with
    | cons h1 t =>
      cases i with
      | zero => simp at h; subst h; exact ⟨x, by simp, h1⟩
      | succ i => simpa using ih t (by simpa using h)
theorem RVs.get' {w : List W} {v : List V} (r : RVs K H w v) {i : Nat} {x : W} (h : w[i]? = some x) : ∃ y, v[i]? = some y ∧ RV K H x y := by
  induction w generalizing v i with
  | nil => simp at h
  | cons z xs ih =>
    cases r with
    | cons h1 t =>
      cases i with
      | zero => simp at h; subst h; exact ⟨_, by simp, h1⟩
      | succ i => simpa using ih t (by simpa using h)
theorem RVs.append {a c : List W} {b d : List V} (r : RVs K H a b) (s : RVs K H c d) : RVs K H (a ++ c) (b ++ d) := by
  induction a generalizing b with
  | nil => cases r; exact s
  | cons x xs ih => cases r with | cons h t => exact .cons h (ih t)
theorem RVs.take {a : List W} {b : List V} (n : Nat) (r : RVs K H a b) : RVs K H (a.take n) (b.take n) := by
  induction a generalizing b n with
  | nil => cases r; simp; exact .nil
  | cons x xs ih =>
    cases r with
    | cons h t =>
      cases n with
      | zero => simp; exact .nil
      | succ n => simp; exact .cons h (ih n t)
theorem RVs.drop {a : List W} {b : List V} (n : Nat) (r : RVs K H a b) : RVs K H (a.drop n) (b.drop n) := by
  induction a generalizing b n with
  | nil => cases r; simp; exact .nil
  | cons x xs ih =>
    cases r with
    | cons h t =>
      cases n with
      | zero => exact .cons h t
      | succ n => simp; exact ih n t
theorem RVs.set {a : List W} {b : List V} {x : W} {y : V} (i : Nat) (r : RVs K H a b) (h : RV K H x y) : RVs K H (a.set i x) (b.set i y) := by
  induction a generalizing b i with
  | nil => cases r; simp; exact .nil
  | cons z xs ih =>
    cases r with
    | cons h1 t =>
      cases i with
      | zero => exact .cons h t
      | succ n => exact .cons h1 (ih n t)
theorem RVs.rev {a : List W} {b : List V} (r : RVs K H a b) : RVs K H a.reverse b.reverse := by
  induction a generalizing b with
  | nil => cases r; exact .nil
  | cons x xs ih => cases r with | cons h t => simp; exact (ih t).append (.cons h .nil)
theorem RVs.eraseIdx {a : List W} {b : List V} (i : Nat) (r : RVs K H a b) : RVs K H (a.eraseIdx i) (b.eraseIdx i) := by
  induction a generalizing b i with
  | nil => cases r; simp; exact .nil
  | cons z xs ih =>
    cases r with
    | cons h1 t =>
      cases i with
      | zero => exact t
      | succ n => exact .cons h1 (ih n t)
theorem tst_upd_new {p : Addr} {o : HO} (h : H p = none) : Tst K H (upd H p o) := .upd fun u e => by rw [h] at e; cases e
theorem TqN.new {H : Hp} {p : Addr} {o : Obj} {xs : List V} (c : o.cls = .type "tuple") (d : o.dict = none) : TqN K (upd H p (.frz o (.tup xs))) p xs := .inl ⟨o, upd_same, c, d⟩
/-- a new object that the store does not own (a tuple) -/
theorem RS.tup (rs : RS K H S) {p : Addr} {o : HO} (h : H p = none) : RS K (upd H p o) S := fun a c e => by
  obtain ⟨u, h1, r⟩ := rs a c e
  exact ⟨u, by rw [upd_ne (ne_of_none h1 h)]; exact h1, r.tst (tst_upd_new h)⟩
theorem Ext.tup {p : Addr} {o : HO} (h : H p = none) : Ext H S (upd H p o) S := fun a u e e' => ⟨by rw [upd_ne (ne_of_none e h)]; exact e, e'⟩
/-- a new object that it owns -/
theorem RS.new (rs : RS K H S) {p : Addr} {o : HO} {c : Ce} (h : H p = none) (r : RC K H c o) : RS K (upd H p o) (S.put p c) := fun a d e => by
  by_cases z : a = p
  · subst z
    rw [put_same] at e; cases e
    exact ⟨o, upd_same, r.tst (tst_upd_new h)⟩
  · rw [put_ne z] at e
    exact rs.tup h a d e
theorem Ext.new {p : Addr} {o : HO} {c : Ce} (h : H p = none) : Ext H S (upd H p o) (S.put p c) := fun a u e e' => ⟨by rw [upd_ne (ne_of_none e h)]; exact e, by rw [put_ne (ne_of_none e h)]; exact e'⟩
/-- an owned object written -/
theorem tst_upd_own (rs : RS K H S) {p : Addr} {o : HO} {c : Ce} (h : S p = some c) : Tst K H (upd H p o) := .upd (rs.at_ h)
theorem RS.put (rs : RS K H S) {p : Addr} {o : HO} {c d : Ce} (h : S p = some c) (r : RC K H d o) : RS K (upd H p o) (S.put p d) := fun a e q => by
  by_cases z : a = p
  · subst z
    rw [put_same] at q; cases q
    exact ⟨o, upd_same, r.tst (tst_upd_own rs h)⟩
  · rw [put_ne z] at q
    obtain ⟨u, h1, r1⟩ := rs a e q
    exact ⟨u, by rw [upd_ne z]; exact h1, r1.tst (tst_upd_own rs h)⟩
theorem Ext.put {p : Addr} {o : HO} {c d : Ce} (h : S p = some c) : Ext H S (upd H p o) (S.put p d) := fun a u e e' => by
  have : a ≠ p := fun z => by subst z; rw [e'] at h; cases h
  exact ⟨by rw [upd_ne this]; exact e, by rw [put_ne this]; exact e'⟩
theorem RS.lst (rs : RS K H S) {a : Addr} {xs : List W} (h : S a = some (.lst xs)) : ∃ vs, H a = some (.lst vs) ∧ RVs K H xs vs := by
  obtain ⟨o, h1, r⟩ := rs a _ h
  cases r with
  | lst r => exact ⟨_, h1, r⟩
theorem RS.dic (rs : RS K H S) {a : Addr} {xs : List (Key × W)} (h : S a = some (.dic xs)) : ∃ vs, H a = some (.dK vs) ∧ RKV K H xs vs := by
  obtain ⟨o, h1, r⟩ := rs a _ h
  cases r with
  | dic r => exact ⟨_, h1, r⟩
theorem RS.dit (rs : RS K H S) {a : Addr} {xs : List (List Key × W)} (h : S a = some (.dit xs)) : ∃ vs, H a = some (.dT vs) ∧ RTV K H xs vs := by
  obtain ⟨o, h1, r⟩ := rs a _ h
  cases r with
  | dit r => exact ⟨_, h1, r⟩
/-- a list that may be read: held as it is, or a cell of the store -/
def Lr (S : Sto) (x : W) (xs : List W) : Prop := x = .lst xs ∨ ∃ a, x = .ref a ∧ S a = some (.lst xs)
theorem Lr.lst {S : Sto} {xs : List W} : Lr S (.lst xs) xs := .inl rfl
theorem Lr.ref {S : Sto} {a : Addr} {xs : List W} (h : S a = some (.lst xs)) : Lr S (.ref a) xs := .inr ⟨a, rfl, h⟩
theorem RS.rd (rs : RS K H S) {x : W} {xs : List W} {v : V} (r : RV K H x v) (h : Lr S x xs) : ∃ a vs, v = .ref a ∧ Rd H a (.lst vs) ∧ RVs K H xs vs := by
  rcases h with rfl | ⟨a, rfl, h⟩
  · cases r with | lst h r => exact ⟨_, _, rfl, .inr h, r⟩
  · cases r
    obtain ⟨vs, q, r⟩ := rs.lst h
    exact ⟨a, vs, rfl, .inl q, r⟩
theorem RS.list (rs : RS K H S) {x : W} {xs : List W} {v : V} (r : RV K H x v) (h : Lr S x xs) : ∃ a vs, v = .ref a ∧ SqL K H a vs ∧ RVs K H xs vs := by
  obtain ⟨a, vs, e, q, r⟩ := rs.rd r h
  exact ⟨a, vs, e, .inl q, r⟩
/-- some of it forgotten -/
theorem RS.del (rs : RS K H S) (p : Addr) : RS K H (S.del p) := fun a c e => by
  by_cases z : a = p
  · subst z; rw [sdel_same] at e; cases e
  · rw [sdel_ne z] at e; exact rs a c e
theorem rget_rset {ρ : Ro} {i j : Nat} {w : Option W} {x : W} (h : rget (rset ρ i w) j = some x) : (j = i ∧ w = some x) ∨ (j ≠ i ∧ rget ρ j = some x) := by
  induction ρ generalizing i j with
  | nil => simp [rset, rget] at h
  | cons y r ih =>
    cases i with
    | zero =>
      cases j with
      | zero => exact .inl ⟨rfl, h⟩
      | succ j => exact .inr ⟨by omega, h⟩
    | succ i =>
      cases j with
      | zero => exact .inr ⟨by omega, h⟩
      | succ j =>
        rcases ih (i := i) (j := j) h with ⟨a, b⟩ | ⟨a, b⟩
        · exact .inl ⟨by omega, b⟩
        · exact .inr ⟨by omega, b⟩
theorem rset_length (ρ : Ro) (i : Nat) (w : Option W) : (rset ρ i w).length = ρ.length := by
  induction ρ generalizing i with
  | nil => rfl
  | cons x r ih =>
    cases i with
    | zero => rfl
    | succ i => simp [rset, ih]
theorem rget_lt {ρ : Ro} {i : Nat} {x : W} (h : rget ρ i = some x) : i < ρ.length := by
  induction ρ generalizing i with
  | nil => simp [rget] at h
  | cons y r ih =>
    cases i with
    | zero => simp
    | succ i => have := ih (i := i) h; simp; omega
theorem RE.set {ρ : Ro} {σ : St} (r : RE K H ρ σ) {i : Nat} {w : W} {v : V} (h : RV K H w v) : RE K H (rset ρ i (some w)) (σ.set i (some v)) := ⟨by rw [rset_length, List.length_set]; exact r.1, fun j x e => by
  have hj := rget_lt e
  rw [rset_length] at hj
  rcases rget_rset e with ⟨e1, e2⟩ | ⟨ne, e2⟩
  · cases e2
    subst e1
    exact ⟨v, by rw [List.getElem?_set_self (Nat.lt_of_lt_of_le hj r.1)], h⟩
  · obtain ⟨y, a, b⟩ := r.2 j x e2
    exact ⟨y, by rw [List.getElem?_set_ne (Ne.symm ne)]; exact a, b⟩⟩
/-- forgotten slots -/
def rwipe (ρ : Ro) : List Nat → Ro
  | [] => ρ
  | v :: vs => rset (rwipe ρ vs) v none
theorem rwipe_length (ρ : Ro) : ∀ vs : List Nat, (rwipe ρ vs).length = ρ.length
  | [] => rfl
  | v :: vs => by show (rset (rwipe ρ vs) v none).length = _; rw [rset_length, rwipe_length]
theorem RE.wipe {ρ : Ro} {σ : St} (r : RE K H ρ σ) : ∀ (vs : List Nat), RE K H (rwipe ρ vs) (L2.wipe σ vs)
  | [] => r
  | v :: vs => ⟨by rw [rwipe_length, L2.wipe_length]; exact r.1, fun j x e => by
    have e : rget (rset (rwipe ρ vs) v none) j = some x := e
    rcases rget_rset e with ⟨_, e2⟩ | ⟨ne, e2⟩
    · cases e2
    · obtain ⟨y, a, b⟩ := (RE.wipe r vs).2 j x e2
      exact ⟨y, by show ((L2.wipe σ vs).set v none)[j]? = _; rw [List.getElem?_set_ne (Ne.symm ne)]; exact a, b⟩⟩
theorem wipe_set (σ : St) (i : Nat) (v : Option V) : ∀ vs : List Nat, L2.wipe (σ.set i v) vs = if i ∈ vs then L2.wipe σ vs else (L2.wipe σ vs).set i v
  | [] => by simp [L2.wipe]
  | a :: vs => by
    show (L2.wipe (σ.set i v) vs).set a none = _
    rw [wipe_set σ i v vs]
    by_cases h : i = a
    · subst h
      rw [if_pos (List.mem_cons_self ..)]
      show _ = (L2.wipe σ vs).set i none
      split
      · rfl
      · rw [List.set_set]
    · by_cases h2 : i ∈ vs
      · rw [if_pos h2, if_pos (List.mem_cons_of_mem _ h2)]; rfl
      · rw [if_neg h2, if_neg (by simp [h, h2])]
        show ((L2.wipe σ vs).set i v).set a none = ((L2.wipe σ vs).set a none).set i v
        rw [List.set_comm _ _ h]
theorem wipe_in {σ : St} {i : Nat} {v : Option V} {vs : List Nat} (h : i ∈ vs) : L2.wipe (σ.set i v) vs = L2.wipe σ vs := by
  rw [wipe_set, if_pos h]
end

/-! ### a store that tells less -/
inductive Wk : Ce → Ce → Prop where
  | same (c : Ce) : Wk c c
  | more {k : Fk} {n m : Nat} (h : n ≤ m) : Wk (.fd k n) (.fd k m)
  | shut {k : Fk} {n : Nat} {its : List Int} {x y z : Int} (l : its.length ≤ 63) (x0 : 0 ≤ x) (x1 : x ≤ n) (z0 : 0 ≤ z) (z1 : z ≤ n) : Wk (fdW k its x y z) (.fd k n)
def Le (A B : Sto) : Prop := ∀ a c, A a = some c → ∃ d, B a = some d ∧ Wk d c
theorem Le.refl {S : Sto} : Le S S := fun a c h => ⟨c, h, .same c⟩
theorem RC.wk {K : PySem.W.Frag} {H : Hp} {c d : Ce} {o : HO} (r : RC K H c o) (h : Wk c d) : RC K H d o := by
  cases h with
  | same => exact r
  | more h => cases r with | fd r a b c d e => exact .fd r a b (by omega) d (by omega)
  | shut l x0 x1 z0 z1 => exact .fd r l x0 x1 z0 z1
theorem RS.le {K : PySem.W.Frag} {H : Hp} {A B : Sto} (rs : RS K H B) (h : Le A B) : RS K H A := fun a c e => by
  obtain ⟨d, h1, h2⟩ := h a c e
  obtain ⟨o, q, r⟩ := rs a d h1
  exact ⟨o, q, r.wk h2⟩
theorem Le.none {A B : Sto} (h : Le A B) {a : Addr} (e : B a = none) : A a = none := by
  cases q : A a with
  | none => rfl
  | some c => obtain ⟨d, h1, _⟩ := h a c q; rw [e] at h1; cases h1
theorem Ext.le {H H' : Hp} {S S' A : Sto} (e : Ext H S H' S') (h : Le A S') : Ext H S H' A := fun a o q n => ⟨(e a o q n).1, h.none (e a o q n).2⟩
@[irreducible] def fgt (S : Sto) (K : Sto → Prop) : Prop := ∃ A, Le A S ∧ K A
theorem fgt_id {S : Sto} {K : Sto → Prop} (h : K S) : fgt S K := by unfold fgt; exact ⟨S, .refl, h⟩
theorem fgt_to {S A : Sto} {K : Sto → Prop} (l : Le A S) (h : K A) : fgt S K := by unfold fgt; exact ⟨A, l, h⟩
/-! ### readings -/
/-- the constants of a whole: the written part, the addresses of the exception classes -/
structure Cst where
  K : PySem.W.Frag
  cl : Nat → Addr
  cls : List Nat
def RXn (c : Cst) (H : Hp) (S : Sto) (x : Xn) (cls : Value) (d : Option Addr) : Prop :=
  cls = .ref (c.cl x.cls) ∧ x.cls ∈ c.cls ∧ ∃ dd vs, d = some dd ∧ H dd = some (.xd (x.ns.zip vs)) ∧ RVs c.K H x.ws vs
/-- what follows an expression -/
structure Post (c : Cst) (Wx : WX) (σ : St) (H : Hp) (S : Sto) (Kk : WK) (Ek : EK) (Q : VK) : Prop where
  ok : ∀ w S' H' v, Kk w S' → Ext H S H' S' → RS c.K H' S' → RV c.K H' w v → Q v H'
  ex : ∀ x S' H' cls d, Ek x S' → Ext H S H' S' → RS c.K H' S' → RXn c H' S' x cls d → Wx cls d σ H'
/-- only the part for errors -/
def PoX (c : Cst) (Wx : WX) (σ : St) (H : Hp) (S : Sto) (Ek : EK) : Prop := ∀ x S' H' cls d, Ek x S' → Ext H S H' S' → RS c.K H' S' → RXn c H' S' x cls d → Wx cls d σ H'
theorem PoX.on {c : Cst} {Wx : WX} {σ : St} {H H1 : Hp} {S S1 : Sto} {Ek : EK} (p : PoX c Wx σ H S Ek) (e : Ext H S H1 S1) : PoX c Wx σ H1 S1 Ek := fun x S' H' cls d k e' => p x S' H' cls d k (e.trans e')
def tE (c : Cst) (Wx : WX) (m : WE) : TE := fun σ H Q => ∃ ρ S Kk Ek, RE c.K H ρ σ ∧ RS c.K H S ∧ m ρ S Kk Ek ∧
  (∀ w S' H' v, Kk w S' → Ext H S H' S' → RS c.K H' S' → RV c.K H' w v → Q v H') ∧ PoX c Wx σ H S Ek
def tA (c : Cst) (Wx : WX) (m : WEs) : TA := fun σ H Q => ∃ ρ S Kk Ek, RE c.K H ρ σ ∧ RS c.K H S ∧ m ρ S Kk Ek ∧
  (∀ ws S' H' vs, Kk ws S' → Ext H S H' S' → RS c.K H' S' → RVs c.K H' ws vs → Q vs H') ∧ PoX c Wx σ H S Ek
def tT (c : Cst) (Wx : WX) (m : WT) : TT := fun σ H Q => ∃ ρ S Kk Ek, RE c.K H ρ σ ∧ RS c.K H S ∧ m ρ S Kk Ek ∧
  (∀ b S' H', Kk b S' → Ext H S H' S' → RS c.K H' S' → Q b H') ∧ PoX c Wx σ H S Ek
section
variable {X : Cx} {e : Expr} {t t' : TE}
theorem PE.imp (h : PE X e t) (k : ∀ σ H Q, t' σ H Q → t σ H Q) : PE X e t' := ⟨fun pins s σ H Q I q => h.run pins s σ H Q I (k σ H Q q)⟩
theorem PT.imp {t t' : TT} (h : PT X e t) (k : ∀ σ H Q, t' σ H Q → t σ H Q) : PT X e t' := ⟨fun pins s σ H Q I q => h.run pins s σ H Q I (k σ H Q q)⟩
theorem PW.imp {t t' : TT} (h : PW X e t) (k : ∀ σ H Q, t' σ H Q → t σ H Q) : PW X e t' := ⟨fun wh pins s σ H Q I q => h.run wh pins s σ H Q I (k σ H Q q)⟩
theorem PA.imp {es : List Expr} {t t' : TA} (h : PA X es t) (k : ∀ σ H Q, t' σ H Q → t σ H Q) : PA X es t' := ⟨fun pos pins s σ H Q I q => h.run pos pins s σ H Q I (k σ H Q q)⟩
theorem PS.imp {st : Stmt} {t t' : TS} (h : PS X st t) (k : ∀ D σ H, t' D σ H → t D σ H) : PS X st t' := ⟨fun pins s σ H D I q => h.run pins s σ H D I (k D σ H q)⟩
theorem PSs.imp {st : List Stmt} {t t' : TS} (h : PSs X st t) (k : ∀ D σ H, t' D σ H → t D σ H) : PSs X st t' := ⟨fun pins s σ H D I q => h.run pins s σ H D I (k D σ H q)⟩
end

/-! ### expressions: names, constants -/
section
variable {X : Cx} {c : Cst} {Wx : WX}
def mVar (i : Nat) : WE := fun ρ S Kk _ => match rget ρ i with
  | some w => Kk w S
  | none => False
def mCst (w : W) : WE := fun _ S Kk _ => Kk w S
theorem s_var {i : Nat} {x : Str} {pos : Pos} (h : PE X (.Name x pos) (tVar i)) : PE X (.Name x pos) (tE c Wx (mVar i)) := PE.imp h fun σ H Q q => by
  obtain ⟨ρ, S, Kk, Ek, re, rs, hm, po, _⟩ := q
  unfold mVar at hm
  cases e : rget ρ i with
  | none => rw [e] at hm; exact hm.elim
  | some w =>
    rw [e] at hm
    obtain ⟨v, a, b⟩ := re.2 i w e
    exact ⟨v, a, po w S H v hm .refl rs b⟩
/-- a constant whose value does not lean on the heap -/
theorem s_const {e : Expr} {w : W} {v : V} (h : PE X e (tC v)) (r : ∀ H, RV c.K H w v) : PE X e (tE c Wx (mCst w)) := PE.imp h fun σ H Q q => by
  obtain ⟨ρ, S, Kk, Ek, re, rs, hm, po, _⟩ := q
  exact po w S H v hm .refl rs (r H)

/-! ### binary operators -/
abbrev BOp := W → W → Sto → WK → Prop
def mBin (f : BOp) (a b : WE) : WE := fun ρ S Kk Ek => a ρ S (fun x S1 => b ρ S1 (fun y S2 => f x y S2 Kk) Ek) Ek
/-- a rule by values serves an operation by plain values -/
def Op2 (c : Cst) (r : R2) (f : BOp) : Prop := ∀ (x y : W) (u v : V) (H : Hp) (S : Sto) (Kk : WK) (Q : VK), RS c.K H S → RV c.K H x u → RV c.K H y v → f x y S Kk →
  (∀ w S' H' z, Kk w S' → Ext H S H' S' → RS c.K H' S' → RV c.K H' w z → Q z H') → r u v H Q
theorem s_bin {r : R2} {f : BOp} {a b : WE} (ho : Op2 c r f) : ∀ σ H Q, tE c Wx (mBin f a b) σ H Q → tOp r (tE c Wx a) (tE c Wx b) σ H Q := fun σ H Q q => by
  obtain ⟨ρ, S, Kk, Ek, re, rs, hm, po, px⟩ := q
  refine ⟨ρ, S, _, Ek, re, rs, hm, fun x S1 H1 u k1 e1 rs1 rx => ?_, px⟩
  refine ⟨ρ, S1, _, Ek, re.tst (e1.tst rs), rs1, k1, fun y S2 H2 v k2 e2 rs2 ry => ?_, px.on e1⟩
  exact ho x y u v H2 S2 Kk Q rs2 (rx.tst (e2.tst rs1)) ry k2 fun w S' H' z k e3 => po w S' H' z k ((e1.trans e2).trans e3)
/-- unary ones -/
abbrev UOp := W → Sto → WK → Prop
def mUn (f : UOp) (a : WE) : WE := fun ρ S Kk Ek => a ρ S (fun x S1 => f x S1 Kk) Ek
def Op1 (c : Cst) (r : V → Hp → VK → Prop) (f : UOp) : Prop := ∀ (x : W) (u : V) (H : Hp) (S : Sto) (Kk : WK) (Q : VK), RS c.K H S → RV c.K H x u → f x S Kk →
  (∀ w S' H' z, Kk w S' → Ext H S H' S' → RS c.K H' S' → RV c.K H' w z → Q z H') → r u H Q
theorem s_un {r : V → Hp → VK → Prop} {f : UOp} {a : WE} (ho : Op1 c r f) : ∀ σ H Q, tE c Wx (mUn f a) σ H Q → tUn r (tE c Wx a) σ H Q := fun σ H Q q => by
  obtain ⟨ρ, S, Kk, Ek, re, rs, hm, po, px⟩ := q
  refine ⟨ρ, S, _, Ek, re, rs, hm, fun x S1 H1 u k1 e1 rs1 rx => ?_, px⟩
  exact ho x u H1 S1 Kk Q rs1 rx k1 fun w S' H' z k e3 => po w S' H' z k (e1.trans e3)
/-- argument lists -/
def mNil : WEs := fun _ S Kk _ => Kk [] S
def mCons (a : WE) (b : WEs) : WEs := fun ρ S Kk Ek => a ρ S (fun x S1 => b ρ S1 (fun xs S2 => Kk (x :: xs) S2) Ek) Ek
theorem s_nil : PA X [] (tA c Wx mNil) := PA.imp pa_nil fun σ H Q q => by
  obtain ⟨ρ, S, Kk, Ek, re, rs, hm, po, px⟩ := q
  exact po [] S H [] hm .refl rs .nil
theorem s_cons {e : Expr} {es : List Expr} {a : WE} {b : WEs} (ha : PE X e (tE c Wx a)) (hb : PA X es (tA c Wx b)) (hs : starEach (e :: es) X.env = (false, eval e X.env) :: starEach es X.env) : PA X (e :: es) (tA c Wx (mCons a b)) :=
  PA.imp (pa_cons ha hb hs) fun σ H Q q => by
    obtain ⟨ρ, S, Kk, Ek, re, rs, hm, po, px⟩ := q
    refine ⟨ρ, S, _, Ek, re, rs, hm, fun x S1 H1 u k1 e1 rs1 rx => ?_, px⟩
    refine ⟨ρ, S1, _, Ek, re.tst (e1.tst rs), rs1, k1, fun ys S2 H2 vs k2 e2 rs2 ry => ?_, px.on e1⟩
    exact po (x :: ys) S2 H2 (u :: vs) k2 (e1.trans e2) rs2 (.cons (rx.tst (e2.tst rs1)) ry)
/-- displays -/
def mTup (a : WEs) : WE := fun ρ S Kk Ek => a ρ S (fun xs S1 => xs.length ≤ sizeLine ∧ Kk (.tup xs) S1) Ek
def mLst (a : WEs) : WE := fun ρ S Kk Ek => a ρ S (fun xs S1 => xs.length ≤ sizeLine ∧ ∀ p, S1 p = none → Kk (.ref p) (S1.put p (.lst xs))) Ek
theorem s_tup {es : List Expr} {k : Nat} {a : WEs} {pos : Pos} (ha : PA X es (tA c Wx a)) : PE X (.Tuple es k pos) (tE c Wx (mTup a)) := PE.imp (pe_tupN ha) fun σ H Q q => by
  obtain ⟨ρ, S, Kk, Ek, re, rs, hm, po, px⟩ := q
  refine ⟨ρ, S, _, Ek, re, rs, hm, fun xs S1 H1 vs k1 e1 rs1 rx => ?_, px⟩
  refine ⟨by rw [← rx.length]; exact k1.1, fun p o hp hc hd => ?_⟩
  exact po (.tup xs) S1 _ (.ref p) k1.2 (e1.trans (.tup hp)) (rs1.tup hp) (.tp (k := false) (.new hc hd) (rx.tst (tst_upd_new hp)))
theorem s_lst {es : List Expr} {a : WEs} {pos : Pos} (ha : PA X es (tA c Wx a)) : PE X (.List es pos) (tE c Wx (mLst a)) := PE.imp (pe_lst ha) fun σ H Q q => by
  obtain ⟨ρ, S, Kk, Ek, re, rs, hm, po, px⟩ := q
  refine ⟨ρ, S, _, Ek, re, rs, hm, fun xs S1 H1 vs k1 e1 rs1 rx => ?_, px⟩
  refine ⟨by rw [← rx.length]; exact k1.1, fun p hp => ?_⟩
  exact po (.ref p) _ _ (.ref p) (k1.2 p (rs1.fresh hp)) (e1.trans (.new hp)) (rs1.new hp (.lst rx)) (.ref p)

/-! ### tests -/
def TW (S : Sto) (w : W) (k : Bool) : Prop := match w with
  | .non => k = false
  | .bl b => k = b
  | .int i => k = (i != 0)
  | .str x => x.length ≤ sizeLine ∧ k = (x.length != 0)
  | .tp _ ws => k = !ws.isEmpty
  | .lst ws => k = !ws.isEmpty
  | .dct ks _ => k = !ks.isEmpty
  | .dit ks _ => k = !ks.isEmpty
  | .ref a => (∃ xs, S a = some (.lst xs) ∧ k = !xs.isEmpty) ∨ ∃ kvs, S a = some (.dic kvs) ∧ k = !kvs.isEmpty
  | .ty _ => False
  | .kls _ => False
  | .xc .. => False
theorem isEmpty_rvs {K : PySem.W.Frag} {H : Hp} {ws : List W} {vs : List V} (r : RVs K H ws vs) : vs.isEmpty = ws.isEmpty := by
  cases r <;> rfl
end
end Dp
namespace Dp
open PySem PySem.Spec L2
open PyProof.Rows hiding St

/-! ### truth -/
/-- the truth of a value, handed on -/
def trK (S : Sto) (w : W) (K : Bool → Prop) : Prop := match w with
  | .non => K false
  | .bl b => K b
  | .int i => K (i != 0)
  | .str x => x.length ≤ sizeLine ∧ K ((x.length : Int) != 0)
  | .tp _ ws => K (!ws.isEmpty)
  | .lst ws => K (!ws.isEmpty)
  | .ref a => (∃ xs, S a = some (.lst xs) ∧ K (!xs.isEmpty)) ∨ ∃ kvs, S a = some (.dic kvs) ∧ K (!kvs.isEmpty)
  | _ => False
theorem tru_of {c : Cst} {H : Hp} {S : Sto} {w : W} {v : V} {K : Bool → Prop} (rs : RS c.K H S) (rv : RV c.K H w v) (h : trK S w K) : ∃ k, TruV c.K v H k ∧ K k := by
  cases rv with
  | non => exact ⟨false, rfl, h⟩
  | bl b => exact ⟨b, rfl, h⟩
  | int i => exact ⟨_, rfl, h⟩
  | str x => exact ⟨_, ⟨h.1, rfl⟩, h.2⟩
  | ty n => exact h.elim
  | kls _ _ => exact h.elim
  | xc _ _ => exact h.elim
  | tp q r =>
    refine ⟨_, .inr (.inl ⟨_, q.sq, rfl⟩), ?_⟩
    rw [isEmpty_rvs r]; exact h
  | lst q r =>
    refine ⟨_, .inl ⟨_, .inl (.inr q), rfl⟩, ?_⟩
    rw [isEmpty_rvs r]; exact h
  | dct _ _ _ => exact h.elim
  | dit _ _ _ => exact h.elim
  | ref a =>
    rcases h with ⟨xs, l, k⟩ | ⟨kvs, l, k⟩
    · obtain ⟨vs, q, r⟩ := rs.lst l
      exact ⟨_, .inl ⟨_, .of q, rfl⟩, by rw [isEmpty_rvs r]; exact k⟩
    · obtain ⟨vs, q, r⟩ := rs.dic l
      refine ⟨_, .inr (.inr ⟨_, q, rfl⟩), ?_⟩
      have : vs.isEmpty = kvs.isEmpty := by cases r <;> rfl
      rw [this]; exact k

section
variable {X : Cx} {c : Cst} {Wx : WX}
/-! ### tests -/
def mTru (a : WE) : WT := fun ρ S Kk Ek => a ρ S (fun w S1 => trK S1 w fun k => Kk k S1) Ek
theorem s_tru {e : Expr} {a : WE} (hK : c.K = X.K) (ha : PE X e (tE c Wx a)) (he : ∀ whole, isTrue e X.env whole = (do let v ← whole; standAt e.pos; holding [v] (truthy v))) : PT X e (tT c Wx (mTru a)) :=
  PT.imp (pt_truth ha he) fun σ H Q q => by
    obtain ⟨ρ, S, Kk, Ek, re, rs, hm, po, px⟩ := q
    refine ⟨ρ, S, _, Ek, re, rs, hm, fun w S1 H1 v k1 e1 rs1 rv => ?_, px⟩
    obtain ⟨k, t, q⟩ := tru_of rs1 rv k1
    exact ⟨k, by rw [← hK]; exact t, po k S1 H1 q e1 rs1⟩
def mNotT (a : WT) : WT := fun ρ S Kk Ek => a ρ S (fun b S1 => Kk (!b) S1) Ek
theorem s_notT {e : Expr} {a : WT} {pos : Pos} (ha : PT X e (tT c Wx a)) : PT X (.UnaryOp .Not e pos) (tT c Wx (mNotT a)) := PT.imp (pt_not ha) fun σ H Q q => by
  obtain ⟨ρ, S, Kk, Ek, re, rs, hm, po, px⟩ := q
  exact ⟨ρ, S, _, Ek, re, rs, hm, fun b S1 H1 k1 e1 rs1 => po _ S1 H1 k1 e1 rs1, px⟩
def mAndT (a b : WT) : WT := fun ρ S Kk Ek => a ρ S (fun k S1 => if k = true then b ρ S1 Kk Ek else Kk false S1) Ek
def mOrT (a b : WT) : WT := fun ρ S Kk Ek => a ρ S (fun k S1 => if k = true then Kk true S1 else b ρ S1 Kk Ek) Ek
theorem s_andT {e e2 : Expr} {rest : List Expr} {a b : WT} {pos : Pos} (ha : PT X e (tT c Wx a)) (hb : PW X (.BoolOp .And (e2 :: rest) pos) (tT c Wx b)) : PW X (.BoolOp .And (e :: e2 :: rest) pos) (tT c Wx (mAndT a b)) :=
  PW.imp (pw_and ha hb) fun σ H Q q => by
    obtain ⟨ρ, S, Kk, Ek, re, rs, hm, po, px⟩ := q
    refine ⟨ρ, S, _, Ek, re, rs, hm, fun k S1 H1 k1 e1 rs1 => ?_, px⟩
    cases k with
    | true => exact ⟨ρ, S1, Kk, Ek, re.tst (e1.tst rs), rs1, k1, fun b S2 H2 k2 e2 rs2 => po b S2 H2 k2 (e1.trans e2) rs2, px.on e1⟩
    | false => exact po false S1 H1 k1 e1 rs1
theorem s_orT {e e2 : Expr} {rest : List Expr} {a b : WT} {pos : Pos} (ha : PT X e (tT c Wx a)) (hb : PW X (.BoolOp .Or (e2 :: rest) pos) (tT c Wx b)) : PW X (.BoolOp .Or (e :: e2 :: rest) pos) (tT c Wx (mOrT a b)) :=
  PW.imp (pw_or ha hb) fun σ H Q q => by
    obtain ⟨ρ, S, Kk, Ek, re, rs, hm, po, px⟩ := q
    refine ⟨ρ, S, _, Ek, re, rs, hm, fun k S1 H1 k1 e1 rs1 => ?_, px⟩
    cases k with
    | true => exact po true S1 H1 k1 e1 rs1
    | false => exact ⟨ρ, S1, Kk, Ek, re.tst (e1.tst rs), rs1, k1, fun b S2 H2 k2 e2 rs2 => po b S2 H2 k2 (e1.trans e2) rs2, px.on e1⟩
/-- a test of which the answer is a value -/
def mAnd (a b : WE) : WE := fun ρ S Kk Ek => a ρ S (fun x S1 => trK S1 x fun k => if k = true then b ρ S1 Kk Ek else Kk x S1) Ek
def mOr (a b : WE) : WE := fun ρ S Kk Ek => a ρ S (fun x S1 => trK S1 x fun k => if k = true then Kk x S1 else b ρ S1 Kk Ek) Ek
theorem s_and {e e2 : Expr} {rest : List Expr} {a b : WE} {pos : Pos} (hK : c.K = X.K) (ha : PE X e (tE c Wx a)) (hb : PE X (.BoolOp .And (e2 :: rest) pos) (tE c Wx b)) : PE X (.BoolOp .And (e :: e2 :: rest) pos) (tE c Wx (mAnd a b)) :=
  PE.imp (pe_andT ha hb) fun σ H Q q => by
    obtain ⟨ρ, S, Kk, Ek, re, rs, hm, po, px⟩ := q
    refine ⟨ρ, S, _, Ek, re, rs, hm, fun w S1 H1 v k1 e1 rs1 rv => ?_, px⟩
    obtain ⟨k, t, q⟩ := tru_of rs1 rv k1
    refine ⟨k, by rw [← hK]; exact t, ?_⟩
    cases k with
    | true => exact ⟨ρ, S1, Kk, Ek, re.tst (e1.tst rs), rs1, q, fun w' S2 H2 v' k2 e2 rs2 rv2 => po w' S2 H2 v' k2 (e1.trans e2) rs2 rv2, px.on e1⟩
    | false => exact po w S1 H1 v q e1 rs1 rv
theorem s_or {e e2 : Expr} {rest : List Expr} {a b : WE} {pos : Pos} (hK : c.K = X.K) (ha : PE X e (tE c Wx a)) (hb : PE X (.BoolOp .Or (e2 :: rest) pos) (tE c Wx b)) : PE X (.BoolOp .Or (e :: e2 :: rest) pos) (tE c Wx (mOr a b)) :=
  PE.imp (pe_orT ha hb) fun σ H Q q => by
    obtain ⟨ρ, S, Kk, Ek, re, rs, hm, po, px⟩ := q
    refine ⟨ρ, S, _, Ek, re, rs, hm, fun w S1 H1 v k1 e1 rs1 rv => ?_, px⟩
    obtain ⟨k, t, q⟩ := tru_of rs1 rv k1
    refine ⟨k, by rw [← hK]; exact t, ?_⟩
    cases k with
    | true => exact po w S1 H1 v q e1 rs1 rv
    | false => exact ⟨ρ, S1, Kk, Ek, re.tst (e1.tst rs), rs1, q, fun w' S2 H2 v' k2 e2 rs2 rv2 => po w' S2 H2 v' k2 (e1.trans e2) rs2 rv2, px.on e1⟩
/-- not x as a value -/
def mNot (a : WE) : WE := fun ρ S Kk Ek => a ρ S (fun x S1 => trK S1 x fun k => Kk (.bl (!k)) S1) Ek
theorem s_not {e : Expr} {a : WE} {pos : Pos} (hK : c.K = X.K) (ha : PE X e (tE c Wx a)) : PE X (.UnaryOp .Not e pos) (tE c Wx (mNot a)) := PE.imp (pe_notT ha) fun σ H Q q => by
  obtain ⟨ρ, S, Kk, Ek, re, rs, hm, po, px⟩ := q
  refine ⟨ρ, S, _, Ek, re, rs, hm, fun w S1 H1 v k1 e1 rs1 rv => ?_, px⟩
  obtain ⟨k, t, q⟩ := tru_of rs1 rv k1
  exact ⟨k, by rw [← hK]; exact t, po _ S1 H1 _ q e1 rs1 (.bl _)⟩
def mIf (t : WT) (a b : WE) : WE := fun ρ S Kk Ek => t ρ S (fun k S1 => if k = true then a ρ S1 Kk Ek else b ρ S1 Kk Ek) Ek
theorem s_if {e e1 e2 : Expr} {t : WT} {a b : WE} {pos : Pos} (ht : PT X e (tT c Wx t)) (ha : PE X e1 (tE c Wx a)) (hb : PE X e2 (tE c Wx b)) : PE X (.IfExp e e1 e2 pos) (tE c Wx (mIf t a b)) :=
  PE.imp (pe_ifExp ht ha hb) fun σ H Q q => by
    obtain ⟨ρ, S, Kk, Ek, re, rs, hm, po, px⟩ := q
    refine ⟨ρ, S, _, Ek, re, rs, hm, fun k S1 H1 k1 e1 rs1 => ?_, px⟩
    cases k with
    | true => exact ⟨ρ, S1, Kk, Ek, re.tst (e1.tst rs), rs1, k1, fun w' S2 H2 v' k2 e2 rs2 rv2 => po w' S2 H2 v' k2 (e1.trans e2) rs2 rv2, px.on e1⟩
    | false => exact ⟨ρ, S1, Kk, Ek, re.tst (e1.tst rs), rs1, k1, fun w' S2 H2 v' k2 e2 rs2 rv2 => po w' S2 H2 v' k2 (e1.trans e2) rs2 rv2, px.on e1⟩
/-! ### comparisons -/
abbrev COp := W → W → Sto → (Bool → Prop) → Prop
def OpC (c : Cst) (r : R2) (f : COp) : Prop := ∀ (x y : W) (u v : V) (H : Hp) (S : Sto) (Kk : Bool → Prop) (Q : VK), RS c.K H S → RV c.K H x u → RV c.K H y v → f x y S Kk → (∀ k, Kk k → Q (.bl k) H) → r u v H Q
def mCmp (f : COp) (a b : WE) : WE := fun ρ S Kk Ek => a ρ S (fun x S1 => b ρ S1 (fun y S2 => f x y S2 fun k => Kk (.bl k) S2) Ek) Ek
def mCmpT (f : COp) (a b : WE) : WT := fun ρ S Kk Ek => a ρ S (fun x S1 => b ρ S1 (fun y S2 => f x y S2 fun k => Kk k S2) Ek) Ek
theorem s_cmp {r : R2} {f : COp} {op : CmpOp} {e e2 : Expr} {a b : WE} {pos : Pos} (ho : OpR X (compareOp op) r) (hc : OpC c r f) (ha : PE X e (tE c Wx a)) (hb : PE X e2 (tE c Wx b)) (hm : behindInMarks op e2 = false) :
    PE X (.Compare e [op] [e2] pos) (tE c Wx (mCmp f a b)) := PE.imp (pe_cmpR ho ha hb hm) fun σ H Q q => by
  obtain ⟨ρ, S, Kk, Ek, re, rs, hm, po, px⟩ := q
  refine ⟨ρ, S, _, Ek, re, rs, hm, fun x S1 H1 u k1 e1 rs1 rx => ?_, px⟩
  refine ⟨ρ, S1, _, Ek, re.tst (e1.tst rs), rs1, k1, fun y S2 H2 v k2 e2 rs2 ry => ?_, px.on e1⟩
  exact hc x y u v H2 S2 _ Q rs2 (rx.tst (e2.tst rs1)) ry k2 fun k z => po (.bl k) S2 H2 (.bl k) z (e1.trans e2) rs2 (.bl k)
theorem s_cmpT {r : R2} {f : COp} {op : CmpOp} {e e2 : Expr} {a b : WE} {pos : Pos} (ho : OpR X (compareOp op) r) (hc : OpC c r f) (ha : PE X e (tE c Wx a)) (hb : PE X e2 (tE c Wx b)) (hm : behindInMarks op e2 = false) :
    PT X (.Compare e [op] [e2] pos) (tT c Wx (mCmpT f a b)) := PT.imp (pt_cmpR ho ha hb hm) fun σ H Q q => by
  obtain ⟨ρ, S, Kk, Ek, re, rs, hm, po, px⟩ := q
  refine ⟨ρ, S, _, Ek, re, rs, hm, fun x S1 H1 u k1 e1 rs1 rx => ?_, px⟩
  refine ⟨ρ, S1, _, Ek, re.tst (e1.tst rs), rs1, k1, fun y S2 H2 v k2 e2 rs2 ry => ?_, px.on e1⟩
  exact hc x y u v H2 S2 _ _ rs2 (rx.tst (e2.tst rs1)) ry k2 fun k z => ⟨k, rfl, po k S2 H2 z (e1.trans e2) rs2⟩
/-- a op b op c -/
def mChn (f g : COp) (a b d : WE) : WE := fun ρ S Kk Ek => a ρ S (fun x S1 => b ρ S1 (fun y S2 => f x y S2 fun k => if k = true then d ρ S2 (fun z S3 => g y z S3 fun k => Kk (.bl k) S3) Ek else Kk (.bl false) S2) Ek) Ek
def mChnT (f g : COp) (a b d : WE) : WT := fun ρ S Kk Ek => a ρ S (fun x S1 => b ρ S1 (fun y S2 => f x y S2 fun k => if k = true then d ρ S2 (fun z S3 => g y z S3 fun k => Kk k S3) Ek else Kk false S2) Ek) Ek
theorem chain_of {r r' : R2} {f g : COp} {a b d : WE} {ρ : Ro} {σ : L2.St} {H : Hp} {S : Sto} {Ek : EK} {Q : VK} {Kk : Bool → Sto → Prop} (hc : OpC c r f) (hc' : OpC c r' g) (re : RE c.K H ρ σ) (rs : RS c.K H S)
    (hm : mChnT f g a b d ρ S Kk Ek) (po : ∀ k S' H', Kk k S' → Ext H S H' S' → RS c.K H' S' → Q (.bl k) H') (px : PoX c Wx σ H S Ek) : tChain r r' (tE c Wx a) (tE c Wx b) (tE c Wx d) σ H Q := by
  refine ⟨ρ, S, _, Ek, re, rs, hm, fun x S1 H1 u k1 e1 rs1 rx => ?_, px⟩
  refine ⟨ρ, S1, _, Ek, re.tst (e1.tst rs), rs1, k1, fun y S2 H2 v k2 e2 rs2 ry => ?_, px.on e1⟩
  refine hc x y u v H2 S2 _ _ rs2 (rx.tst (e2.tst rs1)) ry k2 fun k z => ⟨k, rfl, ?_⟩
  cases k with
  | true =>
    refine ⟨ρ, S2, _, Ek, (re.tst (e1.tst rs)).tst (e2.tst rs1), rs2, z, fun w S3 H3 q k3 e3 rs3 rw' => ?_, (px.on e1).on e2⟩
    exact hc' y w v q H3 S3 _ _ rs3 (ry.tst (e3.tst rs2)) rw' k3 fun k z => po k S3 H3 z ((e1.trans e2).trans e3) rs3
  | false => exact po false S2 H2 z (e1.trans e2) rs2
theorem s_chn {r r' : R2} {f g : COp} {op op' : CmpOp} {e e2 e3 : Expr} {a b d : WE} {pos : Pos} (ho : OpR X (compareOp op) r) (ho' : OpR X (compareOp op') r') (hc : OpC c r f) (hc' : OpC c r' g)
    (ha : PE X e (tE c Wx a)) (hb : PE X e2 (tE c Wx b)) (hd : PE X e3 (tE c Wx d)) (hm : lastMarks [op, op'] [e2, e3] = false) : PE X (.Compare e [op, op'] [e2, e3] pos) (tE c Wx (mChn f g a b d)) :=
  PE.imp (pe_chain ho ho' ha hb hd hm) fun σ H Q q => by
    obtain ⟨ρ, S, Kk, Ek, re, rs, hm, po, px⟩ := q
    exact chain_of hc hc' re rs hm (fun k S' H' z e1 rs1 => po (.bl k) S' H' (.bl k) z e1 rs1 (.bl k)) px
theorem s_chnT {r r' : R2} {f g : COp} {op op' : CmpOp} {e e2 e3 : Expr} {a b d : WE} {pos : Pos} (ho : OpR X (compareOp op) r) (ho' : OpR X (compareOp op') r') (hc : OpC c r f) (hc' : OpC c r' g)
    (ha : PE X e (tE c Wx a)) (hb : PE X e2 (tE c Wx b)) (hd : PE X e3 (tE c Wx d)) (hm : lastMarks [op, op'] [e2, e3] = false) : PT X (.Compare e [op, op'] [e2, e3] pos) (tT c Wx (mChnT f g a b d)) :=
  PT.imp (pt_chain ho ho' ha hb hd hm) fun σ H Q q => by
    obtain ⟨ρ, S, Kk, Ek, re, rs, hm, po, px⟩ := q
    exact chain_of hc hc' re rs hm (fun k S' H' z e1 rs1 => ⟨k, rfl, po k S' H' z e1 rs1⟩) px
end

/-! ### what a value tells as plain data -/
mutual
inductive Den (S : Sto) : W → PyData → Prop where
  | non : Den S .non .none
  | bl (b : Bool) : Den S (.bl b) (.bool b)
  | int (i : Int) : Den S (.int i) (.int i)
  | str (x : Str) : Den S (.str x) (.str x)
  | tup {k : Bool} {ws : List W} {ds : List PyData} (h : Dens S ws ds) : Den S (.tp k ws) (.tuple ds)
  | lst {ws : List W} {ds : List PyData} (h : Dens S ws ds) : Den S (.lst ws) (.list ds)
  | cel {a : Addr} {ws : List W} {ds : List PyData} (l : S a = some (.lst ws)) (h : Dens S ws ds) : Den S (.ref a) (.list ds)
inductive Dens (S : Sto) : List W → List PyData → Prop where
  | nil : Dens S [] []
  | cons {w : W} {ws : List W} {d : PyData} {ds : List PyData} (h : Den S w d) (t : Dens S ws ds) : Dens S (w :: ws) (d :: ds)
end
section
variable {K : PySem.W.Frag} {H : Hp} {S : Sto}
mutual
theorem Den.dp (rs : RS K H S) : ∀ {w : W} {d : PyData} {v : V}, Den S w d → RV K H w v → L2.Dp K H v d
  | _, _, _, .non, r => by cases r; exact .non
  | _, _, _, .bl b, r => by cases r; exact .bl b
  | _, _, _, .int b, r => by cases r; exact .int b
  | _, _, _, .str b, r => by cases r; exact .str b
  | _, _, _, .tup h, r => by cases r with | tp q t => exact .tup q.sq (Dens.dp rs h t)
  | _, _, _, .lst h, r => by cases r with | lst q t => exact .lst (.inl (.inr q)) (Dens.dp rs h t)
  | _, _, _, .cel l h, r => by
    cases r
    obtain ⟨vs, q, t⟩ := rs.lst l
    exact .lst (.of q) (Dens.dp rs h t)
theorem Dens.dp (rs : RS K H S) : ∀ {w : List W} {d : List PyData} {v : List V}, Dens S w d → RVs K H w v → DpAll K H v d
  | _, _, _, .nil, r => by cases r; exact .nil
  | _, _, _, .cons h t, r => by cases r with | cons q z => exact .cons (Den.dp rs h q) (Dens.dp rs t z)
end
end
/-- flat values -/
def flat : W → Bool
  | .non => true
  | .bl _ => true
  | .int _ => true
  | .str _ => true
  | _ => false
/-- == of flat values -/
def eqF : W → W → Bool
  | .non, .non => true
  | .bl a, .bl b => a == b
  | .bl a, .int b => (if a then 1 else 0) == b
  | .int a, .bl b => a == (if b then 1 else 0)
  | .int a, .int b => a == b
  | .str a, .str b => a == b
  | _, _ => false
/-- == handed on -/
@[irreducible] def eqK (S : Sto) (x y : W) (K : Bool → Prop) : Prop :=
  (flat x = true ∧ flat y = true ∧ K (eqF x y)) ∨ ∃ d e, Den S x d ∧ Den S y e ∧ SeqAt.shaped d = true ∧ SeqAt.shaped e = true ∧ K (PyData.eqv d e)
def cEq : COp := fun x y S K => eqK S x y K
def cNe : COp := fun x y S K => eqK S x y fun k => K (!k)
/-- two flat values, by the heap's side -/
theorem flat_eq {K : PySem.W.Frag} {H : Hp} {S : Sto} {x y : W} {u v : V} (rs : RS K H S) (rx : RV K H x u) (ry : RV K H y v) (h : flat x = true) (h' : flat y = true) :
    (scal u v = true ∧ decide (u = v) = eqF x y) ∨ ∃ d e, L2.Dp K H u d ∧ L2.Dp K H v e ∧ SeqAt.shaped d = true ∧ SeqAt.shaped e = true ∧ PyData.eqv d e = eqF x y := by
  cases rx with
  | non => cases ry <;> first | exact .inl ⟨rfl, rfl⟩ | (simp [flat] at h'; done)
  | bl a => cases ry with
    | bl b => exact .inl ⟨rfl, dec_bl⟩
    | int j => exact .inr ⟨.bool a, .int j, .bl a, .int j, rfl, rfl, rfl⟩
    | non => exact .inl ⟨rfl, rfl⟩
    | str z => exact .inl ⟨rfl, rfl⟩
    | _ => simp [flat] at h'
  | int a => cases ry with
    | bl b => exact .inr ⟨.int a, .bool b, .int a, .bl b, rfl, rfl, rfl⟩
    | int j => exact .inl ⟨rfl, dec_int⟩
    | non => exact .inl ⟨rfl, rfl⟩
    | str z => exact .inl ⟨rfl, rfl⟩
    | _ => simp [flat] at h'
  | str a => cases ry with
    | bl b => exact .inl ⟨rfl, rfl⟩
    | int j => exact .inl ⟨rfl, rfl⟩
    | non => exact .inl ⟨rfl, rfl⟩
    | str z => exact .inl ⟨rfl, dec_str⟩
    | _ => simp [flat] at h'
  | _ => simp [flat] at h
def rEqW (K : PySem.W.Frag) : R2 := fun x y H Q => rEq x y H Q ∨ rEqD K x y H Q
def rNeW (K : PySem.W.Frag) : R2 := fun x y H Q => rNe x y H Q ∨ rNeD K x y H Q
theorem o_eq {c : Cst} : OpC c (rEqW c.K) cEq := fun x y u v H S Kk Q rs rx ry h po => by
  unfold cEq eqK at h
  rcases h with ⟨f1, f2, k⟩ | ⟨d, e, h1, h2, h3, h4, k⟩
  · rcases flat_eq rs rx ry f1 f2 with ⟨a, b⟩ | ⟨d, e, h1, h2, h3, h4, h5⟩
    · exact .inl ⟨a, by rw [b]; exact po _ k⟩
    · exact .inr ⟨d, e, h1, h2, h3, h4, by rw [h5]; exact po _ k⟩
  · exact .inr ⟨d, e, h1.dp rs rx, h2.dp rs ry, h3, h4, po _ k⟩
theorem o_ne {c : Cst} : OpC c (rNeW c.K) cNe := fun x y u v H S Kk Q rs rx ry h po => by
  unfold cNe eqK at h
  rcases h with ⟨f1, f2, k⟩ | ⟨d, e, h1, h2, h3, h4, k⟩
  · rcases flat_eq rs rx ry f1 f2 with ⟨a, b⟩ | ⟨d, e, h1, h2, h3, h4, h5⟩
    · exact .inl ⟨a, by rw [b]; exact po _ k⟩
    · exact .inr ⟨d, e, h1, h2, h3, h4, by rw [h5]; exact po _ k⟩
  · exact .inr ⟨d, e, h1.dp rs rx, h2.dp rs ry, h3, h4, po _ k⟩
theorem r_eq {X : Cx} (hu : X.A.units + 64 < cLine) : OpR X (compareOp .Eq) (rEqW X.K) := OpR.or op_eq (op_eqD hu)
theorem r_ne {X : Cx} (hu : X.A.units + 64 < cLine) : OpR X (compareOp .NotEq) (rNeW X.K) := OpR.or op_ne (op_neD hu)
/-! ### order: ints, texts -/
def ordK (f : Int → Int → Bool) (g : List Nat → List Nat → Bool) : COp := fun x y _ K => match x, y with
  | .int i, .int j => K (f i j)
  | .str a, .str b => K (g a.cps.toList b.cps.toList)
  | _, _ => False
def rOrd (f : Int → Int → Bool) (g : List Nat → List Nat → Bool) : R2 := fun x y H Q => (∃ i j, x = .int i ∧ y = .int j ∧ Q (.bl (f i j)) H) ∨ ∃ a b, x = .str a ∧ y = .str b ∧ Q (.bl (g a.cps.toList b.cps.toList)) H
theorem o_ord {c : Cst} {f : Int → Int → Bool} {g : List Nat → List Nat → Bool} : OpC c (rOrd f g) (ordK f g) := fun x y u v H S Kk Q rs rx ry h po => by
  cases rx with
  | int i => cases ry with
    | int j => exact .inl ⟨i, j, rfl, rfl, po _ h⟩
    | _ => exact h.elim
  | str a => cases ry with
    | str b => exact .inr ⟨a, b, rfl, rfl, po _ h⟩
    | _ => exact h.elim
  | _ => cases ry <;> exact h.elim
def cLt : COp := ordK (fun i j => decide (i < j)) (fun a b => decide (a < b))
def cLe : COp := ordK (fun i j => decide (i ≤ j)) (fun a b => !decide (b < a))
def cGt : COp := ordK (fun i j => decide (j < i)) (fun a b => decide (b < a))
def cGe : COp := ordK (fun i j => decide (j ≤ i)) (fun a b => !decide (a < b))
section
variable {X : Cx}
theorem r_lt : OpR X (compareOp .Lt) (rOrd (fun i j => decide (i < j)) (fun a b => decide (a < b))) := OpR.or op_lt op_lt_str
theorem r_le : OpR X (compareOp .LtE) (rOrd (fun i j => decide (i ≤ j)) (fun a b => !decide (b < a))) := OpR.or op_le op_le_str
theorem r_gt : OpR X (compareOp .Gt) (rOrd (fun i j => decide (j < i)) (fun a b => decide (b < a))) := OpR.or op_gt op_gt_str
theorem r_ge : OpR X (compareOp .GtE) (rOrd (fun i j => decide (j ≤ i)) (fun a b => !decide (a < b))) := OpR.or op_ge op_ge_str
/-! ### is -/
/-- x is None, x is True, x is False, two lists or dicts -/
def isV (x y : V) : Bool := decide (x = y)
def rIs (n : Bool) : R2 := fun x y H Q => ((y = .non ∨ ∃ b, y = .bl b) ∧ Q (.bl (if n then !isV x y else isV x y)) H) ∨
  ∃ a b oa ob, x = .ref a ∧ y = .ref b ∧ H a = some oa ∧ isObj oa = true ∧ H b = some ob ∧ isObj ob = true ∧ Q (.bl (if n then !decide (a = b) else decide (a = b))) H
theorem relV_beq {x y : V} {v u : Value} (rx : RelV x v) (ry : RelV y u) (hy : y = .non ∨ ∃ b, y = .bl b) : PySem.plainIs v u = true ∧ (v == u) = isV x y := by
  rcases hy with rfl | ⟨b, rfl⟩
  · cases (show u = Value.none from ry)
    refine ⟨?_, rx.none_iff⟩
    cases x with
    | non => cases (show v = Value.none from rx); rfl
    | bl _ => cases (show v = _ from rx); rfl
    | int _ => obtain ⟨t, rfl⟩ := rx; rfl
    | str _ => obtain ⟨t, rfl⟩ := rx; rfl
    | byt _ => obtain ⟨t, rfl⟩ := rx; rfl
    | flt _ => obtain ⟨t, rfl⟩ := rx; rfl
    | ref _ => cases (show v = _ from rx); rfl
    | ty _ => cases (show v = _ from rx); rfl
  · cases (show u = Value.bool b from ry)
    cases x with
    | non => cases (show v = Value.none from rx); exact ⟨rfl, rfl⟩
    | bl d =>
      cases (show v = Value.bool d from rx)
      refine ⟨rfl, ?_⟩
      cases b <;> cases d <;> rfl
    | int _ => obtain ⟨t, rfl⟩ := rx; exact ⟨rfl, rfl⟩
    | str _ => obtain ⟨t, rfl⟩ := rx; exact ⟨rfl, rfl⟩
    | byt _ => obtain ⟨t, rfl⟩ := rx; exact ⟨rfl, rfl⟩
    | flt _ => obtain ⟨t, rfl⟩ := rx; exact ⟨rfl, rfl⟩
    | ref _ => cases (show v = _ from rx); exact ⟨rfl, rfl⟩
    | ty _ => cases (show v = _ from rx); exact ⟨rfl, rfl⟩
theorem r_is : OpR X (compareOp .Is) (rIs false) := by
  intro pins s σ H x y v u Q I rx ry h
  rcases h with ⟨hy, q⟩ | h
  · obtain ⟨p, e⟩ := relV_beq rx ry hy
    exact wpAny_is_plain p ⟨.bl (isV x y), H, I, by show Value.bool _ = Value.bool _; rw [e], q⟩
  · exact op_is_ref pins s σ H x y v u Q I rx ry h
theorem r_isnot : OpR X (compareOp .IsNot) (rIs true) := by
  intro pins s σ H x y v u Q I rx ry h
  rcases h with ⟨hy, q⟩ | h
  · obtain ⟨p, e⟩ := relV_beq rx ry hy
    exact wpAny_isNot_plain p ⟨.bl (!isV x y), H, I, by show Value.bool _ = Value.bool _; rw [e], q⟩
  · exact op_isnot_ref pins s σ H x y v u Q I rx ry h
end
def isF : W → W → Bool
  | .non, .non => true
  | .bl a, .bl b => a == b
  | _, _ => false
def isK (n : Bool) : COp := fun x y S K => match x, y with
  | _, .non => K (if n then !isF x y else isF x y)
  | _, .bl _ => K (if n then !isF x y else isF x y)
  | .ref a, .ref b => (∃ xs, S a = some (.lst xs)) ∧ (∃ xs, S b = some (.lst xs)) ∧ K (if n then !decide (a = b) else decide (a = b))
  | _, _ => False
theorem rv_bl {K : PySem.W.Frag} {H : Hp} {x : W} {v : V} {b : Bool} (r : RV K H x v) : isV v (.bl b) = isF x (.bl b) := by
  cases r <;> first | rfl | (rename_i d; cases b <;> cases d <;> rfl)
theorem rv_non {K : PySem.W.Frag} {H : Hp} {x : W} {v : V} (r : RV K H x v) : isV v .non = isF x .non := by
  cases r <;> rfl
theorem o_is {c : Cst} {n : Bool} : OpC c (rIs n) (isK n) := fun x y u v H S Kk Q rs rx ry h po => by
  cases ry with
  | non =>
    refine .inl ⟨.inl rfl, po _ ?_⟩
    rw [rv_non rx]
    cases x <;> exact h
  | bl b =>
    refine .inl ⟨.inr ⟨b, rfl⟩, po _ ?_⟩
    rw [rv_bl rx]
    cases x <;> exact h
  | ref b =>
    cases rx with
    | ref a =>
      obtain ⟨⟨xs, h1⟩, ⟨ys, h2⟩, k⟩ := h
      obtain ⟨_, e1, _⟩ := rs.lst h1
      obtain ⟨_, e2, _⟩ := rs.lst h2
      exact .inr ⟨a, b, _, _, rfl, rfl, e1, rfl, e2, rfl, po _ k⟩
    | _ => exact h.elim
  | _ => cases rx <;> exact h.elim

/-! ### arithmetic, texts, lists, tuples joined -/
def bAdd : BOp := fun x y S K => match x, y with
  | .int i, .int j => K (.int (i + j)) S
  | .int i, .bl b => K (.int (i + b2i b)) S
  | .str a, .str b => a.length + b.length ≤ sizeLine ∧ K (.str (a ++ b)) S
  | .tp false xs, .tp false ys => xs.length + ys.length ≤ sizeLine ∧ K (.tup (xs ++ ys)) S
  | .lst xs, .lst ys => xs.length + ys.length ≤ sizeLine ∧ ∀ p, S p = none → K (.ref p) (S.put p (.lst (xs ++ ys)))
  | .lst xs, .ref b => ∃ ys, S b = some (.lst ys) ∧ xs.length + ys.length ≤ sizeLine ∧ ∀ p, S p = none → K (.ref p) (S.put p (.lst (xs ++ ys)))
  | .ref a, .lst ys => ∃ xs, S a = some (.lst xs) ∧ xs.length + ys.length ≤ sizeLine ∧ ∀ p, S p = none → K (.ref p) (S.put p (.lst (xs ++ ys)))
  | .ref a, .ref b => ∃ xs ys, S a = some (.lst xs) ∧ S b = some (.lst ys) ∧ xs.length + ys.length ≤ sizeLine ∧ ∀ p, S p = none → K (.ref p) (S.put p (.lst (xs ++ ys)))
  | _, _ => False
def rAddW (K : PySem.W.Frag) : R2 := fun x y H Q => (∃ i j, x = .int i ∧ y = .int j ∧ Q (.int (i + j)) H) ∨ (∃ i k, x = .int i ∧ y = .bl k ∧ Q (.int (i + b2i k)) H) ∨
  (∃ i j, x = .str i ∧ y = .str j ∧ i.length + j.length ≤ sizeLine ∧ Q (.str (i ++ j)) H) ∨ rCatN K x y H Q ∨ rCatL x y H Q
theorem r_add {X : Cx} : OpR X (binaryOp .Add) (rAddW X.K) := OpR.or op_add (OpR.or op_add_ib (OpR.or op_add_str (OpR.or op_catN op_catL)))
theorem cat_of {c : Cst} {H : Hp} {S : Sto} {a b : Addr} {vs us : List V} {xs ys : List W} {Kk : WK} {Q : VK} (rs : RS c.K H S) (q1 : Rd H a (.lst vs)) (q2 : Rd H b (.lst us)) (r1 : RVs c.K H xs vs) (r2 : RVs c.K H ys us) (hz : xs.length + ys.length ≤ sizeLine)
    (k : ∀ p, S p = none → Kk (.ref p) (S.put p (.lst (xs ++ ys)))) (po : ∀ w S' H' z, Kk w S' → Ext H S H' S' → RS c.K H' S' → RV c.K H' w z → Q z H') : rAddW c.K (.ref a) (.ref b) H Q := by
  refine .inr (.inr (.inr (.inr ⟨a, b, vs, us, rfl, rfl, q1, q2, by rw [← r1.length, ← r2.length]; exact hz, fun p hp => ?_⟩)))
  exact po _ _ _ _ (k p (rs.fresh hp)) (.new hp) (rs.new hp (.lst (r1.append r2))) (.ref p)
theorem o_add {c : Cst} : Op2 c (rAddW c.K) bAdd := fun x y u v H S Kk Q rs rx ry h po => by
  cases rx with
  | int i => cases ry with
    | int j => exact .inl ⟨i, j, rfl, rfl, po _ S H _ h .refl rs (.int _)⟩
    | bl b => exact .inr (.inl ⟨i, b, rfl, rfl, po _ S H _ h .refl rs (.int _)⟩)
    | _ => exact h.elim
  | str i => cases ry with
    | str j => exact .inr (.inr (.inl ⟨i, j, rfl, rfl, h.1, po _ S H _ h.2 .refl rs (.str _)⟩))
    | _ => exact h.elim
  | @tp k xs a vs h1 r1 => cases k with
    | true => cases ry <;> exact h.elim
    | false => cases ry with
    | @tp k2 ys b us h2 r2 => cases k2 with
      | true => exact h.elim
      | false =>
      have h1 : TqN c.K H a vs := h1
      have h2 : TqN c.K H b us := h2
      refine .inr (.inr (.inr (.inl ⟨a, b, vs, us, rfl, rfl, h1.sq, h2.sq, by rw [← r1.length, ← r2.length]; exact h.1, fun e => ?_, fun e e' => ?_, fun e e' p o hp hc hd => ?_⟩)))
      · subst e; cases r1
        exact po _ S H _ h.2 .refl rs (.tp h2 r2)
      · subst e'; cases r2
        exact po _ S H _ h.2 .refl rs (by rw [List.append_nil]; exact .tp h1 r1)
      · exact po _ S _ _ h.2 (.tup hp) (rs.tup hp) (.tp (k := false) (.new hc hd) ((r1.append r2).tst (tst_upd_new hp)))
    | _ => exact h.elim
  | lst q1 r1 =>
    cases ry with
    | lst q2 r2 => exact cat_of rs (.inr q1) (.inr q2) r1 r2 h.1 h.2 po
    | ref b =>
      obtain ⟨ys, h2, hz, k⟩ := h
      obtain ⟨us, q2, r2⟩ := rs.lst h2
      exact cat_of rs (.inr q1) (.inl q2) r1 r2 hz k po
    | _ => exact h.elim
  | ref a => cases ry with
    | lst q2 r2 =>
      obtain ⟨xs, h1, hz, k⟩ := h
      obtain ⟨vs, q1, r1⟩ := rs.lst h1
      exact cat_of rs (.inl q1) (.inr q2) r1 r2 hz k po
    | ref b =>
      obtain ⟨xs, ys, h1, h2, hz, k⟩ := h
      obtain ⟨vs, q1, r1⟩ := rs.lst h1
      obtain ⟨us, q2, r2⟩ := rs.lst h2
      exact cat_of rs (.inl q1) (.inl q2) r1 r2 hz k po
    | _ => exact h.elim
  | _ => cases ry <;> exact h.elim
def bSub : BOp := fun x y S K => match x, y with
  | .int i, .int j => K (.int (i - j)) S
  | _, _ => False
theorem o_sub {c : Cst} : Op2 c (rI0 fun i j => .int (i - j)) bSub := fun x y u v H S Kk Q rs rx ry h po => by
  cases rx with
  | int i => cases ry with
    | int j => exact ⟨i, j, rfl, rfl, po _ S H _ h .refl rs (.int _)⟩
    | _ => exact h.elim
  | _ => cases ry <;> exact h.elim
def bMod : BOp := fun x y S K => match x, y with
  | .int i, .int j => 0 < j ∧ K (.int (i % j)) S
  | _, _ => False
theorem o_mod {c : Cst} : Op2 c (rI (fun _ j => 0 < j) fun i j => .int (i % j)) bMod := fun x y u v H S Kk Q rs rx ry h po => by
  cases rx with
  | int i => cases ry with
    | int j => exact ⟨i, j, rfl, rfl, h.1, po _ S H _ h.2 .refl rs (.int _)⟩
    | _ => exact h.elim
  | _ => cases ry <;> exact h.elim
def bDiv : BOp := fun x y S K => match x, y with
  | .int i, .int j => (0 < j ∧ j.natAbs.log2 < 9000) ∧ K (.int (i / j)) S
  | _, _ => False
theorem o_div {c : Cst} : Op2 c (rI CDivW fun i j => .int (i / j)) bDiv := fun x y u v H S Kk Q rs rx ry h po => by
  cases rx with
  | int i => cases ry with
    | int j => exact ⟨i, j, rfl, rfl, h.1, po _ S H _ h.2 .refl rs (.int _)⟩
    | _ => exact h.elim
  | _ => cases ry <;> exact h.elim
def bPow : BOp := fun x y S K => match x, y with
  | .int i, .int j => (0 ≤ j ∧ j ≤ 1000000 ∧ i.natAbs < 2 ^ 64) ∧ K (.int (i ^ j.toNat)) S
  | _, _ => False
theorem o_pow {c : Cst} : Op2 c (rI CPow fun i j => .int (i ^ j.toNat)) bPow := fun x y u v H S Kk Q rs rx ry h po => by
  cases rx with
  | int i => cases ry with
    | int j => exact ⟨i, j, rfl, rfl, h.1, po _ S H _ h.2 .refl rs (.int _)⟩
    | _ => exact h.elim
  | _ => cases ry <;> exact h.elim
end Dp
namespace Dp
open PySem PySem.Spec L2
open PyProof.Rows hiding St

/-! ### product -/
@[irreducible] def bMul : BOp := fun x y S K => match x, y with
  | .int i, .int j => (i.natAbs.log2 + j.natAbs.log2 < 1000000) ∧ K (.int (i * j)) S
  | .str a, .int n => -(2 ^ 31) < n ∧ a.length * n.toNat ≤ sizeLine ∧ n < 2 ^ 31 ∧ K (.str ⟨((List.replicate n.toNat a.cps.toList).flatten).toArray⟩) S
  | .ref a, .int n => ∃ xs, S a = some (.lst xs) ∧ -(2 ^ 63) ≤ n ∧ n < 2 ^ 63 ∧ xs.length * n.toNat ≤ sizeLine ∧ ∀ p, S p = none → K (.ref p) (S.put p (.lst (List.replicate n.toNat xs).flatten))
  | _, _ => False
def rMulS : R2 := fun x y H Q => ∃ a n, x = .str a ∧ y = .int n ∧ a.length * n.toNat ≤ sizeLine ∧ n < 2 ^ 31 ∧ -(2 ^ 63) ≤ n ∧ Q (.str ⟨((List.replicate n.toNat a.cps.toList).flatten).toArray⟩) H
theorem flat_app : ∀ (k : Nat) (a acc : Array Nat), (List.replicate k a).foldl (· ++ ·) acc = acc ++ (List.replicate k a.toList).flatten.toArray
  | 0, a, acc => by simp
  | k + 1, a, acc => by
    rw [List.replicate_succ, List.foldl_cons, flat_app k a (acc ++ a), List.replicate_succ, List.flatten_cons]
    apply Array.ext'
    simp [List.append_assoc]
theorem sizeLine_val : (sizeLine : Nat) = 16777216 := sizeLine_eq
theorem r_mulS {X : Cx} : OpR X (binaryOp .Mult) rMulS := by
  intro pins s σ H x y v u Q I rx ry h
  obtain ⟨a, n, rfl, rfl, hz, h1, h0, q⟩ := h
  obtain ⟨t, rfl⟩ := rx
  obtain ⟨t', rfl⟩ := ry
  have hs : (sizeLine : Nat) = 16777216 := sizeLine_val
  have e0 : Str.empty = ⟨#[]⟩ := rfl
  have m : (if n < 1 then Made.str Str.empty else if (n == 1 || a.length == 0) = true then Made.val (.str a t) else Made.str ⟨(List.replicate n.toNat a.cps).foldl (· ++ ·) #[]⟩).post (EP X pins σ Q) s := by
    by_cases hn : n < 1
    · rw [if_pos hn]
      have e : n.toNat = 0 := by omega
      rw [e] at q
      exact ⟨Nat.zero_le _, .str _, H, I.tok _, ⟨_, rfl⟩, q⟩
    · rw [if_neg hn]
      by_cases hb : (n == 1 || a.length == 0) = true
      · rw [if_pos hb]
        refine ⟨.str a, H, I, ⟨_, rfl⟩, ?_⟩
        have e : (⟨((List.replicate n.toNat a.cps.toList).flatten).toArray⟩ : Str) = a := by
          rcases Bool.or_eq_true_iff.mp hb with h | h
          · have : n = 1 := by simpa using h
            subst this
            simp
          · have : a.cps.toList = [] := by
              have : a.cps.size = 0 := by simpa [Str.length] using h
              simpa using this
            rw [this]
            obtain ⟨c⟩ := a
            have hc : c = #[] := by simpa using this
            subst hc
            simp
        rw [e] at q
        exact q
      · rw [if_neg hb, flat_app]
        refine ⟨?_, .str _, H, I.tok _, ⟨_, rfl⟩, ?_⟩
        · show (#[] ++ (List.replicate n.toNat a.cps.toList).flatten.toArray).size ≤ sizeLine
          have hz' : a.cps.size * n.toNat ≤ sizeLine := hz
          simp [Nat.mul_comm] at hz' ⊢
          exact hz'
        · simpa using q
  refine PySem.P.mul_str ?_ (fun hn hb => ?_) (fun hn hb => ?_) m
  · rw [Bool.or_eq_false_iff]
    exact ⟨decide_eq_false (by omega), decide_eq_false (by omega)⟩
  · have h2 : (a.length : Int) * n ≤ 16777216 := by
      have : ((a.length * n.toNat : Nat) : Int) ≤ 16777216 := by omega
      rw [Int.natCast_mul, Int.toNat_of_nonneg (by omega)] at this
      exact this
    have h3 : (a.length : Int) ≤ 16777216 / n := (Int.le_ediv_iff_mul_le (by omega)).mpr h2
    have h4 : (16777216 : Int) / n ≤ (2 ^ 63 - 1) / n := Int.ediv_le_ediv (by omega) (by omega)
    omega
  · unfold Builtin.Str.tooLong
    rw [decide_eq_false_iff_not]
    omega
def rMulW : R2 := fun x y H Q => (∃ i j, x = .int i ∧ y = .int j ∧ CMulW i j ∧ Q (.int (i * j)) H) ∨ rMulS x y H Q ∨ rRep x y H Q
theorem r_mul {X : Cx} : OpR X (binaryOp .Mult) rMulW := OpR.or op_mulW (OpR.or r_mulS op_rep)
theorem o_mul {c : Cst} : Op2 c rMulW bMul := fun x y u v H S Kk Q rs rx ry h po => by
  unfold bMul at h
  cases rx with
  | int i => cases ry with
    | int j => exact .inl ⟨i, j, rfl, rfl, h.1, po _ S H _ h.2 .refl rs (.int _)⟩
    | _ => exact h.elim
  | str a => cases ry with
    | int n => exact .inr (.inl ⟨a, n, rfl, rfl, h.2.1, h.2.2.1, by have := h.1; omega, po _ S H _ h.2.2.2 .refl rs (.str _)⟩)
    | _ => exact h.elim
  | ref a => cases ry with
    | int n =>
      obtain ⟨xs, h1, h2, h3, hz, k⟩ := h
      obtain ⟨vs, q1, r1⟩ := rs.lst h1
      refine .inr (.inr ⟨a, n, vs, rfl, rfl, q1, h2, h3, by rw [← r1.length]; exact hz, fun p hp => ?_⟩)
      have rr : ∀ k, RVs c.K H (List.replicate k xs).flatten (List.replicate k vs).flatten := fun k => by
        induction k with
        | zero => exact .nil
        | succ k ih => rw [List.replicate_succ, List.replicate_succ, List.flatten_cons, List.flatten_cons]; exact r1.append ih
      exact po _ _ _ _ (k p (rs.fresh hp)) (.new hp) (rs.new hp (.lst (rr _))) (.ref p)
    | _ => exact h.elim
  | _ => cases ry <;> exact h.elim
end Dp
namespace Dp
open PySem PySem.Spec L2
open PyProof.Rows hiding St

/-! ### minus -/
def uNeg : UOp := fun x S K => match x with
  | .int i => K (.int (-i)) S
  | _ => False
theorem o_neg {c : Cst} : Op1 c (rU fun i => .int (-i)) uNeg := fun x u H S Kk Q rs rx h po => by
  cases rx with
  | int i => exact ⟨i, rfl, po _ S H _ h .refl rs (.int _)⟩
  | _ => exact h.elim

/-! ### keys -/
def kW : Key → W
  | .inl i => .int i
  | .inr x => .str x
theorem rv_key {K : PySem.W.Frag} {H : Hp} {k : Key} {v : V} (r : RV K H (kW k) v) : v = kV k := by
  cases k with
  | inl i => cases r; rfl
  | inr i => cases r; rfl
theorem rv_kV {K : PySem.W.Frag} {H : Hp} (k : Key) : RV K H (kW k) (kV k) := by
  cases k with
  | inl i => exact .int i
  | inr i => exact .str i
def valW : List (Key × W) → Key → Option W
  | [], _ => none
  | (k', v) :: r, k => if k' = k then some v else valW r k
def putW : List (Key × W) → Key → W → List (Key × W) := fun kvs k v => if (kvs.any fun kv => decide (kv.1 = k)) = true then kvs.map (fun kv => if kv.1 = k then (kv.1, v) else kv) else kvs ++ [(k, v)]
def dropW (kvs : List (Key × W)) (k : Key) : List (Key × W) := kvs.filter fun kv => decide (kv.1 ≠ k)
section
variable {K : PySem.W.Frag} {H : Hp}
theorem rkv_val {ws : List (Key × W)} {vs : List (Key × V)} (r : RKV K H ws vs) (k : Key) : (valW ws k = none ∧ valV vs k = none) ∨ ∃ w v, valW ws k = some w ∧ valV vs k = some v ∧ RV K H w v := by
  induction r with
  | nil => exact .inl ⟨rfl, rfl⟩
  | @cons p q ws vs h t ih =>
    obtain ⟨k1, w⟩ := p
    obtain ⟨k2, v⟩ := q
    obtain ⟨e, rv⟩ := h
    simp only at e
    subst e
    by_cases z : k1 = k
    · exact .inr ⟨w, v, by simp [valW, z], valV_pos z, rv⟩
    · rw [valV_neg (p := (k1, v)) z]
      simpa [valW, z] using ih
theorem rkv_any {ws : List (Key × W)} {vs : List (Key × V)} (r : RKV K H ws vs) (k : Key) : (vs.any fun kv => decide (kv.1 = k)) = (ws.any fun kv => decide (kv.1 = k)) := by
  induction r with
  | nil => rfl
  | cons h t ih => rw [List.any_cons, List.any_cons, ih, h.1]
theorem rkv_map {ws : List (Key × W)} {vs : List (Key × V)} (r : RKV K H ws vs) (k : Key) {w : W} {v : V} (h : RV K H w v) : RKV K H (ws.map (fun kv => if kv.1 = k then (kv.1, w) else kv)) (vs.map (fun kv => if kv.1 = k then (kv.1, v) else kv)) := by
  induction r with
  | nil => exact .nil
  | @cons p q ws vs h1 t ih =>
    refine .cons ?_ ih
    obtain ⟨k1, w1⟩ := p
    obtain ⟨k2, v1⟩ := q
    obtain ⟨e1, rv⟩ := h1
    simp only at e1
    subst e1
    by_cases z : k1 = k
    · simp [z]; exact h
    · simp [z]; exact rv
theorem rkv_end {ws : List (Key × W)} {vs : List (Key × V)} (r : RKV K H ws vs) (k : Key) {w : W} {v : V} (h : RV K H w v) : RKV K H (ws ++ [(k, w)]) (vs ++ [(k, v)]) := by
  induction r with
  | nil => exact .cons ⟨rfl, h⟩ .nil
  | cons h1 t ih => exact .cons h1 ih
theorem rkv_put {ws : List (Key × W)} {vs : List (Key × V)} (r : RKV K H ws vs) (k : Key) {w : W} {v : V} (h : RV K H w v) : RKV K H (putW ws k w) (putK vs k v) := by
  unfold putW putK
  rw [rkv_any r k]
  split
  · exact rkv_map r k h
  · exact rkv_end r k h
theorem rkv_len {ws : List (Key × W)} {vs : List (Key × V)} (r : RKV K H ws vs) : vs.length = ws.length := (Paired.length r).symm
theorem rkv_drop {ws : List (Key × W)} {vs : List (Key × V)} (r : RKV K H ws vs) (k : Key) : RKV K H (dropW ws k) (dropK vs k) := by
  unfold dropW dropK
  induction r with
  | nil => exact .nil
  | @cons p q ws vs h t ih =>
    rw [List.filter_cons, List.filter_cons, h.1]
    split
    · exact .cons h ih
    · exact ih
end

theorem rkv_zip {K : PySem.W.Frag} {H : Hp} : ∀ {ks : List Key} {ws : List W} {vs : List V}, ks.length = ws.length → RVs K H ws vs → RKV K H (ks.zip ws) (ks.zip vs)
  | [], [], _, _, .nil => .nil
  | [], _ :: _, _, h, _ => by simp at h
  | _ :: _, [], _, h, _ => by simp at h
  | k :: ks, _, _, h, .cons h1 t => .cons ⟨rfl, h1⟩ (rkv_zip (ks := ks) (by simpa using h) t)
/-! ### in, not in -/
@[irreducible] def inK (n : Bool) : COp := fun x y S K => match y with
  | .str z => (∃ ch, x = .str ⟨#[ch]⟩ ∧ K (if n then !decide (ch ∈ z.cps.toList) else decide (ch ∈ z.cps.toList))) ∨ ∃ a, x = .str a ∧ K (if n then !(!(Builtin.Str.occurrences z a 0 z.length 1).isEmpty) else !(Builtin.Str.occurrences z a 0 z.length 1).isEmpty)
  | .tp _ ws => flat x = true ∧ ws.all flat = true ∧ K (if n then !(ws.any fun w => eqF w x) else ws.any fun w => eqF w x)
  | .lst ws => (flat x = true ∧ ws.all flat = true ∧ K (if n then !(ws.any fun w => eqF w x) else ws.any fun w => eqF w x)) ∨
      (∃ d ds, Den S x d ∧ Dens S ws ds ∧ SeqAt.shaped d = true ∧ SeqAt.shaped (.list ds) = true ∧ K (if n then !(ds.any fun z => PyData.eqv z d) else ds.any fun z => PyData.eqv z d))
  | .dct ks ws => ∃ k, x = kW k ∧ K (if n then !(valW (ks.zip ws) k).isSome else (valW (ks.zip ws) k).isSome)
  | .ref a => (∃ ws, S a = some (.lst ws) ∧ flat x = true ∧ ws.all flat = true ∧ K (if n then !(ws.any fun w => eqF w x) else ws.any fun w => eqF w x)) ∨
      (∃ ws d ds, S a = some (.lst ws) ∧ Den S x d ∧ Dens S ws ds ∧ SeqAt.shaped d = true ∧ SeqAt.shaped (.list ds) = true ∧ K (if n then !(ds.any fun z => PyData.eqv z d) else ds.any fun z => PyData.eqv z d)) ∨
      ∃ kvs k, S a = some (.dic kvs) ∧ x = kW k ∧ K (if n then !(valW kvs k).isSome else (valW kvs k).isSome)
  | _ => False
def rInDic (n : Bool) : R2 := fun x y H Q => ∃ a o, y = .ref a ∧ DGet H a x o ∧ Q (.bl (if n then !o.isSome else o.isSome)) H
def rInW (K : PySem.W.Frag) (n : Bool) : R2 := fun x y H Q =>
  (∃ c z, x = .str ⟨#[c]⟩ ∧ y = .str z ∧ Q (.bl (if n then !decide (c ∈ z.cps.toList) else decide (c ∈ z.cps.toList))) H) ∨
  (∃ i j, x = .str i ∧ y = .str j ∧ Q (.bl (if n then !(!(Builtin.Str.occurrences j i 0 j.length 1).isEmpty) else !(Builtin.Str.occurrences j i 0 j.length 1).isEmpty)) H) ∨
  rIn K n x y H Q ∨ (∃ d ds, L2.Dp K H x d ∧ L2.Dp K H y (.list ds) ∧ SeqAt.shaped d = true ∧ SeqAt.shaped (.list ds) = true ∧ Q (.bl (if n then !(ds.any fun z => PyData.eqv z d) else ds.any fun z => PyData.eqv z d)) H) ∨ rInDic n x y H Q
section
variable {X : Cx}
theorem r_inDic (hu : X.A.units + 1 < cLine) : OpR X (compareOp .In) (rInDic false) := by
  intro pins s σ H x y v u Q I rx ry h
  obtain ⟨a, o, rfl, g, q⟩ := h
  cases ry
  exact d_in hu I g rx fun s1 I1 => ⟨.bl o.isSome, H, I1, rfl, q⟩
theorem r_ninDic (hu : X.A.units + 1 < cLine) : OpR X (compareOp .NotIn) (rInDic true) := by
  intro pins s σ H x y v u Q I rx ry h
  obtain ⟨a, o, rfl, g, q⟩ := h
  cases ry
  exact d_notIn hu I g rx fun s1 I1 => ⟨.bl (!o.isSome), H, I1, rfl, q⟩
theorem r_in (hu : X.A.units + 65 < cLine) : OpR X (compareOp .In) (rInW X.K false) := OpR.or op_in_sign (OpR.or op_in_str (OpR.or op_in_seq (OpR.or (op_inD hu) (r_inDic (by omega)))))
theorem r_nin (hu : X.A.units + 65 < cLine) : OpR X (compareOp .NotIn) (rInW X.K true) := OpR.or op_notIn_sign (OpR.or op_notin_str (OpR.or op_notIn_seq (OpR.or (op_notInD hu) (r_ninDic (by omega)))))
end
theorem rv_flat {K : PySem.W.Frag} {H : Hp} {w : W} {v : V} (r : RV K H w v) (f : flat w = true) : flatV v = true := by
  cases r <;> first | rfl | (simp [flat] at f)
theorem rv_eqF {K : PySem.W.Frag} {H : Hp} {w x : W} {v u : V} (r : RV K H w v) (r' : RV K H x u) (f : flat w = true) (f' : flat x = true) : eqV v u = eqF w x := by
  cases r <;> cases r' <;> first | rfl | (simp [flat] at f; done) | (simp [flat] at f')
theorem rvs_flat {K : PySem.W.Frag} {H : Hp} {ws : List W} {vs : List V} (r : RVs K H ws vs) (f : ws.all flat = true) : vs.all flatV = true := by
  induction ws generalizing vs with
  | nil => cases r; rfl
  | cons w ws ih =>
    cases r with
    | cons h t =>
      rw [List.all_cons, Bool.and_eq_true] at f
      rw [List.all_cons, rv_flat h f.1, ih t f.2]; rfl
theorem rvs_in {K : PySem.W.Frag} {H : Hp} {ws : List W} {vs : List V} {x : W} {u : V} (r : RVs K H ws vs) (rx : RV K H x u) (f : ws.all flat = true) (fx : flat x = true) : inV u vs = ws.any fun w => eqF w x := by
  unfold inV
  induction ws generalizing vs with
  | nil => cases r; rfl
  | cons w ws ih =>
    cases r with
    | cons h t =>
      rw [List.all_cons, Bool.and_eq_true] at f
      rw [List.any_cons, List.any_cons, rv_eqF h rx f.1 fx, ih t f.2]
theorem o_in {c : Cst} {n : Bool} : OpC c (rInW c.K n) (inK n) := fun x y u v H S Kk Q rs rx ry h po => by
  unfold inK at h
  cases ry with
  | str z =>
    rcases h with ⟨ch, rfl, k⟩ | ⟨a, rfl, k⟩
    · cases rx
      exact .inl ⟨ch, z, rfl, rfl, po _ k⟩
    · cases rx
      exact .inr (.inl ⟨a, z, rfl, rfl, po _ k⟩)
  | @lst ws a vs hq r =>
    rcases h with ⟨f1, f2, k⟩ | ⟨d, ds, h1, h2, h3, h4, k⟩
    · exact .inr (.inr (.inl ⟨a, vs, rfl, .inl (.inl (.inr hq)), rv_flat rx f1, rvs_flat r f2, by rw [rvs_in r rx f2 f1]; exact po _ k⟩))
    · exact .inr (.inr (.inr (.inl ⟨d, ds, h1.dp rs rx, (Den.lst h2).dp rs (.lst hq r), h3, h4, po _ k⟩)))
  | @dct ks ws a vs hq l r =>
    obtain ⟨k0, rfl, k⟩ := h
    rw [rv_key rx]
    refine .inr (.inr (.inr (.inr ⟨a, _, rfl, .inl ⟨_, k0, .inr hq, rfl, rfl⟩, ?_⟩)))
    rcases rkv_val (rkv_zip l r) k0 with ⟨e1, e2⟩ | ⟨w, v, e1, e2, _⟩
    · rw [e1] at k; rw [e2]; exact po _ k
    · rw [e1] at k; rw [e2]; exact po _ k
  | @tp _ ws a vs hq r =>
    obtain ⟨f1, f2, k⟩ := h
    exact .inr (.inr (.inl ⟨a, vs, rfl, .inr hq.sq, rv_flat rx f1, rvs_flat r f2, by rw [rvs_in r rx f2 f1]; exact po _ k⟩))
  | ref a =>
    rcases h with ⟨ws, l, f1, f2, k⟩ | ⟨ws, d, ds, l, h1, h2, h3, h4, k⟩ | ⟨kvs, k0, l, rfl, k⟩
    · obtain ⟨vs, hq, r⟩ := rs.lst l
      exact .inr (.inr (.inl ⟨a, vs, rfl, .inl (.of hq), rv_flat rx f1, rvs_flat r f2, by rw [rvs_in r rx f2 f1]; exact po _ k⟩))
    · exact .inr (.inr (.inr (.inl ⟨d, ds, h1.dp rs rx, (Den.cel l h2).dp rs (.ref a), h3, h4, po _ k⟩)))
    · obtain ⟨vs, hq, r⟩ := rs.dic l
      rw [rv_key rx]
      refine .inr (.inr (.inr (.inr ⟨a, _, rfl, DGet.k (k := k0) hq, ?_⟩)))
      rcases rkv_val r k0 with ⟨e1, e2⟩ | ⟨w, v, e1, e2, _⟩
      · rw [e1] at k; rw [e2]; exact po _ k
      · rw [e1] at k; rw [e2]; exact po _ k
  | _ => exact h.elim

/-! ### subscripts -/
@[irreducible] def ixK : BOp := fun x y S K => match x, y with
  | .tp _ ws, .int i => ∃ w, atI ws i = some w ∧ K w S
  | .lst ws, .int i => ∃ w, atI ws i = some w ∧ K w S
  | .dct ks ws, y => ∃ k w, y = kW k ∧ valW (ks.zip ws) k = some w ∧ K w S
  | .str z, .int i => z.length ≤ sizeLine ∧ ∃ ch, atI z.cps.toList i = some ch ∧ K (.str ⟨#[ch]⟩) S
  | .ref a, y => (∃ ws i w, y = .int i ∧ S a = some (.lst ws) ∧ atI ws i = some w ∧ K w S) ∨ ∃ kvs k w, S a = some (.dic kvs) ∧ y = kW k ∧ valW kvs k = some w ∧ K w S
  | _, _ => False
theorem rvs_at {K : PySem.W.Frag} {H : Hp} {ws : List W} {vs : List V} {i : Int} {w : W} (r : RVs K H ws vs) (h : atI ws i = some w) : ∃ v, atI vs i = some v ∧ RV K H w v := by
  unfold atI at h ⊢
  rw [← r.length]
  cases e : ixN ws.length i with
  | none => rw [e] at h; cases h
  | some j => rw [e] at h; exact r.get' h
def rIxD : R2 := fun x y H Q => ∃ a v, x = .ref a ∧ DGet H a y (some v) ∧ Q v H
def rIxW (K : PySem.W.Frag) : R2 := fun x y H Q => rIx K x y H Q ∨ rIxD x y H Q
theorem r_ixD {X : Cx} (hu : X.A.units + 1 < cLine) : IxR X rIxD := by
  intro value slice pins s σ H x y v u Q I rx ry h hs
  obtain ⟨a, w, rfl, g, q⟩ := h
  cases rx
  exact tail_any (dict_typeIs I g) PySem.F.slot_dict_getitem.lookup (d_getItem hu I g ry fun w' s3 I3 rw' => ⟨w, H, I3, rw', q⟩) hs
theorem r_ix {X : Cx} (hu : X.A.units + 1 < cLine) : IxR X (rIxW X.K) := IxR.or ix_seq (r_ixD hu)
theorem o_ix {c : Cst} : Op2 c (rIxW c.K) ixK := fun x y u v H S Kk Q rs rx ry h po => by
  unfold ixK at h
  cases rx with
  | @lst ws a vs hq r =>
    cases ry with
    | int i =>
      obtain ⟨w, e, k⟩ := h
      obtain ⟨z, e2, rz⟩ := rvs_at r e
      exact .inl (.inl ⟨a, vs, i, z, rfl, rfl, .inl (.inr hq), e2, po _ S H _ k .refl rs rz⟩)
    | _ => exact h.elim
  | @dct ks ws a vs hq l r =>
    have h : ∃ k w, y = kW k ∧ valW (ks.zip ws) k = some w ∧ Kk w S := by cases y <;> exact h
    obtain ⟨k0, w, rfl, e, k⟩ := h
    rw [rv_key ry]
    rcases rkv_val (rkv_zip l r) k0 with ⟨e1, _⟩ | ⟨w', v', e1, e2, rr⟩
    · rw [e1] at e; cases e
    · rw [e1] at e; cases e
      exact .inr ⟨a, v', rfl, by rw [← e2]; exact .inl ⟨_, k0, .inr hq, rfl, rfl⟩, po _ S H _ k .refl rs rr⟩
  | @tp _ ws a vs hq r =>
    cases ry with
    | int i =>
      obtain ⟨w, e, k⟩ := h
      obtain ⟨z, e2, rz⟩ := rvs_at r e
      exact .inl (.inr (.inl ⟨a, vs, i, z, rfl, rfl, hq.sq, e2, po _ S H _ k .refl rs rz⟩))
    | _ => exact h.elim
  | str z =>
    cases ry with
    | int i =>
      obtain ⟨hz, ch, e, k⟩ := h
      exact .inl (.inr (.inr ⟨z, i, ch, rfl, rfl, hz, e, po _ S H _ k .refl rs (.str _)⟩))
    | _ => exact h.elim
  | ref a =>
    rcases h with ⟨ws, i, w, rfl, l, e, k⟩ | ⟨kvs, k0, w, l, rfl, e, k⟩
    · cases ry
      obtain ⟨vs, hq, r⟩ := rs.lst l
      obtain ⟨z, e2, rz⟩ := rvs_at r e
      exact .inl (.inl ⟨a, vs, i, z, rfl, rfl, .of hq, e2, po _ S H _ k .refl rs rz⟩)
    · obtain ⟨vs, hq, r⟩ := rs.dic l
      rw [rv_key ry]
      rcases rkv_val r k0 with ⟨e1, _⟩ | ⟨w', v', e1, e2, rr⟩
      · rw [e1] at e; cases e
      · rw [e1] at e; cases e
        exact .inr ⟨a, v', rfl, by rw [← e2]; exact DGet.k hq, po _ S H _ k .refl rs rr⟩
  | _ => cases ry <;> exact h.elim

/-! ### slices -/
abbrev WO := Ro → Sto → (Option Int → Sto → Prop) → EK → Prop
def mNoPart : WO := fun _ S Kk _ => Kk none S
def mPart (a : WE) : WO := fun ρ S Kk Ek => a ρ S (fun w S1 => match w with
  | .int i => Kk (some i) S1
  | _ => False) Ek
section
variable {X : Cx} {c : Cst} {Wx : WX}
def tO (c : Cst) (Wx : WX) (m : WO) : TO := fun σ H Q => ∃ ρ S Kk Ek, RE c.K H ρ σ ∧ RS c.K H S ∧ m ρ S Kk Ek ∧ (∀ b S' H', Kk b S' → Ext H S H' S' → RS c.K H' S' → Q b H') ∧ PoX c Wx σ H S Ek
theorem PO.imp {o : Option Expr} {t t' : TO} (h : PO X o t) (k : ∀ σ H Q, t' σ H Q → t σ H Q) : PO X o t' := ⟨fun pins s σ H Q I q => h.run pins s σ H Q I (k σ H Q q)⟩
theorem s_noPart : PO X none (tO c Wx mNoPart) := PO.imp po_none fun σ H Q q => by
  obtain ⟨ρ, S, Kk, Ek, re, rs, hm, po, px⟩ := q
  exact po none S H hm .refl rs
theorem s_part {e : Expr} {a : WE} (ha : PE X e (tE c Wx a)) : PO X (some e) (tO c Wx (mPart a)) := PO.imp (po_some ha) fun σ H Q q => by
  obtain ⟨ρ, S, Kk, Ek, re, rs, hm, po, px⟩ := q
  refine ⟨ρ, S, _, Ek, re, rs, hm, fun w S1 H1 v k1 e1 rs1 rv => ?_, px⟩
  cases rv with
  | int i => exact ⟨i, rfl, po (some i) S1 H1 k1 e1 rs1⟩
  | _ => exact k1.elim
/-- the part of a list -/
def cutW {α : Type} (xs : List α) (lo hi : Option Int) : List α := (xs.drop (HT.sIx xs.length 0 lo)).take (HT.sIx xs.length xs.length hi - HT.sIx xs.length 0 lo)
theorem cut_rvs {K : PySem.W.Frag} {H : Hp} {ws : List W} {vs : List V} (r : RVs K H ws vs) (lo hi : Option Int) : RVs K H (cutW ws lo hi) (cutV vs lo hi) := by
  unfold cutW cutV
  rw [r.length]
  exact (r.drop _).take _
theorem cut_whole {α : Type} {xs : List α} {lo hi : Option Int} (h1 : HT.sIx xs.length 0 lo = 0) (h2 : HT.sIx xs.length xs.length hi = xs.length) : cutW xs lo hi = xs := by
  unfold cutW
  rw [h1, h2]; simp
@[irreducible] def slK (x : W) (lo hi : Option Int) (S : Sto) (K : WK) : Prop := match x with
  | .tp false ws => K (.tup (cutW ws lo hi)) S
  | .str z => z.length ≤ sizeLine ∧ K (.str ⟨(cutW z.cps.toList lo hi).toArray⟩) S
  | .lst ws => ∀ p, S p = none → K (.ref p) (S.put p (.lst (cutW ws lo hi)))
  | .ref a => ∃ ws, S a = some (.lst ws) ∧ ∀ p, S p = none → K (.ref p) (S.put p (.lst (cutW ws lo hi)))
  | .kls ws => ∀ p, S p = none → K (.ref p) (S.put p (.lst (cutW ws lo hi)))
  | _ => False
def mSl (a : WE) (lo hi : WO) : WE := fun ρ S Kk Ek => a ρ S (fun x S1 => lo ρ S1 (fun l S2 => hi ρ S2 (fun h S3 => slK x l h S3 Kk) Ek) Ek) Ek
def rSlW (K : PySem.W.Frag) : V → Option Int → Option Int → Hp → VK → Prop := fun x lo hi H Q => rSlN K x lo hi H Q ∨ rSlS x lo hi H Q ∨ rSlL K x lo hi H Q
theorem r_sl : SlR X (rSlW X.K) := SlR.or sl_tupN (SlR.or sl_str sl_list)
theorem s_sl {e : Expr} {lo hi : Option Expr} {a : WE} {l h : WO} {p2 pos : Pos} (hK : c.K = X.K) (ha : PE X e (tE c Wx a)) (hl : PO X lo (tO c Wx l)) (hh : PO X hi (tO c Wx h)) :
    PE X (.Subscript e (.Slice lo hi none p2) pos) (tE c Wx (mSl a l h)) := PE.imp (pe_slice r_sl ha hl hh) fun σ H Q q => by
  obtain ⟨ρ, S, Kk, Ek, re, rs, hm, po, px⟩ := q
  refine ⟨ρ, S, _, Ek, re, rs, hm, fun x S1 H1 u k1 e1 rs1 rx => ?_, px⟩
  refine ⟨ρ, S1, _, Ek, re.tst (e1.tst rs), rs1, k1, fun lo S2 H2 k2 e2 rs2 => ?_, px.on e1⟩
  refine ⟨ρ, S2, _, Ek, (re.tst (e1.tst rs)).tst (e2.tst rs1), rs2, k2, fun hi S3 H3 k3 e3 rs3 => ?_, (px.on e1).on e2⟩
  have rx3 := (rx.tst (e2.tst rs1)).tst (e3.tst rs2)
  have e13 := (e1.trans e2).trans e3
  unfold slK at k3
  rw [← hK]
  cases rx3 with
  | @tp k ws a vs hq r =>
    cases k with
    | true => exact k3.elim
    | false =>
    have hq : TqN c.K H3 a vs := hq
    refine .inl ⟨a, vs, rfl, hq.sq, fun hw => ?_, fun hw p o hp hc hd => ?_⟩
    · have k3' : Kk (.tup (cutW ws lo hi)) S3 := k3
      rw [cut_whole (by rw [r.length]; exact hw.1) (by rw [r.length]; exact hw.2)] at k3'
      exact po _ S3 H3 _ k3' e13 rs3 (.tp hq r)
    · exact po _ S3 _ _ k3 (e13.trans (.tup hp)) (rs3.tup hp) (.tp (k := false) (.new hc hd) ((cut_rvs r lo hi).tst (tst_upd_new hp)))
  | str z =>
    refine .inr (.inl ⟨z, rfl, k3.1, po _ S3 H3 _ k3.2 e13 rs3 ?_⟩)
    have e : cutS z lo hi = ⟨(cutW z.cps.toList lo hi).toArray⟩ := by
      unfold cutS cutW
      have : z.cps.toList.length = z.length := by simp [Str.length]
      rw [this]
    rw [e]
    exact .str _
  | @lst ws a vs hq r => exact .inr (.inr ⟨a, vs, rfl, .inl (.inr hq), fun p hp => po _ _ _ _ (k3 p (rs3.fresh hp)) (e13.trans (.new hp)) (rs3.new hp (.lst (cut_rvs r lo hi))) (.ref p)⟩)
  | ref a =>
    obtain ⟨ws, l, k⟩ := k3
    obtain ⟨vs, hq, r⟩ := rs3.lst l
    exact .inr (.inr ⟨a, vs, rfl, .of hq, fun p hp => po _ _ _ _ (k p (rs3.fresh hp)) (e13.trans (.new hp)) (rs3.new hp (.lst (cut_rvs r lo hi))) (.ref p)⟩)
  | @kls ws a vs hq r => exact .inr (.inr ⟨a, vs, rfl, hq H3, fun p hp => po _ _ _ _ (k3 p (rs3.fresh hp)) (e13.trans (.new hp)) (rs3.new hp (.lst (cut_rvs r lo hi))) (.ref p)⟩)
  | _ => exact k3.elim
end

/-! ### calls of built-ins -/
abbrev NOp := List W → Sto → WK → Prop
def mBlt (f : NOp) (a : WEs) : WE := fun ρ S Kk Ek => a ρ S (fun ws S1 => f ws S1 Kk) Ek
def OpN (c : Cst) (r : List V → Hp → VK → Prop) (f : NOp) : Prop := ∀ (ws : List W) (vs : List V) (H : Hp) (S : Sto) (Kk : WK) (Q : VK), RS c.K H S → RVs c.K H ws vs → f ws S Kk →
  (∀ w S' H' z, Kk w S' → Ext H S H' S' → RS c.K H' S' → RV c.K H' w z → Q z H') → r vs H Q
theorem s_blt {c : Cst} {Wx : WX} {r : List V → Hp → VK → Prop} {f : NOp} {a : WEs} (ho : OpN c r f) : ∀ σ H Q, tE c Wx (mBlt f a) σ H Q → tCB r (tA c Wx a) σ H Q := fun σ H Q q => by
  obtain ⟨ρ, S, Kk, Ek, re, rs, hm, po, px⟩ := q
  refine ⟨ρ, S, _, Ek, re, rs, hm, fun ws S1 H1 vs k1 e1 rs1 rx => ?_, px⟩
  exact ho ws vs H1 S1 Kk Q rs1 rx k1 fun w S' H' z k e3 => po w S' H' z k (e1.trans e3)
theorem rvs1 {K : PySem.W.Frag} {H : Hp} {x : W} {vs : List V} (r : RVs K H [x] vs) : ∃ v, vs = [v] ∧ RV K H x v := by
  cases r with | cons h t => cases t; exact ⟨_, rfl, h⟩
theorem rvs2 {K : PySem.W.Frag} {H : Hp} {x y : W} {vs : List V} (r : RVs K H [x, y] vs) : ∃ v u, vs = [v, u] ∧ RV K H x v ∧ RV K H y u := by
  cases r with | cons h t => cases t with | cons h' t => cases t; exact ⟨_, _, rfl, h, h'⟩
/-- len -/
@[irreducible] def fLen : NOp := fun ws S K => match ws with
  | [.str z] => z.length ≤ sizeLine ∧ K (.int z.length) S
  | [.tp _ xs] => K (.int xs.length) S
  | [.lst xs] => K (.int xs.length) S
  | [.ref a] => (∃ xs, S a = some (.lst xs) ∧ K (.int xs.length) S) ∨ ∃ kvs, S a = some (.dic kvs) ∧ K (.int kvs.length) S
  | _ => False
def rLenW (K : PySem.W.Frag) : List V → Hp → VK → Prop := fun xs H Q => (∃ x n, xs = [x] ∧ LenV K x H n ∧ Q (.int n) H) ∨ ∃ d kvs, xs = [.ref d] ∧ H d = some (.dK kvs) ∧ Q (.int kvs.length) H
end Dp
namespace Dp
open PySem PySem.Spec L2
open PyProof.Rows hiding St

theorem rvs0 {K : PySem.W.Frag} {H : Hp} {vs : List V} (r : RVs K H [] vs) : vs = [] := by cases r; rfl
theorem r_len {X : Cx} : CallR X (.builtin "len") (rLenW X.K) := CallR.or call_len call_lenD
theorem o_len {c : Cst} : OpN c (rLenW c.K) fLen := fun ws vs H S Kk Q rs r h po => by
  unfold fLen at h
  match ws, r, h with
  | [.str z], r, h =>
    obtain ⟨v, rfl, rx⟩ := rvs1 r
    cases rx
    exact .inl ⟨_, _, rfl, ⟨h.1, rfl⟩, po _ S H _ h.2 .refl rs (.int _)⟩
  | [.tp _ xs], r, h =>
    obtain ⟨v, rfl, rx⟩ := rvs1 r
    cases rx with
    | tp hq rr =>
      refine .inl ⟨_, _, rfl, .inr ⟨_, hq.sq, rfl⟩, ?_⟩
      rw [← rr.length]
      exact po _ S H _ h .refl rs (.int _)
  | [.lst xs], r, h =>
    obtain ⟨v, rfl, rx⟩ := rvs1 r
    cases rx with
    | lst hq rr =>
      refine .inl ⟨_, _, rfl, .inl ⟨_, .inl (.inr hq), rfl⟩, ?_⟩
      rw [← rr.length]
      exact po _ S H _ h .refl rs (.int _)
  | [.ref a], r, h =>
    obtain ⟨v, rfl, rx⟩ := rvs1 r
    cases rx
    rcases h with ⟨xs, l, k⟩ | ⟨kvs, l, k⟩
    · obtain ⟨us, hq, rr⟩ := rs.lst l
      refine .inl ⟨_, _, rfl, .inl ⟨_, .of hq, rfl⟩, ?_⟩
      rw [← rr.length]
      exact po _ S H _ k .refl rs (.int _)
    · obtain ⟨us, hq, rr⟩ := rs.dic l
      refine .inr ⟨_, _, rfl, hq, ?_⟩
      rw [rkv_len rr]
      exact po _ S H _ k .refl rs (.int _)
  | [.non], _, h => exact h.elim
  | [.bl _], _, h => exact h.elim
  | [.int _], _, h => exact h.elim
  | [.ty _], _, h => exact h.elim
  | [], _, h => exact h.elim
  | x :: _ :: _, _, h => cases x <;> exact False.elim h

/-! ### isinstance -/
inductive Ty where
  | int | bool | str | tup | lst | dic
  deriving DecidableEq
def Ty.nm : Ty → String
  | .int => "int" | .bool => "bool" | .str => "str" | .tup => "tuple" | .lst => "list" | .dic => "dict"
/-- the sort of a value -/
inductive Sort' where
  | non | bool | int | str | tup | lst | dic
  deriving DecidableEq
def Sort'.nm : Sort' → String
  | .non => "NoneType" | .bool => "bool" | .int => "int" | .str => "str" | .tup => "tuple" | .lst => "list" | .dic => "dict"
def isB : Sort' → Ty → Bool
  | .bool, .bool => true | .bool, .int => true | .int, .int => true | .str, .str => true | .tup, .tup => true | .lst, .lst => true | .dic, .dic => true
  | _, _ => false
theorem kit_all : ∀ (n : Sort') (T : Ty), kitB n.nm T.nm = some (isB n T) := by
  intro n T
  cases n <;> cases T <;> decide +kernel
def sortK (S : Sto) (x : W) (K : Sort' → Prop) : Prop := match x with
  | .non => K .non
  | .bl _ => K .bool
  | .int _ => K .int
  | .str _ => K .str
  | .tp _ _ => K .tup
  | .lst _ => K .lst
  | .ref a => (∃ xs, S a = some (.lst xs) ∧ K .lst) ∨ ∃ kvs, S a = some (.dic kvs) ∧ K .dic
  | _ => False
def fIsi : NOp := fun ws S K => match ws with
  | [x, .ty n] => ∃ T : Ty, n = T.nm ∧ sortK S x fun s => K (.bl (isB s T)) S
  | _ => False
def uIsi (T : Ty) : UOp := fun x S K => sortK S x fun s => K (.bl (isB s T)) S
theorem tyX_of {c : Cst} {H : Hp} {S : Sto} {x : W} {v : V} {K : Sort' → Prop} (rs : RS c.K H S) (r : RV c.K H x v) (h : sortK S x K) : ∃ s : Sort', TyX c.K H v (.type s.nm) ∧ K s := by
  cases r with
  | non => exact ⟨_, .base .non, h⟩
  | bl b => exact ⟨.bool, .base (.bl b), h⟩
  | int i => exact ⟨.int, .base (.int i), h⟩
  | str i => exact ⟨.str, .base (.str i), h⟩
  | ty n => exact h.elim
  | kls _ _ => exact h.elim
  | xc _ _ => exact h.elim
  | dct _ _ _ => exact h.elim
  | dit _ _ _ => exact h.elim
  | lst q _ =>
    obtain ⟨o, q⟩ := q
    exact ⟨.lst, .base (.frz q), h⟩
  | @tp k ws a vs hq _ =>
    refine ⟨.tup, ?_, h⟩
    cases k with
    | true => exact .base (.tup hq)
    | false =>
      rcases hq with ⟨o, hq, _⟩ | ⟨o, its, n, hk, hc, _⟩
      · exact .fTuple hq
      · exact .kTuple hk hc
  | ref a =>
    rcases h with ⟨xs, l, k⟩ | ⟨kvs, l, k⟩
    · obtain ⟨vs, q, _⟩ := rs.lst l
      exact ⟨.lst, .base (.lst q), k⟩
    · obtain ⟨vs, q, _⟩ := rs.dic l
      exact ⟨.dic, .base (.dK q), k⟩
theorem o_isi {c : Cst} : OpN c (rIsi c.K) fIsi := fun ws vs H S Kk Q rs r h po => by
  match ws, r, h with
  | [x, .ty n], r, ⟨T, e, h⟩ =>
    obtain ⟨v, u, rfl, rx, ru⟩ := rvs2 r
    cases ru
    subst e
    obtain ⟨s, t, k⟩ := tyX_of rs rx h
    exact ⟨v, .ty T.nm, _, _, isB s T, rfl, .ty _, t, kit_ty (kit_all s T), po _ S H _ k .refl rs (.bl _)⟩
  | [_, .non], _, h => exact h.elim
  | [_, .bl _], _, h => exact h.elim
  | [_, .int _], _, h => exact h.elim
  | [_, .str _], _, h => exact h.elim
  | [_, .tp _ _], _, h => exact h.elim
  | [_, .lst _], _, h => exact h.elim
  | [_, .dct _ _], _, h => exact h.elim
  | [_, .dit _ _], _, h => exact h.elim
  | [_, .ref _], _, h => exact h.elim
  | [_, .kls _], _, h => exact h.elim
  | [_, .xc ..], _, h => exact h.elim
  | [], _, h => exact h.elim
  | [_], _, h => exact h.elim
  | _ :: y :: _ :: _, _, h => cases y <;> exact False.elim h

/-! ### small ones -/
def fAbs : NOp := fun ws S K => match ws with
  | [.int i] => K (.int (if i < 0 then -i else i)) S
  | _ => False
theorem one_int {c : Cst} {H : Hp} {ws : List W} {vs : List V} (r : RVs c.K H ws vs) {P : Prop} (h : match ws with | [.int _] => P | _ => False) : ∃ i, ws = [.int i] ∧ vs = [.int i] ∧ P := by
  match ws, r, h with
  | [.int i], r, h =>
    obtain ⟨v, rfl, rx⟩ := rvs1 r
    cases rx
    exact ⟨i, rfl, rfl, h⟩
theorem o_abs {c : Cst} : OpN c (fun xs H Q => ∃ i, xs = [V.int i] ∧ Q (.int (if i < 0 then -i else i)) H) fAbs := fun ws vs H S Kk Q rs r h po => by
  unfold fAbs at h
  split at h
  · obtain ⟨v, rfl, rx⟩ := rvs1 r
    cases rx
    exact ⟨_, rfl, po _ S H _ h .refl rs (.int _)⟩
  · exact h.elim
def fMax2 : NOp := fun ws S K => match ws with
  | [.int i, .int j] => K (.int (if j > i then j else i)) S
  | _ => False
def fMin2 : NOp := fun ws S K => match ws with
  | [.int i, .int j] => K (.int (if j < i then j else i)) S
  | _ => False
theorem o_max2 {c : Cst} : OpN c (fun xs H Q => ∃ i j, xs = [V.int i, V.int j] ∧ Q (.int (if j > i then j else i)) H) fMax2 := fun ws vs H S Kk Q rs r h po => by
  unfold fMax2 at h
  split at h
  · obtain ⟨v, u, rfl, rx, ru⟩ := rvs2 r
    cases rx; cases ru
    exact ⟨_, _, rfl, po _ S H _ h .refl rs (.int _)⟩
  · exact h.elim
theorem o_min2 {c : Cst} : OpN c (fun xs H Q => ∃ i j, xs = [V.int i, V.int j] ∧ Q (.int (if j < i then j else i)) H) fMin2 := fun ws vs H S Kk Q rs r h po => by
  unfold fMin2 at h
  split at h
  · obtain ⟨v, u, rfl, rx, ru⟩ := rvs2 r
    cases rx; cases ru
    exact ⟨_, _, rfl, po _ S H _ h .refl rs (.int _)⟩
  · exact h.elim
theorem rvs_map {α : Type} {K : PySem.W.Frag} {H : Hp} {f : α → W} {g : α → V} (hf : ∀ x v, RV K H (f x) v → v = g x) : ∀ {xs : List α} {vs : List V}, RVs K H (xs.map f) vs → vs = xs.map g
  | [], vs, r => by cases r; rfl
  | x :: xs, vs, r => by
    cases r with
    | cons h t => rw [hf x _ h, rvs_map hf t]; rfl
/-- what a list holds, handed on -/
def rdK (S : Sto) (x : W) (K : List W → Prop) : Prop := match x with
  | .lst xs => K xs
  | .ref a => ∃ xs, S a = some (.lst xs) ∧ K xs
  | _ => False
theorem rdK_of {S : Sto} {x : W} {K : List W → Prop} (h : rdK S x K) : ∃ xs, Lr S x xs ∧ K xs := by
  cases x with
  | lst xs => exact ⟨xs, .inl rfl, h⟩
  | ref a => obtain ⟨xs, l, k⟩ := h; exact ⟨xs, .inr ⟨a, rfl, l⟩, k⟩
  | _ => exact h.elim
def lsK (S : Sto) (ws : List W) (P : List W → Prop) : Prop := match ws with
  | [x] => rdK S x P
  | _ => False
theorem rd1 {c : Cst} {H : Hp} {S : Sto} {ws : List W} {vs : List V} {P : List W → Prop} (rs : RS c.K H S) (r : RVs c.K H ws vs) (h : lsK S ws P) :
    ∃ a us xs, vs = [.ref a] ∧ Rd H a (.lst us) ∧ RVs c.K H xs us ∧ P xs := by
  match ws, r, h with
  | [x], r, h =>
    obtain ⟨v, rfl, rx⟩ := rvs1 r
    obtain ⟨xs, l, k⟩ := rdK_of h
    obtain ⟨a, us, rfl, q, rr⟩ := rs.rd rx l
    exact ⟨a, us, xs, rfl, q, rr, k⟩
def fSum : NOp := fun ws S K => lsK S ws fun xs => ∃ ns : List Int, xs = ns.map W.int ∧ K (.int ns.sum) S
theorem o_sum {c : Cst} : OpN c (rSum c.K) fSum := fun ws vs H S Kk Q rs r h po => by
  obtain ⟨a, us, xs, rfl, q, rr, ns, rfl, k⟩ := rd1 rs r h
  rw [rvs_map (g := V.int) (fun x v r => by cases r; rfl) rr] at q
  exact ⟨_, ns, rfl, .inl q, po _ S H _ k .refl rs (.int _)⟩
def fAll : NOp := fun ws S K => lsK S ws fun xs => ∃ bs : List Bool, xs = bs.map W.bl ∧ K (.bl (bs.all id)) S
def fAny : NOp := fun ws S K => lsK S ws fun xs => ∃ bs : List Bool, xs = bs.map W.bl ∧ K (.bl (bs.any id)) S
theorem o_all {c : Cst} : OpN c (rAll c.K) fAll := fun ws vs H S Kk Q rs r h po => by
  obtain ⟨a, us, xs, rfl, q, rr, ns, rfl, k⟩ := rd1 rs r h
  rw [rvs_map (g := V.bl) (fun x v r => by cases r; rfl) rr] at q
  exact ⟨_, ns, rfl, .inl q, po _ S H _ k .refl rs (.bl _)⟩
theorem o_any {c : Cst} : OpN c (rAny c.K) fAny := fun ws vs H S Kk Q rs r h po => by
  obtain ⟨a, us, xs, rfl, q, rr, ns, rfl, k⟩ := rd1 rs r h
  rw [rvs_map (g := V.bl) (fun x v r => by cases r; rfl) rr] at q
  exact ⟨_, ns, rfl, .inl q, po _ S H _ k .refl rs (.bl _)⟩
def fList : NOp := fun ws S K => match ws with
  | [.tp _ xs] => ∀ p, S p = none → K (.ref p) (S.put p (.lst xs))
  | ws => lsK S ws fun xs => ∀ p, S p = none → K (.ref p) (S.put p (.lst xs))
theorem o_list {c : Cst} : OpN c (fun xs H Q => ∃ p ys, xs = [V.ref p] ∧ (SqL c.K H p ys ∨ SqT c.K H p ys) ∧ ∀ l, H l = none → Q (.ref l) (upd H l (.lst ys))) fList := fun ws vs H S Kk Q rs r h po => by
  by_cases ht : ∃ k xs, ws = [.tp k xs]
  · obtain ⟨k, xs, rfl⟩ := ht
    obtain ⟨v, rfl, rx⟩ := rvs1 r
    cases rx with
    | tp hq rr => exact ⟨_, _, rfl, .inr hq.sq, fun p hp => po _ _ _ _ (h p (rs.fresh hp)) (.new hp) (rs.new hp (.lst rr)) (.ref p)⟩
  · have h : lsK S ws (fun xs => ∀ p, S p = none → Kk (.ref p) (S.put p (.lst xs))) := by
      unfold fList at h
      split at h
      · exact absurd ⟨_, _, rfl⟩ ht
      · exact h
    obtain ⟨a, us, xs, rfl, q, rr, k⟩ := rd1 rs r h
    exact ⟨_, us, rfl, .inl (.inl q), fun p hp => po _ _ _ _ (k p (rs.fresh hp)) (.new hp) (rs.new hp (.lst rr)) (.ref p)⟩
def fTuple : NOp := fun ws S K => match ws with
  | [.tp k xs] => K (.tp k xs) S
  | ws => lsK S ws fun xs => K (.tup xs) S
theorem o_tuple {c : Cst} : OpN c (rTupOfN c.K) fTuple := fun ws vs H S Kk Q rs r h po => by
  by_cases ht : ∃ k xs, ws = [.tp k xs]
  · obtain ⟨k, xs, rfl⟩ := ht
    obtain ⟨v, rfl, rx⟩ := rvs1 r
    cases rx with
    | tp hq rr => exact ⟨_, _, rfl, .inr ⟨hq.sq, po _ _ _ _ h .refl rs (.tp hq rr)⟩⟩
  · have h : lsK S ws (fun xs => Kk (.tup xs) S) := by
      unfold fTuple at h
      split at h
      · exact absurd ⟨_, _, rfl⟩ ht
      · exact h
    obtain ⟨a, us, xs, rfl, q, rr, k⟩ := rd1 rs r h
    exact ⟨_, us, rfl, .inl ⟨.inl q, fun p o hp hc hd => po _ _ _ _ k (.tup hp) (rs.tup hp) (.tp (k := false) (.new hc hd) (rr.tst (tst_upd_new hp)))⟩⟩
def fOrd : NOp := fun ws S K => match ws with
  | [.str x] => x.length = 1 ∧ K (.int (x.cps.getD 0 0 : Nat)) S
  | _ => False
theorem o_ord1 {c : Cst} : OpN c (fun xs H Q => ∃ x, xs = [V.str x] ∧ x.length = 1 ∧ Q (.int (x.cps.getD 0 0 : Nat)) H) fOrd := fun ws vs H S Kk Q rs r h po => by
  unfold fOrd at h
  split at h
  · obtain ⟨v, rfl, rx⟩ := rvs1 r
    cases rx
    exact ⟨_, rfl, h.1, po _ S H _ h.2 .refl rs (.int _)⟩
  · exact h.elim
def fStr : NOp := fun ws S K => match ws with
  | [.int i] => i.natAbs.log2 < 1920 ∧ K (.str (toString i)) S
  | _ => False
theorem o_str {c : Cst} : OpN c (fun xs H Q => ∃ i, xs = [V.int i] ∧ i.natAbs.log2 < 1920 ∧ Q (.str (toString i)) H) fStr := fun ws vs H S Kk Q rs r h po => by
  unfold fStr at h
  split at h
  · obtain ⟨v, rfl, rx⟩ := rvs1 r
    cases rx
    exact ⟨_, rfl, h.1, po _ S H _ h.2 .refl rs (.str _)⟩
  · exact h.elim
def fInt : NOp := fun ws S K => match ws with
  | [.int i] => K (.int i) S
  | [.bl k] => K (.int (if k then 1 else 0)) S
  | _ => False
theorem o_int {c : Cst} : OpN c (fun xs H Q => (∃ i, xs = [V.int i] ∧ Q (.int i) H) ∨ ∃ k, xs = [V.bl k] ∧ Q (.int (if k then 1 else 0)) H) fInt := fun ws vs H S Kk Q rs r h po => by
  unfold fInt at h
  split at h
  · obtain ⟨v, rfl, rx⟩ := rvs1 r
    cases rx
    exact .inl ⟨_, rfl, po _ S H _ h .refl rs (.int _)⟩
  · obtain ⟨v, rfl, rx⟩ := rvs1 r
    cases rx
    exact .inr ⟨_, rfl, po _ S H _ h .refl rs (.int _)⟩
  · exact h.elim

/-! ### repr of lists and tuples -/
mutual
theorem Den.noDict {S : Sto} : ∀ {w : W} {d : PyData}, Den S w d → d.hasDict = false
  | _, _, .non => rfl
  | _, _, .bl _ => rfl
  | _, _, .int _ => rfl
  | _, _, .str _ => rfl
  | _, _, .tup h => by simp only [PyData.hasDict]; exact Dens.noDict h
  | _, _, .lst h => by simp only [PyData.hasDict]; exact Dens.noDict h
  | _, _, .cel _ h => by simp only [PyData.hasDict]; exact Dens.noDict h
theorem Dens.noDict {S : Sto} : ∀ {w : List W} {d : List PyData}, Dens S w d → PyData.hasDictAll d = false
  | _, _, .nil => rfl
  | _, _, .cons h t => by simp only [PyData.hasDictAll]; rw [Den.noDict h, Dens.noDict t]; rfl
end
def isRefW : W → Bool
  | .tp _ _ => true
  | .lst _ => true
  | .ref _ => true
  | _ => false
/-- repr(x) -/
@[irreducible] def fRepr : NOp := fun ws S K => match ws with
  | [x] => isRefW x = true ∧ ∃ d, Den S x d ∧ d.showable = true ∧ d.depth ≤ 60 ∧ d.shown.length ≤ sizeLine ∧ K (.str d.shown) S
  | _ => False
def rReprW (K : PySem.W.Frag) : List V → Hp → VK → Prop := fun vs H Q => ∃ a d, vs = [.ref a] ∧ L2.Dp K H (.ref a) d ∧ d.hasDict = false ∧ d.showable = true ∧ d.depth ≤ 60 ∧ d.shown.length ≤ sizeLine ∧ Q (.str d.shown) H
theorem r_repr {X : Cx} (hg : X.A.guards = some []) (hu : X.A.units + 64 < cLine) : CallR X (.builtin "repr") (rReprW X.K) := by
  intro pins s σ H xs us Q I r h
  obtain ⟨a, d, rfl, hd, h1, h2, h3, h4, q⟩ := h
  obtain ⟨u, rfl, ru⟩ := vals1 r
  obtain ⟨as, rd⟩ := L2.Dp.reads I d _ u hd ru
  cases ru
  refine repr_of_reads' rd h2 (fun z => by rw [h1] at z; cases z) hg (by omega) (fun _ _ z => z) (fun h' t tk k => ?_) h4
  exact ⟨.str d.shown, H, I.kept (t' := tk) k, ⟨_, rfl⟩, q⟩
theorem o_repr {c : Cst} : OpN c (rReprW c.K) fRepr := fun ws vs H S Kk Q rs r h po => by
  unfold fRepr at h
  split at h
  · obtain ⟨v, rfl, rx⟩ := rvs1 r
    obtain ⟨f, d, hd, h2, h3, h4, k⟩ := h
    have q := hd.dp rs rx
    have fin := po _ S H _ k .refl rs (.str _)
    cases rx with
    | @lst ws a vs hq rr => exact ⟨a, d, rfl, q, hd.noDict, h2, h3, h4, fin⟩
    | @tp k ws a vs hq rr => exact ⟨a, d, rfl, q, hd.noDict, h2, h3, h4, fin⟩
    | ref a => exact ⟨a, d, rfl, q, hd.noDict, h2, h3, h4, fin⟩
    | _ => simp [isRefW] at f
  · exact h.elim
/-- nothing at all: an operation that no rule serves -/
def fNo : NOp := fun _ _ _ => False

/-! ### calls of methods -/
abbrev MOp := W → List W → Sto → WK → Prop
/-- the method of a sort of objects -/
structure Mth (T : String) (name : Str) (id : String) : Prop where
  pa : PlainAttrs T
  sl : Slot T name id
  ty : typeOf (.builtin id) = pure (.type "method_descriptor")
/-- the value is of that sort, a tuple too -/
def tyVN (K : PySem.W.Frag) (T : String) (x : V) (H : Hp) : Prop := tyV K T x H ∨ (T = "tuple" ∧ ∃ a xs, x = .ref a ∧ TqN K H a xs) ∨ (T = "dict" ∧ ∃ a, x = .ref a ∧ IsD H a)
theorem tyVN_is {X : Cx} {pins : List (Addr × Obj)} {σ : L2.St} {H : Hp} {s : Shared} {T : String} {x : V} {v : Value} (I : Inv X pins σ H s) (r : RelV x v) (ty : tyVN X.K T x H) :
    s.TypeIs v T ∧ ∀ a, v = .ref a → ∃ ob, s.heap.get? a = some ob ∧ ob.dict = none := by
  rcases ty with ty | ⟨rfl, a, xs, rfl, h⟩ | ⟨rfl, a, rfl, h⟩
  · exact tyV_is I r ty
  · cases r
    obtain ⟨h1, h2⟩ := TqN.is I h
    exact ⟨h1, fun b e => by cases e; exact h2⟩
  · cases r
    obtain ⟨h1, h2, _⟩ := isD_at I h
    exact ⟨h1, h2⟩
/-- one of several sorts: what is asked of the receiver, the arguments -/
structure Alt where
  T : String
  id : String
  r : V → List V → Hp → VK → Prop
/-- the receiver x in H is served by an alternative of which its method does what is told -/
def tMU (K : PySem.W.Frag) (as : List Alt) (to : TE) (t : TA) : TE := fun σ H Q => to σ H fun x H1 => ∃ a ∈ as, tyVN K a.T x H1 ∧ t σ H1 fun xs H2 => a.r x xs H2 Q
theorem pe_mU {X : Cx} {as : List Alt} {o e : Expr} {es : List Expr} {name : Str} {apos cpos : Pos} {to : TE} {t : TA} (hm : ∀ a ∈ as, Mth a.T name a.id ∧ MtR X a.id a.r) (ho : PE X o to) (ha : PA X (e :: es) t)
    (hb : attributeBase o name X.env (eval o X.env) = eval o X.env)
    (hf : ((backTo cpos (starEach (e :: es) X.env)).all (fun x => !x.1) && (backToKw cpos (keywordEach [] X.env)).all (fun x => x.1.isSome) && decide ((e :: es).length + ([] : List Keyword).length + (if ([] : List Keyword).isEmpty then 0 else 1) < 30)) = true)
    (hl : (apos.endLine == cpos.line) = true) (hs : starEach (e :: es) X.env = (false, eval e X.env) :: starEach es X.env) (hp : (backTo cpos (starEach es X.env)).any (·.1) = false) :
    PE X (.Call (.Attribute o name apos) (e :: es) [] cpos) (tMU X.K as to t) := by
  constructor
  intro pins s σ H Q I h
  refine wpAny_Call_method_late hb hf hl rfl (thn (ho.run pins s σ H _ I h) fun v s1 z => ?_)
  obtain ⟨x, H1, I1, r1, a, ham, ty, q1⟩ := z
  obtain ⟨m, mr⟩ := hm a ham
  obtain ⟨g1, g2⟩ := tyVN_is I1 r1 ty
  refine ⟨a.T, a.id, m.pa, m.sl, m.ty, g1, g2, ?_⟩
  have z := ha.run cpos pins s1 σ H1 _ I1 q1
  rw [hs] at z ⊢
  refine Calls.callWith_builtin ?_ (Calls.evalArgs_plain (thn z fun us s2 ⟨vs, H2, I2, r2, q2⟩ => mr pins s2 σ H2 x vs v us Q I2 r1 r2 q2))
  show (false || (backTo cpos (starEach es X.env)).any (·.1)) = false
  rw [hp]; rfl
theorem pe_mU0 {X : Cx} {as : List Alt} {o : Expr} {name : Str} {apos cpos : Pos} {to : TE} (hm : ∀ a ∈ as, Mth a.T name a.id ∧ MtR X a.id a.r) (ho : PE X o to)
    (hb : attributeBase o name X.env (eval o X.env) = eval o X.env) (hl : (apos.endLine == cpos.line) = true) :
    PE X (.Call (.Attribute o name apos) [] [] cpos) (tMU X.K as to tNil) := by
  constructor
  intro pins s σ H Q I h
  refine wpAny_Call_method0_late hb hl (thn (ho.run pins s σ H _ I h) fun v s1 z => ?_)
  obtain ⟨x, H1, I1, r1, a, ham, ty, q1⟩ := z
  obtain ⟨m, mr⟩ := hm a ham
  obtain ⟨g1, g2⟩ := tyVN_is I1 r1 ty
  exact ⟨a.T, a.id, m.pa, m.sl, m.ty, g1, g2, Calls.callWith_builtin rfl (PySem.evalArgs_none (mr pins s1 σ H1 x [] v [] Q I1 r1 .nil q1))⟩
/-- an alternative by plain values: whom it serves, what it does -/
structure AltW where
  T : String
  f : MOp
/-- the receiver is of that sort -/
def ofT (T : String) (x : W) (S : Sto) : Prop := match x with
  | .str _ => T = "str"
  | .tp false _ => T = "tuple"
  | .lst _ => T = "list"
  | .dct _ _ => T = "dict"
  | .dit _ _ => T = "dict"
  | .ref a => (T = "list" ∧ ∃ xs, S a = some (.lst xs)) ∨ (T = "dict" ∧ ((∃ kvs, S a = some (.dic kvs)) ∨ ∃ kvs, S a = some (.dit kvs)))
  | _ => False
theorem ofT_tyV {c : Cst} {H : Hp} {S : Sto} {T : String} {x : W} {v : V} (rs : RS c.K H S) (r : RV c.K H x v) (h : ofT T x S) : tyVN c.K T v H := by
  cases r with
  | str z => exact .inl h
  | @tp k _ _ _ hq _ => cases k with
    | true => exact h.elim
    | false => exact .inr (.inl ⟨h, _, _, rfl, hq⟩)
  | lst q _ => exact .inl (.inl ⟨h, _, .inl (.inr q)⟩)
  | dct q _ _ => exact .inr (.inr ⟨h, _, rfl, .inl ⟨_, .inr q⟩⟩)
  | dit q _ _ => exact .inr (.inr ⟨h, _, rfl, .inr ⟨_, .inr q⟩⟩)
  | ref a =>
    rcases h with ⟨e, xs, l⟩ | ⟨e, ⟨kvs, l⟩ | ⟨kvs, l⟩⟩
    · obtain ⟨vs, q, _⟩ := rs.lst l
      exact .inl (.inl ⟨e, vs, .of q⟩)
    · obtain ⟨vs, q, _⟩ := rs.dic l
      exact .inr (.inr ⟨e, _, rfl, .inl ⟨vs, .inl q⟩⟩)
    · obtain ⟨vs, q, _⟩ := rs.dit l
      exact .inr (.inr ⟨e, _, rfl, .inr ⟨vs, .inl q⟩⟩)
  | _ => exact h.elim
/-- o.m(..): the receiver's sort picks -/
def mMth (as : List AltW) (o : WE) (b : WEs) : WE := fun ρ S Kk Ek => o ρ S (fun x S1 => ∃ a ∈ as, ofT a.T x S1 ∧ b ρ S1 (fun ws S2 => a.f x ws S2 Kk) Ek) Ek
def OpM (c : Cst) (a : AltW) (b : Alt) : Prop := a.T = b.T ∧ ∀ (x : W) (ws : List W) (u : V) (vs : List V) (H : Hp) (S : Sto) (Kk : WK) (Q : VK), RS c.K H S → RV c.K H x u → RVs c.K H ws vs → a.f x ws S Kk →
  (∀ w S' H' z, Kk w S' → Ext H S H' S' → RS c.K H' S' → RV c.K H' w z → Q z H') → b.r u vs H Q
theorem s_mth {X : Cx} {c : Cst} {Wx : WX} {as : List AltW} {bs : List Alt} {o : WE} {b : WEs} (hK : c.K = X.K) (ho : ∀ a ∈ as, ∃ d ∈ bs, OpM c a d) : ∀ σ H Q, tE c Wx (mMth as o b) σ H Q → tMU X.K bs (tE c Wx o) (tA c Wx b) σ H Q := fun σ H Q q => by
  obtain ⟨ρ, S, Kk, Ek, re, rs, hm, po, px⟩ := q
  refine ⟨ρ, S, _, Ek, re, rs, hm, fun x S1 H1 u k1 e1 rs1 rx => ?_, px⟩
  obtain ⟨a, ha, ty, k1⟩ := k1
  obtain ⟨d, hd, eT, op⟩ := ho a ha
  refine ⟨d, hd, by rw [← eT, ← hK]; exact ofT_tyV rs1 rx ty, ρ, S1, _, Ek, re.tst (e1.tst rs), rs1, k1, fun ws S2 H2 vs k2 e2 rs2 r2 => ?_, px.on e1⟩
  exact op x ws u vs H2 S2 Kk Q rs2 (rx.tst (e2.tst rs1)) r2 k2 fun w S' H' z k e3 => po w S' H' z k ((e1.trans e2).trans e3)
theorem s_mth0 {X : Cx} {c : Cst} {Wx : WX} {as : List AltW} {bs : List Alt} {o : WE} (hK : c.K = X.K) (ho : ∀ a ∈ as, ∃ d ∈ bs, OpM c a d) : ∀ σ H Q, tE c Wx (mMth as o mNil) σ H Q → tMU X.K bs (tE c Wx o) tNil σ H Q := fun σ H Q q => by
  obtain ⟨ρ, S, Kk, Ek, re, rs, hm, po, px⟩ := q
  refine ⟨ρ, S, _, Ek, re, rs, hm, fun x S1 H1 u k1 e1 rs1 rx => ?_, px⟩
  obtain ⟨a, ha, ty, k1⟩ := k1
  obtain ⟨d, hd, eT, op⟩ := ho a ha
  refine ⟨d, hd, by rw [← eT, ← hK]; exact ofT_tyV rs1 rx ty, ?_⟩
  exact op x [] u [] H1 S1 Kk Q rs1 rx .nil k1 fun w S' H' z k e3 => po w S' H' z k (e1.trans e3)

/-! the methods of lists and dicts -/
def fAppend : MOp := fun x ws S K => match x, ws with
  | .ref a, [y] => ∃ xs, S a = some (.lst xs) ∧ xs.length < sizeLine ∧ K .non (S.put a (.lst (xs ++ [y])))
  | _, _ => False
def fExtend : MOp := fun x ws S K => match x, ws with
  | .ref a, [y] => ∃ xs, S a = some (.lst xs) ∧ rdK S y fun ys => xs.length + ys.length ≤ sizeLine ∧ K .non (S.put a (.lst (xs ++ ys)))
  | _, _ => False
def fPopL : MOp := fun x ws S K => match x, ws with
  | .ref a, [] => ∃ xs y, S a = some (.lst xs) ∧ xs[xs.length - 1]? = some y ∧ K y (S.put a (.lst xs.dropLast))
  | .ref a, [.int i] => ∃ xs k y, S a = some (.lst xs) ∧ i.natAbs < 2 ^ 62 ∧ ixN xs.length i = some k ∧ xs[k]? = some y ∧ K y (S.put a (.lst (xs.eraseIdx k)))
  | _, _ => False
def fInsert : MOp := fun x ws S K => match x, ws with
  | .ref a, [.int i, y] => ∃ xs, S a = some (.lst xs) ∧ xs.length < sizeLine ∧ 0 ≤ i ∧ i < 2 ^ 63 ∧ K .non (S.put a (.lst (xs.take i.toNat ++ [y] ++ xs.drop i.toNat)))
  | _, _ => False
def fReverse : MOp := fun x ws S K => match x, ws with
  | .ref a, [] => ∃ xs, S a = some (.lst xs) ∧ K .non (S.put a (.lst xs.reverse))
  | _, _ => False
theorem mo_append {c : Cst} : OpM c ⟨"list", fAppend⟩ ⟨"list", "list.append", rAppend⟩ := ⟨rfl, fun x ws u vs H S Kk Q rs rx r h po => by
  simp only [fAppend] at h
  split at h
  · cases rx
    obtain ⟨v, rfl, ry⟩ := rvs1 r
    obtain ⟨xs, l, hz, k⟩ := h
    obtain ⟨us, hq, rr⟩ := rs.lst l
    exact ⟨_, us, v, rfl, rfl, hq, by rw [← rr.length]; exact hz, po _ _ _ _ k (.put l) (rs.put l (.lst (rr.append (.cons ry .nil)))) .non⟩
  · exact h.elim⟩
theorem mo_extend {c : Cst} : OpM c ⟨"list", fExtend⟩ ⟨"list", "list.extend", rExtendL⟩ := ⟨rfl, fun x ws u vs H S Kk Q rs rx r h po => by
  simp only [fExtend] at h
  split at h
  · cases rx
    obtain ⟨v, rfl, ry⟩ := rvs1 r
    obtain ⟨xs, l, h⟩ := h
    obtain ⟨ys, l2, hz, k⟩ := rdK_of h
    obtain ⟨us, hq, rr⟩ := rs.lst l
    obtain ⟨b, us2, rfl, hq2, rr2⟩ := rs.rd ry l2
    exact ⟨_, _, us, us2, rfl, rfl, hq, hq2, by rw [← rr.length, ← rr2.length]; exact hz, po _ _ _ _ k (.put l) (rs.put l (.lst (rr.append rr2))) .non⟩
  · exact h.elim⟩
theorem rvs_dropLast {K : PySem.W.Frag} {H : Hp} {ws : List W} {vs : List V} (r : RVs K H ws vs) : RVs K H ws.dropLast vs.dropLast := by
  rw [List.dropLast_eq_take, List.dropLast_eq_take, ← r.length]
  exact r.take _
def rPopL : V → List V → Hp → VK → Prop := fun x vs H Q => rPop x vs H Q ∨ rPopAt x vs H Q
theorem mo_pop {c : Cst} : OpM c ⟨"list", fPopL⟩ ⟨"list", "list.pop", rPopL⟩ := ⟨rfl, fun x ws u vs H S Kk Q rs rx r h po => by
  simp only [fPopL] at h
  split at h
  · cases rx
    cases r
    obtain ⟨xs, y, l, hy, k⟩ := h
    obtain ⟨us, hq, rr⟩ := rs.lst l
    obtain ⟨v, e, rv⟩ := rr.get' hy
    exact .inl ⟨_, us, v, rfl, rfl, hq, by rw [← rr.length]; exact e, po _ _ _ _ k (.put l) (rs.put l (.lst (rvs_dropLast rr))) (rv.tst (tst_upd_own rs l))⟩
  · cases rx
    obtain ⟨v, rfl, ry⟩ := rvs1 r
    cases ry
    obtain ⟨xs, j, y, l, hb, hj, hy, k⟩ := h
    obtain ⟨us, hq, rr⟩ := rs.lst l
    obtain ⟨v, e, rv⟩ := rr.get' hy
    have hj' := hj
    rw [rr.length] at hj'
    obtain ⟨h1, h2, h3, h4⟩ := ixN_seq hj'
    exact .inr ⟨_, us, _, j, v, rfl, rfl, hq, by omega, by omega, h1, e, po _ _ _ _ k (.put l) (rs.put l (.lst (rr.eraseIdx _))) (rv.tst (tst_upd_own rs l))⟩
  · exact h.elim⟩
theorem mo_insert {c : Cst} : OpM c ⟨"list", fInsert⟩ ⟨"list", "list.insert", fun x vs H Q => ∃ (l : Addr) (xs : List V) (i : Int) (y : V), x = .ref l ∧ vs = [.int i, y] ∧ H l = some (.lst xs) ∧ xs.length < sizeLine ∧ 0 ≤ i ∧ i < 2 ^ 63 ∧ Q .non (upd H l (.lst (xs.take i.toNat ++ [y] ++ xs.drop i.toNat)))⟩ := ⟨rfl, fun x ws u vs H S Kk Q rs rx r h po => by
  simp only [fInsert] at h
  split at h
  · cases rx
    obtain ⟨v, z, rfl, ry, rz⟩ := rvs2 r
    cases ry
    obtain ⟨xs, l, hz, h0, h1, k⟩ := h
    obtain ⟨us, hq, rr⟩ := rs.lst l
    exact ⟨_, us, _, z, rfl, rfl, hq, by rw [← rr.length]; exact hz, h0, h1, po _ _ _ _ k (.put l) (rs.put l (.lst (((rr.take _).append (.cons rz .nil)).append (rr.drop _)))) .non⟩
  · exact h.elim⟩
theorem mo_reverse {c : Cst} : OpM c ⟨"list", fReverse⟩ ⟨"list", "list.reverse", rReverse⟩ := ⟨rfl, fun x ws u vs H S Kk Q rs rx r h po => by
  simp only [fReverse] at h
  split at h
  · cases rx
    cases r
    obtain ⟨xs, l, k⟩ := h
    obtain ⟨us, hq, rr⟩ := rs.lst l
    exact ⟨_, us, rfl, rfl, hq, po _ _ _ _ k (.put l) (rs.put l (.lst rr.rev)) .non⟩
  · exact h.elim⟩
theorem mt_popU {X : Cx} : MtR X "list.pop" rPopL := MtR.or mt_pop mt_popAt
theorem ml_append : Mth "list" "append" "list.append" := ⟨PySem.F.plainAttrs_list, PySem.F.slot_list_append, PySem.F.type_list_append⟩
theorem ml_extend : Mth "list" "extend" "list.extend" := ⟨PySem.F.plainAttrs_list, PySem.F.slot_list_extend, PySem.F.type_list_extend⟩
theorem ml_pop : Mth "list" "pop" "list.pop" := ⟨PySem.F.plainAttrs_list, PySem.F.slot_list_pop, PySem.F.type_list_pop⟩
theorem ml_insert : Mth "list" "insert" "list.insert" := ⟨PySem.F.plainAttrs_list, PySem.F.slot_list_insert, PySem.F.type_list_insert⟩
theorem ml_reverse : Mth "list" "reverse" "list.reverse" := ⟨PySem.F.plainAttrs_list, PySem.F.slot_list_reverse, PySem.F.type_list_reverse⟩
end Dp
namespace Dp
open PySem PySem.Spec L2
open PyProof.Rows hiding St

/-! ### targets -/
inductive Tg where
  | nm (i : Nat)
  | tp (is : List Nat)
  | tk (i : Nat) (is : List Nat)
abbrev WG := W → Ro → (Ro → Prop) → Prop
def rsets : Ro → List Nat → List W → Ro
  | ρ, i :: is, w :: ws => rsets (rset ρ i (some w)) is ws
  | ρ, _, _ => ρ
def wgOf : Tg → WG
  | .nm i => fun x ρ R => R (rset ρ i (some x))
  | .tp is => fun x ρ R => match x with
    | .tp _ ws => ws.length = is.length ∧ R (rsets ρ is ws)
    | .lst ws => ws.length = is.length ∧ R (rsets ρ is ws)
    | _ => False
  | .tk i is => fun x ρ R => match x with
    | .tp _ [a, .tp _ ws] => ws.length = is.length ∧ R (rsets (rset ρ i (some a)) is ws)
    | _ => False
def gNames : List Nat → TGs
  | [] => gNil
  | i :: r => gCons (gName i) (gNames r)
/-- from a tuple or a list -/
def gTL (K : PySem.W.Frag) (n : Nat) (t : TGs) : TG := fun v σ H Q => gTup K n t v σ H Q ∨ gLst K n t v σ H Q
theorem pg_tl {X : Cx} {pos : Pos} {es : List Expr} {k : Nat} {t : TGs} {n : Nat} (hc : X.calm = true) (h : PGs X es t)
    (hn : (assignEach es X.env).length = n) (hst : (assignEach es X.env).findIdx? (·.1) = none) : PG X (.Tuple es k pos) (gTL X.K n t) :=
  ⟨fun pins s σ H v u Q I r hw => hw.elim (fun q => (pg_tup hc h hn hst).run pins s σ H v u Q I r q) fun q => (pg_lst hc h hn hst).run pins s σ H v u Q I r q⟩
def gOf (K : PySem.W.Frag) : Tg → TG
  | .nm i => gName i
  | .tp is => gTL K is.length (gNames is)
  | .tk i is => gTup K 2 (gCons (gName i) (gCons (gTup K is.length (gNames is)) gNil))
def Tg.own : Tg → List Nat
  | .nm i => [i]
  | .tp is => is
  | .tk i is => i :: is
def sets : L2.St → List Nat → List V → L2.St
  | σ, i :: is, w :: ws => sets (σ.set i (some w)) is ws
  | σ, _, _ => σ
theorem RE.sets {K : PySem.W.Frag} {H : Hp} : ∀ {is : List Nat} {ws : List W} {vs : List V} {ρ : Ro} {σ : L2.St}, RE K H ρ σ → RVs K H ws vs → RE K H (rsets ρ is ws) (sets σ is vs)
  | [], _, _, _, _, r, q => by cases q <;> exact r
  | i :: is, _, _, _, _, r, .nil => r
  | i :: is, _, _, _, _, r, .cons h t => RE.sets (is := is) (r.set h) t
theorem names_of {σ : L2.St} {H : Hp} {Q : L2.St → Hp → Prop} : ∀ {is : List Nat} {vs : List V} {σ : L2.St}, vs.length = is.length → Q (sets σ is vs) H → gNames is vs σ H Q
  | [], [], σ, _, q => ⟨rfl, q⟩
  | [], _ :: _, _, h, _ => by simp at h
  | _ :: _, [], _, h, _ => by simp at h
  | i :: is, v :: vs, σ, h, q => ⟨v, vs, rfl, names_of (σ := σ) (is := is) (by simpa using h) q⟩
theorem wipe_sets {own : List Nat} : ∀ {is : List Nat} {vs : List V} {σ : L2.St}, (∀ i ∈ is, i ∈ own) → L2.wipe (sets σ is vs) own = L2.wipe σ own
  | [], _, _, _ => by unfold sets; rfl
  | i :: is, [], _, _ => by unfold sets; rfl
  | i :: is, v :: vs, σ, h => by
    show L2.wipe (sets (σ.set i (some v)) is vs) own = _
    rw [wipe_sets (fun j hj => h j (List.mem_cons_of_mem _ hj)), wipe_in (h i (List.mem_cons_self ..))]
theorem tk_form {x : W} {ρ : Ro} {R : Ro → Prop} {i : Nat} {is : List Nat} (h : wgOf (.tk i is) x ρ R) : ∃ a us k k', x = .tp k [a, .tp k' us] ∧ us.length = is.length ∧ R (rsets (rset ρ i (some a)) is us) := by
  cases x with
  | tp k ws =>
    cases ws with
    | nil => exact (show False from h).elim
    | cons a r =>
      cases r with
      | nil => exact (show False from h).elim
      | cons b r =>
        cases r with
        | nil =>
          cases b with
          | tp k' us => exact ⟨a, us, k, k', rfl, h⟩
          | _ => exact (show False from h).elim
        | cons _ _ => cases b <;> exact (show False from h).elim
  | _ => exact (show False from h).elim
theorem rv_tk {K : PySem.W.Frag} {H : Hp} {x : W} {us : List W} {v : V} {k k' : Bool} (r : RV K H (.tp k [x, .tp k' us]) v) : ∃ a vx b ys, v = .ref a ∧ SqT K H a [vx, .ref b] ∧ RV K H x vx ∧ SqT K H b ys ∧ RVs K H us ys := by
  cases r with
  | tp hq r =>
    cases r with
    | cons rx r =>
      cases r with
      | cons ry r =>
        cases r
        cases ry with
        | tp hq2 r2 => exact ⟨_, _, _, _, rfl, hq.sq, rx, hq2.sq, r2⟩
theorem tk_g {K : PySem.W.Frag} {H : Hp} {i : Nat} {is : List Nat} {a b : Addr} {vx : V} {ys : List V} {σ : L2.St} {Q : L2.St → Hp → Prop} (hq : SqT K H a [vx, .ref b]) (hq2 : SqT K H b ys) (hv : ys.length = is.length) (h : gNames is ys (σ.set i (some vx)) H fun σ2 H2 => ([] : List V) = [] ∧ Q σ2 H2) :
    gOf K (.tk i is) (.ref a) σ H Q := ⟨a, [vx, .ref b], rfl, hq, rfl, vx, [.ref b], rfl, .ref b, [], rfl, b, ys, rfl, hq2, hv, h⟩
/-- what a target does by plain values is what it does by the heap's -/
theorem tg_of {K : PySem.W.Frag} {tg : Tg} {w : W} {v : V} {ρ : Ro} {σ : L2.St} {H : Hp} {R : Ro → Prop} {own : List Nat} (h : wgOf tg w ρ R) (rv : RV K H w v) (re : RE K H ρ σ) {Q : L2.St → Hp → Prop}
    (k : ∀ ρ2 σ2, R ρ2 → RE K H ρ2 σ2 → ((∀ i ∈ tg.own, i ∈ own) → L2.wipe σ2 own = L2.wipe σ own) → Q σ2 H) : gOf K tg v σ H Q := by
  cases tg with
  | nm i => exact k _ _ h (re.set rv) fun z => wipe_in (z i (List.mem_singleton.mpr rfl))
  | tp is =>
    cases rv with
    | @tp _ ws a vs hq r =>
      have hl : ws.length = is.length ∧ R (rsets ρ is ws) := h
      have hv : vs.length = is.length := by rw [← r.length]; exact hl.1
      exact .inl ⟨a, vs, rfl, hq.sq, hv, names_of (σ := σ) hv (k _ _ hl.2 (re.sets r) fun z => wipe_sets z)⟩
    | @lst ws a vs hq r =>
      have hl : ws.length = is.length ∧ R (rsets ρ is ws) := h
      have hv : vs.length = is.length := by rw [← r.length]; exact hl.1
      exact .inr ⟨a, vs, rfl, .inl (.inr hq), hv, names_of (σ := σ) hv (k _ _ hl.2 (re.sets r) fun z => wipe_sets z)⟩
    | _ => exact (show False from h).elim
  | tk i is =>
    obtain ⟨x, us, k0, k1, rfl, hl, hR⟩ := tk_form h
    obtain ⟨a, vx, b, ys, rfl, hq, rx, hq2, r2⟩ := rv_tk rv
    have hv : ys.length = is.length := by rw [← r2.length]; exact hl
    have hQ : Q (sets (σ.set i (some vx)) is ys) H := k _ _ hR ((re.set rx).sets r2) fun z => by
      rw [wipe_sets (fun j hj => z j (List.mem_cons_of_mem _ hj)), wipe_in (z i (List.mem_cons_self ..))]
    exact tk_g hq hq2 hv (names_of (σ := σ) hv ⟨rfl, hQ⟩)

/-! ### what is walked -/
structure Wlk where
  g : Sto → Prop
  items : List W
/-- a walk of the heap that gives these items while the store says so -/
structure WalkW (K : PySem.W.Frag) (wk : Wlk) (H : Hp) (S : Sto) (J : It) (G : Hp → Prop) (Y : Nat → Hp → V → Hp → Prop) : Prop where
  walk : Walk J wk.items.length G Y
  stand : ∀ H1 S1, Ext H S H1 S1 → RS K H1 S1 → wk.g S1 → G H1
  gives : ∀ i H1 S1 x H2, i < wk.items.length → Ext H S H1 S1 → RS K H1 S1 → wk.g S1 → Y i H1 x H2 → ∃ w, wk.items[i]? = some w ∧ RV K H2 w x ∧ Ext H1 S1 H2 S1 ∧ RS K H2 S1
abbrev WI := Ro → Sto → (Wlk → Sto → Prop) → EK → Prop
def tI (c : Cst) (Wx : WX) (m : WI) : TI := fun σ H R => ∃ ρ S Kk Ek, RE c.K H ρ σ ∧ RS c.K H S ∧ m ρ S Kk Ek ∧
  (∀ wk S' H' J G Y, Kk wk S' → Ext H S H' S' → RS c.K H' S' → WalkW c.K wk H' S' J G Y → R J H') ∧ PoX c Wx σ H S Ek
theorem PI.imp {X : Cx} {tg e : Expr} {t t' : TI} (h : PI X tg e t) (k : ∀ σ H Q, t' σ H Q → t σ H Q) : PI X tg e t' := ⟨fun pins s σ H Q I q => h.run pins s σ H Q I (k σ H Q q)⟩
section
variable {K : PySem.W.Frag} {H : Hp} {S : Sto}
def wkList (a : Addr) (xs : List W) : Wlk := ⟨fun S => S a = some (.lst xs), xs⟩
def wkFix (xs : List W) : Wlk := ⟨fun _ => True, xs⟩
theorem walkw_list {a : Addr} {xs : List W} : WalkW K (wkList a xs) H S (Itl K a) (fun H => ∃ vs, SqL K H a vs ∧ RVs K H xs vs) (fun i H x H' => H' = H ∧ ∃ vs, SqL K H a vs ∧ RVs K H xs vs ∧ vs[i]? = some x) where
  walk := ⟨fun i H hi ⟨vs, q, r⟩ => ⟨vs, vs[i]'(by rw [← r.length]; exact hi), q, by simp⟩, fun H ⟨vs, q, r⟩ => ⟨vs, q, by rw [← r.length]; exact Nat.le_refl _⟩, fun i H x H' hi ⟨vs, q, r⟩ y => ⟨y.1, vs, q, r, y.2 vs q⟩⟩
  stand := fun H1 S1 _ rs g => let ⟨vs, q, r⟩ := rs.lst g; ⟨vs, .of q, r⟩
  gives := fun i H1 S1 x H2 hi e rs g y => by
    obtain ⟨rfl, vs, q, r, h⟩ := y
    obtain ⟨w, h1, h2⟩ := r.get h
    exact ⟨w, h1, h2, .refl, rs⟩
theorem walkw_tup {k : Bool} {a : Addr} {xs : List W} {vs : List V} (rs : RS K H S) (hq : TqF k K H a vs) (r : RVs K H xs vs) : WalkW K (wkFix xs) H S (Itt K a) (fun H => SqT K H a vs) (YAt vs) where
  walk := by
    have := walk_tup (K := K) (a := a) (xs := vs)
    rw [← r.length] at this
    exact this
  stand := fun H1 S1 e rs1 _ => ((e.tst rs).tq hq).sq
  gives := fun i H1 S1 x H2 hi e rs1 g y => by
    obtain ⟨rfl, h⟩ := y
    obtain ⟨w, h1, h2⟩ := (r.tst (e.tst rs)).get h
    exact ⟨w, h1, h2, .refl, rs1⟩
/-- a list that is held -/
theorem walkw_frz {a : Addr} {xs : List W} {vs : List V} (rs : RS K H S) (hq : ∃ o, H a = some (.frz o (.lst vs))) (r : RVs K H xs vs) : WalkW K (wkFix xs) H S (Itl K a) (fun H => SqL K H a vs) (fun i H x H' => H' = H ∧ vs[i]? = some x) where
  walk := ⟨fun i H hi q => ⟨vs, vs[i]'(by have := r.length; have hi : i < xs.length := hi; omega), q, by simp⟩, fun H q => ⟨vs, q, by rw [← r.length]; exact Nat.le_refl _⟩, fun i H x H' hi q y => ⟨y.1, y.2 vs q⟩⟩
  stand := fun H1 S1 e rs1 _ => let ⟨o, h⟩ := hq; .inl (.inr ⟨o, (e.tst rs).1 _ _ _ h⟩)
  gives := fun i H1 S1 x H2 hi e rs1 g y => by
    obtain ⟨rfl, h⟩ := y
    obtain ⟨w, h1, h2⟩ := (r.tst (e.tst rs)).get h
    exact ⟨w, h1, h2, .refl, rs1⟩
def signs (z : Str) : List W := z.cps.toList.map fun ch => .str ⟨#[ch]⟩
theorem signs_len (z : Str) : (signs z).length = z.cps.size := by unfold signs; simp
theorem walkw_str {z : Str} : WalkW K (wkFix (signs z)) H S (Its z) (fun _ => True) (fun i H v H' => H' = H ∧ ∃ c, z.cps[i]? = some c ∧ v = .str ⟨#[c]⟩) where
  walk := by
    have := walk_str (z := z)
    rw [← signs_len] at this
    exact this
  stand := fun _ _ _ _ _ => True.intro
  gives := fun i H1 S1 x H2 hi e rs1 g y => by
    obtain ⟨rfl, ch, h, rfl⟩ := y
    refine ⟨.str ⟨#[ch]⟩, ?_, .str _, .refl, rs1⟩
    show (signs z)[i]? = _
    unfold signs
    rw [List.getElem?_map, Array.getElem?_toList, h]; rfl
/-- lo, lo + c, .. -/
def rgList (lo c : Int) (n : Nat) : List W := (List.range n).map fun i => .int (lo + (i : Nat) * c)
theorem rgList_len (lo c : Int) (n : Nat) : (rgList lo c n).length = n := by unfold rgList; simp
theorem rgList_at {lo c : Int} {n i : Nat} (h : i < n) : (rgList lo c n)[i]? = some (.int (lo + (i : Nat) * c)) := by
  unfold rgList
  rw [List.getElem?_map, List.getElem?_range h]; rfl
theorem walkw_rgC {lo c : Int} {n : Nat} : WalkW K (wkFix (rgList lo c n)) H S (Itc lo c n) (fun _ => True) (YFn fun i => .int (lo + (i : Nat) * c)) where
  walk := by
    have := walk_rangeC (lo := lo) (c := c) (n := n)
    show Walk _ (rgList lo c n).length _ _
    rw [rgList_len]
    exact this
  stand := fun _ _ _ _ _ => True.intro
  gives := fun i H1 S1 x H2 hi e rs1 g y => by
    obtain ⟨rfl, rfl⟩ := y
    exact ⟨_, rgList_at (by rw [← rgList_len lo c n]; exact hi), .int _, .refl, rs1⟩
theorem walkw_rg {lo : Int} {n : Nat} : WalkW K (wkFix (rgList lo 1 n)) H S (Itr lo n) (fun _ => True) (YFn fun i => .int (lo + i)) where
  walk := by
    have := walk_range (lo := lo) (n := n)
    show Walk _ (rgList lo 1 n).length _ _
    rw [rgList_len]
    exact this
  stand := fun _ _ _ _ _ => True.intro
  gives := fun i H1 S1 x H2 hi e rs1 g y => by
    obtain ⟨rfl, rfl⟩ := y
    refine ⟨_, rgList_at (by rw [← rgList_len lo 1 n]; exact hi), ?_, .refl, rs1⟩
    rw [Int.mul_one]
    exact .int _
end
/-- a list, a tuple, a text -/
def mSeq (a : WE) : WI := fun ρ S Kk Ek => a ρ S (fun x S1 => match x with
  | .tp _ ws => Kk (wkFix ws) S1
  | .lst ws => Kk (wkFix ws) S1
  | .str z => Kk (wkFix (signs z)) S1
  | .ref b => ∃ ws, S1 b = some (.lst ws) ∧ Kk (wkList b ws) S1
  | _ => False) Ek
def iSeq (K : PySem.W.Frag) (te : TE) : TI := fun σ H R => te σ H fun x H1 => (∃ a vs, x = .ref a ∧ SqL K H1 a vs ∧ R (Itl K a) H1) ∨ (∃ a vs, x = .ref a ∧ SqT K H1 a vs ∧ R (Itt K a) H1) ∨ ∃ z, x = .str z ∧ R (Its z) H1
section
variable {X : Cx} {c : Cst} {Wx : WX}
theorem pi_seq {tg e : Expr} {te : TE} (he : PE X e te) : PI X tg e (iSeq X.K te) := by
  constructor
  intro pins s σ H R I h
  refine thn (he.run pins s σ H _ I h) fun v s1 z => ?_
  obtain ⟨x, H1, I1, r1, q⟩ := z
  rcases q with ⟨a, vs, rfl, hq, q⟩ | ⟨a, vs, rfl, hq, q⟩ | ⟨z, rfl, q⟩
  · cases r1
    obtain ⟨its, rv, p, hz⟩ := I1.list hq
    exact wpAny_pyIter_list p.isList (pi_one (tk := s1.toks) I1 _ (turn_list a _) ⟨_, Heap.get?_push_size _ rfl, rfl, rfl⟩ q)
  · cases r1
    obtain ⟨its, rv, p, hz⟩ := I1.tuple hq
    exact wpAny_pyIter_tuple (show s1.heap.IsTuple a its.toArray from p) (pi_one (tk := s1.toks) I1 _ (turn_tuple a _) ⟨_, Heap.get?_push_size _ rfl, rfl, rfl⟩ q)
  · obtain ⟨t, rfl⟩ := r1
    cases ha : z.cps.all (· < 128)
    · exact wpAny_pyIter_wide ha (pi_one (tk := s1.toks) I1 _ (turn_str _ z t "str_iterator" (.inr rfl)) ⟨_, Heap.get?_push_size _ rfl, rfl, rfl⟩ q)
    · exact wpAny_pyIter_ascii ha (pi_one (tk := s1.toks) I1 _ (turn_str _ z t "str_ascii_iterator" (.inl rfl)) ⟨_, Heap.get?_push_size _ rfl, rfl, rfl⟩ q)
theorem s_seq {tg e : Expr} {a : WE} (hK : c.K = X.K) (ha : PE X e (tE c Wx a)) : PI X tg e (tI c Wx (mSeq a)) := PI.imp (pi_seq ha) fun σ H Q q => by
  obtain ⟨ρ, S, Kk, Ek, re, rs, hm, po, px⟩ := q
  refine ⟨ρ, S, _, Ek, re, rs, hm, fun x S1 H1 u k1 e1 rs1 rx => ?_, px⟩
  rw [← hK]
  cases rx with
  | @lst ws a vs hq r => exact .inl ⟨a, vs, rfl, .inl (.inr hq), po _ S1 H1 _ _ _ k1 e1 rs1 (walkw_frz rs1 hq r)⟩
  | @tp _ ws a vs hq r => exact .inr (.inl ⟨a, vs, rfl, hq.sq, po _ S1 H1 _ _ _ k1 e1 rs1 (walkw_tup rs1 hq r)⟩)
  | str z => exact .inr (.inr ⟨z, rfl, po _ S1 H1 _ _ _ k1 e1 rs1 walkw_str⟩)
  | ref a =>
    obtain ⟨ws, l, k⟩ := k1
    obtain ⟨vs, hq, _⟩ := rs1.lst l
    exact .inl ⟨a, vs, rfl, .of hq, po _ S1 H1 _ _ _ k e1 rs1 walkw_list⟩
  | _ => exact (show False from k1).elim
/-- range(..) -/
def mRg1 (a : WEs) : WI := fun ρ S Kk Ek => a ρ S (fun ws S1 => match ws with
  | [.int j] => (-(2 ^ 62) ≤ j ∧ j < 2 ^ 62) ∧ Kk (wkFix (rgList 0 1 j.toNat)) S1
  | _ => False) Ek
def mRg2 (a : WEs) : WI := fun ρ S Kk Ek => a ρ S (fun ws S1 => match ws with
  | [.int i, .int j] => (-(2 ^ 62) ≤ i ∧ i < 2 ^ 62 ∧ -(2 ^ 62) ≤ j ∧ j < 2 ^ 62) ∧ Kk (wkFix (rgList i 1 (j - i).toNat)) S1
  | _ => False) Ek
def mRg3 (a : WEs) : WI := fun ρ S Kk Ek => a ρ S (fun ws S1 => match ws with
  | [.int i, .int j, .int k] => ∃ n, RgC i j k n ∧ Kk (wkFix (rgList i k n)) S1
  | _ => False) Ek
theorem s_rg1 {tg e : Expr} {a : WEs} {p pos : Pos} (hg : Gl X "range") (hm : X.mg "range" = none) (ha : PA X [e] (tA c Wx a)) (hs : starEach [e] X.env = [(false, eval e X.env)]) : PI X tg (.Call (.Name "range" p) [e] [] pos) (tI c Wx (mRg1 a)) :=
  PI.imp (pi_range1 hg hm ha hs) fun σ H Q q => by
    obtain ⟨ρ, S, Kk, Ek, re, rs, hm, po, px⟩ := q
    refine ⟨ρ, S, _, Ek, re, rs, hm, fun ws S1 H1 vs k1 e1 rs1 rx => ?_, px⟩
    split at k1
    · obtain ⟨v, rfl, rj⟩ := rvs1 rx
      cases rj
      exact ⟨_, rfl, k1.1.1, k1.1.2, po _ S1 H1 _ _ _ k1.2 e1 rs1 walkw_rg⟩
    · exact k1.elim
theorem s_rg2 {tg e e2 : Expr} {a : WEs} {p pos : Pos} (hg : Gl X "range") (hm : X.mg "range" = none) (ha : PA X [e, e2] (tA c Wx a)) (hs : starEach [e, e2] X.env = [(false, eval e X.env), (false, eval e2 X.env)]) (hs2 : starEach [e2] X.env = [(false, eval e2 X.env)]) :
    PI X tg (.Call (.Name "range" p) [e, e2] [] pos) (tI c Wx (mRg2 a)) := PI.imp (pi_range2 hg hm ha hs hs2) fun σ H Q q => by
  obtain ⟨ρ, S, Kk, Ek, re, rs, hm, po, px⟩ := q
  refine ⟨ρ, S, _, Ek, re, rs, hm, fun ws S1 H1 vs k1 e1 rs1 rx => ?_, px⟩
  split at k1
  · obtain ⟨v, u, rfl, ri, rj⟩ := rvs2 rx
    cases ri; cases rj
    exact ⟨_, _, rfl, k1.1, po _ S1 H1 _ _ _ k1.2 e1 rs1 walkw_rg⟩
  · exact k1.elim
theorem rvs3 {K : PySem.W.Frag} {H : Hp} {x y z : W} {vs : List V} (r : RVs K H [x, y, z] vs) : ∃ v u t, vs = [v, u, t] ∧ RV K H x v ∧ RV K H y u ∧ RV K H z t := by
  cases r with | cons h t => cases t with | cons h' t => cases t with | cons h2 t => cases t; exact ⟨_, _, _, rfl, h, h', h2⟩
theorem s_rg3 {tg e e2 e3 : Expr} {a : WEs} {p pos : Pos} (hg : Gl X "range") (hm : X.mg "range" = none) (ha : PA X [e, e2, e3] (tA c Wx a)) (hs : starEach [e, e2, e3] X.env = (false, eval e X.env) :: starEach [e2, e3] X.env)
    (hp : (backTo pos (starEach [e2, e3] X.env)).any (·.1) = false) : PI X tg (.Call (.Name "range" p) [e, e2, e3] [] pos) (tI c Wx (mRg3 a)) := PI.imp (pi_range3 hg hm ha hs hp) fun σ H Q q => by
  obtain ⟨ρ, S, Kk, Ek, re, rs, hm, po, px⟩ := q
  refine ⟨ρ, S, _, Ek, re, rs, hm, fun ws S1 H1 vs k1 e1 rs1 rx => ?_, px⟩
  split at k1
  · obtain ⟨v, u, t, rfl, ri, rj, rk⟩ := rvs3 rx
    cases ri; cases rj; cases rk
    obtain ⟨n, h1, h2⟩ := k1
    exact ⟨_, _, _, n, rfl, h1, po _ S1 H1 _ _ _ h2 e1 rs1 walkw_rgC⟩
  · exact k1.elim
end

/-! ### comprehensions -/
theorem wipe_sub {σ : L2.St} {vs : List Nat} : ∀ vs' : List Nat, (∀ i ∈ vs', i ∈ vs) → L2.wipe (L2.wipe σ vs') vs = L2.wipe σ vs
  | [], _ => rfl
  | a :: vs', h => by
    show L2.wipe ((L2.wipe σ vs').set a none) vs = _
    rw [wipe_in (h a (List.mem_cons_self ..)), wipe_sub vs' fun i hi => h i (List.mem_cons_of_mem _ hi)]
theorem wipe_wipe (σ : L2.St) (vs : List Nat) : L2.wipe (L2.wipe σ vs) vs = L2.wipe σ vs := wipe_sub vs fun _ h => h
theorem tst_acc {K : PySem.W.Frag} {H : Hp} {D : Addr} {xs ys : List V} (h : H D = some (.lst xs)) : Tst K H (upd H D (.lst ys)) := .upd fun u e => by rw [h] at e; cases e; trivial
def compW (g : Sto → Prop) (tg : WG) (cd : WT) (el : WE) (ρ : Ro) (F : List W → Sto → Prop) : List W → List W → Sto → Prop
  | [], acc, S => g S ∧ F acc S
  | x :: xs, acc, S => g S ∧ tg x ρ fun ρ2 => cd ρ2 S (fun b S1 => if b = true then el ρ2 S1 (fun w S2 => acc.length < sizeLine ∧ compW g tg cd el ρ F xs (acc ++ [w]) S2) (fun _ _ => False) else compW g tg cd el ρ F xs acc S1) (fun _ _ => False)
def mComp (it : WI) (tg : Tg) (cd : WT) (el : WE) (own : List Nat) : WE := fun ρ S Kk Ek => it ρ S (fun wk S1 => compW wk.g (wgOf tg) cd el (rwipe ρ own) (fun acc S2 => ∀ p, S2 p = none → Kk (.ref p) (S2.put p (.lst acc))) wk.items [] S1) Ek
def mYes : WT := fun _ S Kk _ => Kk true S
theorem s_yes {X : Cx} {c : Cst} {Wx : WX} : ∀ σ H Q, tT c Wx mYes σ H Q → tYes σ H Q := fun σ H Q q => by
  obtain ⟨ρ, S, Kk, Ek, re, rs, hm, po, px⟩ := q
  exact po true S H hm .refl rs
abbrev noW : WX := fun _ _ _ _ => False
theorem upd_self {H : Hp} {a : Addr} {o : HO} (h : H a = some o) : upd H a o = H := by
  funext b; unfold upd; split
  · rename_i e; rw [e, h]
  · rfl
theorem comp_of {c : Cst} {Wx : WX} {it : WI} {tg : Tg} {cd : WT} {el : WE} {own : List Nat} (ho : ∀ i ∈ tg.own, i ∈ own) : ∀ σ H Q, tE c Wx (mComp it tg cd el own) σ H Q → tLc (tI c Wx it) (gOf c.K tg) (tT c noW cd) (tE c noW el) own σ H Q := fun σ H Q q => by
  obtain ⟨ρ, S, Kk, Ek, re, rs, hm, po, px⟩ := q
  refine ⟨ρ, S, _, Ek, re, rs, hm, fun wk S1 H1 J G Y k1 e1 rs1 ww D hD => ?_, px⟩
  have reW := re.wipe own
  have re1 := reW.tst (e1.tst rs)
  have rD : RS c.K (upd H1 D (.lst [])) S1 := rs1.tup hD
  have eD : Ext H1 S1 (upd H1 D (.lst [])) S1 := .tup hD
  -- the word of the loop
  refine lc_it ww.walk (fun i H2 => ∃ S2 accW accV, Ext H1 S1 H2 S2 ∧ RS c.K H2 S2 ∧ S2 D = none ∧ H2 D = some (.lst accV) ∧ RVs c.K H2 accW accV ∧
      compW wk.g (wgOf tg) cd el (rwipe ρ own) (fun acc S2 => ∀ p, S2 p = none → Kk (.ref p) (S2.put p (.lst acc))) (wk.items.drop i) accW S2) ?_ ?_ ?_ ?_
  · exact ⟨S1, [], [], eD, rD, rs1.fresh hD, upd_same, .nil, by simpa using k1⟩
  · rintro i H2 hi ⟨S2, accW, accV, e2, rs2, _, _, _, k⟩
    refine ww.stand H2 S2 e2 rs2 ?_
    cases z : wk.items.drop i with
    | nil => rw [z] at k; exact k.1
    | cons x xs => rw [z] at k; exact k.1
  · rintro i x H2 H3 hi ⟨S2, accW, accV, e2, rs2, nD, hDv, racc, k⟩ y
    have hg : wk.g S2 := by
      cases z : wk.items.drop i with
      | nil => rw [z] at k; exact k.1
      | cons x xs => rw [z] at k; exact k.1
    obtain ⟨w, hw, rw', e3, rs3⟩ := ww.gives i H2 S2 x H3 hi e2 rs2 hg y
    have hdrop : wk.items.drop i = w :: wk.items.drop (i + 1) := by
      have hi' := (List.getElem?_eq_some_iff.mp hw)
      rw [List.drop_eq_getElem_cons hi'.1, hi'.2]
    rw [hdrop] at k
    have k2 := k.2
    have re3 := (re1.tst (e2.tst rs1)).tst (e3.tst rs2)
    obtain ⟨hD3, _⟩ := e3 D _ hDv nD
    refine tg_of (own := own) k2 rw' re3 fun ρ2 σ2 k3 re4 hwp => ⟨by rw [hwp ho]; exact wipe_wipe σ own, ?_⟩
    refine ⟨ρ2, S2, _, _, re4, rs3, k3, fun b S4 H4 k4 e4 rs4 => ?_, fun x S' H' cls d z => z.elim⟩
    obtain ⟨hD4, nD4⟩ := e4 D _ hD3 nD
    have e14 : Ext H1 S1 H4 S4 := (e2.trans e3).trans e4
    have racc4 := (racc.tst (e3.tst rs2)).tst (e4.tst rs3)
    cases b with
    | true =>
      refine ⟨ρ2, S4, _, _, re4.tst (e4.tst rs3), rs4, k4, fun y S5 H5 v5 k5 e5 rs5 ry => ?_, fun x S' H' cls d z => z.elim⟩
      obtain ⟨hD5, nD5⟩ := e5 D _ hD4 nD4
      have racc5 := racc4.tst (e5.tst rs4)
      refine ⟨accV, hD5, by rw [← racc5.length]; exact k5.1, S5, accW ++ [y], accV ++ [_], ?_, ?_, nD5, upd_same, ?_, k5.2⟩
      · intro a o ha hs
        obtain ⟨p, q⟩ := (e14.trans e5) a o ha hs
        refine ⟨?_, q⟩
        rw [upd_ne (ne_of_none ha hD)]
        exact p
      · intro a d ha
        obtain ⟨o, h1, h2⟩ := rs5 a d ha
        have : a ≠ D := fun z => by subst z; rw [nD5] at ha; cases ha
        exact ⟨o, by rw [upd_ne this]; exact h1, h2.tst (tst_acc hD5)⟩
      · exact (racc5.append (.cons ry .nil)).tst (tst_acc hD5)
    | false => exact ⟨S4, accW, accV, e14, rs4, nD4, hD4, racc4, k4⟩
  · rintro H2 ⟨S2, accW, accV, e2, rs2, nD, hDv, racc, k⟩
    rw [List.drop_length] at k
    have k2 := k.2 D nD
    refine po (.ref D) _ H2 (.ref D) k2 ?_ ?_ (.ref D)
    · intro a o ha hs
      obtain ⟨p, q⟩ := e1 a o ha hs
      obtain ⟨p2, q2⟩ := e2 a o p q
      refine ⟨p2, ?_⟩
      rw [put_ne (ne_of_none p hD)]
      exact q2
    · intro a d ha
      by_cases z : a = D
      · subst z
        rw [put_same] at ha; cases ha
        exact ⟨_, hDv, .lst racc⟩
      · rw [put_ne z] at ha
        exact rs2 a d ha
end Dp
namespace Dp
open PySem PySem.Spec L2
open PyProof.Rows hiding St

/-! ### statements -/
structure Ew where
  nx : Ro → Sto → Prop
  rt : WK
  bk : Ro → Sto → Prop
  ct : Ro → Sto → Prop
  ex : Ro → EK
abbrev WS := Ew → Ro → Sto → Prop
structure RD (c : Cst) (Wx : WX) (D : Ends) (E : Ew) (H : Hp) (S : Sto) : Prop where
  nx : ∀ ρ' S' σ' H', E.nx ρ' S' → Ext H S H' S' → RE c.K H' ρ' σ' → RS c.K H' S' → D.nx σ' H'
  rt : ∀ w S' H' v, E.rt w S' → Ext H S H' S' → RS c.K H' S' → RV c.K H' w v → D.rt v H'
  bk : ∀ ρ' S' σ' H', E.bk ρ' S' → Ext H S H' S' → RE c.K H' ρ' σ' → RS c.K H' S' → D.bk σ' H'
  ct : ∀ ρ' S' σ' H', E.ct ρ' S' → Ext H S H' S' → RE c.K H' ρ' σ' → RS c.K H' S' → D.ct σ' H'
  exn : ∀ ρ' S' σ' H' x cls d, E.ex ρ' x S' → Ext H S H' S' → RE c.K H' ρ' σ' → RS c.K H' S' → RXn c H' S' x cls d → Wx cls d σ' H'
theorem RD.on {c : Cst} {Wx : WX} {D : Ends} {E : Ew} {H H1 : Hp} {S S1 : Sto} (r : RD c Wx D E H S) (e : Ext H S H1 S1) : RD c Wx D E H1 S1 :=
  ⟨fun ρ' S' σ' H' k e' => r.nx ρ' S' σ' H' k (e.trans e'), fun w S' H' v k e' => r.rt w S' H' v k (e.trans e'), fun ρ' S' σ' H' k e' => r.bk ρ' S' σ' H' k (e.trans e'), fun ρ' S' σ' H' k e' => r.ct ρ' S' σ' H' k (e.trans e'), fun ρ' S' σ' H' x cls d k e' => r.exn ρ' S' σ' H' x cls d k (e.trans e')⟩
/-- what a statement's expressions are told of errors -/
theorem RD.ex {c : Cst} {Wx : WX} {D : Ends} {E : Ew} {H : Hp} {S : Sto} (r : RD c Wx D E H S) {ρ : Ro} {σ : L2.St} (re : RE c.K H ρ σ) (rs : RS c.K H S) : PoX c Wx σ H S (E.ex ρ) :=
  fun x S' H' cls d k e rs' rx => r.exn ρ S' σ H' x cls d k e (re.tst (e.tst rs)) rs' rx
def tS (c : Cst) (Wx : WX) (m : WS) : TS := fun D σ H => ∃ E ρ S, RE c.K H ρ σ ∧ RS c.K H S ∧ m E ρ S ∧ RD c Wx D E H S
section
variable {X : Cx} {c : Cst} {Wx : WX}
def mSkip : WS := fun E ρ S => fgt S fun S' => E.nx ρ S'
@[irreducible] def mThen (a b : WS) : WS := fun E ρ S => a { E with nx := fun ρ' S' => b E ρ' S' } ρ S
theorem s_skip : PSs X [] (tS c Wx mSkip) := PSs.imp pss_nil fun D σ H q => by
  obtain ⟨E, ρ, S, re, rs, hm, rd⟩ := q
  unfold mSkip fgt at hm
  obtain ⟨A, l, k⟩ := hm
  exact rd.nx ρ A σ H k (Ext.refl.le l) re (rs.le l)
theorem s_then {st : Stmt} {r : List Stmt} {a b : WS} (ha : PS X st (tS c Wx a)) (hb : PSs X r (tS c Wx b)) : PSs X (st :: r) (tS c Wx (mThen a b)) := PSs.imp (pss_cons ha hb) fun D σ H q => by
  obtain ⟨E, ρ, S, re, rs, hm, rd⟩ := q
  unfold mThen at hm
  refine ⟨_, ρ, S, re, rs, hm, ⟨fun ρ' S' σ' H' k e r' s' => ?_, rd.rt, rd.bk, rd.ct, rd.exn⟩⟩
  exact ⟨E, ρ', S', r', s', k, rd.on e⟩
def mPass : WS := fun E ρ S => E.nx ρ S
def mBrk : WS := fun E ρ S => fgt S fun S' => E.bk ρ S'
def mCnt : WS := fun E ρ S => fgt S fun S' => E.ct ρ S'
theorem s_pass {pos : Pos} : PS X (.Pass pos) (tS c Wx mPass) := PS.imp ps_pass fun D σ H q => by
  obtain ⟨E, ρ, S, re, rs, hm, rd⟩ := q
  exact rd.nx ρ S σ H hm .refl re rs
theorem s_doc {x : Str} {j : Nat} {pos pos' : Pos} : PS X (.Expr (.Constant (.str x) j pos) pos') (tS c Wx mPass) := PS.imp ps_doc fun D σ H q => by
  obtain ⟨E, ρ, S, re, rs, hm, rd⟩ := q
  exact rd.nx ρ S σ H hm .refl re rs
theorem s_brk {pos : Pos} : PS X (.Break pos) (tS c Wx mBrk) := PS.imp ps_break fun D σ H q => by
  obtain ⟨E, ρ, S, re, rs, hm, rd⟩ := q
  unfold mBrk fgt at hm
  obtain ⟨A, l, k⟩ := hm
  exact rd.bk ρ A σ H k (Ext.refl.le l) re (rs.le l)
theorem s_cnt {pos : Pos} : PS X (.Continue pos) (tS c Wx mCnt) := PS.imp ps_continue fun D σ H q => by
  obtain ⟨E, ρ, S, re, rs, hm, rd⟩ := q
  unfold mCnt fgt at hm
  obtain ⟨A, l, k⟩ := hm
  exact rd.ct ρ A σ H k (Ext.refl.le l) re (rs.le l)
def mExp (a : WE) : WS := fun E ρ S => a ρ S (fun _ S1 => E.nx ρ S1) (E.ex ρ)
theorem s_exp {e : Expr} {a : WE} {pos : Pos} (ha : PE X e (tE c Wx a)) (hs : swapsWith e none pos.line X.env = pure false) : PS X (.Expr e pos) (tS c Wx (mExp a)) := PS.imp (ps_expr ha hs) fun D σ H q => by
  obtain ⟨E, ρ, S, re, rs, hm, rd⟩ := q
  exact ⟨ρ, S, _, (E.ex ρ), re, rs, hm, fun x S1 H1 u k1 e1 rs1 rx => rd.nx ρ S1 σ H1 k1 e1 (re.tst (e1.tst rs)) rs1, rd.ex re rs⟩
def mRet (a : WE) : WS := fun E ρ S => a ρ S E.rt (E.ex ρ)
theorem s_ret {e : Expr} {a : WE} {pos : Pos} (ha : PE X e (tE c Wx a)) : PS X (.Return (some e) pos) (tS c Wx (mRet a)) := PS.imp (ps_ret ha) fun D σ H q => by
  obtain ⟨E, ρ, S, re, rs, hm, rd⟩ := q
  exact ⟨ρ, S, _, (E.ex ρ), re, rs, hm, fun x S1 H1 u k1 e1 rs1 rx => rd.rt x S1 H1 u k1 e1 rs1 rx, rd.ex re rs⟩
def mRetN : WS := fun E _ S => E.rt .non S
theorem s_retN {pos : Pos} : PS X (.Return none pos) (tS c Wx mRetN) := PS.imp ps_retN fun D σ H q => by
  obtain ⟨E, ρ, S, re, rs, hm, rd⟩ := q
  exact rd.rt .non S H .non hm .refl rs .non
def mIte (t : WT) (a b : WS) : WS := fun E ρ S => t ρ S (fun k S1 => if k = true then a E ρ S1 else b E ρ S1) (E.ex ρ)
theorem s_ite {e : Expr} {p q : List Stmt} {t : WT} {a b : WS} {pos : Pos} (ht : PT X e (tT c Wx t)) (ha : PSs X p (tS c Wx a)) (hb : PSs X q (tS c Wx b)) : PS X (.If e p q pos) (tS c Wx (mIte t a b)) := PS.imp (ps_if ht ha hb) fun D σ H z => by
  obtain ⟨E, ρ, S, re, rs, hm, rd⟩ := z
  refine ⟨ρ, S, _, (E.ex ρ), re, rs, hm, fun k S1 H1 k1 e1 rs1 => ?_, rd.ex re rs⟩
  cases k with
  | true => exact ⟨E, ρ, S1, re.tst (e1.tst rs), rs1, k1, rd.on e1⟩
  | false => exact ⟨E, ρ, S1, re.tst (e1.tst rs), rs1, k1, rd.on e1⟩
/-! assignments -/
def mAsg (tg : Tg) (a : WE) : WS := fun E ρ S => a ρ S (fun w S1 => wgOf tg w ρ fun ρ2 => E.nx ρ2 S1) (E.ex ρ)
theorem asg_of {tg : Tg} {a : WE} {te : TE} {D : Ends} {σ : L2.St} {H : Hp} (hx : ∀ σ H Q, tE c Wx a σ H Q → te σ H Q) (h : tS c Wx (mAsg tg a) D σ H) : tAsg te (gOf c.K tg) D σ H := by
  obtain ⟨E, ρ, S, re, rs, hm, rd⟩ := h
  refine hx _ _ _ ⟨ρ, S, _, (E.ex ρ), re, rs, hm, fun w S1 H1 v k1 e1 rs1 rv => ?_, rd.ex re rs⟩
  exact tg_of (own := []) k1 rv (re.tst (e1.tst rs)) fun ρ2 σ2 k2 re2 _ => rd.nx ρ2 S1 σ2 H1 k2 e1 re2 rs1
/-- o[i] = v -/
@[irreducible] def setK (x y v : W) (S : Sto) (K : Sto → Prop) : Prop := match x with
  | .ref a => (∃ xs i j, S a = some (.lst xs) ∧ y = .int i ∧ ixN xs.length i = some j ∧ K (S.put a (.lst (xs.set j v)))) ∨
      ∃ kvs k, S a = some (.dic kvs) ∧ y = kW k ∧ kvs.length < sizeLine ∧ K (S.put a (.dic (putW kvs k v)))
  | _ => False
def rSetW : TSet := fun o i v H Q => rSetL o i v H Q ∨ ∃ a H', o = .ref a ∧ DPut H a i v H' ∧ Q H'
theorem PSet.or {t t' : TSet} (h : PSet X t) (h' : PSet X t') : PSet X (fun o i v H Q => t o i v H Q ∨ t' o i v H Q) := by
  intro pins s σ H o i v ov iv u Q I r1 r2 r3 q
  rcases q with q | q
  · exact h pins s σ H o i v ov iv u Q I r1 r2 r3 q
  · exact h' pins s σ H o i v ov iv u Q I r1 r2 r3 q
theorem r_setD (hu : X.A.units + 1 < cLine) : PSet X (fun o i v H Q => ∃ a H', o = .ref a ∧ DPut H a i v H' ∧ Q H') := by
  intro pins s σ H o i v ov iv u Q I ro ri rv h
  obtain ⟨a, H', rfl, g, q⟩ := h
  cases ro
  exact d_setItem hu I g ri rv fun s1 I1 => ⟨H', I1, q⟩
theorem r_set (hu : X.A.units + 1 < cLine) : PSet X rSetW := PSet.or set_list (r_setD hu)
theorem o_set {x y v : W} {ux uy uv : V} {H : Hp} {S : Sto} {Kk : Sto → Prop} {Q : Hp → Prop} (rs : RS c.K H S) (rx : RV c.K H x ux) (ry : RV c.K H y uy) (rv : RV c.K H v uv) (h : setK x y v S Kk)
    (po : ∀ S' H', Kk S' → Ext H S H' S' → RS c.K H' S' → Q H') : rSetW ux uy uv H Q := by
  unfold setK at h
  cases rx with
  | ref a =>
    rcases h with ⟨xs, i, j, l, rfl, hj, k⟩ | ⟨kvs, k0, l, rfl, hz, k⟩
    · cases ry
      obtain ⟨vs, hq, r⟩ := rs.lst l
      exact .inl ⟨a, vs, i, j, rfl, rfl, hq, by rw [← r.length]; exact hj, po _ _ k (.put l) (rs.put l (.lst (r.set j rv)))⟩
    · obtain ⟨vs, hq, r⟩ := rs.dic l
      rw [rv_key ry]
      exact .inr ⟨a, _, rfl, DPut.k hq (by rw [rkv_len r]; exact hz), po _ _ k (.put l) (rs.put l (.dic (rkv_put r k0 rv)))⟩
  | _ => exact (show False from h).elim
def mSet (o i a : WE) : WS := fun E ρ S => a ρ S (fun v S1 => o ρ S1 (fun x S2 => i ρ S2 (fun y S3 => setK x y v S3 fun S4 => E.nx ρ S4) (E.ex ρ)) (E.ex ρ)) (E.ex ρ)
theorem s_set {eo ei ev : Expr} {o i a : WE} {pos pos' : Pos} (hu : X.A.units + 1 < cLine) (ho : PE X eo (tE c Wx o)) (hi : PE X ei (tE c Wx i)) (hv : PE X ev (tE c Wx a))
    (ha : ∀ v, assign (.Subscript eo ei pos') X.env v = (do
      let ov ← holding [v] (eval eo X.env)
      let iv ← holding [v, ov] (eval ei X.env)
      standAt pos'
      holding [v, ov, iv] (setItem ov iv v)
      release [v, ov, iv] []))
    (hs : swapsWithSole [.Subscript eo ei pos'] ev pos.line X.env = pure false) (hw : swappedStores [.Subscript eo ei pos'] ev X.env = pure none) (h1 : (assignEach [.Subscript eo ei pos'] X.env).map (·.2) = [assign (.Subscript eo ei pos') X.env]) :
    PS X (.Assign [.Subscript eo ei pos'] ev pos) (tS c Wx (mSet o i a)) := PS.imp (ps_asg hv (pg_sub ho hi (r_set hu) ha) hs hw h1) fun D σ H z => by
  obtain ⟨E, ρ, S, re, rs, hm, rd⟩ := z
  refine ⟨ρ, S, _, (E.ex ρ), re, rs, hm, fun v S1 H1 uv k1 e1 rs1 rv => ?_, rd.ex re rs⟩
  have re1 := re.tst (e1.tst rs)
  refine ⟨ρ, S1, _, (E.ex ρ), re1, rs1, k1, fun x S2 H2 ux k2 e2 rs2 rx => ?_, (rd.ex re rs).on e1⟩
  have re2 := re1.tst (e2.tst rs1)
  refine ⟨ρ, S2, _, (E.ex ρ), re2, rs2, k2, fun y S3 H3 uy k3 e3 rs3 ry => ?_, ((rd.ex re rs).on e1).on e2⟩
  refine o_set rs3 (rx.tst (e3.tst rs2)) ry ((rv.tst (e2.tst rs1)).tst (e3.tst rs2)) k3 fun S4 H4 k4 e4 rs4 => ?_
  exact rd.nx ρ S4 σ H4 k4 (((e1.trans e2).trans e3).trans e4) ((re2.tst (e3.tst rs2)).tst (e4.tst rs3)) rs4
/-! op= -/
def iAdd : BOp := fun x y S K => match x, y with
  | .int i, .int j => K (.int (i + j)) S
  | .str a, .str b => a.length + b.length ≤ sizeLine ∧ K (.str (a ++ b)) S
  | _, _ => False
def iSub : BOp := fun x y S K => match x, y with
  | .int i, .int j => K (.int (i - j)) S
  | _, _ => False
def rIAdd : R2 := fun x y H Q => (∃ i j, x = .int i ∧ y = .int j ∧ Q (.int (i + j)) H) ∨ ∃ i j, x = .str i ∧ y = .str j ∧ i.length + j.length ≤ sizeLine ∧ Q (.str (i ++ j)) H
theorem r_iadd : OpR X (inplaceOp .Add) rIAdd := OpR.or iop_add iop_add_str
theorem o_iadd : Op2 c rIAdd iAdd := fun x y u v H S Kk Q rs rx ry h po => by
  cases rx with
  | int i => cases ry with
    | int j => exact .inl ⟨i, j, rfl, rfl, po _ S H _ h .refl rs (.int _)⟩
    | _ => exact h.elim
  | str i => cases ry with
    | str j => exact .inr ⟨i, j, rfl, rfl, h.1, po _ S H _ h.2 .refl rs (.str _)⟩
    | _ => exact h.elim
  | _ => cases ry <;> exact h.elim
theorem o_isub : Op2 c (rI0 fun i j => .int (i - j)) iSub := fun x y u v H S Kk Q rs rx ry h po => by
  cases rx with
  | int i => cases ry with
    | int j => exact ⟨i, j, rfl, rfl, po _ S H _ h .refl rs (.int _)⟩
    | _ => exact h.elim
  | _ => cases ry <;> exact h.elim
theorem pip_of {op : Operator} {r : R2} (h : OpR X (inplaceOp op) r) : PIp X op r := fun pins s σ H x y v u Q I rx ry q => h pins s σ H x y v u Q I rx ry q
def mAug (i : Nat) (f : BOp) (a : WE) : WS := fun E ρ S => match rget ρ i with
  | some x => a ρ S (fun y S1 => f x y S1 fun z S2 => E.nx (rset ρ i (some z)) S2) (E.ex ρ)
  | none => False
theorem aug_of {i : Nat} {f : BOp} {r : R2} {a : WE} {D : Ends} {σ : L2.St} {H : Hp} (ho : Op2 c r f) (h : tS c Wx (mAug i f a) D σ H) : tAug i (tE c Wx a) r D σ H := by
  obtain ⟨E, ρ, S, re, rs, hm, rd⟩ := h
  unfold mAug at hm
  cases e : rget ρ i with
  | none => rw [e] at hm; exact hm.elim
  | some x =>
    rw [e] at hm
    obtain ⟨v, hv, rv⟩ := re.2 i x e
    refine ⟨v, hv, ρ, S, _, (E.ex ρ), re, rs, hm, fun y S1 H1 u k1 e1 rs1 ry => ?_, rd.ex re rs⟩
    refine ho x y v u H1 S1 _ _ rs1 (rv.tst (e1.tst rs)) ry k1 fun z S2 H2 q k2 e2 rs2 rz => ?_
    exact rd.nx _ S2 _ H2 k2 (e1.trans e2) (((re.tst (e1.tst rs)).tst (e2.tst rs1)).set rz) rs2
/-- o[i], by values -/
theorem r_getD (hu : X.A.units + 1 < cLine) : PGet X rIxD := by
  intro pins s σ H o i ov iv Q I ro ri h
  obtain ⟨a, v, rfl, g, q⟩ := h
  cases ro
  exact d_getItem hu I g ri fun w' s3 I3 rw' => ⟨v, H, I3, rw', q⟩
theorem r_getL : PGet X (rIxL X.K) := by
  intro pins s σ H o i ov iv Q I ro ri h
  obtain ⟨p, xs, j, v, rfl, rfl, hq, he, q⟩ := h
  cases ro
  obtain ⟨t, rfl⟩ := ri
  obtain ⟨its, r, pl, hz⟩ := I.list hq
  obtain ⟨n, h1, h2, h3, h4, h5⟩ := atI_get he
  obtain ⟨w, ew, rw'⟩ := r.get h2
  have hl := r.length
  have hn := line63
  have fin : EP X pins σ Q w s := ⟨v, H, I, rw', q⟩
  by_cases h0 : 0 ≤ j
  · have hj : j.toNat = n := by
      rw [seqIndex_of h0 h5] at h1
      exact Option.some.inj h1
    exact wpAny_getItem_list pl.isList h0 (by omega) (x := w) (by rw [hj]; simpa using ew) fin
  · have hj : (j + (its.toArray.size : Int)).toNat = n := by
      rw [seqIndex_neg (by omega) h4] at h1
      rw [List.size_toArray, ← hl]
      exact Option.some.inj h1
    exact wpAny_getItem_list_neg pl.isList (by omega) (by rw [List.size_toArray] <;> omega) (by omega) (x := w) (by rw [hj]; simpa using ew) fin
def rGetW (K : PySem.W.Frag) : R2 := fun x y H Q => rIxL K x y H Q ∨ rIxD x y H Q
theorem r_get (hu : X.A.units + 1 < cLine) : PGet X (rGetW X.K) := by
  intro pins s σ H o i ov iv Q I ro ri h
  rcases h with h | h
  · exact r_getL pins s σ H o i ov iv Q I ro ri h
  · exact r_getD hu pins s σ H o i ov iv Q I ro ri h
/-- o[i] of a list or a dict -/
@[irreducible] def getK : BOp := fun x y S K => match x with
  | .ref a => (∃ ws i w, y = .int i ∧ S a = some (.lst ws) ∧ atI ws i = some w ∧ K w S) ∨ ∃ kvs k w, S a = some (.dic kvs) ∧ y = kW k ∧ valW kvs k = some w ∧ K w S
  | _ => False
theorem o_get : Op2 c (rGetW c.K) getK := fun x y u v H S Kk Q rs rx ry h po => by
  unfold getK at h
  cases rx with
  | ref a =>
    rcases h with ⟨ws, i, w, rfl, l, e, k⟩ | ⟨kvs, k0, w, l, rfl, e, k⟩
    · cases ry
      obtain ⟨vs, hq, r⟩ := rs.lst l
      obtain ⟨z, e2, rz⟩ := rvs_at r e
      exact .inl ⟨a, vs, i, z, rfl, rfl, .of hq, e2, po _ S H _ k .refl rs rz⟩
    · obtain ⟨vs, hq, r⟩ := rs.dic l
      rw [rv_key ry]
      rcases rkv_val r k0 with ⟨e1, _⟩ | ⟨w', v', e1, e2, rr⟩
      · rw [e1] at e; cases e
      · rw [e1] at e; cases e
        exact .inr ⟨a, v', rfl, by rw [← e2]; exact DGet.k hq, po _ S H _ k .refl rs rr⟩
  | _ => exact (show False from h).elim
def mAugS (o i : WE) (f : BOp) (a : WE) : WS := fun E ρ S => o ρ S (fun x S1 => i ρ S1 (fun y S2 => getK x y S2 fun v S3 => a ρ S3 (fun u S4 => f v u S4 fun z S5 => setK x y z S5 fun S6 => E.nx ρ S6) (E.ex ρ)) (E.ex ρ)) (E.ex ρ)
theorem s_augS {eo ei ev : Expr} {o i a : WE} {op : Operator} {r : R2} {f : BOp} {tpos pos : Pos} (hK : c.K = X.K) (hu : X.A.units + 1 < cLine) (ho : PE X eo (tE c Wx o)) (hi : PE X ei (tE c Wx i)) (hv : PE X ev (tE c Wx a)) (hr : OpR X (inplaceOp op) r) (hf : Op2 c r f)
    (ha : ∀ ov iv new, augStore ei ov iv new = (do holding [new, ov, iv] (setItem ov iv new); release [new, ov, iv] []; pure .next)) : PS X (.AugAssign (.Subscript eo ei tpos) op ev pos) (tS c Wx (mAugS o i f a)) :=
  PS.imp (ps_augS ho hi (r_get hu) hv (pip_of hr) (r_set hu) ha) fun D σ H z => by
    obtain ⟨E, ρ, S, re, rs, hm, rd⟩ := z
    rw [← hK]
    refine ⟨ρ, S, _, (E.ex ρ), re, rs, hm, fun x S1 H1 ux k1 e1 rs1 rx => ?_, rd.ex re rs⟩
    have re1 := re.tst (e1.tst rs)
    refine ⟨ρ, S1, _, (E.ex ρ), re1, rs1, k1, fun y S2 H2 uy k2 e2 rs2 ry => ?_, (rd.ex re rs).on e1⟩
    have re2 := re1.tst (e2.tst rs1)
    have rx2 := rx.tst (e2.tst rs1)
    refine o_get x y ux uy H2 S2 _ _ rs2 rx2 ry k2 fun v S3 H3 uv k3 e3 rs3 rv => ?_
    have re3 := re2.tst (e3.tst rs2)
    refine ⟨ρ, S3, _, (E.ex ρ), re3, rs3, k3, fun u S4 H4 uu k4 e4 rs4 ru => ?_, ((rd.ex re rs).on e1).on e2 |>.on e3⟩
    have re4 := re3.tst (e4.tst rs3)
    refine hf v u uv uu H4 S4 _ _ rs4 (rv.tst (e4.tst rs3)) ru k4 fun z S5 H5 uz k5 e5 rs5 rz => ?_
    have rx5 := ((rx2.tst (e3.tst rs2)).tst (e4.tst rs3)).tst (e5.tst rs4)
    have ry5 := ((ry.tst (e3.tst rs2)).tst (e4.tst rs3)).tst (e5.tst rs4)
    refine o_set rs5 rx5 ry5 rz k5 fun S6 H6 k6 e6 rs6 => ?_
    exact rd.nx ρ S6 σ H6 k6 (((((e1.trans e2).trans e3).trans e4).trans e5).trans e6) ((re4.tst (e5.tst rs4)).tst (e6.tst rs5)) rs6
/-! ### loops -/
def forW (g : Sto → Prop) (tg : WG) (b : WS) (E : Ew) : List W → Ro → Sto → Prop
  | [], ρ, S => g S ∧ E.nx ρ S
  | x :: xs, ρ, S => g S ∧ tg x ρ fun ρ2 => b { E with nx := forW g tg b E xs, ct := forW g tg b E xs, bk := E.nx } ρ2 S
def mFor (it : WI) (tg : Tg) (b : WS) : WS := fun E ρ S => it ρ S (fun wk S1 => forW wk.g (wgOf tg) b E wk.items ρ S1) (E.ex ρ)
theorem forW_g {g : Sto → Prop} {tg : WG} {b : WS} {E : Ew} {xs : List W} {ρ : Ro} {S : Sto} (h : forW g tg b E xs ρ S) : g S := by
  cases xs with
  | nil => exact h.1
  | cons x xs => exact h.1
theorem for_of {it : WI} {tg : Tg} {b : WS} {D : Ends} {σ : L2.St} {H : Hp} (h : tS c Wx (mFor it tg b) D σ H) : tFor (tI c Wx it) (gOf c.K tg) (tS c Wx b) D σ H := by
  obtain ⟨E, ρ, S, re, rs, hm, rd⟩ := h
  refine ⟨ρ, S, _, (E.ex ρ), re, rs, hm, fun wk S1 H1 J G Y k1 e1 rs1 ww => ?_, rd.ex re rs⟩
  refine for_it ww.walk (fun i σ2 H2 => ∃ ρ2 S2, Ext H1 S1 H2 S2 ∧ RE c.K H2 ρ2 σ2 ∧ RS c.K H2 S2 ∧ forW wk.g (wgOf tg) b E (wk.items.drop i) ρ2 S2) ?_ ?_ ?_ ?_
  · exact ⟨ρ, S1, .refl, re.tst (e1.tst rs), rs1, by simpa using k1⟩
  · rintro i σ2 H2 hi ⟨ρ2, S2, e2, re2, rs2, k⟩
    exact ww.stand H2 S2 e2 rs2 (forW_g k)
  · rintro i x σ2 H2 H3 hi ⟨ρ2, S2, e2, re2, rs2, k⟩ y
    obtain ⟨w, hw, rw', e3, rs3⟩ := ww.gives i H2 S2 x H3 hi e2 rs2 (forW_g k) y
    have hdrop : wk.items.drop i = w :: wk.items.drop (i + 1) := by
      have hi' := (List.getElem?_eq_some_iff.mp hw)
      rw [List.drop_eq_getElem_cons hi'.1, hi'.2]
    rw [hdrop] at k
    refine tg_of (own := []) k.2 rw' (re2.tst (e3.tst rs2)) fun ρ3 σ3 k3 re3 _ => ?_
    refine ⟨_, ρ3, S2, re3, rs3, k3, ⟨fun ρ' S' σ' H' k' e' r' s' => ?_, fun w S' H' v k' e' s' r' => ?_, fun ρ' S' σ' H' k' e' r' s' => ?_, fun ρ' S' σ' H' k' e' r' s' => ?_, fun ρ' S' σ' H' x' cls d k' e' r' s' rx' => ?_⟩⟩
    · exact ⟨ρ', S', (e2.trans e3).trans e', r', s', k'⟩
    · exact rd.rt w S' H' v k' (((e1.trans e2).trans e3).trans e') s' r'
    · exact rd.nx ρ' S' σ' H' k' (((e1.trans e2).trans e3).trans e') r' s'
    · exact ⟨ρ', S', (e2.trans e3).trans e', r', s', k'⟩
    · exact rd.exn ρ' S' σ' H' x' cls d k' (((e1.trans e2).trans e3).trans e') r' s' rx'
  · rintro σ2 H2 ⟨ρ2, S2, e2, re2, rs2, k⟩
    rw [List.drop_length] at k
    exact rd.nx ρ2 S2 σ2 H2 k.2 (e1.trans e2) re2 rs2
def whlW (t : WT) (b : WS) (E : Ew) : Nat → Ro → Sto → Prop
  | 0, _, _ => False
  | n + 1, ρ, S => t ρ S (fun k S1 => if k = true then b { E with nx := whlW t b E n, ct := whlW t b E n, bk := E.nx } ρ S1 else E.nx ρ S1) (E.ex ρ)
def mWhl (t : WT) (b : WS) : WS := fun E ρ S => ∃ n, whlW t b E n ρ S
theorem whl_of {t : WT} {b : WS} {D : Ends} {σ : L2.St} {H : Hp} (h : tS c Wx (mWhl t b) D σ H) : tWhile (tT c Wx t) (tS c Wx b) D σ H := by
  obtain ⟨E, ρ, S, re, rs, ⟨n, hm⟩, rd⟩ := h
  refine ⟨fun m σ2 H2 => ∃ ρ2 S2, Ext H S H2 S2 ∧ RE c.K H2 ρ2 σ2 ∧ RS c.K H2 S2 ∧ whlW t b E m ρ2 S2, ⟨n, ρ, S, .refl, re, rs, hm⟩, ?_⟩
  rintro m σ2 H2 ⟨ρ2, S2, e2, re2, rs2, k⟩
  cases m with
  | zero => exact (show False from k).elim
  | succ m =>
    refine ⟨ρ2, S2, _, (E.ex ρ2), re2, rs2, k, fun q S3 H3 k3 e3 rs3 => ?_, (rd.on e2).ex re2 rs2⟩
    cases q with
    | false => exact rd.nx ρ2 S3 σ2 H3 k3 (e2.trans e3) (re2.tst (e3.tst rs2)) rs3
    | true =>
      refine ⟨fun σ' H' => ∃ ρ' S', Ext H S H' S' ∧ RE c.K H' ρ' σ' ∧ RS c.K H' S' ∧ whlW t b E m ρ' S', fun σ' H' ⟨ρ', S', z⟩ => ⟨m, Nat.lt_succ_self m, ρ', S', z⟩, ?_⟩
      refine ⟨_, ρ2, S3, re2.tst (e3.tst rs2), rs3, k3, ⟨fun ρ' S' σ' H' k' e' r' s' => ?_, fun w S' H' v k' e' s' r' => ?_, fun ρ' S' σ' H' k' e' r' s' => ?_, fun ρ' S' σ' H' k' e' r' s' => ?_, fun ρ' S' σ' H' x' cls d k' e' r' s' rx' => ?_⟩⟩
      · exact ⟨ρ', S', (e2.trans e3).trans e', r', s', k'⟩
      · exact rd.rt w S' H' v k' ((e2.trans e3).trans e') s' r'
      · exact rd.nx ρ' S' σ' H' k' ((e2.trans e3).trans e') r' s'
      · exact ⟨ρ', S', (e2.trans e3).trans e', r', s', k'⟩
      · exact rd.exn ρ' S' σ' H' x' cls d k' ((e2.trans e3).trans e') r' s' rx'
end

/-! ### calls of defs -/
abbrev Pm := List W → Sto → WK → EK → Prop
/-- a def's promise by plain values, told to the layer -/
def spOf (c : Cst) (p : Pm) : Sp := fun vs H Q E => ∃ ws S Kk Ek, RVs c.K H ws vs ∧ RS c.K H S ∧ p ws S Kk Ek ∧ (∀ w S' H' v, Kk w S' → Ext H S H' S' → RS c.K H' S' → RV c.K H' w v → Q v H') ∧
  ∀ x S' H' cls d, Ek x S' → Ext H S H' S' → RS c.K H' S' → RXn c H' S' x cls d → E cls d H'
/-- the def at f keeps a promise, where no repr is under way -/
structure GOk (P : Program) (w : World) (K : PySem.W.Frag) (mg : Str → Option Value) (base : Heap) (k : Nat) (f : Addr) (fd : FuncData) (ps : List Str) (sp : Sp) : Prop where
  len : ∀ vs H Q E, sp vs H Q E → vs.length = ps.length
  run : ∀ (A : Around) (outer : List Env) (s : Shared) (H : Hp) (args : Args) (us : List Value) (vs : List V) (Q : VK) (E : XK), A.guards = some [] → Room k A → Env0 P w K mg base A outer s H → BindsTo s fd args (ps.zip us) → Vals vs us → sp vs H Q E →
    codeAny (model P w) A (.call (.ref f) args) (CR (L2.CX P w) outer P w H s Q E) s
theorem GOk.mono {P : Program} {w : World} {K : PySem.W.Frag} {mg : Str → Option Value} {base : Heap} {j k : Nat} {f : Addr} {fd : FuncData} {ps : List Str} {sp : Sp} (G : GOk P w K mg base j f fd ps sp) (h : j ≤ k) : GOk P w K mg base k f fd ps sp :=
  ⟨G.len, fun A outer s H args us vs Q E g hr => G.run A outer s H args us vs Q E g (hr.mono h)⟩
theorem GOk.imp {P : Program} {w : World} {K : PySem.W.Frag} {mg : Str → Option Value} {base : Heap} {k : Nat} {f : Addr} {fd : FuncData} {ps : List Str} {sp sp' : Sp} (G : GOk P w K mg base k f fd ps sp) (h : ∀ vs H Q E, sp' vs H Q E → sp vs H Q E) : GOk P w K mg base k f fd ps sp' :=
  ⟨fun vs H Q E q => G.len vs H Q E (h _ _ _ _ q), fun A outer s H args us vs Q E g hr he hb hv hs => G.run A outer s H args us vs Q E g hr he hb hv (h _ _ _ _ hs)⟩
def mCall (p : Pm) (a : WEs) : WE := fun ρ S Kk Ek => a ρ S (fun ws S1 => p ws S1 Kk Ek) Ek
section
variable {X : Cx} {c : Cst} {Wx : WX} {k : Nat} {f : Addr} {fd : FuncData} {ps : List Str} {p : Pm} {x : Str}
theorem run_g {pins : List (Addr × Obj)} {σ : L2.St} {H : Hp} {s : Shared} {Q : VK} {us : List Value} {vs : List V} {sp : Sp} (G : GOk X.prog X.w X.K X.mg X.base k f fd ps sp) (hg : X.A.guards = some []) (hr : Room k X.A) (hb : Binds X.K fd ps [])
    (tk : Takes X Wx) (I : Inv X pins σ H s) (r : Vals vs us) (h : sp vs H Q fun cls d H' => Wx cls d σ H') : wpAny (model X.prog X.w) X.A (call (.ref f) us) (EP X pins σ Q) X.xe s := by
  have hl : (us ++ ([] : List Value)).length = ps.length := by rw [List.append_nil, ← r.length]; exact G.len _ _ _ _ h
  have hz := hb s us I.kIn hl
  rw [List.append_nil] at hz
  refine wpAny_call (codeAny_mono (G.run X.A X.stack s H ⟨us, []⟩ us vs Q _ hg hr I.env0 hz r h) fun q s1 z => ?_)
  cases q with
  | ok fl => cases fl <;> first | exact I.after z | exact False.elim z
  | error e => exact tk e s1 (XE.of_call I (fun _ _ _ y => y) z)
theorem s_call {e : Expr} {es : List Expr} {a : WEs} {p1 pos : Pos} (G : GOk X.prog X.w X.K X.mg X.base k f fd ps (spOf c p)) (hg : X.A.guards = some []) (hr : Room k X.A) (hgl : Gl X x) (hm : X.mg x = some (.ref f)) (hk : PySem.W.keepIn X.K (.ref f) = true) (hb : Binds X.K fd ps [])
    (tk : Takes X Wx) (ha : PA X (e :: es) (tA c Wx a)) (hd : (x == ("__debug__" : Str)) = false) (he : starEach (e :: es) X.env = (false, eval e X.env) :: starEach es X.env) (hp : (backTo pos (starEach es X.env)).any (·.1) = false) :
    PE X (.Call (.Name x p1) (e :: es) [] pos) (tE c Wx (mCall p a)) := by
  constructor
  intro pins s σ H Q I q
  obtain ⟨ρ, S, Kk, Ek, re, rs, hm', po, px⟩ := q
  refine wpAny_Call_Name_kw (ld_glob I hgl hm ?_ hd)
  refine PySem.W.callWith_K (h₀ := X.base) I.ok.mod.kin hk ?_ he hp
  have h2 : tA c Wx a σ H fun vs H1 => spOf c p vs H1 Q fun cls d H' => Wx cls d σ H' :=
    ⟨ρ, S, _, Ek, re, rs, hm', fun ws S1 H1 vs k1 e1 rs1 rv => ⟨ws, S1, Kk, Ek, rv, rs1, k1, fun w S' H' v k2 e2 => po w S' H' v k2 (e1.trans e2), fun x S' H' cls d k2 e2 => px x S' H' cls d k2 (e1.trans e2)⟩, px⟩
  refine thn (ha.run pos pins s σ H _ I h2) fun us s1 z => ?_
  obtain ⟨vs, H1, I1, r1, q1⟩ := z
  exact ⟨I1.kIn, run_g G hg hr hb tk I1 r1 q1⟩
theorem s_call0 {p1 pos : Pos} (G : GOk X.prog X.w X.K X.mg X.base k f fd ps (spOf c p)) (hg : X.A.guards = some []) (hr : Room k X.A) (hgl : Gl X x) (hm : X.mg x = some (.ref f)) (hk : PySem.W.keepIn X.K (.ref f) = true) (hb : Binds X.K fd ps [])
    (tk : Takes X Wx) (hd : (x == ("__debug__" : Str)) = false) : PE X (.Call (.Name x p1) [] [] pos) (tE c Wx (mCall p mNil)) := by
  constructor
  intro pins s σ H Q I q
  obtain ⟨ρ, S, Kk, Ek, re, rs, hm', po, px⟩ := q
  refine wpAny_Call_Name_kw (ld_glob I hgl hm ?_ hd)
  exact PySem.W.callWith_K0 I.kIn hk (run_g (us := []) G hg hr hb tk I .nil ⟨[], S, Kk, Ek, .nil, rs, hm', po, px⟩)
end
/-- the slots at a def's entry -/
def startW (n : Nat) (ws : List W) : Ro := ws.map some ++ List.replicate (n - ws.length) none
theorem rget_some : ∀ {ws : List W} {i : Nat} {w : W} {m : Nat}, rget (ws.map some ++ List.replicate m none) i = some w → ws[i]? = some w
  | [], i, w, m, h => by
    exfalso
    induction m generalizing i with
    | zero => simp [rget] at h
    | succ m ih =>
      cases i with
      | zero => simp [rget, List.replicate_succ] at h
      | succ i => exact ih (i := i) (by simpa [rget, List.replicate_succ] using h)
  | x :: ws, 0, w, m, h => by simpa [rget] using h
  | x :: ws, i + 1, w, m, h => by
    have := rget_some (ws := ws) (i := i) (w := w) (m := m) (by simpa [rget] using h)
    simpa using this
theorem re_start {K : PySem.W.Frag} {H : Hp} {N : List Str} {ws : List W} {vs : List V} (r : RVs K H ws vs) : RE K H (startW N.length ws) (L2.start N vs) := by
  refine ⟨?_, fun i w h => ?_⟩
  · unfold startW L2.start
    simp only [List.length_append, List.length_map, List.length_replicate]
    rw [r.length]
    exact Nat.le_refl _
  · have hw := rget_some h
    obtain ⟨v, hv, rv⟩ := r.get' hw
    refine ⟨v, ?_, rv⟩
    unfold L2.start
    have hi : i < vs.length := (List.getElem?_eq_some_iff.mp hv).1
    rw [List.getElem?_append_left (by simpa using hi), List.getElem?_map, hv]; rfl
/-- THE RULE for a def -/
theorem g_of {P : Program} {w : World} {K : PySem.W.Frag} {mg : Str → Option Value} {base : Heap} {k : Nat} {f : Addr} {x qual : Str} {params : Arguments} {body : List Stmt} {scope : Scope} {fd : FuncData} {N ps : List Str} {sp : Sp}
    (F : FunD K x qual params body scope [] [] f fd) (S : FnScope N ps scope) (len : ∀ vs H Q E, sp vs H Q E → vs.length = ps.length)
    (hbody : ∀ (cdv : Value) (A : Around) (outer : List Env) (s : Shared) (H : Hp) (vs : List V) (Q : VK) (E : XK), A.guards = some [] → Room k (A.deeper (envOfC qual scope s.heap.objs.size f cdv)) → sp vs H Q E →
      ∃ t, PSs (cxOf (L2.CX P w) P w K mg base N qual scope f cdv A outer s H E) body t ∧ t { nx := fun _ H' => Q .non H', rt := Q } (L2.start N vs) H) : GOk P w K mg base (k + 1) f fd ps sp := by
  obtain ⟨oc, od, dV, kV, doc, pm, an, cdv, ct, osl, rfl, lk, hcd, _, _⟩ := F.ex
  refine ⟨len, fun A outer s H args us vs Q E hg hr e0 hb r hsp => ?_⟩
  have inH : K.In s.heap := e0.mod.kin.keeps fun b o e => (e0.bs b o e).1
  have nolim : s.heap.NoLimit := e0.mod.nolimit.keeps fun b o e => (e0.bs b o e).1
  refine codeAny_call_function hr.depth (inH _ _ lk) rfl S.co S.gen rfl (PySem.W.codeRec_of inH hcd) (hb _ _ _ _ ?_)
  refine wpAny_newFunctionEnv_cells S.kind (fun y hy => ?_) fun env he s1 ic => ?_
  · rcases S.par y.1 (List.of_mem_zip hy).1 with q | q
    · exact .inl q
    · exact .inr ⟨q, PySem.W.cellsFrom_some _ _ _ (.inl q)⟩
  · subst he
    refine ⟨nolim.keeps ic.toInCall.keep, codeAny_func ?_⟩
    obtain ⟨t, ht, hq⟩ := hbody cdv A outer s H vs Q E hg (hr.deeper _) hsp
    have J := inv_start (CX := L2.CX P w) (E := E) S hr.hd e0 (len _ _ _ _ hsp) r ic
    refine wpAny_mono (ht.run [] s1 _ H _ J hq) (fun fl s2 z => ?_) fun e s2 z => z
    cases fl with
    | ret u =>
      obtain ⟨v, σ2, H2, J2, rv, q⟩ := z
      exact ⟨v, H2, J2.os, J2.bare, J2.base, J2.hok, rv, q⟩
    | next =>
      obtain ⟨σ2, H2, J2, q⟩ := z
      exact ⟨V.non, H2, J2.os, J2.bare, J2.base, J2.hok, rfl, q⟩
    | brk =>
      obtain ⟨_, _, _, q⟩ := z
      exact q.elim
    | cont =>
      obtain ⟨_, _, _, q⟩ := z
      exact q.elim
end Dp
/-! the program's own exceptions: their classes by number, the making of one, raise -/
namespace Dp
open PySem PySem.Spec L2
open PyProof.Rows hiding St

def clsN : Nat → Str
  | 0 => "BallError" | 1 => "NoPaper" | 2 => "NoRight" | 3 => "NoPlace" | 4 => "NoTable" | 5 => "NoFilling" | 6 => "NoSuit" | 7 => "NoShare" | 8 => "NoPage" | 9 => "NoBack" | 10 => "NoText" | _ => "NoRow"
/-- the fields, as __init__ takes them -/
def clsF : Nat → List Str
  | 1 => ["word", "number"] | 2 => ["word"] | 3 => ["number"] | 4 => ["word"] | 5 => ["word"] | 6 => ["ring"] | 7 => ["word"] | 8 => ["word"] | 10 => ["row", "word"] | 11 => ["row"] | _ => []
def subC (i j : Nat) : Bool := j == 0 || i == j

/-! ### the base's __init__, called by a class's own -/
section
variable {X : Cx} {e : Expr} {es : List Expr} {ta : TA} {x : Str} {B : Addr} {mc : Value} {p1 p2 pos : Pos}
theorem pe_beinit {pl : Sem Bool} (hg : Gl X x) (hm : X.mg x = some (.ref B)) (rd : PySem.W.readsIn X.K B mc = true) (ga : PySem.W.specialIn X.K (.ref B) "__getattribute__" = some (some (.builtin "type.__getattribute__")))
    (at_ : PySem.W.findCls X.K (.ref B) mc "__init__" = some (.val (.builtin "ValueError.__init__"))) (ha : PA X (e :: es) ta) (hdb : (x == ("__debug__" : Str)) = false)
    (hc : eval (.Call (.Attribute (.Name x p1) "__init__" p2) (e :: es) [] pos) X.env = (do
      let ov ← eval (.Name x p1) X.env
      standAt p2.atName
      let (f, first) ← holding [ov] (getMethod ov "__init__" pl)
      callWith pos f first (backTo pos (starEach (e :: es) X.env)) (backToKw pos (keywordEach [] X.env))))
    (he : starEach (e :: es) X.env = (false, eval e X.env) :: starEach es X.env) (hpl : (backTo pos (starEach es X.env)).any (·.1) = false) :
    PE X (.Call (.Attribute (.Name x p1) "__init__" p2) (e :: es) [] pos) (tVeI X.K ta) := by
  refine ⟨fun pins s σ H Q I h => ?_⟩
  refine PySem.W.methodCall_KW (ld_glob I hg hm ?_ hdb) hc
  refine PySem.W.method_cls I.kIn ga (PySem.W.cls_value I.kIn rd at_ (by decide +kernel) ?_)
  show wpAny _ _ (callWith pos (Value.builtin "ValueError.__init__") [] (backTo pos (starEach (e :: es) X.env)) []) _ _ _
  refine PyProof.Rows.callWith_method1 (thn (ha.run pos pins _ σ H _ (I.tok _) h) fun us s1 ⟨vs, H1, I1, r1, a, C, ws, ev, hl, T, ea, q⟩ => ?_) he hpl
  subst ev
  cases r1 with
  | @cons _ u0 _ ur ra rw' =>
    obtain rfl : u0 = Value.ref a := ra
    have hlen : ur.length ≤ sizeLine := by
      rw [← Paired.length rw', sizeLine_eq]
      omega
    exact oinit_ok T I1 ea hlen fun s' J => ⟨.non, H1, J, rfl, q⟩
end
/-- what the written part says of the class BallError -/
structure BaseOk (K : PySem.W.Frag) (B : Addr) : Prop where
  rd : PySem.W.readsIn K B (.type "type") = true
  ga : PySem.W.specialIn K (.ref B) "__getattribute__" = some (some (.builtin "type.__getattribute__"))
  at_ : PySem.W.findCls K (.ref B) (.type "type") "__init__" = some (.val (.builtin "ValueError.__init__"))
/-- the stores of the fields -/
def lclB (sc : Scope) (x : Str) : Bool := decide (sc.names.lookup x = some .local) && !(x == ("__debug__" : Str)) && !(x == ("__classdict__" : Str))
def getF : Stmt → Option (Str × Str × Str)
  | .Assign [.Attribute (.Name x _) g _] (.Name y _) _ => some (x, g, y)
  | _ => none
theorem getF_some {s : Stmt} {x g y : Str} (h : getF s = some (x, g, y)) : ∃ p1 p2 p3 pos, s = .Assign [.Attribute (.Name x p1) g p2] (.Name y p3) pos := by
  unfold getF at h
  split at h
  · cases h; exact ⟨_, _, _, _, rfl⟩
  · cases h
def getI : Stmt → Option (Str × Str × Str × Bool)
  | .Expr (.Call (.Attribute (.Name x _) m p2) [.Name y _, .Constant (.str _) _ _] [] pos) _ => some (x, m, y, p2.endLine == pos.line)
  | _ => none
theorem getI_some {s : Stmt} {x m y : Str} {b : Bool} (h : getI s = some (x, m, y, b)) : ∃ p1 p2 p3 z j p4 p5 p6, s = .Expr (.Call (.Attribute (.Name x p1) m p2) [.Name y p3, .Constant (.str z) j p4] [] p5) p6 ∧ (p2.endLine == p5.line) = b := by
  unfold getI at h
  split at h
  · cases h; exact ⟨_, _, _, _, _, _, _, _, rfl, rfl⟩
  · cases h
def okF (sc : Scope) (N : List Str) (i : Nat) (f : Str) : Option (Str × Str × Str) → Bool
  | some (x, g, y) => decide (N[0]? = some x) && lclB sc x && decide (g = f) && decide (N[i]? = some y) && lclB sc y
  | none => false
def chkFs (sc : Scope) : Nat → List Str → List Str → List Stmt → Bool
  | _, _, [], [] => true
  | i, N, f :: fs, s :: r => okF sc N i f (getF s) && chkFs sc (i + 1) N fs r
  | _, _, _, _ => false
def okI (sc : Scope) (N : List Str) : Option (Str × Str × Str × Bool) → Bool
  | some (x, m, y, b) => b && decide (x = clsN 0) && decide (sc.names.lookup x = some .globalImplicit) && decide (m = ("__init__" : Str)) && decide (N[0]? = some y) && lclB sc y
  | none => false
/-- the body of such an __init__ -/
def chkIn (sc : Scope) (N : List Str) (fs : List Str) : List Stmt → Bool
  | s :: r => okI sc N (getI s) && chkFs sc 1 N fs r
  | [] => false
/-- the slots hold the arguments -/
def Hold (σ : L2.St) (i : Nat) : List V → Prop
  | [] => True
  | y :: ys => σ[i]? = some (some y) ∧ Hold σ (i + 1) ys
theorem upd_upd {H : Hp} {a : Addr} {o u : HO} : upd (upd H a o) a u = upd H a u := by
  funext b; by_cases h : b = a
  · subst h; rw [upd_same, upd_same]
  · rw [upd_ne h, upd_ne h, upd_ne h]
theorem upd_comm {H : Hp} {a b : Addr} {o u : HO} (n : a ≠ b) : upd (upd H a o) b u = upd (upd H b u) a o := by
  funext c; by_cases h : c = a
  · subst h; rw [upd_ne n, upd_same, upd_same]
  · by_cases h2 : c = b
    · subst h2; rw [upd_same, upd_ne h, upd_same]
    · rw [upd_ne h2, upd_ne h, upd_ne h, upd_ne h2]
def tFs (K : PySem.W.Frag) : Nat → List Str → TS
  | _, [] => tNext
  | i, f :: fs => tSeq (tOst K f (tVar 0) (tVar i)) (tFs K (i + 1) fs)
section
variable {X : Cx} {N : List Str} {sc : Scope}
theorem pe_loc {i : Nat} {x : Str} {pos : Pos} (eN : X.N = N) (esc : X.env.scope = sc) (hi : N[i]? = some x) (h : lclB sc x = true) : PE X (.Name x pos) (tVar i) := by
  unfold lclB at h
  simp only [Bool.and_eq_true, decide_eq_true_eq, Bool.not_eq_true'] at h
  exact pe_var (eN ▸ hi) (.inl (esc ▸ h.1.1)) h.1.2 h.2
theorem fs_run (eN : X.N = N) (esc : X.env.scope = sc) : ∀ (fs : List Str) (i : Nat) (st : List Stmt), chkFs sc i N fs st = true → PSs X st (tFs X.K i fs)
  | [], i, [], _ => pss_nil
  | [], i, _ :: _, h => (Bool.false_ne_true h).elim
  | f :: fs, i, [], h => (Bool.false_ne_true h).elim
  | f :: fs, i, s :: r, h => by
    have h : (okF sc N i f (getF s) && chkFs sc (i + 1) N fs r) = true := h
    rw [Bool.and_eq_true] at h
    obtain ⟨h, h5⟩ := h
    cases e : getF s with
    | none => rw [e] at h; exact (Bool.false_ne_true h).elim
    | some t =>
      obtain ⟨x, g, y⟩ := t
      rw [e] at h
      have h : (decide (N[0]? = some x) && lclB sc x && decide (g = f) && decide (N[i]? = some y) && lclB sc y) = true := h
      simp only [Bool.and_eq_true, decide_eq_true_eq] at h
      obtain ⟨⟨⟨⟨h1, h2⟩, rfl⟩, h3⟩, h4⟩ := h
      obtain ⟨p1, p2, p3, pos, rfl⟩ := getF_some e
      exact pss_cons (ps_ost (pe_loc eN esc h1 h2) (pe_loc eN esc h3 h4)) (fs_run eN esc fs (i + 1) r h5)
/-- the further fields -/
theorem fs_more {K : PySem.W.Frag} {C : Addr} (T : OexC K C) {σ : L2.St} {D : Ends} {a dx : Addr} (h0 : σ[0]? = some (some (.ref a))) (ne : dx ≠ a) : ∀ (fs : List Str) (ys : List V) (i : Nat) (done : List (Str × V)) (H : Hp), Hold σ i ys → ys.length = fs.length →
    (∀ f ∈ fs, PySem.W.findIn K (.ref C) f = some none) → H a = some (exo a C (some dx)) → H dx = some (exd dx done) → done.length + fs.length ≤ 900 → D.nx σ (upd H dx (exd dx ((fs.zip ys).reverse ++ done))) → tFs K i fs D σ H
  | [], ys, i, done, H, _, _, _, _, hd, _, q => by
    have e : upd H dx (exd dx done) = H := upd_self hd
    have q : D.nx σ (upd H dx (exd dx done)) := q
    rw [e] at q; exact q
  | f :: fs, [], i, done, H, _, l, _, _, _, _, _ => by simp at l
  | f :: fs, y :: ys, i, done, H, hh, l, no, ha, hd, len, q => by
    have hl : done.length ≤ 900 := by rw [List.length_cons] at len; omega
    refine ⟨y, hh.1, .ref a, h0, a, C, rfl, T, no f (List.mem_cons_self ..), .inr ⟨dx, done, ha, hd, hl, ?_⟩⟩
    refine fs_more T h0 ne fs ys (i + 1) ((f, y) :: done) _ hh.2 (by simpa using l) (fun g hg => no g (List.mem_cons_of_mem _ hg)) (by rw [upd_ne (Ne.symm ne)]; exact ha) upd_same (by rw [List.length_cons] at len ⊢; omega) ?_
    rw [upd_upd]
    have e : ((f :: fs).zip (y :: ys)).reverse ++ done = (fs.zip ys).reverse ++ (f, y) :: done := by
      rw [List.zip_cons_cons, List.reverse_cons, List.append_assoc]; rfl
    rw [e] at q; exact q
/-- what an __init__ does -/
def spI (K : PySem.W.Frag) (C : Addr) (fs : List Str) : Sp := fun vs H Q _ => ∃ a ys, vs = .ref a :: ys ∧ ys.length = fs.length ∧ H a = some (exo a C none) ∧ ∀ dx, H dx = none → dx ≠ a → Q .non (upd (upd H dx (exd dx (fs.zip ys).reverse)) a (exo a C (some dx)))
theorem hold_start (N : List Str) (v : V) (vs : List V) : Hold (L2.start N (v :: vs)) 1 vs ∧ (L2.start N (v :: vs))[0]? = some (some v) := by
  refine ⟨?_, rfl⟩
  have key : ∀ (pre : List (Option V)) (vs : List V) (m : Nat), Hold (pre ++ (vs.map some ++ List.replicate m none)) pre.length vs := by
    intro pre vs
    induction vs generalizing pre with
    | nil => intro m; exact True.intro
    | cons y ys ih =>
      intro m
      refine ⟨?_, ?_⟩
      · rw [List.getElem?_append_right (Nat.le_refl _), Nat.sub_self]; rfl
      · have := ih (pre ++ [some y]) m
        rw [List.append_assoc, List.length_append] at this
        exact this
  exact key [some v] vs (N.length - (v :: vs).length)
theorem init_call {ps : List Str} {B C : Addr} {fs : List Str} {z y : Str} {j : Nat} {p1 p2 p3 p4 p5 : Pos} (eN : X.N = N) (esc : X.env.scope = sc) (hm : X.mg (clsN 0) = some (.ref B)) (bo : BaseOk X.K B) (hline : (p2.endLine == p5.line) = true) (h1 : sc.names.lookup (clsN 0) = some .globalImplicit)
    (h2 : N[0]? = some y) (h3 : lclB sc y = true) : PE X (.Call (.Attribute (.Name (clsN 0) p1) "__init__" p2) [.Name y p3, .Constant (.str z) j p4] [] p5) (tVeI X.K (tCons (tVar 0) (tCons (tC (.str z)) tNil))) := by
  have g : Gl X (clsN 0) := by show X.env.scope.names.lookup _ = _; rw [esc]; exact h1
  have a : PA X [.Name y p3, .Constant (.str z) j p4] (tCons (tVar 0) (tCons (tC (.str z)) tNil)) := pa_cons (pe_loc eN esc h2 h3) (pa_cons pe_str pa_nil)
  have hc := mcall_of (o := .Name (clsN 0) p1) (m := ("__init__" : Str)) (apos := p2) (pos := p5) (args := [.Name y p3, .Constant (.str z) j p4]) (kws := []) (env := X.env) (by rfl) fun ov => mcall_line (by rfl) hline
  exact pe_beinit g hm bo.rd bo.ga bo.at_ a (by decide +kernel) hc (by rfl) (by rfl)
def tIn (K : PySem.W.Frag) (z : Str) (fs : List Str) : TS := tSeq (tDrop (tVeI K (tCons (tVar 0) (tCons (tC (.str z)) tNil)))) (tFs K 1 fs)
theorem init_run {fs : List Str} {B : Addr} (eN : X.N = N) (esc : X.env.scope = sc) (hm : X.mg (clsN 0) = some (.ref B)) (bo : BaseOk X.K B) : ∀ (body : List Stmt), chkIn sc N fs body = true → ∃ z, PSs X body (tIn X.K z fs)
  | [], hc => (Bool.false_ne_true hc).elim
  | s :: r, hc => by
    have hc : (okI sc N (getI s) && chkFs sc 1 N fs r) = true := hc
    rw [Bool.and_eq_true] at hc
    obtain ⟨hc, h4⟩ := hc
    cases e : getI s with
    | none => rw [e] at hc; exact (Bool.false_ne_true hc).elim
    | some t =>
      obtain ⟨x, m, y, b⟩ := t
      rw [e] at hc
      have hc : (b && decide (x = clsN 0) && decide (sc.names.lookup x = some .globalImplicit) && decide (m = ("__init__" : Str)) && decide (N[0]? = some y) && lclB sc y) = true := hc
      simp only [Bool.and_eq_true, decide_eq_true_eq] at hc
      obtain ⟨⟨⟨⟨⟨hb, rfl⟩, h1⟩, rfl⟩, h2⟩, h3⟩ := hc
      obtain ⟨p1, p2, p3, z, j, p4, p5, p6, rfl, hline⟩ := getI_some e
      exact ⟨z, pss_cons (ps_expr (init_call (ps := []) (C := B) (fs := []) eN esc hm bo (hline.trans hb) h1 h2 h3)) (fs_run eN esc fs 1 r h4)⟩
theorem init_does {K : PySem.W.Frag} {C a : Addr} {z : Str} {ys : List V} {H : Hp} {Q : VK} (T : OexC K C) : ∀ (fs : List Str), fs ≠ [] → fs.length ≤ 900 → (∀ f ∈ fs, PySem.W.findIn K (.ref C) f = some none) → ys.length = fs.length → H a = some (exo a C none) →
    (∀ dx, H dx = none → dx ≠ a → Q .non (upd (upd H dx (exd dx (fs.zip ys).reverse)) a (exo a C (some dx)))) → tIn K z fs { nx := fun _ H' => Q .non H', rt := Q } (L2.start N (.ref a :: ys)) H
  | [], hfs, _, _, _, _, _ => absurd rfl hfs
  | f1 :: fs, _, hlen, no, l, ha, q => by
    obtain ⟨hh, h0⟩ := hold_start N (.ref a) ys
    cases ys with
    | nil => simp at l
    | cons y1 ys =>
      have hlen : 1 + fs.length ≤ 900 := by rw [List.length_cons] at hlen; omega
      generalize L2.start N (.ref a :: y1 :: ys) = σ at hh h0 ⊢
      refine ⟨.ref a, h0, a, C, [.str z], rfl, (show 1 ≤ 1000 by decide), T, ha, ?_⟩
      refine ⟨y1, hh.1, .ref a, h0, a, C, rfl, T, no f1 (List.mem_cons_self ..), .inl ⟨ha, fun dx hdx ne => ?_⟩⟩
      refine fs_more T h0 ne fs ys 2 [(f1, y1)] _ hh.2 (by simpa using l) (fun g hg => no g (List.mem_cons_of_mem _ hg)) upd_same (by rw [upd_ne ne, upd_same]) hlen ?_
      have := q dx hdx ne
      rw [List.zip_cons_cons, List.reverse_cons] at this
      show Q .non _
      rw [upd_comm (Ne.symm ne), upd_upd]
      exact this
theorem init_ok {P : Program} {w : World} {K : PySem.W.Frag} {mg : Str → Option Value} {base : Heap} {B C f : Addr} {x qual : Str} {params : Arguments} {body : List Stmt} {fd : FuncData} {fs ps : List Str}
    (F : FunD K x qual params body sc [] [] f fd) (S : FnScope N ps sc) (hps : ps.length = fs.length + 1) (hfs : fs ≠ []) (hlen : fs.length ≤ 900) (hm : mg (clsN 0) = some (.ref B)) (bo : BaseOk K B) (T : OexC K C) (no : ∀ f ∈ fs, PySem.W.findIn K (.ref C) f = some none)
    (hc : chkIn sc N fs body = true) : FnOk P w K mg base (L2.CX P w) 1 f fd ps (spI K C fs) := by
  refine F.ok S (fun vs H Q E h => ?_) fun cdv A outer s H vs Q E hr h => ?_
  · obtain ⟨a, ys, rfl, l, _⟩ := h
    rw [List.length_cons, hps, l]
  · obtain ⟨a, ys, rfl, l, ha, q⟩ := h
    obtain ⟨z, hz⟩ := init_run (X := cxOf (L2.CX P w) P w K mg base N qual sc f cdv A outer s H E) rfl rfl hm bo body hc
    exact ⟨_, hz, init_does T fs hfs hlen no l ha q⟩
end
/-! ### raise -/
theorem zip_rev {α β : Type} : ∀ {a : List α} {b : List β}, a.length = b.length → (a.zip b).reverse = a.reverse.zip b.reverse
  | [], [], _ => rfl
  | [], _ :: _, h => by simp at h
  | _ :: _, [], h => by simp at h
  | x :: a, y :: b, h => by
    have h : a.length = b.length := by simpa using h
    rw [List.zip_cons_cons, List.reverse_cons, List.reverse_cons, List.reverse_cons, zip_rev h, List.zip_append (by rw [List.length_reverse, List.length_reverse, h])]; rfl
theorem rvs_rev {K : PySem.W.Frag} {H : Hp} {a : List W} {b : List V} (r : RVs K H a b) : RVs K H a.reverse b.reverse := r.rev
/-- what is known of the class numbered n -/
structure ClOk (P : Program) (w : World) (K : PySem.W.Frag) (mg : Str → Option Value) (base : Heap) (cl : Nat → Addr) (n : Nat) : Prop where
  gl : mg (clsN n) = some (.ref (cl n))
  oex : OexC K (cl n)
  xf : XfC K (cl n)
  exc : ExcC K (cl n)
  noat : ∀ f ∈ clsF n, PySem.W.findIn K (.ref (cl n)) f = some none
  init : clsF n ≠ [] → ∃ fI fd, PySem.W.findIn K (.ref (cl n)) "__init__" = some (some (.ref fI)) ∧ PySem.W.typeIn K (.ref fI) = some (.type "function") ∧ Binds K fd ("self" :: clsF n) [] ∧
    FnOk P w K mg base (L2.CX P w) 1 fI fd ("self" :: clsF n) (spI K (cl n) (clsF n))
section
variable {X : Cx} {c : Cst} {Wx : WX}
def mRse (n : Nat) (a : WEs) : WS := fun E ρ S => a ρ S (fun ws S1 => ws.length = (clsF n).length ∧ E.ex ρ ⟨n, (clsF n).reverse, ws.reverse⟩ S1) (E.ex ρ)
theorem clsF_few (n : Nat) : (clsF n).length ≤ 2 := by
  unfold clsF; split <;> decide
theorem s_rse {n : Nat} {e : Expr} {es : List Expr} {a : WEs} {p pos pos2 : Pos} (hK : c.K = X.K) (hcalm : X.calm = true) (tk : Takes X Wx) (hr : Room 2 X.A) (o : ClOk X.prog X.w X.K X.mg X.base c.cl n) (hn : clsF n ≠ []) (hin : n ∈ c.cls) (hg : Gl X (clsN n)) (hd : (clsN n == ("__debug__" : Str)) = false)
    (ha : PA X (e :: es) (tA c Wx a)) (he : starEach (e :: es) X.env = (false, eval e X.env) :: starEach es X.env) (hpl : (backTo pos (starEach es X.env)).any (·.1) = false) :
    PS X (.Raise (some (.Call (.Name (clsN n) p) (e :: es) [] pos)) none pos2) (tS c Wx (mRse n a)) := by
  obtain ⟨fI, fd, i1, i2, i3, i4⟩ := o.init hn
  refine PS.imp (ps_raise hcalm tk (pmk_oex (dvs := []) (ds := []) o.oex i1 i2 i4 hr i3 .nil passL hg o.gl ha hd he hpl)) fun D σ H q => ?_
  obtain ⟨E, ρ, S, re, rs, hm, rd⟩ := q
  refine ⟨ρ, S, _, _, re, rs, hm, fun ws S1 H1 vs k1 e1 rs1 rv => ?_, rd.ex re rs⟩
  obtain ⟨hl, k1⟩ := k1
  have lv := rv.length
  have few := clsF_few n
  refine ⟨by omega, fun a na => ?_⟩
  rw [List.append_nil]
  refine ⟨a, vs, rfl, by omega, upd_same, fun dx hdx ne => ⟨rfl, dx, ((clsF n).zip vs).reverse, upd_same, by rw [upd_ne ne, upd_same], by rw [upd_ne ne] at hdx; exact hdx, ?_⟩⟩
  have h1 : H1 dx = none := by rw [upd_ne ne] at hdx; exact hdx
  have eH : upd (del (upd (upd (upd H1 a (exo a (c.cl n) none)) dx (exd dx ((clsF n).zip vs).reverse)) a (exo a (c.cl n) (some dx))) a) dx (.xd ((clsF n).zip vs).reverse) = upd H1 dx (.xd ((clsF n).zip vs).reverse) := by
    funext b
    by_cases hb : b = dx
    · subst hb; rw [upd_same, upd_same]
    · rw [upd_ne hb, upd_ne hb]
      by_cases ha : b = a
      · subst ha; rw [del_same, na]
      · rw [del_ne ha, upd_ne ha, upd_ne hb, upd_ne ha]
  rw [eH]
  have e2 : Ext H S (upd H1 dx (.xd ((clsF n).zip vs).reverse)) S1 := e1.trans (.tup h1)
  exact rd.exn ρ S1 σ _ ⟨n, (clsF n).reverse, ws.reverse⟩ _ _ k1 e2 (re.tst (e2.tst rs)) (rs1.tup h1) ⟨rfl, hin, dx, vs.reverse, rfl, by rw [upd_same, zip_rev (by omega)], (rv.tst (tst_upd_new h1)).rev⟩
end
end Dp
/-! suites of except clauses: isinstance of the exception, its fields; try -/
namespace Dp
open PySem PySem.Spec L2
open PyProof.Rows hiding St
section
open PySem.W PySem.Calls
variable {prog : Program} {w : World} {A : Around} {E : Value → Shared → Prop} {s : Shared} {K : Frag} {x D : Addr} {ox : Obj} {od : Option Obj}
theorem findObj_dataD {C : Addr} {name : Str} {a g : Value} (hc : (clsIn K C).isSome = true) (ha : findIn K (.ref C) name = some (some a)) (hg : specialIn K a "__get__" = some (some g)) (ht : takesIn K a = some true) : findObj K C od name = some (.bind g a) := by
  obtain ⟨cd, hc⟩ := Option.isSome_iff_exists.mp hc
  unfold findObj
  rw [hc, Option.bind_some, ha, Option.bind_some]
  simp [hg, ht]
/-- e.__class__ of an exception with a dict (the library's rule for one without, widened) -/
theorem kin_classD {Q : Option Value → Shared → Prop} (T : ExcC K D) (X : K.In s.heap) (I : InstAt s.heap x ox D od) (h : Q (some (.ref D)) { s with toks := s.toks + 1 }) : wpAny (model prog w) A (getAttr? (.ref x) "__class__") Q E s := by
  have hf : findObj K D od "__class__" = some (.bind (.builtin "getset_descriptor.__get__") (.builtin "object.__class__")) := findObj_dataD (by obtain ⟨cd, hc, _⟩ := any_some T.hd; rw [hc]; rfl) T.ha T.hn T.ht
  obtain ⟨hp, g, d, t, os⟩ := s
  have L0 := I.type (M := model prog w)
  have L1 := looks_findIn (M := model prog w) X T.hg
  have L2 := looks_findIn (M := model prog w) X T.hk
  have L3 := looks_find (M := model prog w) X I hf
  have sub : Looks (model prog w) hp (isInstance (.ref x) (.type "BaseException")) true := L0.andThen (looks_subIn X T.hs)
  have hx0 : (false && onTheHeap (Value.builtin "BaseException.__getattribute__")) = false := rfl
  have hx2 : (Value.builtin "BaseException.__getattribute__" == Value.builtin "object.__getattribute__") = false := by decide +kernel
  have hx1 : (onTheHeap (Value.ref D) && Value.builtin "BaseException.__getattribute__" == Value.builtin "object.__getattribute__") = false := by rw [hx2]; rfl
  unfold getAttr? getAttrBy? getAttrBy
  refine wpAny_bind (wpAny_mkText (wpAny_bind (wpAny_attempt (wpAny_holding (wpAny_bind (L0.at (wpAny_bind (L1.at ?_))))))))
  show wpAny _ _ (if (onTheHeap (Value.ref D) && Value.builtin "BaseException.__getattribute__" == Value.builtin "object.__getattribute__") = true then _ else _) _ _ _
  rw [hx1, if_neg Bool.false_ne_true]
  unfold getAttrByItsOwn hookBefore
  refine wpAny_bind ?_
  rw [if_pos (show onTheHeap (Value.ref D) = true from rfl)]
  refine L2.at ?_
  refine wpAny_bind (wpAny_attempt (wpAny_holding ?_))
  unfold callGetattribute
  rw [hx0, if_neg Bool.false_ne_true]
  unfold boundAndCalled
  rw [PySem.F.excAttr_ValueError.ga.bind (.ref x)]
  refine wpAny_bind (wpAny_pure ?_)
  show wpAny _ _ (call (.builtin "BaseException.__getattribute__") [.ref x, .str "__class__" t]) _ _ _
  refine wpAny_call (codeAny_call_builtin PySem.F.excAttr_ValueError.ga.plain PySem.F.entry_bexc_ga ?_)
  refine @check_slot (model prog w) _ _ ⟨hp, g, d, t + 1, os⟩ "BaseException.__getattribute__" "BaseException" "__getattribute__" (.ref x) [.str "__class__" t] [] _ (by decide +kernel) (by decide +kernel) sub (PySem.F.args_bexc_ga (.ref x) (.str "__class__" t)) ?_
  unfold Builtin.«object.__getattribute__»
  refine wpAny_bind (wpAny_of_eq (a := ((Value.ref x : Value), [Value.str "__class__" t])) (by first | rfl | (simp only [slotArgs]; rfl)) ?_)
  refine wpAny_bind (wpAny_pure (wpAny_bind (L0.at (wpAny_bind (L3.at ?_)))))
  show wpAny _ _ (holding [Value.builtin "object.__class__"] (call (.builtin "getset_descriptor.__get__") [.builtin "object.__class__", .ref x, .ref D]) >>= ret) _ _ _
  refine wpAny_bind (wpAny_holding (wpAny_call (class_get (s := ⟨hp, g, d, t + 1, os⟩) (ox := ox) (od := od) X I T.hm ?_)))
  refine wpAny_pure ?_
  show wpAny _ _ (handedOut (.ref D)) _ _ _
  rw [handedOut_of (v := .ref D) rfl]
  first
    | exact wpAny_pure (wpAny_pure h)
    | exact wpAny_pure h
    | exact wpAny_pure (wpAny_bind (wpAny_pure (wpAny_pure h)))
theorem kitx_excD (T : ExcC K D) : KitX K (.ref x) (.ref D) (fun h => InstAt h x ox D od) where
  ty := fun _ _ _ I => I.type
  it := fun _ _ X _ => by
    obtain ⟨cdD, hcD, _⟩ := any_some T.hd
    unfold clsIn at hcD
    split at hcD
    · rename_i c' d' cd' sl' ho
      intro A' Q' E' s' k q
      unfold isType loadHead
      exact wpAny_bind (wpAny_loadPart (k _ _ (X _ _ ho)) (wpAny_pure q))
    · cases hcD
  ne := fun h tp dd its n sl X htp => by
    obtain ⟨cdD, hcD, _⟩ := any_some T.hd
    refine Bool.eq_false_iff.mpr fun q => ?_
    have e : D = tp := Value.ref.inj (beq_iff_eq.mp q)
    subst e
    unfold clsIn at hcD
    split at hcD
    · rename_i c' d' cd' sl' ho
      have z := (X _ _ ho).symm.trans htp
      cases z
    · cases hcD
  ca := fun X I k => kin_classD T X I k
end
/-- isinstance(e, c) | isinstance(e, (c, ..)), e the exception that the suite holds -/
def rIsX (K : PySem.W.Frag) (D a dd : Addr) : List V → Hp → VK → Prop := fun xs H Q => ∃ fs b, H dd = some (.xd fs) ∧
  ((∃ c cv, xs = [.ref a, c] ∧ ClsV c cv ∧ PySem.W.kitOne K (.ref D) cv = some b) ∨ ∃ (tp : Addr) (cs : List Addr), xs = [.ref a, .ref tp] ∧ TqN K H tp (cs.map V.ref) ∧ PySem.W.kitAny K (.ref D) (cs.map Value.ref) = some b) ∧ Q (.bl b) H
theorem refs_eq : ∀ {cs : List Addr} {us : List Value}, Vals (cs.map V.ref) us → us = cs.map Value.ref
  | [], _, .nil => rfl
  | c :: cs, _, .cons r t => by rw [refs_eq t]; cases (show _ = Value.ref c from r); rfl
theorem call_isX {X : Cx} {a D dd : Addr} {oe : Obj} {pn : List (Addr × Obj)} (T : ExcC X.K D) (hz : Zc (.ref D) (some dd) oe) (hf : ∃ vs, oe.data = .fields vs) : CallR (X.suite a ((a, oe) :: pn)) (.builtin "isinstance") (rIsX X.K D a dd) := by
  intro pins s σ H xs us Q I r h
  obtain ⟨fs, b, hd, h, q⟩ := h
  obtain ⟨ha, _⟩ := I.pin (a, oe) (List.mem_append.mpr (.inl List.mem_cons_self))
  obtain ⟨vs, hv⟩ := hf
  have hx : ObjOk X.prog X.w H s.heap dd (.xd fs) := I.hok dd _ hd
  obtain ⟨mA, hns, hr⟩ := hx
  obtain ⟨od, ho, _⟩ := lookIn_ns hns
  have J : PySem.W.InstAt s.heap a oe D (some od) := ⟨ha, hz.1, by unfold PySem.W.notCls; rw [hv] <;> rfl, by rw [hz.2]; exact ho⟩
  rcases h with ⟨c, cv, rfl, hc, e⟩ | ⟨tp, cs, rfl, ht, e⟩
  · cases r with
    | cons rx rr =>
      cases rr with
      | cons rt rr =>
        cases rr
        cases rx
        have ec := hc.eq rt
        subst ec
        exact PySem.W.kia_one (kitx_excD T) I.kIn J e (fun z => nomatch z) fun tk => ⟨.bl b, H, I.kept (t' := tk) fun _ _ z => z, rfl, q⟩
  · cases r with
    | cons rx rr =>
      cases rr with
      | cons rt rr =>
        cases rr
        cases rx
        cases rt
        have key : ∃ dd its n sl, s.heap.get? tp = some ⟨.type "tuple", dd, .seq its.toArray n, sl⟩ ∧ Vals (cs.map V.ref) its := by
          rcases ht with ⟨o, ht, hc, hn⟩ | ⟨o, its, n, hk, hc, hn, hd2, _, hv2⟩
          · have z := (show ObjOk X.prog X.w H s.heap tp (.frz o (.tup (cs.map V.ref))) from I.hok tp _ ht)
            obtain ⟨g1, _, us, rv, o2, h1, h2, n, h3⟩ := z
            rw [g1] at h1
            cases h1
            obtain ⟨oc, od2, oda, osl⟩ := o
            dsimp only at h2 h3
            subst h2 h3
            exact ⟨_, _, _, _, g1, rv⟩
          · have h1 := I.kIn _ _ hk
            obtain ⟨oc, od2, oda, osl⟩ := o
            dsimp only at hc hd2
            subst hc hd2
            exact ⟨_, its.toList, n, osl, by simpa using h1, hv2⟩
        obtain ⟨d2, its, n, sl, h1, h2⟩ := key
        rw [refs_eq h2] at h1
        exact PySem.W.kia_tup (kitx_excD T) I.kIn J h1 e (fun z => nomatch z) fun tk => ⟨.bl b, H, I.kept (t' := tk) fun _ _ z => z, rfl, q⟩
/-! ### where one stands: names by slots -/
structure Sx where
  N : List Str
  sc : Scope
  fn : Str → Bool
  fns : List Str
  gls : List Str
  cls : List Nat
def Sx.glob (s : Sx) (x : Str) : Bool := decide (s.sc.names.lookup x = some .globalImplicit) && !(x == ("__debug__" : Str))
def Sx.vis (s : Sx) (i : Nat) (x : Str) : Bool := decide (s.N[i]? = some x) && (decide (s.sc.names.lookup x = some .local) || decide (s.sc.names.lookup x = some .cell) || decide (s.sc.names.lookup x = some .free)) && !(x == ("__debug__" : Str)) && !(x == ("__classdict__" : Str))
def Sx.loc (s : Sx) (i : Nat) (x : Str) : Bool := decide (s.N[i]? = some x) && (decide (s.sc.names.lookup x = some .local) || (decide (s.sc.names.lookup x = some .cell) && s.fn x))
/-! ### the syntax of suites -/
inductive SE where
  | var (i : Nat)
  | cst (k : Const)
  | fld (i : Nat) (f : Str)
  | isx (i j : Nat)
  | isv (i : Nat)
  | ist (i : Nat) (js : List Nat)
  | tup0
  | tup1 (a : SE)
  | tup2 (a b : SE)
  | tup3 (a b d : SE)
  | not (a : SE)
  | and (a b : SE)
  | eq (a b : SE)
  | ite (t a b : SE)
inductive SS where
  | asg (i : Nat) (a : SE)
  | ret (a : SE)
  | ite (t : SE) (b : List SS)
  | app (i : Nat) (a : SE)
/-! ### what it means: w0 the exception that the suite holds -/
def cWs : Const → W
  | .bool b => .bl b
  | .int i => .int i
  | .str x => .str x
  | _ => .non
def mFld (w0 : W) (i : Nat) (f : Str) : WE := fun ρ S Kk _ => rget ρ i = some w0 ∧ match w0 with
  | .xc _ _ _ ns ws => ∃ w, (ns.zip ws).lookup f = some w ∧ Kk w S
  | _ => False
def mIsx (w0 : W) (i : Nat) (js : List Nat) : WE := fun ρ S Kk _ => rget ρ i = some w0 ∧ match w0 with
  | .xc _ n _ _ _ => Kk (.bl (js.any fun j => subC n j)) S
  | _ => False
def mIsv (w0 : W) (i : Nat) : WE := fun ρ S Kk _ => rget ρ i = some w0 ∧ Kk (.bl true) S
mutual
def dSE (w0 : W) : SE → WE
  | .var i => mVar i
  | .cst k => mCst (cWs k)
  | .fld i f => mFld w0 i f
  | .isx i j => mIsx w0 i [j]
  | .isv i => mIsv w0 i
  | .ist i js => mIsx w0 i js
  | .tup0 => mTup mNil
  | .tup1 a => mTup (mCons (dSE w0 a) mNil)
  | .tup2 a b => mTup (mCons (dSE w0 a) (mCons (dSE w0 b) mNil))
  | .tup3 a b d => mTup (mCons (dSE w0 a) (mCons (dSE w0 b) (mCons (dSE w0 d) mNil)))
  | .not a => mNot (dSE w0 a)
  | .and a b => mAnd (dSE w0 a) (dSE w0 b)
  | .eq a b => mCmp cEq (dSE w0 a) (dSE w0 b)
  | .ite t a b => mIf (dST w0 t) (dSE w0 a) (dSE w0 b)
def dST (w0 : W) : SE → WT
  | .not a => mNotT (dST w0 a)
  | .and a b => mAndT (dST w0 a) (dST w0 b)
  | .eq a b => mCmpT cEq (dSE w0 a) (dSE w0 b)
  | .isx i j => mTru (mIsx w0 i [j])
  | .isv i => mTru (mIsv w0 i)
  | .ist i js => mTru (mIsx w0 i js)
  | .var i => mTru (mVar i)
  | _ => fun _ _ _ _ => False
end
mutual
def dSu (w0 : W) : SS → WS
  | .asg i a => mAsg (.nm i) (dSE w0 a)
  | .ret a => mRet (dSE w0 a)
  | .ite t b => mIte (dST w0 t) (dSus w0 b) mSkip
  | .app i a => mExp (mMth [⟨"list", fAppend⟩] (mVar i) (mCons (dSE w0 a) mNil))
def dSus (w0 : W) : List SS → WS
  | [] => mSkip
  | a :: r => mThen (dSu w0 a) (dSus w0 r)
end
def clr (i : Option Nat) (ρ : Ro) : Ro := match i with
  | some i => rset ρ i none
  | none => ρ
def stw (i : Option Nat) (w : W) (ρ : Ro) : Ro := match i with
  | some i => rset ρ i (some w)
  | none => ρ
def Ew.suite (E : Ew) (i : Option Nat) : Ew := ⟨fun ρ S => E.nx (clr i ρ) S, E.rt, fun ρ S => E.bk (clr i ρ) S, fun ρ S => E.ct (clr i ρ) S, fun _ _ _ => False⟩
def mHdl (k : Nat) (i : Option Nat) (h : List SS) (E : Ew) (ρ : Ro) (x : Xn) (S : Sto) : Prop :=
  if subC x.cls k = true then ∀ a d, dSus (.xc a x.cls d x.ns x.ws) h (E.suite i) (stw i (.xc a x.cls d x.ns x.ws) ρ) S else E.ex ρ x S
/-- except C_k as i: h | except C_k: h -/
def mTry (k : Nat) (i : Option Nat) (b : WS) (h : List SS) : WS := fun E ρ S => b { E with ex := mHdl k i h E } ρ S
/-! ### whether it is the given syntax -/
def getIs : Expr → Option (Str × Expr × Expr)
  | .Call (.Name x _) [e, y] [] _ => some (x, e, y)
  | _ => none
theorem getIs_some {e a b : Expr} {x : Str} (h : getIs e = some (x, a, b)) : ∃ p pos, e = .Call (.Name x p) [a, b] [] pos := by
  unfold getIs at h
  split at h
  · cases h; exact ⟨_, _, rfl⟩
  · cases h
def namesOf : List Expr → Option (List Str)
  | [] => some []
  | .Name x _ :: r => (namesOf r).map (x :: ·)
  | _ :: _ => none
def clsAt (s : Sx) (j : Nat) (x : Str) : Bool := decide (x = clsN j) && decide (j ∈ s.cls) && s.glob x
def isNm (s : Sx) (i : Nat) : Expr → Bool
  | .Name x _ => s.vis i x
  | _ => false
def isCl (s : Sx) (j : Nat) : Expr → Bool
  | .Name x _ => clsAt s j x
  | _ => false
def isVe (s : Sx) : Expr → Bool
  | .Name x _ => decide (x = ("ValueError" : Str)) && s.glob x
  | _ => false
def allCl (s : Sx) : List Nat → List Expr → Bool
  | [], [] => true
  | j :: js, e :: es => isCl s j e && allCl s js es
  | _, _ => false
def isTl (s : Sx) (js : List Nat) : Expr → Bool
  | .Tuple es _ _ => decide (js.length ≤ 20) && allCl s js es
  | _ => false
def isI (s : Sx) (i : Nat) (c : Expr → Bool) : Option (Str × Expr × Expr) → Bool
  | some (x, e, y) => decide (x = ("isinstance" : Str)) && s.glob x && isNm s i e && c y
  | none => false
def noStar : Expr → Bool
  | .Starred .. => false
  | _ => true
def noLc : Expr → Bool
  | .ListComp .. => false
  | .SetComp .. => false
  | .DictComp .. => false
  | _ => true
def cOk : Const → Bool
  | .none => true | .bool _ => true | .int _ => true | .str _ => true
  | _ => false
def chkSE : SE → Sx → Expr → Bool
  | .var i, s, e => isNm s i e
  | .cst k, _, .Constant k' _ _ => decide (k = k') && cOk k
  | .fld i f, s, .Attribute (.Name x _) g _ => s.vis i x && decide (g = f) && decide (f ∈ (["word", "number", "ring", "row"] : List Str))
  | .isx i j, s, e => isI s i (isCl s j) (getIs e)
  | .isv i, s, e => isI s i (isVe s) (getIs e)
  | .ist i js, s, e => isI s i (isTl s js) (getIs e)
  | .tup0, _, .Tuple [] _ _ => true
  | .tup1 a, s, .Tuple [e] _ _ => noStar e && chkSE a s e
  | .tup2 a b, s, .Tuple [e, f] _ _ => noStar e && chkSE a s e && noStar f && chkSE b s f
  | .tup3 a b d, s, .Tuple [e, f, g] _ _ => noStar e && chkSE a s e && noStar f && chkSE b s f && noStar g && chkSE d s g
  | .not a, s, .UnaryOp .Not e _ => chkSE a s e
  | .and a b, s, .BoolOp .And (e1 :: e2 :: rest) pos => chkSE a s e1 && chkSE b s (match rest with | [] => e2 | _ => .BoolOp .And (e2 :: rest) pos)
  | .eq a b, s, .Compare l [.Eq] [r] _ => !behindInMarks .Eq r && chkSE a s l && chkSE b s r
  | .ite t a b, s, .IfExp e1 e2 e3 _ => chkSE t s e1 && chkSE a s e2 && chkSE b s e3
  | _, _, _ => false
mutual
def chkSu : SS → Sx → Stmt → Bool
  | .asg i a, s, .Assign [.Name x _] v _ => s.loc i x && noLc v && chkSE a s v
  | .ret a, s, .Return (some e) _ => chkSE a s e
  | .ite t b, s, .If e p [] _ => chkSE t s e && chkSus b s p
  | .app i a, s, .Expr (.Call (.Attribute e f apos) [e1] [] pos) _ => decide (f = ("append" : Str)) && (apos.endLine == pos.line) && isNm s i e && noStar e1 && chkSE a s e1
  | _, _, _ => false
def chkSus : List SS → Sx → List Stmt → Bool
  | [], _, [] => true
  | a :: r, s, st :: rest => chkSu a s st && chkSus r s rest
  | _, _, _ => false
end
end Dp
/-! suites, try: the rules -/
namespace Dp
open PySem PySem.Spec L2
open PyProof.Rows hiding St

def fldN : List Str := ["word", "number", "ring", "row"]
/-- what is known between the classes -/
structure BetOk (K : PySem.W.Frag) (cl : Nat → Addr) (cls : List Nat) : Prop where
  exm : ∀ i ∈ cls, ∀ j ∈ cls, PySem.W.exmOne K (.ref (cl i)) (.ref (cl j)) = some (subC i j)
  kit : ∀ i ∈ cls, ∀ j ∈ cls, PySem.W.kitOne K (.ref (cl i)) (.ref (cl j)) = some (subC i j)
  kitV : ∀ i ∈ cls, PySem.W.kitOne K (.ref (cl i)) (.type "ValueError") = some true
  noat : ∀ i ∈ cls, ∀ f ∈ fldN, PySem.W.findIn K (.ref (cl i)) f = some none
/-- where a suite stands -/
structure Oks (c : Cst) (X : Cx) (s : Sx) : Prop where
  hK : c.K = X.K
  nd : X.N.Nodup
  eN : X.N = s.N
  esc : X.env.scope = s.sc
  efn : X.fn = s.fn
  ecl : c.cls = s.cls
  un : X.A.units + 65 < cLine
  isi : X.mg "isinstance" = none
  vE : X.mg "ValueError" = none
  gl : ∀ n ∈ s.cls, X.mg (clsN n) = some (.ref (c.cl n))
  xf : ∀ n ∈ s.cls, XfC X.K (c.cl n)
  exc : ∀ n ∈ s.cls, ExcC X.K (c.cl n)
  bet : BetOk X.K c.cl s.cls
section
variable {c : Cst} {X : Cx} {s : Sx}
theorem Oks.visi (o : Oks c X s) {i : Nat} {x : Str} (h : s.vis i x = true) : X.N[i]? = some x ∧ Vis X.env.scope x ∧ (x == ("__debug__" : Str)) = false ∧ (x == ("__classdict__" : Str)) = false := by
  unfold Sx.vis at h
  simp only [Bool.and_eq_true, Bool.or_eq_true, decide_eq_true_eq, Bool.not_eq_true'] at h
  obtain ⟨⟨⟨h1, h2⟩, h3⟩, h4⟩ := h
  refine ⟨by rw [o.eN]; exact h1, ?_, h3, h4⟩
  rw [o.esc]
  rcases h2 with (h | h) | h
  · exact .inl h
  · exact .inr (.inl h)
  · exact .inr (.inr h)
theorem Oks.loca (o : Oks c X s) {i : Nat} {x : Str} (h : s.loc i x = true) : X.N[i]? = some x ∧ Loc X.env.scope x ∧ (X.fn x = true ∨ X.env.scope.names.lookup x = some .local) := by
  unfold Sx.loc at h
  simp only [Bool.and_eq_true, Bool.or_eq_true, decide_eq_true_eq] at h
  obtain ⟨h1, h2⟩ := h
  refine ⟨by rw [o.eN]; exact h1, ?_, ?_⟩
  · rw [o.esc]
    rcases h2 with h | h
    · exact .inl h
    · exact .inr h.1
  · rcases h2 with h | h
    · exact .inr (by rw [o.esc]; exact h)
    · exact .inl (by rw [o.efn]; exact h.2)
theorem Oks.gl1 (o : Oks c X s) {x : Str} (h : s.glob x = true) : Gl X x ∧ (x == ("__debug__" : Str)) = false := by
  unfold Sx.glob at h
  rw [Bool.and_eq_true] at h
  refine ⟨?_, by simpa using h.2⟩
  show X.env.scope.names.lookup x = _
  rw [o.esc]
  exact of_decide_eq_true h.1
theorem nm_pe (o : Oks c X s) {i : Nat} {e : Expr} (h : isNm s i e = true) : PE X e (tVar i) ∧ noStar e = true := by
  cases e with
  | Name x p =>
    obtain ⟨h1, h2, h3, h4⟩ := o.visi (show s.vis i x = true from h)
    exact ⟨pe_var h1 h2 h3 h4, rfl⟩
  | _ => exact (Bool.false_ne_true h).elim
theorem cl_pe (o : Oks c X s) {j : Nat} {e : Expr} (h : isCl s j e = true) : PE X e (tC (.ref (c.cl j))) ∧ j ∈ s.cls ∧ noStar e = true := by
  cases e with
  | Name x p =>
    have h : (decide (x = clsN j) && decide (j ∈ s.cls) && s.glob x) = true := h
    simp only [Bool.and_eq_true, decide_eq_true_eq] at h
    obtain ⟨⟨rfl, h1⟩, h2⟩ := h
    exact ⟨pe_glob (o.gl1 h2).1 (o.gl j h1) rfl (o.gl1 h2).2, h1, rfl⟩
  | _ => exact (Bool.false_ne_true h).elim
theorem star1 {e : Expr} {es : List Expr} (h : noStar e = true) (env : Env) : starEach (e :: es) env = (false, eval e env) :: starEach es env := by
  cases e <;> first | rfl | (simp [noStar] at h)
def tVs : List V → TA
  | [] => tNil
  | v :: vs => tCons (tC v) (tVs vs)
theorem tVs_ok : ∀ {vs : List V} {σ : L2.St} {H : Hp} {Q : List V → Hp → Prop}, Q vs H → tVs vs σ H Q
  | [], _, _, _, q => q
  | v :: vs, σ, H, Q, q => tVs_ok (vs := vs) q
theorem cls_pa (o : Oks c X s) : ∀ {js : List Nat} {es : List Expr}, allCl s js es = true → PA X es (tVs (js.map fun j => .ref (c.cl j))) ∧ ∀ j ∈ js, j ∈ s.cls
  | [], [], _ => ⟨pa_nil, fun _ h => by cases h⟩
  | [], _ :: _, h => (Bool.false_ne_true h).elim
  | _ :: _, [], h => (Bool.false_ne_true h).elim
  | j :: js, e :: es, h => by
    have h : (isCl s j e && allCl s js es) = true := h
    rw [Bool.and_eq_true] at h
    obtain ⟨h1, h2, h3⟩ := cl_pe o h.1
    obtain ⟨h4, h5⟩ := cls_pa o h.2
    exact ⟨pa_cons h1 h4 (star1 h3 _), fun z hz => by rcases List.mem_cons.mp hz with rfl | hz; exact h2; exact h5 z hz⟩
theorem kit_any {K : PySem.W.Frag} {cl : Nat → Addr} {n : Nat} : ∀ {js : List Nat}, (∀ j ∈ js, PySem.W.kitOne K (.ref (cl n)) (.ref (cl j)) = some (subC n j)) → PySem.W.kitAny K (.ref (cl n)) (js.map fun j => .ref (cl j)) = some (js.any fun j => subC n j)
  | [], _ => rfl
  | j :: js, h => by
    have h1 := h j (List.mem_cons_self ..)
    have h2 := kit_any (js := js) fun x hx => h x (List.mem_cons_of_mem _ hx)
    rw [List.map_cons, List.any_cons]
    unfold PySem.W.kitAny
    rw [h1]
    cases subC n j with
    | true => rfl
    | false => exact h2
/-- the exception that the suite holds -/
structure Hld (c : Cst) (X : Cx) (s : Sx) (a : Addr) (n : Nat) (d : Addr) (oe : Obj) (pn : List (Addr × Obj)) : Prop where
  o : Oks c X s
  os : Oks c (X.suite a ((a, oe) :: pn)) s
  hin : n ∈ s.cls
  hz : Zc (.ref (c.cl n)) (some d) oe
  hf : ∃ vs, oe.data = .fields vs
abbrev W0 : WX := fun _ _ _ _ => False
variable {a d : Addr} {n : Nat} {oe : Obj} {pn : List (Addr × Obj)} {ns : List Str} {ws : List W}
theorem xc_at {H : Hp} {ρ : Ro} {σ : L2.St} {i : Nat} (re : RE c.K H ρ σ) (h : rget ρ i = some (.xc a n d ns ws)) : ∃ vs, σ[i]? = some (some (.ref a)) ∧ H d = some (.xd (ns.zip vs)) ∧ RVs c.K H ws vs := by
  obtain ⟨v, hv, rv⟩ := re.2 i _ h
  cases rv with | xc hd r => exact ⟨_, hv, hd, r⟩
theorem lookup_rvs {K : PySem.W.Frag} {H : Hp} {f : Str} {w : W} : ∀ {ns : List Str} {ws : List W} {vs : List V}, RVs K H ws vs → (ns.zip ws).lookup f = some w → ∃ v, (ns.zip vs).lookup f = some v ∧ RV K H w v
  | [], _, _, _, h => by simp at h
  | m :: ns, [], _, _, h => by simp at h
  | m :: ns, w' :: ws, _, .cons (v := v) r t, h => by
    rw [List.zip_cons_cons, lookup_put'] at h
    rw [List.zip_cons_cons, lookup_put']
    by_cases e : f = m
    · rw [if_pos e] at h ⊢
      cases h
      exact ⟨v, rfl, r⟩
    · rw [if_neg e] at h ⊢
      exact lookup_rvs t h
where
  lookup_put' {α : Type} {f g : Str} {y : α} {fs : List (Str × α)} : ((g, y) :: fs).lookup f = if f = g then some y else fs.lookup f := by
    by_cases h : f = g
    · subst h; simp [List.lookup]
    · have e : (f == g) = false := by simpa using h
      rw [if_neg h]; simp [List.lookup, e]
theorem s_fld {i : Nat} {x f : Str} {p pos : Pos} (h : Hld c X s a n d oe pn) (hv : s.vis i x = true) (hf : f ∈ fldN) : PE (X.suite a ((a, oe) :: pn)) (.Attribute (.Name x p) f pos) (tE c W0 (mFld (.xc a n d ns ws) i f)) := by
  obtain ⟨h1, h2, h3, h4⟩ := h.os.visi hv
  refine PE.imp (pe_xf (h.o.xf n h.hin) (h.o.bet.noat n h.hin f hf) h.hz h.hf (pe_var h1 h2 h3 h4) (by rfl)) fun σ H Q q => ?_
  obtain ⟨ρ, S, Kk, Ek, re, rs, ⟨hm1, w, hm2, hm3⟩, po, px⟩ := q
  obtain ⟨vs, g1, g2, g3⟩ := xc_at re hm1
  obtain ⟨v, l, rv⟩ := lookup_rvs g3 hm2
  exact ⟨.ref a, g1, rfl, rfl, d, _, v, rfl, g2, l, po w S H v hm3 .refl rs rv⟩
theorem is_gl (h : Hld c X s a n d oe pn) (hg : s.glob "isinstance" = true) {t : TA} {e y : Expr} {p pos : Pos} (ha : PA (X.suite a ((a, oe) :: pn)) [e, y] t) (he : noStar e = true) (hy : noStar y = true) :
    PE (X.suite a ((a, oe) :: pn)) (.Call (.Name "isinstance" p) [e, y] [] pos) (tCB (rIsX X.K (c.cl n) a d) t) :=
  pe_callB (call_isX (h.o.exc n h.hin) h.hz h.hf) (h.os.gl1 hg).1 h.os.isi (by decide +kernel) ha (by decide +kernel) (h.os.gl1 hg).2 (star1 he _) (by
    show ((backTo pos (starEach [y] _)).any (·.1)) = false
    rw [star1 hy]; rfl)
theorem s_isx {i : Nat} {js : List Nat} {y e : Expr} {v : V} {p pos : Pos} (h : Hld c X s a n d oe pn) (hg : s.glob "isinstance" = true) (he : isNm s i e = true) (hy : PE (X.suite a ((a, oe) :: pn)) y (tC v)) (sy : noStar y = true) {cv : Value} (hcv : ClsV v cv) {b : Bool} (k : PySem.W.kitOne X.K (.ref (c.cl n)) cv = some b)
    (m : WE) (hm : ∀ ρ S Kk Ek, m ρ S Kk Ek → rget ρ i = some (.xc a n d ns ws) ∧ Kk (.bl b) S) : PE (X.suite a ((a, oe) :: pn)) (.Call (.Name "isinstance" p) [e, y] [] pos) (tE c W0 m) := by
  obtain ⟨e1, e2⟩ := nm_pe h.os he
  refine PE.imp (is_gl h hg (pa_cons e1 (pa_cons hy pa_nil (star1 sy _)) (star1 e2 _)) e2 sy) fun σ H Q q => ?_
  obtain ⟨ρ, S, Kk, Ek, re, rs, q, po, px⟩ := q
  obtain ⟨hm1, hm2⟩ := hm _ _ _ _ q
  obtain ⟨vs, g1, g2, g3⟩ := xc_at re hm1
  exact ⟨.ref a, g1, _, b, g2, .inl ⟨v, cv, rfl, hcv, k⟩, po _ S H _ hm2 .refl rs (.bl _)⟩
theorem s_ist {i : Nat} {js : List Nat} {e : Expr} {es : List Expr} {kt : _} {p pos p2 : Pos} (h : Hld c X s a n d oe pn) (hg : s.glob "isinstance" = true) (he : isNm s i e = true) (hj : js.length ≤ 20) (hl : allCl s js es = true) :
    PE (X.suite a ((a, oe) :: pn)) (.Call (.Name "isinstance" p) [e, .Tuple es kt p2] [] pos) (tE c W0 (mIsx (.xc a n d ns ws) i js)) := by
  obtain ⟨e1, e2⟩ := nm_pe h.os he
  obtain ⟨t1, t2⟩ := cls_pa h.os hl
  refine PE.imp (is_gl h hg (pa_cons e1 (pa_cons (pe_tupN t1) pa_nil (star1 rfl _)) (star1 e2 _)) e2 rfl) fun σ H Q q => ?_
  obtain ⟨ρ, S, Kk, Ek, re, rs, ⟨hm1, hm2⟩, po, px⟩ := q
  obtain ⟨vs, g1, g2, g3⟩ := xc_at re hm1
  refine ⟨.ref a, g1, tVs_ok ⟨?_, fun q o hq hc hd => ?_⟩⟩
  · rw [List.length_map]; exact Nat.le_trans hj (by decide)
  · have ne : d ≠ q := fun z => by rw [z, hq] at g2; cases g2
    refine ⟨_, js.any fun j => subC n j, by rw [upd_ne ne]; exact g2, .inr ⟨q, js.map c.cl, rfl, ?_, ?_⟩, po _ S _ _ hm2 (.tup hq) (rs.tup hq) (.bl _)⟩
    · have e : (js.map c.cl).map V.ref = js.map fun j => V.ref (c.cl j) := by rw [List.map_map]; rfl
      rw [e]; exact .inl ⟨o, upd_same, hc, hd⟩
    · have e : (js.map c.cl).map Value.ref = js.map fun j => Value.ref (c.cl j) := by rw [List.map_map]; rfl
      rw [e]; exact kit_any fun j hj => h.o.bet.kit n h.hin j (t2 j hj)
theorem pwOf {Y : Cx} {op : BoolOp} {es : List Expr} {pos : Pos} {t : TT} (h : PT Y (.BoolOp op es pos) t) : PW Y (.BoolOp op es pos) t := ⟨fun _ pins s σ H Q I q => h.run pins s σ H Q I q⟩
theorem noPt {Y : Cx} {e : Expr} : PT Y e (tT c W0 fun _ _ _ _ => False) := ⟨fun _ _ _ _ _ _ ⟨_, _, _, _, _, _, h, _⟩ => h.elim⟩
theorem isI_some {i : Nat} {f : Expr → Bool} {ex : Expr} (h : isI s i f (getIs ex) = true) : ∃ e y p pos, ex = .Call (.Name "isinstance" p) [e, y] [] pos ∧ s.glob "isinstance" = true ∧ isNm s i e = true ∧ f y = true := by
  cases e : getIs ex with
  | none => rw [e] at h; exact (Bool.false_ne_true h).elim
  | some t =>
    obtain ⟨x, a, b⟩ := t
    rw [e] at h
    have h : (decide (x = ("isinstance" : Str)) && s.glob x && isNm s i a && f b) = true := h
    simp only [Bool.and_eq_true, decide_eq_true_eq] at h
    obtain ⟨⟨⟨rfl, h1⟩, h2⟩, h3⟩ := h
    obtain ⟨p, pos, rfl⟩ := getIs_some e
    exact ⟨a, b, p, pos, rfl, h1, h2, h3⟩
theorem se_isx (h : Hld c X s a n d oe pn) {i j : Nat} {ex : Expr} (hc : isI s i (isCl s j) (getIs ex) = true) : PE (X.suite a ((a, oe) :: pn)) ex (tE c W0 (mIsx (.xc a n d ns ws) i [j])) := by
  obtain ⟨e, y, p, pos, rfl, h1, h2, h3⟩ := isI_some hc
  obtain ⟨c1, c2, c3⟩ := cl_pe h.os h3
  exact s_isx (ns := ns) (ws := ws) (js := []) h h1 h2 c1 c3 (.own _) (h.o.bet.kit n h.hin j c2) _ fun ρ S Kk Ek ⟨m1, m2⟩ => ⟨m1, by
    have m2 : Kk (.bl (subC n j || false)) S := m2
    rw [Bool.or_false] at m2; exact m2⟩
theorem se_isv (h : Hld c X s a n d oe pn) {i : Nat} {ex : Expr} (hc : isI s i (isVe s) (getIs ex) = true) : PE (X.suite a ((a, oe) :: pn)) ex (tE c W0 (mIsv (.xc a n d ns ws) i)) := by
  obtain ⟨e, y, p, pos, rfl, h1, h2, h3⟩ := isI_some hc
  cases y with
  | Name x q =>
    have h3 : (decide (x = ("ValueError" : Str)) && s.glob x) = true := h3
    simp only [Bool.and_eq_true, decide_eq_true_eq] at h3
    obtain ⟨rfl, h4⟩ := h3
    exact s_isx (ns := ns) (ws := ws) (js := []) h h1 h2 (pe_bltn (v := .ty "ValueError") (h.os.gl1 h4).1 h.os.vE (by decide +kernel) rfl (by decide +kernel) (h.os.gl1 h4).2) rfl (.ty _) (h.o.bet.kitV n h.hin) _ fun ρ S Kk Ek ⟨m1, m2⟩ => ⟨m1, m2⟩
  | _ => exact (Bool.false_ne_true h3).elim
theorem se_ist (h : Hld c X s a n d oe pn) {i : Nat} {js : List Nat} {ex : Expr} (hc : isI s i (isTl s js) (getIs ex) = true) : PE (X.suite a ((a, oe) :: pn)) ex (tE c W0 (mIsx (.xc a n d ns ws) i js)) := by
  obtain ⟨e, y, p, pos, rfl, h1, h2, h3⟩ := isI_some hc
  cases y with
  | Tuple es kt q =>
    have h3 : (decide (js.length ≤ 20) && allCl s js es) = true := h3
    rw [Bool.and_eq_true, decide_eq_true_eq] at h3
    exact s_ist h h1 h2 h3.1 h3.2
  | _ => exact (Bool.false_ne_true h3).elim
theorem tru_call {Y : Cx} {e y : Expr} {p pos : Pos} {m : WE} (hK : c.K = Y.K) (h : PE Y (.Call (.Name "isinstance" p) [e, y] [] pos) (tE c W0 m)) : PT Y (.Call (.Name "isinstance" p) [e, y] [] pos) (tT c W0 (mTru m)) := s_tru hK h fun _ => rfl
mutual
theorem sSE (h : Hld c X s a n d oe pn) : ∀ (e : SE) (ex : Expr), chkSE e s ex = true → PE (X.suite a ((a, oe) :: pn)) ex (tE c W0 (dSE (.xc a n d ns ws) e))
  | .var i, ex, hc => by
    cases ex with
    | Name x p =>
      obtain ⟨h1, h2, h3, h4⟩ := h.os.visi (show s.vis i x = true from hc)
      exact s_var (pe_var h1 h2 h3 h4)
    | _ => exact (Bool.false_ne_true hc).elim
  | .cst q, ex, hc => by
    cases ex with
    | Constant q' j p =>
      have h1 : (decide (q = q') && cOk q) = true := hc
      rw [Bool.and_eq_true, decide_eq_true_eq] at h1
      obtain ⟨rfl, h2⟩ := h1
      cases q with
      | none => exact s_const pe_non fun H => .non
      | bool b => exact s_const pe_bl fun H => .bl b
      | int i => exact s_const pe_int fun H => .int i
      | str x => exact s_const pe_str fun H => .str x
      | _ => exact (Bool.false_ne_true h2).elim
    | _ => exact (Bool.false_ne_true hc).elim
  | .fld i f, ex, hc => by
    cases ex with
    | Attribute e g pos =>
      cases e with
      | Name x p =>
        have hc : (s.vis i x && decide (g = f) && decide (f ∈ fldN)) = true := hc
        simp only [Bool.and_eq_true, decide_eq_true_eq] at hc
        obtain ⟨⟨h1, rfl⟩, h2⟩ := hc
        exact s_fld h h1 h2
      | _ => exact (Bool.false_ne_true hc).elim
    | _ => exact (Bool.false_ne_true hc).elim
  | .isx i j, ex, hc => se_isx h hc
  | .isv i, ex, hc => se_isv h hc
  | .ist i js, ex, hc => se_ist h hc
  | .tup0, ex, hc => by
    cases ex with
    | Tuple es kt pos =>
      cases es with
      | nil => exact s_tup s_nil
      | cons _ _ => exact (Bool.false_ne_true hc).elim
    | _ => exact (Bool.false_ne_true hc).elim
  | .tup1 e1, ex, hc => by
    cases ex with
    | Tuple es kt pos =>
      match es, hc with
      | [f1], hc =>
        have hc : (noStar f1 && chkSE e1 s f1) = true := hc
        simp only [Bool.and_eq_true] at hc
        exact s_tup (s_cons (sSE h e1 f1 hc.2) s_nil (star1 hc.1 _))
      | [], hc => exact (Bool.false_ne_true hc).elim
      | _ :: _ :: _, hc => exact (Bool.false_ne_true hc).elim
    | _ => exact (Bool.false_ne_true hc).elim
  | .tup2 e1 e2, ex, hc => by
    cases ex with
    | Tuple es kt pos =>
      match es, hc with
      | [f1, f2], hc =>
        have hc : (noStar f1 && chkSE e1 s f1 && noStar f2 && chkSE e2 s f2) = true := hc
        simp only [Bool.and_eq_true] at hc
        obtain ⟨⟨⟨a1, a2⟩, a3⟩, a4⟩ := hc
        exact s_tup (s_cons (sSE h e1 f1 a2) (s_cons (sSE h e2 f2 a4) s_nil (star1 a3 _)) (star1 a1 _))
      | [], hc => exact (Bool.false_ne_true hc).elim
      | [_], hc => exact (Bool.false_ne_true hc).elim
      | _ :: _ :: _ :: _, hc => exact (Bool.false_ne_true hc).elim
    | _ => exact (Bool.false_ne_true hc).elim
  | .tup3 e1 e2 e3, ex, hc => by
    cases ex with
    | Tuple es kt pos =>
      match es, hc with
      | [f1, f2, f3], hc =>
        have hc : (noStar f1 && chkSE e1 s f1 && noStar f2 && chkSE e2 s f2 && noStar f3 && chkSE e3 s f3) = true := hc
        simp only [Bool.and_eq_true] at hc
        obtain ⟨⟨⟨⟨⟨a1, a2⟩, a3⟩, a4⟩, a5⟩, a6⟩ := hc
        exact s_tup (s_cons (sSE h e1 f1 a2) (s_cons (sSE h e2 f2 a4) (s_cons (sSE h e3 f3 a6) s_nil (star1 a5 _)) (star1 a3 _)) (star1 a1 _))
      | [], hc => exact (Bool.false_ne_true hc).elim
      | [_], hc => exact (Bool.false_ne_true hc).elim
      | [_, _], hc => exact (Bool.false_ne_true hc).elim
      | _ :: _ :: _ :: _ :: _, hc => exact (Bool.false_ne_true hc).elim
    | _ => exact (Bool.false_ne_true hc).elim
  | .not e1, ex, hc => by
    cases ex with
    | UnaryOp op e p =>
      cases op with
      | Not => exact s_not h.os.hK (sSE h e1 e hc)
      | _ => exact (Bool.false_ne_true hc).elim
    | _ => exact (Bool.false_ne_true hc).elim
  | .and e1 e2, ex, hc => by
    cases ex with
    | BoolOp op vs p =>
      cases op with
      | Or => exact (Bool.false_ne_true hc).elim
      | And =>
        match vs, hc with
        | f1 :: f2 :: [], hc =>
          have hc : (chkSE e1 s f1 && chkSE e2 s f2) = true := hc
          rw [Bool.and_eq_true] at hc
          exact s_and h.os.hK (sSE h e1 f1 hc.1) (pe_one (sSE h e2 f2 hc.2))
        | f1 :: f2 :: f3 :: rest, hc =>
          have hc : (chkSE e1 s f1 && chkSE e2 s (.BoolOp .And (f2 :: f3 :: rest) p)) = true := hc
          rw [Bool.and_eq_true] at hc
          exact s_and h.os.hK (sSE h e1 f1 hc.1) (sSE h e2 _ hc.2)
        | [], hc => exact (Bool.false_ne_true hc).elim
        | [_], hc => exact (Bool.false_ne_true hc).elim
    | _ => exact (Bool.false_ne_true hc).elim
  | .eq e1 e2, ex, hc => by
    cases ex with
    | Compare l ops rs p =>
      match ops, rs, hc with
      | [.Eq], [r], hc =>
        have hc : (!behindInMarks .Eq r && chkSE e1 s l && chkSE e2 s r) = true := hc
        simp only [Bool.and_eq_true, Bool.not_eq_true'] at hc
        exact s_cmp (h.os.hK ▸ r_eq (by have := h.os.un; omega)) o_eq (sSE h e1 l hc.1.2) (sSE h e2 r hc.2) hc.1.1
      | [], _, hc => exact (Bool.false_ne_true hc).elim
      | [.Eq], [], hc => exact (Bool.false_ne_true hc).elim
      | [.Eq], _ :: _ :: _, hc => exact (Bool.false_ne_true hc).elim
      | .Eq :: _ :: _, _, hc => exact (Bool.false_ne_true hc).elim
      | .NotEq :: _, _, hc => exact (Bool.false_ne_true hc).elim
      | .Lt :: _, _, hc => exact (Bool.false_ne_true hc).elim
      | .LtE :: _, _, hc => exact (Bool.false_ne_true hc).elim
      | .Gt :: _, _, hc => exact (Bool.false_ne_true hc).elim
      | .GtE :: _, _, hc => exact (Bool.false_ne_true hc).elim
      | .Is :: _, _, hc => exact (Bool.false_ne_true hc).elim
      | .IsNot :: _, _, hc => exact (Bool.false_ne_true hc).elim
      | .In :: _, _, hc => exact (Bool.false_ne_true hc).elim
      | .NotIn :: _, _, hc => exact (Bool.false_ne_true hc).elim
    | _ => exact (Bool.false_ne_true hc).elim
  | .ite t e1 e2, ex, hc => by
    cases ex with
    | IfExp f1 f2 f3 p =>
      have hc : (chkSE t s f1 && chkSE e1 s f2 && chkSE e2 s f3) = true := hc
      simp only [Bool.and_eq_true] at hc
      exact s_if (sST h t f1 hc.1.1) (sSE h e1 f2 hc.1.2) (sSE h e2 f3 hc.2)
    | _ => exact (Bool.false_ne_true hc).elim
theorem sST (h : Hld c X s a n d oe pn) : ∀ (e : SE) (ex : Expr), chkSE e s ex = true → PT (X.suite a ((a, oe) :: pn)) ex (tT c W0 (dST (.xc a n d ns ws) e))
  | .var i, ex, hc => by
    have q := sSE h (.var i) ex hc
    cases ex with
    | Name x p => exact s_tru h.os.hK q fun _ => rfl
    | _ => exact (Bool.false_ne_true hc).elim
  | .isx i j, ex, hc => by
    have q := se_isx (ns := ns) (ws := ws) h hc
    obtain ⟨e, y, p, pos, rfl, _⟩ := isI_some hc
    exact tru_call h.os.hK q
  | .isv i, ex, hc => by
    have q := se_isv (ns := ns) (ws := ws) h hc
    obtain ⟨e, y, p, pos, rfl, _⟩ := isI_some hc
    exact tru_call h.os.hK q
  | .ist i js, ex, hc => by
    have q := se_ist (ns := ns) (ws := ws) h hc
    obtain ⟨e, y, p, pos, rfl, _⟩ := isI_some hc
    exact tru_call h.os.hK q
  | .not e1, ex, hc => by
    cases ex with
    | UnaryOp op e p =>
      cases op with
      | Not => exact s_notT (sST h e1 e hc)
      | _ => exact (Bool.false_ne_true hc).elim
    | _ => exact (Bool.false_ne_true hc).elim
  | .and e1 e2, ex, hc => by
    cases ex with
    | BoolOp op vs p =>
      cases op with
      | Or => exact (Bool.false_ne_true hc).elim
      | And =>
        match vs, hc with
        | f1 :: f2 :: [], hc =>
          have hc : (chkSE e1 s f1 && chkSE e2 s f2) = true := hc
          rw [Bool.and_eq_true] at hc
          exact (s_andT (sST h e1 f1 hc.1) (pw_and1 (sST h e2 f2 hc.2))).pt
        | f1 :: f2 :: f3 :: rest, hc =>
          have hc : (chkSE e1 s f1 && chkSE e2 s (.BoolOp .And (f2 :: f3 :: rest) p)) = true := hc
          rw [Bool.and_eq_true] at hc
          exact (s_andT (sST h e1 f1 hc.1) (pwOf (sST h e2 _ hc.2))).pt
        | [], hc => exact (Bool.false_ne_true hc).elim
        | [_], hc => exact (Bool.false_ne_true hc).elim
    | _ => exact (Bool.false_ne_true hc).elim
  | .eq e1 e2, ex, hc => by
    cases ex with
    | Compare l ops rs p =>
      match ops, rs, hc with
      | [.Eq], [r], hc =>
        have hc : (!behindInMarks .Eq r && chkSE e1 s l && chkSE e2 s r) = true := hc
        simp only [Bool.and_eq_true, Bool.not_eq_true'] at hc
        exact s_cmpT (h.os.hK ▸ r_eq (by have := h.os.un; omega)) o_eq (sSE h e1 l hc.1.2) (sSE h e2 r hc.2) hc.1.1
      | [], _, hc => exact (Bool.false_ne_true hc).elim
      | [.Eq], [], hc => exact (Bool.false_ne_true hc).elim
      | [.Eq], _ :: _ :: _, hc => exact (Bool.false_ne_true hc).elim
      | .Eq :: _ :: _, _, hc => exact (Bool.false_ne_true hc).elim
      | .NotEq :: _, _, hc => exact (Bool.false_ne_true hc).elim
      | .Lt :: _, _, hc => exact (Bool.false_ne_true hc).elim
      | .LtE :: _, _, hc => exact (Bool.false_ne_true hc).elim
      | .Gt :: _, _, hc => exact (Bool.false_ne_true hc).elim
      | .GtE :: _, _, hc => exact (Bool.false_ne_true hc).elim
      | .Is :: _, _, hc => exact (Bool.false_ne_true hc).elim
      | .IsNot :: _, _, hc => exact (Bool.false_ne_true hc).elim
      | .In :: _, _, hc => exact (Bool.false_ne_true hc).elim
      | .NotIn :: _, _, hc => exact (Bool.false_ne_true hc).elim
    | _ => exact (Bool.false_ne_true hc).elim
  | .cst _, _, _ => noPt
  | .fld _ _, _, _ => noPt
  | .tup0, _, _ => noPt
  | .tup1 _, _, _ => noPt
  | .tup2 _ _, _, _ => noPt
  | .tup3 _ _ _, _, _ => noPt
  | .ite _ _ _, _, _ => noPt
end
theorem sw_lc {e : Expr} (h : noLc e = true) (t : Option Expr) (l : Nat) (env : Env) : swapsWith e t l env = pure false := by
  cases e <;> first | rfl | (simp [noLc] at h)
mutual
theorem sSu (h : Hld c X s a n d oe pn) : ∀ (e : SS) (st : Stmt), chkSu e s st = true → PS (X.suite a ((a, oe) :: pn)) st (tS c W0 (dSu (.xc a n d ns ws) e))
  | .asg i e, st, hc => by
    cases st with
    | Assign ts v pos =>
      match ts, hc with
      | [.Name x p], hc =>
        have hc : (s.loc i x && noLc v && chkSE e s v) = true := hc
        simp only [Bool.and_eq_true] at hc
        obtain ⟨⟨h1, h2⟩, h3⟩ := hc
        obtain ⟨l1, l2, l3⟩ := h.os.loca h1
        exact PS.imp (ps_set h.os.nd l1 l2 (sSE h e v h3) (sw_lc h2 _ _ _) l3) fun D σ H q => asg_of (fun _ _ _ q => q) q
    | _ => exact (Bool.false_ne_true hc).elim
  | .ret e, st, hc => by
    cases st with
    | Return v pos =>
      cases v with
      | some v => exact s_ret (sSE h e v hc)
      | none => exact (Bool.false_ne_true hc).elim
    | _ => exact (Bool.false_ne_true hc).elim
  | .ite t b, st, hc => by
    cases st with
    | If e p q pos =>
      cases q with
      | nil =>
        have hc : (chkSE t s e && chkSus b s p) = true := hc
        rw [Bool.and_eq_true] at hc
        exact s_ite (sST h t e hc.1) (sSus h b p hc.2) s_skip
      | cons _ _ => exact (Bool.false_ne_true hc).elim
    | _ => exact (Bool.false_ne_true hc).elim
  | .app i b, st, hc => by
    cases st with
    | Expr v p =>
      match v, hc with
      | .Call (.Attribute e f apos) [e1] [] pos, hc =>
        have hc : (decide (f = ("append" : Str)) && (apos.endLine == pos.line) && isNm s i e && noStar e1 && chkSE b s e1) = true := hc
        simp only [Bool.and_eq_true, decide_eq_true_eq] at hc
        obtain ⟨⟨⟨⟨rfl, h1⟩, h2⟩, h3⟩, h4⟩ := hc
        have hv : ∃ x q, e = .Name x q := by
          cases e with
          | Name x q => exact ⟨x, q, rfl⟩
          | _ => exact (Bool.false_ne_true h2).elim
        obtain ⟨x, q, rfl⟩ := hv
        obtain ⟨v1, v2, v3, v4⟩ := h.os.visi (show s.vis i x = true from h2)
        refine s_exp (PE.imp (pe_mU (as := [⟨"list", "list.append", rAppend⟩]) (fun d hd => by rw [List.mem_singleton.mp hd]; exact ⟨ml_append, mt_append⟩) (s_var (pe_var v1 v2 v3 v4)) (s_cons (sSE h b e1 h4) s_nil (star1 h3 _)) rfl ?_ h1 (star1 h3 _) ?_) (s_mth h.os.hK fun d hd => ⟨_, List.mem_singleton.mpr rfl, by rw [List.mem_singleton.mp hd]; exact mo_append⟩)) (sw_lc rfl _ _ _)
        · rw [star1 h3]; rfl
        · rfl
    | _ => exact (Bool.false_ne_true hc).elim
theorem sSus (h : Hld c X s a n d oe pn) : ∀ (e : List SS) (st : List Stmt), chkSus e s st = true → PSs (X.suite a ((a, oe) :: pn)) st (tS c W0 (dSus (.xc a n d ns ws) e))
  | [], [], _ => s_skip
  | [], _ :: _, hc => (Bool.false_ne_true hc).elim
  | _ :: _, [], hc => (Bool.false_ne_true hc).elim
  | e :: es, st :: rest, hc => by
    have hc : (chkSu e s st && chkSus es s rest) = true := hc
    rw [Bool.and_eq_true] at hc
    exact s_then (sSu h e st hc.1) (sSus h es rest hc.2)
end
end
end Dp
/-! try -/
namespace Dp
open PySem PySem.Spec L2
open PyProof.Rows hiding St
section
variable {c : Cst} {X : Cx} {s : Sx} {Wx : WX}
theorem Oks.suite (o : Oks c X s) (a : Addr) (pn : List (Addr × Obj)) : Oks c (X.suite a pn) s := ⟨o.hK, o.nd, o.eN, o.esc, o.efn, o.ecl, o.un, o.isi, o.vE, o.gl, o.xf, o.exc, o.bet⟩
theorem RE.clear {K : PySem.W.Frag} {H : Hp} {ρ : Ro} {σ : L2.St} (re : RE K H ρ σ) (i : Nat) : RE K H (rset ρ i none) (σ.set i none) := re.wipe [i]
/-- what a suite is asked -/
def tSu (c : Cst) (h : List SS) (a : Addr) (cls : Value) (d : Option Addr) : TS := fun D σ H => ∃ n dd ns ws, cls = .ref (c.cl n) ∧ d = some dd ∧ n ∈ c.cls ∧ tS c W0 (dSus (.xc a n dd ns ws) h) D σ H
theorem su_run (o : Oks c X s) {h : List SS} {st : List Stmt} (hc : chkSus h s st = true) (a : Addr) (oe : Obj) (cls : Value) (d : Option Addr) (pn : List (Addr × Obj)) (hz : Zc cls d oe) (hf : ∃ vs, oe.data = .fields vs) : PSs (X.suite a ((a, oe) :: pn)) st (tSu c h a cls d) :=
  ⟨fun pins s1 σ H D I q => by
    obtain ⟨n, dd, ns, ws, rfl, rfl, hn, q⟩ := q
    exact (sSus ⟨o, o.suite _ _, o.ecl ▸ hn, hz, hf⟩ h st hc).run pins s1 σ H D I q⟩
theorem exm_at (o : Oks c X s) {n k : Nat} (hn : n ∈ c.cls) (hk : k ∈ s.cls) : PySem.W.exmOne X.K (.ref (c.cl n)) (.ref (c.cl k)) = some (subC n k) := o.bet.exm n (o.ecl ▸ hn) k hk
theorem cl_names (o : Oks c X s) {k : Nat} {x : Str} (h : clsAt s k x = true) : Names X x (.ref (c.cl k)) ∧ k ∈ s.cls := by
  unfold clsAt at h
  simp only [Bool.and_eq_true, decide_eq_true_eq] at h
  obtain ⟨⟨rfl, h1⟩, h2⟩ := h
  exact ⟨⟨(o.gl1 h2).1, (o.gl1 h2).2, .inl (o.gl k h1)⟩, h1⟩
variable {B : WS} {h : List SS} {k i : Nat} {x nme : Str} {body suite : List Stmt} {b₀ : Stmt} {np pos pos' : Pos}
theorem s_tryAs (o : Oks c X s) (hs : X.stack = X.env :: X.outer) (hf : X.env.frame = some X.env.locals) (tk : Takes X Wx) (hi : X.N[i]? = some nme) (hln : X.env.kindOf nme = some .local) (hk : clsAt s k x = true)
    (hb : ∀ (W : WX) (pn : List (Addr × Obj)) (xe : Value → Shared → Prop), Takes (X.tr pn xe) W → PassesOwn (model X.prog X.w) X.A X.env xe → PSs (X.tr pn xe) body (tS c W B)) (hc : chkSus h s (b₀ :: suite) = true) :
    PS X (.Try body [.ExceptHandler (some (.Name x np)) (some nme) (b₀ :: suite) pos'] [] [] pos) (tS c Wx (mTry k (some i) B h)) := by
  obtain ⟨nm, hk2⟩ := cl_names o hk
  refine PS.imp (ps_try_as hs hf o.nd hi hln nm tk hb (su_run o hc)) fun D σ H q => ?_
  obtain ⟨E, ρ, S, re, rs, hm, rd⟩ := q
  refine ⟨{ E with ex := mHdl k (some i) h E }, ρ, S, re, rs, hm, ⟨rd.nx, rd.rt, rd.bk, rd.ct, fun ρ' S' σ' H' x' cls d k' e' re' rs' rx' => ?_⟩⟩
  obtain ⟨rfl, hn, dd, vs, rfl, hdd, rws⟩ := rx'
  refine ⟨subC x'.cls k, exm_at o hn hk2, fun hb a na => ?_, fun hb => ?_⟩
  · have k' : mHdl k (some i) h E ρ' x' S' := k'
    unfold mHdl at k'
    rw [if_pos hb] at k'
    refine ⟨x'.cls, dd, x'.ns, x'.ws, rfl, rfl, hn, E.suite (some i), _, S', re'.set (.xc hdd rws), rs', k' a dd, ⟨fun ρ2 S2 σ2 H2 k2 e2 re2 rs2 => ?_, fun w S2 H2 v k2 e2 rs2 rv => ?_, fun ρ2 S2 σ2 H2 k2 e2 re2 rs2 => ?_, fun ρ2 S2 σ2 H2 k2 e2 re2 rs2 => ?_, fun _ _ _ _ _ _ _ z => z.elim⟩⟩
    · exact rd.nx _ S2 _ H2 k2 (e'.trans e2) (re2.clear i) rs2
    · exact rd.rt w S2 H2 v k2 (e'.trans e2) rs2 rv
    · exact rd.bk _ S2 _ H2 k2 (e'.trans e2) (re2.clear i) rs2
    · exact rd.ct _ S2 _ H2 k2 (e'.trans e2) (re2.clear i) rs2
  · have k' : mHdl k (some i) h E ρ' x' S' := k'
    unfold mHdl at k'
    rw [if_neg (by rw [hb]; decide)] at k'
    exact rd.exn ρ' S' σ' H' x' _ _ k' e' re' rs' ⟨rfl, hn, dd, vs, rfl, hdd, rws⟩
theorem s_try (o : Oks c X s) (hs : X.stack = X.env :: X.outer) (hf : X.env.frame = some X.env.locals) (tk : Takes X Wx) (hk : clsAt s k x = true)
    (hb : ∀ (W : WX) (pn : List (Addr × Obj)) (xe : Value → Shared → Prop), Takes (X.tr pn xe) W → PassesOwn (model X.prog X.w) X.A X.env xe → PSs (X.tr pn xe) body (tS c W B)) (hc : chkSus h s (b₀ :: suite) = true) :
    PS X (.Try body [.ExceptHandler (some (.Name x np)) none (b₀ :: suite) pos'] [] [] pos) (tS c Wx (mTry k none B h)) := by
  obtain ⟨nm, hk2⟩ := cl_names o hk
  refine PS.imp (ps_try_many hs hf tk hb (.cons nm (su_run o hc) .nil)) fun D σ H q => ?_
  obtain ⟨E, ρ, S, re, rs, hm, rd⟩ := q
  refine ⟨{ E with ex := mHdl k none h E }, ρ, S, re, rs, hm, ⟨rd.nx, rd.rt, rd.bk, rd.ct, fun ρ' S' σ' H' x' cls d k' e' re' rs' rx' => ?_⟩⟩
  obtain ⟨rfl, hn, dd, vs, rfl, hdd, rws⟩ := rx'
  refine ⟨subC x'.cls k, exm_at o hn hk2, fun hb a na => ?_, fun hb => ?_⟩
  · have k' : mHdl k none h E ρ' x' S' := k'
    unfold mHdl at k'
    rw [if_pos hb] at k'
    exact ⟨x'.cls, dd, x'.ns, x'.ws, rfl, rfl, hn, E.suite none, _, S', re', rs', k' a dd, ⟨fun ρ2 S2 σ2 H2 k2 e2 re2 rs2 => rd.nx _ S2 _ H2 k2 (e'.trans e2) re2 rs2, fun w S2 H2 v k2 e2 rs2 rv => rd.rt w S2 H2 v k2 (e'.trans e2) rs2 rv,
      fun ρ2 S2 σ2 H2 k2 e2 re2 rs2 => rd.bk _ S2 _ H2 k2 (e'.trans e2) re2 rs2, fun ρ2 S2 σ2 H2 k2 e2 re2 rs2 => rd.ct _ S2 _ H2 k2 (e'.trans e2) re2 rs2, fun _ _ _ _ _ _ _ z => z.elim⟩⟩
  · have k' : mHdl k none h E ρ' x' S' := k'
    unfold mHdl at k'
    rw [if_neg (by rw [hb]; decide)] at k'
    exact rd.exn ρ' S' σ' H' x' _ _ k' e' re' rs' ⟨rfl, hn, dd, vs, rfl, hdd, rws⟩
end
end Dp
/-! truths among numbers: True + 1, True - 1, -True -/
namespace Dp
open PySem PySem.Spec L2
open PyProof.Rows hiding St
theorem op_add_bi {X : Cx} : OpR X (binaryOp .Add) (fun x y H Q => ∃ k j, x = .bl k ∧ y = .int j ∧ Q (.int (b2i k + j)) H) := by
  intro pins s σ H x y v u Q I rx ry h
  obtain ⟨k, j, rfl, rfl, q⟩ := h
  cases rx
  obtain ⟨t, rfl⟩ := ry
  exact IntBool.add_bool_int ⟨.int (b2i k + j), H, I.tok _, ⟨_, rfl⟩, q⟩
theorem op_sub_bi {X : Cx} : OpR X (binaryOp .Sub) (fun x y H Q => ∃ k j, x = .bl k ∧ y = .int j ∧ Q (.int (b2i k - j)) H) := by
  intro pins s σ H x y v u Q I rx ry h
  obtain ⟨k, j, rfl, rfl, q⟩ := h
  cases rx
  obtain ⟨t, rfl⟩ := ry
  exact IntBool.sub_bool_int ⟨.int (b2i k - j), H, I.tok _, ⟨_, rfl⟩, q⟩
theorem gives_bool_neg (b : Bool) : Gives (Builtin.«int.__neg__» ⟨[.bool b], []⟩) (.int (-(b2i b))) :=
  .of_wp fun M A E s Q h => by obtain ⟨hp, g, d, tk, os⟩ := s; wp_walk; exact ⟨_, rfl, h⟩
theorem neg_bool {prog : Program} {w : World} {A : Around} {E : Value → Shared → Prop} {s : Shared} {b : Bool} {Q : Value → Shared → Prop} (h : Q (.int (-(b2i b)) s.toks) { s with toks := s.toks + 1 }) : wpAny (model prog w) A (unaryOp .USub (.bool b)) Q E s :=
  unaryOp_gives (op := .USub) (T := "bool") rfl rfl F.slot_bool_neg F.entry_int_neg (F.args_int_neg_1 _) (gives_bool_neg b) h
theorem un_negb {X : Cx} : UnR X (unaryOp .USub) (fun x H Q => ∃ k, x = .bl k ∧ Q (.int (-(b2i k))) H) := by
  intro pins s σ H x v Q I rx h
  obtain ⟨k, rfl, q⟩ := h
  cases rx
  exact neg_bool ⟨.int (-(b2i k)), H, I.tok _, ⟨_, rfl⟩, q⟩
def bAddB : BOp := fun x y S K => match x, y with
  | .bl b, .int j => K (.int (b2i b + j)) S
  | x, y => bAdd x y S K
def bSubB : BOp := fun x y S K => match x, y with
  | .bl b, .int j => K (.int (b2i b - j)) S
  | x, y => bSub x y S K
def uNegB : UOp := fun x S K => match x with
  | .bl b => K (.int (-(b2i b))) S
  | x => uNeg x S K
def rAddB (K : PySem.W.Frag) : R2 := fun x y H Q => (∃ k j, x = .bl k ∧ y = .int j ∧ Q (.int (b2i k + j)) H) ∨ rAddW K x y H Q
def rSubB : R2 := fun x y H Q => (∃ k j, x = .bl k ∧ y = .int j ∧ Q (.int (b2i k - j)) H) ∨ rI0 (fun i j => .int (i - j)) x y H Q
def rNegB : V → Hp → VK → Prop := fun x H Q => (∃ k, x = .bl k ∧ Q (.int (-(b2i k))) H) ∨ rU (fun i => .int (-i)) x H Q
theorem r_addB {X : Cx} : OpR X (binaryOp .Add) (rAddB X.K) := OpR.or op_add_bi r_add
theorem r_subB {X : Cx} : OpR X (binaryOp .Sub) rSubB := OpR.or op_sub_bi op_sub
theorem o_addB {c : Cst} : Op2 c (rAddB c.K) bAddB := fun x y u v H S Kk Q rs rx ry h po => by
  by_cases hb : ∃ b j, x = .bl b ∧ y = .int j
  · obtain ⟨b, j, rfl, rfl⟩ := hb
    cases rx; cases ry
    exact .inl ⟨b, j, rfl, rfl, po _ S H _ h .refl rs (.int _)⟩
  · refine .inr (o_add x y u v H S Kk Q rs rx ry ?_ po)
    unfold bAddB at h
    split at h
    · exact absurd ⟨_, _, rfl, rfl⟩ hb
    · exact h
theorem o_subB {c : Cst} : Op2 c rSubB bSubB := fun x y u v H S Kk Q rs rx ry h po => by
  by_cases hb : ∃ b j, x = .bl b ∧ y = .int j
  · obtain ⟨b, j, rfl, rfl⟩ := hb
    cases rx; cases ry
    exact .inl ⟨b, j, rfl, rfl, po _ S H _ h .refl rs (.int _)⟩
  · refine .inr (o_sub (c := c) x y u v H S Kk Q rs rx ry ?_ po)
    unfold bSubB at h
    split at h
    · exact absurd ⟨_, _, rfl, rfl⟩ hb
    · exact h
theorem UnR.or {X : Cx} {f : Value → Sem Value} {A B : V → Hp → VK → Prop} (a : UnR X f A) (b : UnR X f B) : UnR X f fun x H Q => A x H Q ∨ B x H Q := by
  intro pins s σ H x v Q I rx h
  rcases h with h | h
  · exact a pins s σ H x v Q I rx h
  · exact b pins s σ H x v Q I rx h
theorem un_negB {X : Cx} : UnR X (unaryOp .USub) rNegB := UnR.or un_negb un_neg
theorem o_negB {c : Cst} : Op1 c rNegB uNegB := fun x u H S Kk Q rs rx h po => by
  by_cases hb : ∃ b, x = .bl b
  · obtain ⟨b, rfl⟩ := hb
    cases rx
    exact .inl ⟨b, rfl, po _ S H _ h .refl rs (.int _)⟩
  · refine .inr (o_neg (c := c) x u H S Kk Q rs rx ?_ po)
    unfold uNegB at h
    split at h
    · exact absurd ⟨_, rfl⟩ hb
    · exact h
end Dp
/-! dict(pairs) of a tuple, list.remove -/
namespace Dp
open PySem PySem.Spec L2
open PyProof.Rows hiding St
section
variable {X : Cx}
theorem pairs_ofT {pins : List (Addr × Obj)} {σ : L2.St} {H : Hp} {s : Shared} (I : Inv X pins σ H s) : ∀ {ps : List Addr} {kvs : List (Key × V)}, Paired (fun p kv => SqT X.K H p [kV kv.1, kv.2]) ps kvs →
    ∃ (prs : List (Key × Value)) (vps : List (Value × Value)), KV kvs prs ∧ prs.length = ps.length ∧ vps.length = ps.length ∧ ∀ (j : Nat) (k v : Value), vps[j]? = some (k, v) → ∃ (b : Addr) (q : Key), ps[j]? = some b ∧ IsTup s.heap b #[k, v] ∧ prs[j]? = some (q, v) ∧ keyIs q k = true
  | _, _, .nil => ⟨[], [], .nil, rfl, rfl, fun j k v e => by simp at e⟩
  | _, _, .cons (a := p) (b := kv) h t => by
    obtain ⟨prs, vps, r, hl, hl2, hp⟩ := pairs_ofT I t
    obtain ⟨its, rv, ht, _⟩ := I.tuple h
    obtain ⟨u, y, ei, ru, ry⟩ := vals2 rv
    subst ei
    refine ⟨(kv.1, y) :: prs, (u, y) :: vps, .cons ⟨rfl, ry⟩ r, by rw [List.length_cons, List.length_cons, hl], by rw [List.length_cons, List.length_cons, hl2], fun j k v e => ?_⟩
    cases j with
    | zero =>
      have e' : (u, y) = (k, v) := Option.some.inj e
      cases e'
      exact ⟨p, kv.1, rfl, ht, rfl, kV_is (P := X.prog) (w := X.w) ru⟩
    | succ j =>
      obtain ⟨b, q, e1, e2, e3, e4⟩ := hp j k v (by simpa using e)
      exact ⟨b, q, by simpa using e1, e2, by simpa using e3, e4⟩
def rDictT (K : PySem.W.Frag) : List V → Hp → VK → Prop := fun xs H Q => ∃ (a : Addr) (ps : List Addr) (kvs : List (Key × V)), xs = [.ref a] ∧ TqN K H a (ps.map V.ref) ∧ Paired (fun p kv => SqT K H p [kV kv.1, kv.2]) ps kvs ∧
    ∀ p, H p = none → Q (.ref p) (upd H p (.dK (mergeK [] kvs)))
theorem call_dictT (hcalm : X.calm = true) : CallR X (.type "dict") (rDictT X.K) := by
  intro pins s σ H xs us Q I r q
  obtain ⟨a, ps, kvs, ex, hq, hp, q⟩ := q
  subst ex
  obtain ⟨u, eu, rx⟩ := vals1 r
  subst eu
  cases rx
  obtain ⟨its, rv, ht, hz⟩ := I.tuple hq.sq
  obtain ⟨_, ob, hob, hdn⟩ := hq.is I
  have ei := refs_at rv
  subst ei
  rw [List.length_map] at hz
  obtain ⟨prs, vps, rel, hl, hl2, hpr⟩ := pairs_ofT I hp
  obtain ⟨o, ho, hc, n, hdat⟩ := ht
  have eo : o = ob := Option.some.inj (ho.symm.trans hob)
  subst eo
  have P := PairArg.tuple (prog := X.prog) (w := X.w) a (ps.map Value.ref).toArray (fun j => ps.getD j 0) vps
  refine PySem.call_dict_pairs (knd := mixKind X.prog X.w) (kvs := prs) P (I.ok.hd hcalm) ⟨⟨o, n, ho, hc, hdn, hdat⟩, by simp [hl2], fun j k v e => ?_⟩ ⟨by rw [hl, hl2], fun j k v e => ?_⟩ (by rw [hl2]; exact hz) fun h' tk hd' k => ?_
  · obtain ⟨b, q', e1, e2, e3, e4⟩ := hpr j k v e
    have eb : ps.getD j 0 = b := by rw [List.getD_eq_getElem?_getD, e1]; rfl
    refine ⟨?_, .inl ?_⟩
    · simp [e1]
    · show s.heap.IsTuple (ps.getD j 0) _
      rw [eb]; exact e2
  · obtain ⟨b, q', e1, e2, e3, e4⟩ := hpr j k v e
    exact ⟨q', e3, e4⟩
  · have hm : (s.heap.objs.size == sysModules) = false := beq_eq_false_iff_ne.mpr (Nat.ne_of_gt I.big)
    have hlen : (mergeK [] kvs).length ≤ sizeLine := by
      refine Nat.le_trans (length_mergeK kvs []) ?_
      rw [List.length_nil, Nat.zero_add, rel.length, hl]
      exact hz
    exact ⟨.ref s.heap.objs.size, upd H s.heap.objs.size (.dK (mergeK [] kvs)), I.laid (t' := tk) (fun b o e => k b o (by simp) e) (Nat.le_refl _) (show ObjOk X.prog X.w _ _ _ (.dK (mergeK [] kvs)) from ⟨hlen, hm, merged [] prs, KV.merge rel .nil, hd'⟩), rfl, q _ (I.hok.fresh (Nat.le_refl _))⟩
end
def mergeD (kvs more : List (Key × W)) : List (Key × W) := more.foldl (fun acc kv => putW acc kv.1 kv.2) kvs
theorem rkv_mergeD {K : PySem.W.Frag} {H : Hp} {more : List (Key × W)} {more' : List (Key × V)} (m : RKV K H more more') : ∀ {ws : List (Key × W)} {vs : List (Key × V)}, RKV K H ws vs → RKV K H (mergeD ws more) (mergeK vs more') := by
  induction m with
  | nil => exact fun r => r
  | @cons p q ws vs h t ih =>
    intro ws vs r
    obtain ⟨k1, w⟩ := p
    obtain ⟨k2, v⟩ := q
    obtain ⟨e, rv⟩ := h
    simp only at e
    subst e
    exact ih (rkv_put r k1 rv)
theorem rvs_pairs {K : PySem.W.Frag} {H : Hp} : ∀ {kvs : List (Key × W)} {us : List V}, RVs K H (kvs.map fun p => W.tp false [kW p.1, p.2]) us → ∃ (ps : List Addr) (vks : List (Key × V)), us = ps.map V.ref ∧ Paired (fun p kv => SqT K H p [kV kv.1, kv.2]) ps vks ∧ RKV K H kvs vks
  | [], _, r => by cases r; exact ⟨[], [], rfl, .nil, .nil⟩
  | (k, w) :: kvs, _, r => by
    cases r with
    | cons h t =>
      obtain ⟨ps, vks, rfl, pp, rk⟩ := rvs_pairs t
      cases h with
      | tp hq rr =>
        obtain ⟨v, u, rfl, rv, ru⟩ := rvs2 rr
        rw [rv_key rv] at hq
        exact ⟨_ :: ps, (k, u) :: vks, rfl, .cons hq.sq pp, .cons ⟨rfl, ru⟩ rk⟩
def fDict : NOp := fun ws S K => match ws with
  | [.tp false xs] => ∃ kvs : List (Key × W), xs = (kvs.map fun p => W.tp false [kW p.1, p.2]) ∧ ∀ p, S p = none → K (.ref p) (S.put p (.dic (mergeD [] kvs)))
  | _ => False
theorem o_dict {c : Cst} : OpN c (rDictT c.K) fDict := fun ws vs H S Kk Q rs r h po => by
  unfold fDict at h
  split at h
  · obtain ⟨v, rfl, rx⟩ := rvs1 r
    obtain ⟨kvs, rfl, k⟩ := h
    cases rx with
    | tp hq rr =>
      obtain ⟨ps, vks, rfl, pp, rk⟩ := rvs_pairs rr
      exact ⟨_, ps, vks, rfl, hq, pp, fun p hp => po _ _ _ _ (k p (rs.fresh hp)) (.new hp) (rs.new hp (.dic (rkv_mergeD rk .nil))) (.ref p)⟩
  · exact h.elim
def fRemove : MOp := fun x ws S K => match x, ws with
  | .ref a, [.int k] => ∃ (ns : List Int) (j : Nat), S a = some (.lst (ns.map W.int)) ∧ ns[j]? = some k ∧ (∀ m : Nat, m < j → ns[m]? ≠ some k) ∧ K .non (S.put a (.lst ((ns.eraseIdx j).map W.int)))
  | _, _ => False
theorem rvs_intsD {K : PySem.W.Frag} {H : Hp} : ∀ (ns : List Int), RVs K H (ns.map W.int) (ns.map V.int)
  | [] => .nil
  | n :: ns => .cons (.int n) (rvs_intsD ns)
theorem mo_remove {c : Cst} : OpM c ⟨"list", fRemove⟩ ⟨"list", "list.remove", rRemI⟩ := ⟨rfl, fun x ws u vs H S Kk Q rs rx r h po => by
  simp only [fRemove] at h
  split at h
  · cases rx
    obtain ⟨v, rfl, ry⟩ := rvs1 r
    cases ry
    obtain ⟨ns, j, l, hj, hm, k⟩ := h
    obtain ⟨us, hq, rr⟩ := rs.lst l
    rw [rvs_map (g := V.int) (fun x v r => by cases r; rfl) rr] at hq
    exact ⟨_, ns, _, j, rfl, rfl, hq, hj, hm, po _ _ _ _ k (.put l) (rs.put l (.lst (rvs_intsD _))) .non⟩
  · exact h.elim⟩
theorem ml_remove : Mth "list" "remove" "list.remove" := ⟨PySem.F.plainAttrs_list, PySem.F.slot_list_remove, PySem.F.type_list_remove⟩
def rGetD : V → List V → Hp → VK → Prop := fun x vs H Q => ∃ a y o, x = .ref a ∧ DGet H a y o ∧ ((vs = [y] ∧ Q (o.getD .non) H) ∨ ∃ z, vs = [y, z] ∧ Q (o.getD z) H)
theorem mt_getD {X : Cx} (hu : X.A.units + 1 < cLine) : MtR X "dict.get" rGetD := by
  intro pins s σ H x xs v us Q I rx rxs h
  obtain ⟨a, y, o, rfl, g, h⟩ := h
  cases rx
  rcases h with ⟨rfl, q⟩ | ⟨z, rfl, q⟩
  · obtain ⟨u, rfl, ru⟩ := vals1 rxs
    exact d_get1 hu I g ru fun w' s' I' r' => ⟨_, H, I', r', q⟩
  · obtain ⟨u, r, rfl, ru, rr⟩ := vals2 rxs
    exact d_get2 hu I g ru rr fun w' s' I' r' => ⟨_, H, I', r', q⟩
def fGetD : MOp := fun x ws S K => match x, ws with
  | .ref a, [y] => ∃ kvs k, S a = some (.dic kvs) ∧ y = kW k ∧ K ((valW kvs k).getD .non) S
  | .ref a, [y, z] => ∃ kvs k, S a = some (.dic kvs) ∧ y = kW k ∧ K ((valW kvs k).getD z) S
  | .dct ks xs, [y] => ∃ k, y = kW k ∧ K ((valW (ks.zip xs) k).getD .non) S
  | .dct ks xs, [y, z] => ∃ k, y = kW k ∧ K ((valW (ks.zip xs) k).getD z) S
  | _, _ => False
theorem rkv_getD {K : PySem.W.Frag} {H : Hp} {ws : List (Key × W)} {vs : List (Key × V)} (r : RKV K H ws vs) (k : Key) {z : W} {u : V} (h : RV K H z u) : RV K H ((valW ws k).getD z) ((valV vs k).getD u) := by
  rcases rkv_val r k with ⟨e1, e2⟩ | ⟨w, v, e1, e2, rv⟩
  · rw [e1, e2]; exact h
  · rw [e1, e2]; exact rv
theorem mo_getD {c : Cst} : OpM c ⟨"dict", fGetD⟩ ⟨"dict", "dict.get", rGetD⟩ := ⟨rfl, fun x ws u vs H S Kk Q rs rx r h po => by
  simp only [fGetD] at h
  split at h
  · cases rx
    obtain ⟨v, rfl, ry⟩ := rvs1 r
    obtain ⟨kvs, k, l, rfl, q⟩ := h
    obtain ⟨us, hq, rr⟩ := rs.dic l
    rw [rv_key ry]
    exact ⟨_, _, _, rfl, DGet.k hq, .inl ⟨rfl, po _ _ _ _ q .refl rs (rkv_getD rr k .non)⟩⟩
  · cases rx
    obtain ⟨v, z, rfl, ry, rz⟩ := rvs2 r
    obtain ⟨kvs, k, l, rfl, q⟩ := h
    obtain ⟨us, hq, rr⟩ := rs.dic l
    rw [rv_key ry]
    exact ⟨_, _, _, rfl, DGet.k hq, .inr ⟨z, rfl, po _ _ _ _ q .refl rs (rkv_getD rr k rz)⟩⟩
  · cases rx with
    | dct hq l r1 =>
      obtain ⟨v, rfl, ry⟩ := rvs1 r
      obtain ⟨k, rfl, q⟩ := h
      rw [rv_key ry]
      exact ⟨_, _, _, rfl, .inl ⟨_, k, .inr hq, rfl, rfl⟩, .inl ⟨rfl, po _ _ _ _ q .refl rs (rkv_getD (rkv_zip l r1) k .non)⟩⟩
  · cases rx with
    | dct hq l r1 =>
      obtain ⟨v, z, rfl, ry, rz⟩ := rvs2 r
      obtain ⟨k, rfl, q⟩ := h
      rw [rv_key ry]
      exact ⟨_, _, _, rfl, .inl ⟨_, k, .inr hq, rfl, rfl⟩, .inr ⟨z, rfl, po _ _ _ _ q .refl rs (rkv_getD (rkv_zip l r1) k rz)⟩⟩
  · exact h.elim⟩
theorem ml_getD : Mth "dict" "get" "dict.get" := ⟨PySem.F.plainAttrs_dict, PySem.F.slot_dict_get, PySem.F.type_dict_get⟩
end Dp
/-! len(set(x)), sorted(set(x)) of whole numbers; the list's rule is the kit's rule for tuples, turned -/
namespace Dp
open PySem PySem.Spec L2
open PyProof.Rows hiding St
section
variable {P : Program} {w : World} {A : Around} {E : Value → Shared → Prop} {s : Shared}
theorem call_set_lstI {l : Addr} {items : Array Value} (ns : List Int) {Q : Value → Shared → Prop} (hh : A.handled = none) (hl : s.heap.IsList l items) (hit : IntsAre items.toList ns) (hb : ns.length + 1 < scanBound)
    (h : ∀ (h' : Heap) (tk c : Nat), SetR w h' s.heap.objs.size (fun j => decide (j ∈ ns)) c → c ≤ ns.length → (∀ b o, s.heap.get? b = some o → h'.get? b = some o) → Q (.ref s.heap.objs.size) { s with heap := h', toks := tk }) :
    wpAny (model P w) A (call (.type "set") [.ref l]) Q E s := by
  have hisz : items.size = ns.length := by
    have q := IntsAre.length hit
    rw [Array.length_toList] at q
    exact q
  obtain ⟨c, tl, hmro⟩ := F.called_set.mro
  have hmade := F.called_set.made
  have hsub := F.called_set.sub
  refine wpAny_call (codeAny_of_tree ?_)
  show wpAny _ _ (callAny (.type "set") _) _ _ _
  refine wpAny_pure ⟨Code.quiet_builtin _ (by decide +kernel), codeAny_builtin F.entry_type_call ?_⟩
  rw [Around.under_plain (weight_type_call_type "set" [.ref l] []) rfl]
  have h1 := F.called_set.notType
  have h2 := F.called_set.canCreate
  have hct := F.typeCall_set_1 (.ref l)
  repeat (any_goals (first | assumption | wp_step))

  refine codeAny_mono (code_set_led1 (.ref l) (E := E) (Q₁ := fun obj s₁ => obj = .ref s.heap.objs.size ∧ s₁ = { s with heap := s.heap.push { cls := .type "set", dict := none, data := .set #[] 0 (.fresh 0 0 (!w.params.followText "set-order")) } }) ⟨rfl, rfl⟩) fun r s₁ hr => ?_
  cases r with
  | error e => exact hr
  | ok fl =>
    cases fl with
    | ret obj =>
      obtain ⟨rfl, rfl⟩ := hr
      have hS : (s.heap.push { cls := .type "set", dict := none, data := .set #[] 0 (.fresh 0 0 (!w.params.followText "set-order")) }).get? s.heap.objs.size = some { cls := .type "set", dict := none, data := .set #[] 0 (.fresh 0 0 (!w.params.followText "set-order")) } := Heap.get?_push_size _ rfl
      have hT : Shared.TypeIs { s with heap := s.heap.push { cls := .type "set", dict := none, data := .set #[] 0 (.fresh 0 0 (!w.params.followText "set-order")) } } (.ref s.heap.objs.size) "set" := ⟨_, hS, rfl⟩
      have hli := F.called_set.init.lookup
      have hbi := F.called_set.init.bind (.ref s.heap.objs.size)
      repeat (any_goals (first | assumption | wp_step))

      refine codeAny_mono (codeAny_call_builtin (R := wants (fun r s₂ => r = .none ∧ ∃ h' tk c, s₂ = { s with heap := h', toks := tk } ∧ SetR w h' s.heap.objs.size (fun j => decide (j ∈ ns)) c ∧ c ≤ ns.length ∧
          (∀ b o, s.heap.get? b = some o → h'.get? b = some o)) E) F.called_set.init.plain F.entry_set_init (check_set_init_1 hT ?_)) fun r₂ s₂ hr₂ => ?_
      · obtain ⟨ol, hol, hcl, nl, hdl⟩ := hl
        obtain ⟨ocls, odict, odata, oslots⟩ := ol
        simp only at hcl hdl
        subst hcl; subst hdl
        have hol' : (s.heap.push { cls := .type "set", dict := none, data := .set #[] 0 (.fresh 0 0 (!w.params.followText "set-order")) }).get? l = some { cls := .type "list", dict := odict, data := .seq items nl, slots := oslots } := Heap.get?_push_of_some _ hol
        have hsls := F.sub_list_set
        have hslf := F.sub_list_frozenset
        have hne : (Value.type "list" == Value.type "dict") = false := by decide
        have hl1 : (s.heap.push { cls := .type "set", dict := none, data := .set #[] 0 (.fresh 0 0 (!w.params.followText "set-order")) }).IsList l items := ⟨_, hol', rfl, nl, rfl⟩
        unfold Builtin.«set.__init__» noKeywords Builtin.Frozenset.updateFrom
        generalize hPI : pyIter = PI
        wp_walk
        subst hPI

        refine wpAny_pyIter_list hl1 ?_
        refine wpAny_bind (wpAny_runValue ?_)
        have hlS : l < s.heap.objs.size := Heap.lt_size hol
        have hh3 : A.in1.in1.in1.handled = none := by simp [hh]
        have hz1 : (s.heap.push { cls := .type "set", dict := none, data := .set #[] 0 (.fresh 0 0 (!w.params.followText "set-order")) }).objs.size = s.heap.objs.size + 1 := Heap.size_push ..
        have hneI : l ≠ (s.heap.push { cls := .type "set", dict := none, data := .set #[] 0 (.fresh 0 0 (!w.params.followText "set-order")) }).objs.size := by
          rw [Heap.size_push]; exact Nat.ne_of_lt (Nat.lt_succ_of_lt hlS)
        have hSf : s.heap.objs.size ∉ [(s.heap.push { cls := .type "set", dict := none, data := .set #[] 0 (.fresh 0 0 (!w.params.followText "set-order")) }).objs.size, l] := by
          rw [Heap.size_push]; simp only [List.mem_cons, List.mem_singleton, List.not_mem_nil, or_false, not_or]
          exact ⟨Nat.ne_of_lt (Nat.lt_succ_self _), Nat.ne_of_gt hlS⟩
        have hval : ∀ (i : Nat) (v : Value), items[i]? = some v → ∃ k t, ns[i]? = some k ∧ v = .int k t := fun i v hv => by
          have hi : i < ns.length := by rw [← hisz]; exact (Array.getElem?_eq_some_iff.mp hv).1
          obtain ⟨t, e⟩ := PyProof.Rows.IntsAre.int_at hit i v (by rw [Array.getElem?_toList]; exact hv)
          refine ⟨ns[i], t, List.getElem?_eq_getElem hi, ?_⟩
          rw [e, List.getD_eq_getElem?_getD, List.getElem?_eq_getElem hi] <;> rfl
        refine set_update_ints ((Walks.list hh3 _ l hneI items).toS) s.heap.objs.size
          hSf ns hisz hb hval (items.size - 0) 0 _ (by omega) (Nat.zero_le _)
          ⟨⟨_, Heap.get?_push_size _ rfl, rfl, rfl⟩, (hl1.push _)⟩ ?hS0 ?hR
        case hS0 =>
          have hget : ((s.heap.push { cls := .type "set", dict := none, data := .set #[] 0 (.fresh 0 0 (!w.params.followText "set-order")) }).push { cls := .type "list_iterator", data := .fields #[.ref l, .int 0 0] }).get? s.heap.objs.size
              = some { cls := .type "set", dict := none, data := .set #[] 0 (.fresh 0 0 (!w.params.followText "set-order")) } := Heap.get?_push_of_some _ hS
          exact ⟨0, Nat.le_refl 0, setR_new_at hget⟩
        case hR =>
          intro s' c' hm hc' hS'
          obtain ⟨h', g2, d', tk', os'⟩ := s'
          have eg : g2 = s.gens := hm.gens
          have ed : d' = s.drawn := hm.drawn
          have eo : os' = s.os := hm.os
          subst eg; subst ed; subst eo
          show wpAny _ _ _ _ _ _
          refine wpAny_pure ?_
          show wpAny _ _ (ret Value.none) _ _ _
          rw [hisz] at hc'
          refine wpAny_pure ⟨rfl, h', tk', c', rfl, hS', hc', fun b o e => ?_⟩
          have hb0 : b < s.heap.objs.size := Heap.lt_size e
          have hb1 : b ≠ s.heap.objs.size := Nat.ne_of_lt hb0
          have hb2 : b ≠ (s.heap.push { cls := .type "set", dict := none, data := .set #[] 0 (.fresh 0 0 (!w.params.followText "set-order")) }).objs.size := by
            rw [Heap.size_push]; exact Nat.ne_of_lt (Nat.lt_succ_of_lt hb0)
          exact hm.heap b o (by simp only [List.mem_cons, List.mem_singleton, List.not_mem_nil, or_false, not_or]; exact ⟨hb1, hb2⟩) (Heap.get?_push_of_some _ (Heap.get?_push_of_some _ e))

      · cases r₂ with
        | error e => exact hr₂
        | ok fl₂ =>
          cases fl₂ with
          | ret r =>
            obtain ⟨rfl, h', tk, c', rfl, hS', hc', hk'⟩ := hr₂
            repeat (any_goals (first | assumption | wp_step))
            exact h _ _ _ hS' hc' hk'
          | _ => exact hr₂.elim
    | _ => exact hr.elim

end
end Dp
namespace Dp
open PySem PySem.Spec L2
open PyProof.Rows hiding St
section
variable {X : Cx}
theorem call_set_any {pins : List (Addr × Obj)} {σ : L2.St} {H : Hp} {s : Shared} {p : Addr} {ns : List Int} {A : Around} {E : Value → Shared → Prop} {Q : Value → Shared → Prop} (I : Inv X pins σ H s) (hh : A.handled = none)
    (hq : SqL X.K H p (ns.map V.int) ∨ SqT X.K H p (ns.map V.int)) (hl : ns.length ≤ 4000)
    (h : ∀ (h' : Heap) (tk c : Nat), SetR X.w h' s.heap.objs.size (fun j => decide (j ∈ ns)) c → c ≤ ns.length → (∀ b o, s.heap.get? b = some o → h'.get? b = some o) → Q (.ref s.heap.objs.size) { s with heap := h', toks := tk }) :
    wpAny (model X.prog X.w) A (call (.type "set") [.ref p]) Q E s := by
  rcases hq with hq | hq
  · obtain ⟨its, rv, pl, hz⟩ := I.list hq
    have hi : IntsAre its.toArray.toList ns := ints_of_vals rv
    exact call_set_lstI ns hh pl.isList hi (by unfold scanBound; omega) h
  · obtain ⟨its, rv, pt, hz⟩ := I.tuple hq
    have hi : IntsAre its.toArray.toList ns := ints_of_vals rv
    exact call_set_tupI ns hh (show s.heap.IsTuple p its.toArray from pt) hi (by unfold scanBound; omega) h
/-- len(set(e)), sorted(set(e)) -/
def setN : Bool → Str
  | true => "len"
  | false => "sorted"
def tSset (t : Bool) (K : PySem.W.Frag) (ta : TE) : TE := fun σ H Q => ta σ H fun x H1 => ∃ (p : Addr) (ns : List Int), x = .ref p ∧ (SqL K H1 p (ns.map V.int) ∨ SqT K H1 p (ns.map V.int)) ∧ ns.length < (if t = true then 4001 else 64) ∧
  if t = true then ∀ out : List Int, out.Nodup → (∀ k, k ∈ out ↔ k ∈ ns) → Q (.int (out.length : Nat)) H1
  else ∀ (out : List Int) (q : Addr), out.Pairwise (· < ·) → (∀ k, k ∈ out ↔ k ∈ ns) → H1 q = none → Q (.ref q) (upd H1 q (.lst (out.map V.int)))
theorem pe_lenSetG {e : Expr} {ta : TE} {p p2 q pos : Pos} (hc : X.calm = true) (hg : Gl X "len") (hm : X.mg "len" = none) (hg2 : Gl X "set") (hm2 : X.mg "set" = none) (ha : PE X e ta) (na : starEach [e] X.env = [(false, eval e X.env)]) :
    PE X (.Call (.Name "len" p) [.Call (.Name "set" p2) [e] [] q] [] pos) (tSset true X.K ta) := by
  refine ⟨fun pins s σ H Q I h => ?_⟩
  refine Call_ (ld_blt I hg hm PySem.boot_len ?_)
  refine PyProof.Rows.callWith_builtin1 (PyProof.Rows.args_cons ?_ rfl) rfl rfl
  refine Call_ (ld_blt I hg2 hm2 PyProof.Rows.boot_set ?_)
  refine PyProof.Rows.callWith_type1 (PyProof.Rows.args_cons (thn (ha.run pins s σ H _ I h) fun v s1 ⟨x, H1, I1, r1, q1⟩ => PyProof.Rows.args_nil ?_) na) na rfl
  obtain ⟨l, ns, rfl, hq, hl, q1⟩ := q1
  cases r1
  rw [if_pos rfl] at hl q1
  refine call_set_any I1 (I1.ok.hd hc) hq (by omega) fun h' tk c R1 hcn k => ?_
  refine PyProof.Rows.args_nil ?_
  obtain ⟨o, es, ep, t, ho, hex, hdt, g, nd, hm2, hb, hf, hn, hr, hl2⟩ := R1
  have I2 : Inv X pins σ H1 { s1 with heap := h', toks := tk } := I1.kept k
  have q2 := q1 (es.toList.map keyOf) nd fun k => by rw [← hm2 k, decide_eq_true_eq]
  rw [List.length_map, Array.length_toList] at q2
  exact call_len_set ho hex hdt hf (by omega) ⟨.int es.size, H1, I2.tok _, ⟨_, rfl⟩, q2⟩
theorem pe_sortSetG {e : Expr} {ta : TE} {p p2 q pos : Pos} (hc : X.calm = true) (hg : Gl X "sorted") (hm : X.mg "sorted" = none) (hg2 : Gl X "set") (hm2 : X.mg "set" = none) (ha : PE X e ta) (na : starEach [e] X.env = [(false, eval e X.env)]) :
    PE X (.Call (.Name "sorted" p) [.Call (.Name "set" p2) [e] [] q] [] pos) (tSset false X.K ta) := by
  refine ⟨fun pins s σ H Q I h => ?_⟩
  refine Call_ (ld_blt I hg hm (u := .builtin "sorted") (by decide +kernel) ?_)
  refine PyProof.Rows.callWith_builtin1 (PyProof.Rows.args_cons ?_ rfl) rfl rfl
  refine Call_ (ld_blt I hg2 hm2 PyProof.Rows.boot_set ?_)
  refine PyProof.Rows.callWith_type1 (PyProof.Rows.args_cons (thn (ha.run pins s σ H _ I h) fun v s1 ⟨x, H1, I1, r1, q1⟩ => PyProof.Rows.args_nil ?_) na) na rfl
  obtain ⟨l, ns, rfl, hq, hl, q1⟩ := q1
  cases r1
  rw [if_neg (by decide)] at hl q1
  refine call_set_any I1 (I1.ok.hd hc) hq (by omega) fun h' tk c R1 hcn k => ?_
  refine PyProof.Rows.args_nil ?_
  have I2 : Inv X pins σ H1 { s1 with heap := h', toks := tk } := I1.kept k
  refine sorted_set (s := { s1 with heap := h', toks := tk }) R1 (I1.ok.hd hc) (by omega) fun s' p out c' ms k' g o hp hg hi hs hmm hl' => ?_
  have hlen : (ms.map V.int).length ≤ sizeLine := by rw [List.length_map, hl', sizeLine_eq]; omega
  have hn : H1 p = none := I2.hok.fresh hp
  have J : Inv X pins σ (upd H1 p (.lst (ms.map V.int))) { s1 with heap := s'.heap, gens := s'.gens, drawn := s'.drawn, toks := s'.toks } :=
    Inv.call (s := { s1 with heap := h', toks := tk }) (ch := []) I2 (Un.laid k' hp hn) (I2.hok.laid k' hp ⟨hlen, out.toList, c', vals_of_ints hi, hg⟩) (by rw [g]; exact I2.bare) (fun _ z => nomatch z)
  have e : s' = { s1 with heap := s'.heap, gens := s'.gens, drawn := s'.drawn, toks := s'.toks } := by
    cases s'
    cases s1
    cases o
    rfl
  rw [e]
  exact ⟨.ref p, _, J, rfl, q1 ms p hs (fun j => by rw [hmm j, decide_eq_true_eq]) hn⟩
end
def intsW (S : Sto) (x : W) (P : List Int → Prop) : Prop := match x with
  | .tp _ xs => ∃ ns : List Int, xs = ns.map W.int ∧ P ns
  | x => rdK S x fun xs => ∃ ns : List Int, xs = ns.map W.int ∧ P ns
@[irreducible] def ssetK (t : Bool) : UOp := fun x S K => intsW S x fun ns => ns.length < (if t = true then 4001 else 64) ∧
  if t = true then ∀ out : List Int, out.Nodup → (∀ k, k ∈ out ↔ k ∈ ns) → K (.int (out.length : Nat)) S
  else ∀ (out : List Int) (q : Addr), out.Pairwise (· < ·) → (∀ k, k ∈ out ↔ k ∈ ns) → S q = none → K (.ref q) (S.put q (.lst (out.map W.int)))
theorem s_sset {X : Cx} {c : Cst} {Wx : WX} {t : Bool} {e : Expr} {a : WE} {p p2 q pos : Pos} (hK : c.K = X.K) (hc : X.calm = true) (hg : Gl X (setN t)) (hm : X.mg (setN t) = none) (hg2 : Gl X "set") (hm2 : X.mg "set" = none) (ha : PE X e (tE c Wx a)) (na : starEach [e] X.env = [(false, eval e X.env)]) :
    PE X (.Call (.Name (setN t) p) [.Call (.Name "set" p2) [e] [] q] [] pos) (tE c Wx (mUn (ssetK t) a)) := by
  have h : PE X (.Call (.Name (setN t) p) [.Call (.Name "set" p2) [e] [] q] [] pos) (tSset t X.K (tE c Wx a)) := by
    cases t with
    | true => exact pe_lenSetG hc hg hm hg2 hm2 ha na
    | false => exact pe_sortSetG hc hg hm hg2 hm2 ha na
  refine PE.imp h fun σ H Q q => ?_
  obtain ⟨ρ, S, Kk, Ek, re, rs, hm, po, px⟩ := q
  refine ⟨ρ, S, _, Ek, re, rs, hm, fun x S1 H1 u k1 e1 rs1 rx => ?_, px⟩
  have key : ∃ (p : Addr) (ns : List Int), u = .ref p ∧ (SqL c.K H1 p (ns.map V.int) ∨ SqT c.K H1 p (ns.map V.int)) ∧ ns.length < (if t = true then 4001 else 64) ∧
      if t = true then ∀ out : List Int, out.Nodup → (∀ k, k ∈ out ↔ k ∈ ns) → Kk (.int (out.length : Nat)) S1
      else ∀ (out : List Int) (q : Addr), out.Pairwise (· < ·) → (∀ k, k ∈ out ↔ k ∈ ns) → S1 q = none → Kk (.ref q) (S1.put q (.lst (out.map W.int))) := by
    unfold ssetK at k1
    by_cases ht : ∃ k ws, x = .tp k ws
    · obtain ⟨k, ws, rfl⟩ := ht
      obtain ⟨ns, rfl, l, k2⟩ := k1
      cases rx with
      | tp hq r =>
        have e := rvs_map (g := V.int) (fun x v r => by cases r; rfl) r
        exact ⟨_, ns, rfl, .inr (e ▸ hq.sq), l, k2⟩
    · have k1 : rdK S1 x fun xs => ∃ ns : List Int, xs = ns.map W.int ∧ (ns.length < (if t = true then 4001 else 64) ∧
          if t = true then ∀ out : List Int, out.Nodup → (∀ k, k ∈ out ↔ k ∈ ns) → Kk (.int (out.length : Nat)) S1
          else ∀ (out : List Int) (q : Addr), out.Pairwise (· < ·) → (∀ k, k ∈ out ↔ k ∈ ns) → S1 q = none → Kk (.ref q) (S1.put q (.lst (out.map W.int)))) := by
        unfold intsW at k1
        split at k1
        · exact absurd ⟨_, _, rfl⟩ ht
        · exact k1
      obtain ⟨ws, l, ns, rfl, l2, k2⟩ := rdK_of k1
      obtain ⟨a, vs, rfl, hq, r⟩ := rs1.list rx l
      have e := rvs_map (g := V.int) (fun x v r => by cases r; rfl) r
      exact ⟨a, ns, rfl, .inl (e ▸ hq), l2, k2⟩
  obtain ⟨p, ns, rfl, hq, l, k2⟩ := key
  refine ⟨p, ns, rfl, hK ▸ hq, l, ?_⟩
  cases t with
  | true => exact fun out nd hi => po _ _ _ _ (k2 out nd hi) e1 rs1 (.int _)
  | false => exact fun out q hs hi hq => po _ _ _ _ (k2 out q hs hi (rs1.fresh hq)) (e1.trans (.new hq)) (rs1.new hq (.lst (rvs_intsD _))) (.ref q)
end Dp
namespace Dp
open PySem PySem.Spec L2
open PyProof.Rows hiding St

/-! ### sum of a tuple -/
theorem preSum_ints : ∀ (xs : Array (Int × Tok)), preSum (numAt xs) xs.size = (numsOf (intItems xs).toList).sum := fun xs => by
  rw [nums_intItems, preSum_eq, List.take_of_length_le (by simp)]
theorem sum_tuple {prog : Program} {w : World} {A : Around} {E : Value → Shared → Prop} {s : Shared} {l : Addr} {its : List Value} {ns : List Int} {Q : Value → Shared → Prop} (hh : A.handled = none) (hl : s.heap.IsTuple l its.toArray) (hi : IntsAre its ns)
    (h : ∀ h' tk t', (∀ b o, s.heap.get? b = some o → h'.get? b = some o) → Q (.int ns.sum t') { s with heap := h', toks := tk }) : wpAny (model prog w) A (call (.builtin "sum") [.ref l]) Q E s := by
  obtain ⟨xs, e⟩ := hi.allInts.items
  have hn : numsOf (intItems xs).toList = ns := by rw [← e]; exact hi.numsOf
  rw [e] at hl
  have hlt : l < s.heap.objs.size := by obtain ⟨_, e, _⟩ := hl; exact Heap.lt_size e
  refine call_sum_walkG (wpAny_pyIter_tuple hl ?_)
  refine ⟨_, _, _, _, _, _, numAt xs, rfl, Walks.tuple (A := A.in1) hh s.heap.objs.size l (Nat.ne_of_lt hlt) (intItems xs), ⟨⟨_, Heap.get?_push_size _ rfl, rfl, rfl⟩, ?_⟩, fun b hb => ?_, (fun _ _ => intItems_at), fun h' tk t' hk => ?_⟩
  · obtain ⟨o, e1, e2⟩ := hl
    exact ⟨o, Heap.get?_push_of_some _ e1, e2⟩
  · show b < (s.heap.push _).objs.size
    rw [Heap.size_push]
    have hb : b = s.heap.objs.size ∨ b = l := by simpa using hb
    rcases hb with rfl | rfl
    · exact Nat.lt_succ_self _
    · exact Nat.lt_succ_of_lt hlt
  · have := h h' tk t' fun b o q => hk b o (fun m => by
      have hb : b = s.heap.objs.size := by simpa using m
      exact absurd (hb ▸ Heap.lt_size q) (Nat.lt_irrefl _)) (Heap.get?_push_of_some _ q)
    rw [← hn, ← preSum_ints] at this
    simpa [intItems] using this
def rSumT (K : PySem.W.Frag) : List V → Hp → VK → Prop := fun vs H Q => ∃ (a : Addr) (ns : List Int), vs = [V.ref a] ∧ SqT K H a (ns.map V.int) ∧ Q (.int ns.sum) H
theorem cr_sumT {X : Cx} (hc : X.calm = true) : CallR X (.builtin "sum") (rSumT X.K) := by
  intro pins s σ H vs us Q I r h
  obtain ⟨a, ns, rfl, hs, q⟩ := h
  obtain ⟨its, rv, hl, _⟩ := I.tuple hs
  rw [Vals.ref1 r]
  exact sum_tuple (I.ok.hd hc) hl rv.ints fun h' tk t' hk => ⟨.int _, H, I.kept hk, ⟨_, rfl⟩, q⟩
theorem CallR.or {X : Cx} {f : Value} {r r' : List V → Hp → VK → Prop} (h : CallR X f r) (h' : CallR X f r') : CallR X f (fun vs H Q => r vs H Q ∨ r' vs H Q) := by
  intro pins s σ H vs us Q I rr q
  rcases q with q | q
  · exact h pins s σ H vs us Q I rr q
  · exact h' pins s σ H vs us Q I rr q
/-- sum: a list or a tuple -/
def fSum2 : NOp := fun ws S K => match ws with
  | [.tp _ xs] => ∃ ns : List Int, xs = ns.map W.int ∧ K (.int ns.sum) S
  | ws => fSum ws S K
theorem o_sum2 {c : Cst} : OpN c (fun vs H Q => rSum c.K vs H Q ∨ rSumT c.K vs H Q) fSum2 := fun ws vs H S Kk Q rs r h po => by
  by_cases ht : ∃ k xs, ws = [.tp k xs]
  · obtain ⟨k, xs, rfl⟩ := ht
    obtain ⟨v, rfl, rx⟩ := rvs1 r
    obtain ⟨ns, rfl, k⟩ := (show ∃ ns : List Int, xs = ns.map W.int ∧ Kk (.int ns.sum) S from h)
    cases rx with
    | tp q rr =>
      rw [rvs_map (g := V.int) (fun x v r => by cases r; rfl) rr] at q
      exact .inr ⟨_, ns, rfl, q.sq, po _ S H _ k .refl rs (.int _)⟩
  · refine .inl (o_sum ws vs H S Kk Q rs r ?_ po)
    unfold fSum2 at h
    split at h
    · exact absurd ⟨_, _, rfl⟩ ht
    · exact h
/-! ### repr of flat values -/
theorem repr_non {prog : Program} {w : World} {A : Around} {E : Value → Shared → Prop} {s : Shared} {Q : Value → Shared → Prop} (h : Q (.str "None" s.toks) { s with toks := s.toks + 1 }) : wpAny (model prog w) A (call (.builtin "repr") [.none]) Q E s :=
  PySem.call_repr_gives (typeIs_none s) F.slot_NoneType_repr F.entry_NoneType_repr (F.args_NoneType_repr_1 _) gives_none_repr h (hx := by decide)
def rReprF : List V → Hp → VK → Prop := fun vs H Q => (vs = [.non] ∧ Q (.str (PyData.none).shown) H) ∨ (∃ b, vs = [.bl b] ∧ Q (.str (PyData.bool b).shown) H) ∨ (∃ i, vs = [.int i] ∧ i.natAbs.log2 < 1920 ∧ Q (.str (PyData.int i).shown) H) ∨
  ∃ x, vs = [.str x] ∧ (reprText x).length ≤ sizeLine ∧ Q (.str (PyData.str x).shown) H
theorem cr_reprF {X : Cx} : CallR X (.builtin "repr") rReprF := by
  intro pins s σ H vs us Q I r h
  rcases h with ⟨rfl, q⟩ | ⟨b, rfl, q⟩ | ⟨i, rfl, hi, q⟩ | ⟨x, rfl, hx, q⟩
  · obtain ⟨u, rfl, ru⟩ := vals1 r
    cases ru
    exact repr_non ⟨.str _, H, I.tok _, ⟨_, rfl⟩, q⟩
  · obtain ⟨u, rfl, ru⟩ := vals1 r
    cases ru
    exact PySem.P.repr_of_bool ⟨.str _, H, I.tok _, ⟨_, rfl⟩, q⟩
  · obtain ⟨u, rfl, t, rfl⟩ := vals1 r
    exact PySem.P.repr_of_int hi ⟨.str _, H, I.tok _, ⟨_, rfl⟩, q⟩
  · obtain ⟨u, rfl, t, rfl⟩ := vals1 r
    exact PySem.P.repr_of_str ⟨.str _, H, I.tok _, ⟨_, rfl⟩, q⟩ hx
/-- repr of anything that data denotes -/
@[irreducible] def fRepr2 : NOp := fun ws S K => match ws with
  | [x] => ∃ d, Den S x d ∧ d.showable = true ∧ d.depth ≤ 60 ∧ d.shown.length ≤ sizeLine ∧ K (.str d.shown) S
  | _ => False
theorem o_repr2 {c : Cst} : OpN c (fun vs H Q => rReprF vs H Q ∨ rReprW c.K vs H Q) fRepr2 := fun ws vs H S Kk Q rs r h po => by
  unfold fRepr2 at h
  split at h
  · rename_i x
    obtain ⟨d, hd, h2, h3, h4, k⟩ := h
    by_cases hf : isRefW x = true
    · exact .inr (o_repr [x] vs H S Kk Q rs r (by unfold fRepr; exact ⟨hf, d, hd, h2, h3, h4, k⟩) po)
    · obtain ⟨v, rfl, rx⟩ := rvs1 r
      refine .inl ?_
      cases hd with
      | non => cases rx; exact .inl ⟨rfl, po _ S H _ k .refl rs (.str _)⟩
      | bl b => cases rx; exact .inr (.inl ⟨b, rfl, po _ S H _ k .refl rs (.str _)⟩)
      | int i => cases rx; exact .inr (.inr (.inl ⟨i, rfl, of_decide_eq_true h2, po _ S H _ k .refl rs (.str _)⟩))
      | str z => cases rx; exact .inr (.inr (.inr ⟨z, rfl, h4, po _ S H _ k .refl rs (.str _)⟩))
      | tup _ => exact absurd rfl hf
      | lst _ => exact absurd rfl hf
      | cel _ _ => exact absurd rfl hf
  · exact h.elim
/-! ### a tuple some times over -/
theorem tuple_mul1 (l : Addr) (items : Array Value) (n : Nat) (dd : Option Addr) (sl : Array (Option Value)) (u : Tok) :
    Meets (Builtin.«tuple.__mul__» ⟨[.ref l, .int 1 u], []⟩) (fun _ R s => s.heap.get? l = some { cls := .type "tuple", dict := dd, data := .seq items n, slots := sl } ∧ R (.ok (.ret (Value.ref l))) s) :=
  .of_wp fun prog w A R s h => by
    obtain ⟨hp, g, d, tk, os⟩ := s
    obtain ⟨hl, h⟩ := h
    have f1 := AutoSeq1.idx_int
    wp_walk using wpAny_loadPart' hl
    exact ⟨_, rfl, h⟩
def rRepT1 (K : PySem.W.Frag) : R2 := fun x y H Q => ∃ l xs, x = .ref l ∧ y = .int 1 ∧ SqT K H l xs ∧ Q (.ref l) H
theorem op_repT1 {X : Cx} : OpR X (binaryOp .Mult) (rRepT1 X.K) := by
  intro pins s σ H x y v u Q I rx ry h
  obtain ⟨l, xs, rfl, rfl, hT, q⟩ := h
  cases rx
  obtain ⟨t, rfl⟩ := ry
  obtain ⟨its, r, ⟨⟨cls, dd, data, sl⟩, ho, hc, n, hd⟩, hs⟩ := I.tuple hT
  simp only at hc hd
  subst hc hd
  refine wpAny_binaryOp_repeat_ref (T := "tuple") (U := "int") (by decide) ⟨_, ho, rfl⟩ (fun s' => typeIs_int s' 1 t) noFill_tuple_mul F.fills_int_mul F.slot_int_rmul repeat_tuple F.slot_int_index.lookup
    (call_meets F.slot_int_rmul (typeIs_int s 1 t) F.entry_int_rmul (F.args_int_rmul_2 _ _) (int_rmul_tuple 1 t l its.toArray n dd sl)
      ⟨ho, rfl, ⟨_, ho, rfl⟩, call_meets F.slot_tuple_mul ⟨_, ho, rfl⟩ F.entry_tuple_mul (F.args_tuple_mul_2 _ _) (tuple_mul1 l its.toArray n dd sl t) ⟨ho, ?_⟩⟩)
  exact ⟨.ref l, H, I, rfl, q⟩
theorem tuple_mul_e (l : Addr) (items : Array Value) (n : Nat) (dd : Option Addr) (sl : Array (Option Value)) (x : Int) (u : Tok) (c0 : (decide (x < -(2 ^ 63)) || decide (x ≥ 2 ^ 63)) = false) (c1 : (items.isEmpty || x == 1) = true) :
    Meets (Builtin.«tuple.__mul__» ⟨[.ref l, .int x u], []⟩) (fun _ R s => s.heap.get? l = some { cls := .type "tuple", dict := dd, data := .seq items n, slots := sl } ∧ R (.ok (.ret (Value.ref l))) s) :=
  .of_wp fun prog w A R s h => by
    obtain ⟨hp, g, d, tk, os⟩ := s
    obtain ⟨hl, h⟩ := h
    have f1 := AutoSeq1.idx_int
    wp_walk using wpAny_loadPart' hl
    repeat (first
      | (refine wpAny_ite_false (decide_eq_false (by rw [c0]; exact Bool.false_ne_true)) ?_; wp_walk using wpAny_loadPart' hl)
      | (refine wpAny_ite_true (decide_eq_true (by rw [c1])) ?_; wp_walk using wpAny_loadPart' hl))
    exact ⟨_, rfl, h⟩
theorem tuple_mul_0 (l : Addr) (items : Array Value) (n : Nat) (dd : Option Addr) (sl : Array (Option Value)) (x : Int) (u : Tok) (c0 : (decide (x < -(2 ^ 63)) || decide (x ≥ 2 ^ 63)) = false) (c1 : (items.isEmpty || x == 1) = false) (c2 : (decide (x ≤ 0) || items.isEmpty) = true) :
    Meets (Builtin.«tuple.__mul__» ⟨[.ref l, .int x u], []⟩) (fun _ R s => s.heap.get? l = some { cls := .type "tuple", dict := dd, data := .seq items n, slots := sl } ∧
      R (.ok (.ret (Value.ref s.heap.objs.size))) { s with heap := s.heap.push { cls := Value.type "tuple", data := Data.seq #[] }, toks := s.toks }) :=
  .of_wp fun prog w A R s h => by
    obtain ⟨hp, g, d, tk, os⟩ := s
    obtain ⟨hl, h⟩ := h
    have f1 := AutoSeq1.idx_int
    wp_walk using wpAny_loadPart' hl
    repeat (first
      | (refine wpAny_ite_false (decide_eq_false (by rw [c0]; exact Bool.false_ne_true)) ?_; wp_walk using wpAny_loadPart' hl)
      | (refine wpAny_ite_false (decide_eq_false (by rw [c1]; exact Bool.false_ne_true)) ?_; wp_walk using wpAny_loadPart' hl)
      | (refine wpAny_ite_true (decide_eq_true (by rw [c2])) ?_; wp_walk using wpAny_loadPart' hl))
    exact ⟨_, rfl, h⟩
def rRepT0 (K : PySem.W.Frag) : R2 := fun x y H Q => ∃ l k xs, x = .ref l ∧ y = .int k ∧ SqT K H l xs ∧ -(2 ^ 63) ≤ k ∧ k < 2 ^ 63 ∧ ((xs = [] ∧ Q (.ref l) H) ∨ (xs ≠ [] ∧ k ≤ 0 ∧ FrT H Q []))
theorem op_repT0 {X : Cx} : OpR X (binaryOp .Mult) (rRepT0 X.K) := by
  intro pins s σ H x y v u Q I rx ry h
  obtain ⟨l, k, xs, rfl, rfl, hT, k1, k2, h⟩ := h
  cases rx
  obtain ⟨t, rfl⟩ := ry
  obtain ⟨its, r, ⟨⟨cls, dd, data, sl⟩, ho, hc, n, hd⟩, hs⟩ := I.tuple hT
  simp only at hc hd
  subst hc hd
  have a0 : (decide (k < -(2 ^ 63)) || decide (k ≥ 2 ^ 63)) = false := by simp; omega
  have ty : s.TypeIs (.ref l) "tuple" := ⟨_, ho, rfl⟩
  refine wpAny_binaryOp_repeat_ref (T := "tuple") (U := "int") (by decide) ty (fun s' => typeIs_int s' k t) noFill_tuple_mul F.fills_int_mul F.slot_int_rmul repeat_tuple F.slot_int_index.lookup
    (call_meets F.slot_int_rmul (typeIs_int s k t) F.entry_int_rmul (F.args_int_rmul_2 _ _) (int_rmul_tuple k t l its.toArray n dd sl) ⟨ho, rfl, ty, ?_⟩)
  rcases h with ⟨rfl, q⟩ | ⟨hne, k0, q⟩
  · have e : its = [] := by cases r; rfl
    subst e
    exact call_meets F.slot_tuple_mul ty F.entry_tuple_mul (F.args_tuple_mul_2 _ _) (tuple_mul_e l #[] n dd sl k t a0 rfl) ⟨ho, .ref l, H, I, rfl, q⟩
  · have many : its.toArray.isEmpty = false := by
      cases its with
      | nil => cases r; exact absurd rfl hne
      | cons _ _ => rfl
    have a1 : (its.toArray.isEmpty || k == 1) = false := by rw [many]; simp; omega
    have a2 : (decide (k ≤ 0) || its.toArray.isEmpty) = true := by simp [k0]
    have fin := frT (us := #[]) (t := s.toks) I (xs := []) .nil (Nat.zero_le _) q
    exact call_meets F.slot_tuple_mul ty F.entry_tuple_mul (F.args_tuple_mul_2 _ _) (tuple_mul_0 l its.toArray n dd sl k t a0 a1 a2) ⟨ho, fin⟩
/-- xs * k of a tuple -/
@[irreducible] def bMul2 : BOp := fun x y S K => match x, y with
  | .tp false xs, .int k => -(2 ^ 63) ≤ k ∧ k ≤ 1000 ∧ xs.length ≤ 1000 ∧ K (.tup (List.replicate k.toNat xs).flatten) S
  | x, y => bMul x y S K
theorem RVs.flat {K : PySem.W.Frag} {H : Hp} {ws : List W} {vs : List V} (r : RVs K H ws vs) : ∀ n : Nat, RVs K H (List.replicate n ws).flatten (List.replicate n vs).flatten
  | 0 => .nil
  | n + 1 => by
    rw [List.replicate_succ, List.replicate_succ, List.flatten_cons, List.flatten_cons]
    exact r.append (RVs.flat r n)
def rMul2 (K : PySem.W.Frag) : R2 := fun x y H Q => rMulW x y H Q ∨ rRepTN K x y H Q ∨ rRepT1 K x y H Q ∨ rRepT0 K x y H Q
theorem r_mul2 {X : Cx} : OpR X (binaryOp .Mult) (rMul2 X.K) := OpR.or r_mul (OpR.or op_repTN (OpR.or op_repT1 op_repT0))
theorem o_mul2 {c : Cst} : Op2 c (rMul2 c.K) bMul2 := fun x y u v H S Kk Q rs rx ry h po => by
  unfold bMul2 at h
  split at h
  · rename_i xs k
    obtain ⟨h2, h3, h4, q⟩ := h
    cases rx with
    | @tp _ _ a vs hq r =>
      have hq : TqN c.K H _ _ := hq
      cases ry
      refine .inr ?_
      by_cases e0 : xs = []
      · subst e0
        have e1 : (List.replicate (Int.toNat k) ([] : List W)).flatten = [] := by simp
        rw [e1] at q
        cases r
        exact .inr (.inr ⟨_, k, _, rfl, rfl, hq.sq, h2, by omega, .inl ⟨rfl, po _ S H _ q .refl rs (.tp (k := false) hq .nil)⟩⟩)
      have nv : vs ≠ [] := fun z => by subst z; cases r; exact e0 rfl
      by_cases k0 : k ≤ 0
      · have e1 : k.toNat = 0 := by omega
        rw [e1] at q
        have q : Kk (.tup []) S := q
        exact .inr (.inr ⟨_, k, _, rfl, rfl, hq.sq, h2, by omega, .inr ⟨nv, k0, fun p o hp hc hd => po _ S _ _ q (.tup hp) (rs.tup hp) (.tp (k := false) (.new hc hd) .nil)⟩⟩)
      by_cases e : k = 1
      · subst e
        refine .inr (.inl ⟨_, _, rfl, rfl, hq.sq, po _ S H _ q .refl rs ?_⟩)
        have e1 : (List.replicate (Int.toNat 1) xs).flatten = xs := by
          show (List.replicate 1 xs).flatten = xs
          simp
        rw [e1]
        exact .tp (k := false) hq r
      · refine .inl ⟨_, k, _, rfl, rfl, hq.sq, nv, by omega, h3, by rw [← r.length]; exact h4, fun p o hp hc hd => ?_⟩
        exact po _ S _ _ q (.tup hp) (rs.tup hp) (.tp (k := false) (.new hc hd) ((r.flat _).tst (tst_upd_new hp)))
  · exact .inl (o_mul x y u v H S Kk Q rs rx ry h po)
end Dp
namespace Dp
open PySem PySem.Spec L2
open PyProof.Rows hiding St

/-! ### a dict's display, its keys texts -/
def mergeW (kvs more : List (Key × W)) : List (Key × W) := more.foldl (fun acc kv => putW acc kv.1 kv.2) kvs
theorem rkv_merge {K : PySem.W.Frag} {H : Hp} : ∀ {ks : List Key} {ws : List W} {vs : List V} {a : List (Key × W)} {b : List (Key × V)}, RVs K H ws vs → RKV K H a b → RKV K H (mergeW a (ks.zip ws)) (mergeK b (ks.zip vs))
  | [], ws, vs, a, b, _, q => q
  | k :: ks, _, _, a, b, .nil, q => q
  | k :: ks, _, _, a, b, .cons h t, q => rkv_merge (ks := ks) t (rkv_put q k h)
def mDct (ks : List Key) (a : WEs) : WE := fun ρ S Kk Ek => ∀ p, S p = none → a ρ (S.put p (.dic [])) (fun ws S1 => ws.length = ks.length ∧ S1 p = some (.dic []) ∧ Kk (.ref p) (S1.put p (.dic (mergeW [] (ks.zip ws))))) Ek
def Pr (X : Cx) (c : Cst) (Wx : WX) (pos : Pos) (keys : List (Option Expr)) (vals : List Expr) (ks : List Key) (m : WEs) : Prop := ∃ trs, PPs X pos keys vals trs ∧
  ∀ σ H Q, (∃ ρ S Kk Ek, RE c.K H ρ σ ∧ RS c.K H S ∧ m ρ S Kk Ek ∧ (∀ ws S' H' vs, Kk ws S' → Ext H S H' S' → RS c.K H' S' → RVs c.K H' ws vs → Q (List.zipWith (fun k v => (kV k, v)) ks vs) H') ∧ PoX c Wx σ H S Ek) → tPairs trs σ H Q
section
variable {X : Cx} {c : Cst} {Wx : WX} {pos : Pos}
theorem pr_nil : Pr X c Wx pos [] [] [] mNil := ⟨[], pps_nil, fun σ H Q ⟨ρ, S, Kk, Ek, re, rs, hm, po, px⟩ => po [] S H [] hm .refl rs .nil⟩
theorem pr_cons {x : Str} {j : Nat} {p : Pos} {e : Expr} {a : WE} {keys : List (Option Expr)} {vals : List Expr} {ks : List Key} {m : WEs} (ha : PE X e (tE c Wx a)) (hr : Pr X c Wx pos keys vals ks m) : Pr X c Wx pos (some (.Constant (.str x) j p) :: keys) (e :: vals) (Sum.inr x :: ks) (mCons a m) := by
  obtain ⟨trs, h1, h2⟩ := hr
  refine ⟨_, pps_cons pe_str ha h1, fun σ H Q ⟨ρ, S, Kk, Ek, re, rs, hm, po, px⟩ => ?_⟩
  refine (show tE c Wx a σ H _ from ⟨ρ, S, _, Ek, re, rs, hm, fun w S1 H1 u k1 e1 rs1 rx => ?_, px⟩)
  refine h2 σ H1 _ ⟨ρ, S1, _, Ek, re.tst (e1.tst rs), rs1, k1, fun ws S2 H2 vs k2 e2 rs2 rv => ?_, px.on e1⟩
  exact po _ S2 H2 (u :: vs) k2 (e1.trans e2) rs2 (.cons (rx.tst (e2.tst rs1)) rv)
theorem zip_kv : ∀ (ks : List Key) (vs : List V), List.zipWith (fun k v => (kV k, v)) ks vs = (ks.zip vs).map fun kv => (kV kv.1, kv.2)
  | [], _ => rfl
  | _ :: _, [] => rfl
  | k :: ks, v :: vs => by show (kV k, v) :: _ = _; rw [zip_kv ks vs]; rfl
theorem s_dct {keys : List (Option Expr)} {vals : List Expr} {ks : List Key} {m : WEs} (h : Pr X c Wx pos keys vals ks m) (hall : keys.all (·.isSome) = true) (hl : keys.length = vals.length) (h0 : keys ≠ []) (h15 : keys.length ≤ 15) (hk : ks.length = keys.length) :
    PE X (.Dict keys vals pos) (tE c Wx (mDct ks m)) := by
  obtain ⟨trs, h1, h2⟩ := h
  refine PE.imp (pe_disp h1 hall hl h0 h15) fun σ H Q q => ?_
  obtain ⟨ρ, S, Kk, Ek, re, rs, hm, po, px⟩ := q
  intro p hp
  have rs0 : RS c.K (upd H p (.dK [])) (S.put p (.dic [])) := rs.new hp (.dic .nil)
  have e0 : Ext H S (upd H p (.dK [])) (S.put p (.dic [])) := .new hp
  refine h2 σ _ _ ⟨ρ, _, _, Ek, re.tst (tst_upd_new hp), rs0, hm p (rs.fresh hp), fun ws S1 H1 vs k1 e1 rs1 rv => ?_, px.on e0⟩
  obtain ⟨l1, l2, l3⟩ := k1
  obtain ⟨us, q1, q2⟩ := rs1.dic l2
  have hus : us = [] := by cases q2; rfl
  subst hus
  refine ⟨q1, ks.zip vs, zip_kv ks vs, ?_, ?_⟩
  · rw [List.length_zip, hk]; omega
  · exact po _ _ _ _ l3 ((e0.trans e1).trans (.put l2)) (rs1.put l2 (.dic (rkv_merge rv .nil))) (.ref p)
end
end Dp
namespace Dp
open PySem PySem.Spec L2
open PyProof.Rows hiding St

theorem meets_enum1 {v : Value} {o : Obj} {H : Heap → Prop} (B : Begins v o H) :
    Meets (Builtin.«enumerate.__new__» ⟨[.type "enumerate", v], []⟩) (fun _ R s => H s.heap ∧
      R (.ok (.ret (.ref (s.heap.push o).objs.size))) { s with heap := (s.heap.push o).push { cls := .type "enumerate", data := .fields #[.none, .bool false, .ref s.heap.objs.size, rawInt 0, .none, .none] } }) :=
  .of_wp fun prog w A R s h => by
    obtain ⟨hp, g, d, tk, os⟩ := s
    obtain ⟨h1, h⟩ := h
    have hsub := sub_enumerate
    have q1 : ∀ {A' : Around} {E : Value → Shared → Prop} {Q : Value → Shared → Prop}, Q (.ref hp.objs.size) ⟨hp.push o, g, d, tk, os⟩ → wpAny (model prog w) A' (pyIter v) Q E ⟨hp, g, d, tk, os⟩ :=
      fun q => B.iter prog w _ _ ⟨hp, g, d, tk, os⟩ _ h1 q
    wp_walk using q1
    refine wpAny_stack_any fun st => wpAny_pure ?_
    split
    · rename_i c _ _ _ _ _
      cases (c == Value.type "enumerate") <;> (wp_walk using q1; exact ⟨_, rfl, h⟩)
    · wp_walk using q1
      exact ⟨_, rfl, h⟩
section
variable {prog : Program} {w : World} {A : Around} {E : Value → Shared → Prop} {s : Shared}
theorem call_enum1 {v : Value} {o : Obj} {H : Heap → Prop} {Q : Value → Shared → Prop} (B : Begins v o H) (h1 : H s.heap)
    (h : ∀ h', IsEnum h' (s.heap.objs.size + 1) s.heap.objs.size 0 .none → h'.get? s.heap.objs.size = some o →
      (∀ b ob, s.heap.get? b = some ob → h'.get? b = some ob) → Q (.ref (s.heap.objs.size + 1)) { s with heap := h' }) : wpAny (model prog w) A (call (.type "enumerate") [v]) Q E s := by
  refine callType_new F.called_enumerate (by decide) (F.typeCall_enumerate_1 _) (F.newCall_enumerate_1 _) (fun obj => F.args_object_init_2 obj _) F.entry_enumerate_new (meets_enum1 B) ⟨h1, ?_⟩
  have two : (s.heap.push o).objs.size = s.heap.objs.size + 1 := Heap.size_push ..
  show _ ∧ _
  rw [two]
  have made : IsEnum ((s.heap.push o).push { cls := .type "enumerate", data := .fields #[.none, .bool false, .ref s.heap.objs.size, rawInt 0, .none, .none] }) (s.heap.objs.size + 1) s.heap.objs.size 0 .none := by
    have z := Heap.get?_push_size (s.heap.push o) (o := { cls := .type "enumerate", data := .fields #[.none, .bool false, .ref s.heap.objs.size, rawInt 0, .none, .none] }) rfl
    rw [two] at z
    exact z
  exact ⟨⟨_, made, rfl⟩, h _ made (Heap.get?_push_of_some _ (Heap.get?_push_size _ B.free)) fun b ob x => Heap.get?_push_of_some _ (Heap.get?_push_of_some _ x)⟩
end
/-! ### a list or a tuple -/
def SqB (t : Bool) (K : PySem.W.Frag) (H : Hp) (a : Addr) (xs : List V) : Prop := if t = true then SqT K H a xs else SqL K H a xs
def ItB (t : Bool) (h : Heap) (it a : Addr) (i : Nat) : Prop := if t = true then h.IsTupleIter it a i else h.IsListIter it a i
def HsB (t : Bool) (h : Heap) (a : Addr) (its : Array Value) : Prop := if t = true then h.IsTuple a its else h.IsList a its
theorem HsB.lt {t : Bool} {h : Heap} {a : Addr} {its : Array Value} (p : HsB t h a its) : a < h.objs.size := by
  cases t with
  | true => obtain ⟨o, ho, _⟩ := (show h.IsTuple a its from p); exact Heap.lt_size ho
  | false => obtain ⟨o, ho, _⟩ := (show h.IsList a its from p); exact Heap.lt_size ho
theorem ItB.data {t : Bool} {h : Heap} {it a : Addr} {i : Nat} (p : ItB t h it a i) : ∃ o vs, h.get? it = some o ∧ o.data = .fields vs := by
  cases t with
  | true => obtain ⟨o, ho, _, hd⟩ := (show h.IsTupleIter it a i from p); exact ⟨o, _, ho, hd⟩
  | false => obtain ⟨o, ho, _, hd⟩ := (show h.IsListIter it a i from p); exact ⟨o, _, ho, hd⟩
theorem ItB.at {t : Bool} {h h' : Heap} {it a : Addr} {i : Nat} (p : ItB t h it a i) (k : ∀ o, h.get? it = some o → h'.get? it = some o) : ItB t h' it a i := by
  cases t with
  | true => exact (show h.IsTupleIter it a i from p).at k
  | false => exact (show h.IsListIter it a i from p).at k
section
variable {X : Cx} {pins : List (Addr × Obj)} {σ : L2.St} {H : Hp} {s : Shared}
theorem inv_sq {t : Bool} {a : Addr} {xs : List V} (I : Inv X pins σ H s) (h : SqB t X.K H a xs) : ∃ its : List Value, Vals xs its ∧ HsB t s.heap a its.toArray ∧ xs.length ≤ sizeLine := by
  cases t with
  | false => obtain ⟨its, rv, p, hz⟩ := I.list (show SqL X.K H a xs from h); exact ⟨its, rv, p.isList, hz⟩
  | true => obtain ⟨its, rv, p, hz⟩ := I.tuple (show SqT X.K H a xs from h); exact ⟨its, rv, p, hz⟩
theorem inv_inj {t : Bool} {a : Addr} {xs ys : List V} (I : Inv X pins σ H s) (h : SqB t X.K H a xs) (k : SqB t X.K H a ys) : xs = ys := by
  cases t with
  | false => exact I.list_inj h k
  | true => exact I.tuple_inj h k
end
theorem draws_b {prog : Program} {w : World} {A : Around} (hh : A.handled = none) (t : Bool) (it l : Addr) (hne : l ≠ it) (items : Array Value) : Draws prog w A it [it, l] items.size (fun i v => items[i]? = some v) (fun i h => ItB t h it l i ∧ HsB t h l items) := by
  cases t with
  | false => exact Draws.list hh it l hne items
  | true => exact Draws.tuple hh it l hne items
def itO (t : Bool) (a : Addr) : Obj := { cls := .type (if t = true then "tuple_iterator" else "list_iterator"), data := .fields #[.ref a, .int 0 0] }
theorem begins_b (t : Bool) (a : Addr) (items : Array Value) : Begins (.ref a) (itO t a) (fun h => HsB t h a items) := by
  cases t with
  | false => exact begins_list a items
  | true => exact begins_tuple a items
theorem itO_at {t : Bool} {a it : Addr} {h : Heap} (p : h.get? it = some (itO t a)) : ItB t h it a 0 := by
  cases t with
  | false => exact ⟨_, p, rfl, rfl⟩
  | true => exact ⟨_, p, rfl, rfl⟩

/-- a new pair, pinned as it was made -/
def NewPr (H : Hp) (v : V) (H' : Hp) (x y : V) : Prop := ∃ T o, v = .ref T ∧ H T = none ∧ H' = upd H T (.frz o (.tup [x, y])) ∧ o.cls = .type "tuple" ∧ o.dict = none
/-- the list or tuple at a, each item in a new pair with its place -/
def IteB (t : Bool) (K : PySem.W.Frag) (a : Addr) : It :=
  ⟨fun i H => ∃ (xs : List V) (x : V), SqB t K H a xs ∧ xs[i]? = some x, fun i H v H' => ∃ x, NewPr H v H' (.int (i : Nat)) x ∧ ∀ xs, SqB t K H a xs → xs[i]? = some x, fun i H => ∃ xs : List V, SqB t K H a xs ∧ xs.length = i⟩
theorem turn_enumB {P : Program} {w : World} {K : PySem.W.Frag} {elts : List Expr} {kk : Nat} {tpos : Pos} {t : Bool} (a e it : Addr) :
    Turn P w K (.Tuple elts kk tpos) (IteB t K a) [e, it] e (fun i h => (∃ old, IsEnum h e it ((i : Nat) : Int) old) ∧ ItB t h it a i ∧ e ≠ it ∧ a ≠ it ∧ e ≠ a) where
  mem := by simp
  obj := fun i h st b hb => by
    obtain ⟨⟨old, he⟩, hi, _⟩ := st
    obtain ⟨o, vs, ho, hd⟩ := hi.data
    rcases (show b = e ∨ b = it by simpa using hb) with rfl | rfl
    · exact ⟨_, he, fun v q => nomatch q⟩
    · exact ⟨o, ho, fun v q => by rw [hd] at q; cases q⟩
  keep := fun i h h' st k => let ⟨⟨old, he⟩, hi, n1, n2, n3⟩ := st; ⟨⟨old, k e (by simp) _ he⟩, hi.at fun o q => k it (by simp) o q, n1, n2, n3⟩
  item := by
    intro X hP hw hK hc i pins s σ H E I hf st hg
    subst hP hw hK
    obtain ⟨⟨old, he⟩, hit, n1, n2, n3⟩ := st
    obtain ⟨xs, x, hq, hx⟩ := hg
    obtain ⟨its, rv, p, hz⟩ := inv_sq I hq
    obtain ⟨u, hu, ru⟩ := rv.get hx
    have hel : e < s.heap.objs.size := Heap.lt_size he
    have hil : it < s.heap.objs.size := by obtain ⟨_, _, q, _⟩ := hit.data; exact Heap.lt_size q
    have hi : i < its.toArray.size := by
      have := (List.getElem?_eq_some_iff.mp hu).1
      simpa using this
    refine wpAny_pyNext_enum_itemD (draws_b (A := X.A.in1) (show X.A.in1.handled = none from I.ok.hd hc) t it a n2 its.toArray) he ⟨hit, p⟩ hi n1 (by simp [n1, n3]) fun y h' tk hy ho hst hT hsz hk => ?_
    obtain rfl : y = u := by
      have e1 : its.toArray[i]? = some u := by simpa using hu
      rw [e1] at hy
      exact (Option.some.inj hy).symm
    obtain ⟨hit', p'⟩ := hst
    refine ⟨_, rfl, wpAny_letOwnedTupleGo_enum (s := { s with heap := h', toks := tk + 1 }) ho fun h'' he' sb => ?_⟩
    have hT2 : h''.get? s.heap.objs.size = some { cls := .type "tuple", data := .seq #[.int i tk, y] } := (sb.2 _ (Nat.ne_of_gt hel)).trans hT
    have new : ObjOk X.prog X.w (upd H s.heap.objs.size (.frz { cls := .type "tuple", data := .seq #[.int i tk, y] } (.tup [.int (i : Nat), x]))) h'' s.heap.objs.size (.frz { cls := .type "tuple", data := .seq #[.int i tk, y] } (.tup [.int (i : Nat), x])) :=
      ⟨hT2, by show 2 ≤ sizeLine; decide, [.int i tk, y], .cons ⟨_, rfl⟩ (.cons ru .nil), ⟨_, hT2, rfl, _, rfl⟩⟩
    have I1 := I.turnedNew (t' := tk + 1) (ch := [e, it]) (fun b ob hb q => (sb.2 b (fun z => hb (by simp [z]))).trans (hk b ob (fun z => hb (by simp [z])) (fun z => hb (by simp [z])) q)) hf (Nat.le_refl _) new
    refine ⟨.ref s.heap.objs.size, _, I1, rfl, ⟨x, ⟨_, _, rfl, I.hok.fresh (Nat.le_refl _), rfl, rfl, rfl⟩, fun ys hy => by rw [inv_inj I hy hq]; exact hx⟩, ⟨⟨y, ?_⟩, hit'.at fun o q => (sb.2 it (Ne.symm n1)).trans q, n1, n2, n3⟩, fun b hb => ?_⟩
    · have e1 : ((i + 1 : Nat) : Int) = (i : Int) + 1 := by omega
      rw [e1]; exact he'
    · have hb' : b < s.heap.objs.size := by
        rcases (show b = e ∨ b = it by simpa using hb) with rfl | rfl
        · exact hel
        · exact hil
      rw [upd_ne (Nat.ne_of_lt hb')]
      exact (hf b hb).1
  done := by
    intro X hP hw hK hc i pins s σ H E I hf st hg
    subst hP hw hK
    obtain ⟨⟨old, he⟩, hit, n1, n2, n3⟩ := st
    obtain ⟨xs, hq, hx⟩ := hg
    obtain ⟨its, rv, p, hz⟩ := inv_sq I hq
    obtain ⟨f0, f1, f2, f3, f4, f5⟩ := hf it (by simp)
    have hl := rv.length
    have hn : i = its.toArray.size := by rw [List.size_toArray]; omega
    subst hn
    exact wpAny_pyNext_enum_endD (draws_b (A := X.A.in1) (show X.A.in1.handled = none from I.ok.hd hc) t it a n2 its.toArray) he ⟨hit, p⟩ fun h' eb => ⟨rfl, I.turned (t' := s.toks) (fun b o hb q => eb b o hb q) f0 f1 f3 f4 f5⟩
  self := fun A i s Q E st h => let ⟨⟨_, he⟩, _⟩ := st; wpAny_pyIter_enum he h
/-- enumerate(a list or a tuple) -/
def iEnumB (K : PySem.W.Frag) (ta : TA) : TI := fun σ H R => ta σ H fun vs H1 => ∃ t a xs, vs = [.ref a] ∧ SqB t K H1 a xs ∧ R (IteB t K a) H1
theorem pi_enumB {X : Cx} {e : Expr} {ta : TA} {p pos tpos : Pos} {elts : List Expr} {kk : Nat} (hg : Gl X "enumerate") (hm : X.mg "enumerate" = none) (ha : PA X [e] ta) (hs : starEach [e] X.env = [(false, eval e X.env)]) :
    PI X (.Tuple elts kk tpos) (.Call (.Name "enumerate" p) [e] [] pos) (iEnumB X.K ta) := by
  refine ⟨fun pins s σ H R I h => ?_⟩
  refine Call_ (ld_blt I hg hm boot_enumerate (PyProof.Rows.callWith_type1 (thn (ha.run pos pins s σ H _ I h) fun us s1 ⟨vs, H1, I1, r1, q1⟩ => ?_) hs rfl))
  obtain ⟨t, a, xs, rfl, hq, q⟩ := q1
  obtain ⟨u, rfl, ru⟩ := vals1 r1
  cases ru
  have two : ∀ b, b ∈ [s1.heap.objs.size + 1, s1.heap.objs.size] → s1.heap.objs.size ≤ b := fun b hb => by
    rcases (show b = s1.heap.objs.size + 1 ∨ b = s1.heap.objs.size by simpa using hb) with rfl | rfl
    · exact Nat.le_succ _
    · exact Nat.le_refl _
  obtain ⟨its, rv, p', hz⟩ := inv_sq I1 hq
  have hlt := p'.lt
  refine call_enum1 (begins_b t a its.toArray) p' fun h' he hit hk => wpAny_pyIter_enum he ?_
  have I2 : Inv X pins σ H1 { s1 with heap := h' } := I1.kept (t' := s1.toks) hk
  exact ⟨s1.heap.objs.size + 1, [s1.heap.objs.size + 1, s1.heap.objs.size], _, _, H1, rfl, I2, turn_enumB a (s1.heap.objs.size + 1) s1.heap.objs.size, ⟨⟨.none, he⟩, itO_at hit, Nat.succ_ne_self _, Nat.ne_of_lt hlt, Nat.ne_of_gt (Nat.lt_succ_of_lt hlt)⟩, fun b hb => I1.fpOk (two b hb) (I1.hok.fresh (two b hb)), q⟩
/-- the items with their places -/
def enuW : Nat → List W → List W
  | _, [] => []
  | i, w :: ws => .tup [.int (i : Nat), w] :: enuW (i + 1) ws
theorem enuW_len : ∀ (i : Nat) (ws : List W), (enuW i ws).length = ws.length
  | _, [] => rfl
  | i, w :: ws => by show (enuW (i + 1) ws).length + 1 = _; rw [enuW_len (i + 1) ws]; rfl
theorem enuW_at : ∀ (ws : List W) (k i : Nat) (w : W), ws[i]? = some w → (enuW k ws)[i]? = some (.tup [.int ((k + i : Nat) : Int), w])
  | [], _, _, _, h => by simp at h
  | x :: ws, k, 0, w, h => by
    have h : x = w := by simpa using h
    subst h; rfl
  | x :: ws, k, i + 1, w, h => by
    have h : ws[i]? = some w := by simpa using h
    show (enuW (k + 1) ws)[i]? = _
    rw [enuW_at ws (k + 1) i w h, show k + 1 + i = k + (i + 1) from by omega]
theorem pair_new {K : PySem.W.Frag} {H1 H2 : Hp} {S1 : Sto} {v x y : V} {w u : W} (rs1 : RS K H1 S1) (rw' : RV K H1 w x) (ru : RV K H1 u y) (h : NewPr H1 v H2 x y) : RV K H2 (.tup [w, u]) v ∧ Ext H1 S1 H2 S1 ∧ RS K H2 S1 := by
  obtain ⟨T, o, rfl, hT, rfl, hc, hd⟩ := h
  exact ⟨.tp (k := false) (.new hc hd) (.cons (rw'.tst (tst_upd_new hT)) (.cons (ru.tst (tst_upd_new hT)) .nil)), .tup hT, rs1.tup hT⟩
/-- a tuple, or a list that may be read -/
def SeqW (S : Sto) (x : W) (ws : List W) : Prop := (∃ k, x = .tp k ws) ∨ x = .lst ws ∨ ∃ b, x = .ref b ∧ S b = some (.lst ws)
theorem SeqW.tup {S : Sto} {k : Bool} {ws : List W} : SeqW S (.tp k ws) ws := .inl ⟨k, rfl⟩
theorem SeqW.frz {S : Sto} {ws : List W} : SeqW S (.lst ws) ws := .inr (.inl rfl)
theorem SeqW.lst {S : Sto} {b : Addr} {ws : List W} (h : S b = some (.lst ws)) : SeqW S (.ref b) ws := .inr (.inr ⟨b, rfl, h⟩)
theorem seq_b {K : PySem.W.Frag} {H : Hp} {S : Sto} {x : W} {ws : List W} {v : V} (rs : RS K H S) (r : RV K H x v) (h : SeqW S x ws) :
    ∃ t a xs, v = .ref a ∧ SqB t K H a xs ∧ RVs K H ws xs ∧ ∀ H1 S1, Ext H S H1 S1 → RS K H1 S1 → SeqW S1 x ws → ∃ xs', SqB t K H1 a xs' ∧ RVs K H1 ws xs' := by
  rcases h with ⟨k, rfl⟩ | rfl | ⟨b, rfl, l⟩
  · cases r with
    | tp hq r => exact ⟨true, _, _, rfl, hq.sq, r, fun H1 S1 e rs1 _ => ⟨_, ((e.tst rs).tq hq).sq, r.tst (e.tst rs)⟩⟩
  · cases r with
    | lst hq r => exact ⟨false, _, _, rfl, .inl (.inr hq), r, fun H1 S1 e rs1 _ => ⟨_, let ⟨o, h⟩ := hq; .inl (.inr ⟨o, (e.tst rs).1 _ _ _ h⟩), r.tst (e.tst rs)⟩⟩
  · cases r
    obtain ⟨vs, q, r⟩ := rs.lst l
    refine ⟨false, b, vs, rfl, .of q, r, fun H1 S1 e rs1 h => ?_⟩
    rcases h with ⟨_, h⟩ | h | ⟨b', h, l'⟩
    · cases h
    · cases h
    · cases h
      obtain ⟨vs', q', r'⟩ := rs1.lst l'
      exact ⟨vs', .of q', r'⟩
/-- what may be walked, handed on: whether it stands, its items -/
def sqK (S : Sto) (x : W) (K : (Sto → Prop) → List W → Prop) : Prop := match x with
  | .tp _ ws => K (fun _ => True) ws
  | .lst ws => K (fun _ => True) ws
  | .ref b => ∃ ws, S b = some (.lst ws) ∧ K (fun S => S b = some (.lst ws)) ws
  | _ => False
theorem sqK_of {S : Sto} {x : W} {K : (Sto → Prop) → List W → Prop} (h : sqK S x K) : ∃ g ws, SeqW S x ws ∧ (∀ S', g S' → SeqW S' x ws) ∧ K g ws := by
  cases x with
  | tp k ws => exact ⟨_, ws, .tup, fun _ _ => .tup, h⟩
  | lst ws => exact ⟨_, ws, .frz, fun _ _ => .frz, h⟩
  | ref b => obtain ⟨ws, l, k⟩ := h; exact ⟨_, ws, .lst l, fun _ l => .lst l, k⟩
  | _ => exact h.elim
end Dp
namespace Dp
open PySem PySem.Spec L2
open PyProof.Rows hiding St

/-! ### enumerate -/
def mEnu (a : WEs) : WI := fun ρ S Kk Ek => a ρ S (fun xs S1 => match xs with
  | [x] => sqK S1 x fun g ws => Kk ⟨g, enuW 0 ws⟩ S1
  | _ => False) Ek
theorem walkw_enuB {K : PySem.W.Frag} {H : Hp} {S : Sto} {t : Bool} {a : Addr} {x : W} {ws : List W} {g : Sto → Prop} (hg : ∀ H1 S1, Ext H S H1 S1 → RS K H1 S1 → g S1 → ∃ xs', SqB t K H1 a xs' ∧ RVs K H1 ws xs') :
    WalkW K ⟨g, enuW 0 ws⟩ H S (IteB t K a) (fun H1 => ∃ xs, SqB t K H1 a xs ∧ RVs K H1 ws xs) (fun i H1 v H2 => ∃ xs x, RVs K H1 ws xs ∧ NewPr H1 v H2 (.int (i : Nat)) x ∧ xs[i]? = some x) where
  walk := by
    show Walk _ (enuW 0 ws).length _ _
    rw [enuW_len]
    refine ⟨fun i H1 hi ⟨xs, q, r⟩ => ⟨xs, xs[i]'(by rw [← r.length]; exact hi), q, List.getElem?_eq_getElem _⟩, fun H1 ⟨xs, q, r⟩ => ⟨xs, q, by rw [← r.length]⟩, fun i H1 v H2 hi ⟨xs, q, r⟩ y => ?_⟩
    obtain ⟨x, h1, h2⟩ := y
    exact ⟨xs, x, r, h1, h2 xs q⟩
  stand := hg
  gives := fun i H1 S1 v H2 hi e rs1 _ y => by
    obtain ⟨xs, x, r, h1, h2⟩ := y
    obtain ⟨w, hw, rw'⟩ := r.get h2
    have := pair_new rs1 (.int (i : Nat)) rw' h1
    refine ⟨_, enuW_at ws 0 i w hw, ?_⟩
    rw [Nat.zero_add]; exact this
theorem s_enu {X : Cx} {c : Cst} {Wx : WX} {e : Expr} {a : WEs} {p pos tpos : Pos} {elts : List Expr} {kk : Nat} (hK : c.K = X.K) (hg : Gl X "enumerate") (hm : X.mg "enumerate" = none) (ha : PA X [e] (tA c Wx a)) (hs : starEach [e] X.env = [(false, eval e X.env)]) :
    PI X (.Tuple elts kk tpos) (.Call (.Name "enumerate" p) [e] [] pos) (tI c Wx (mEnu a)) := PI.imp (pi_enumB hg hm ha hs) fun σ H Q q => by
  obtain ⟨ρ, S, Kk, Ek, re, rs, hm, po, px⟩ := q
  refine ⟨ρ, S, _, Ek, re, rs, hm, fun xs S1 H1 us k1 e1 rs1 rx => ?_, px⟩
  rw [← hK]
  split at k1
  · obtain ⟨v, rfl, rv⟩ := rvs1 rx
    obtain ⟨g, ws, h1, h2, k⟩ := sqK_of k1
    obtain ⟨t, a, xs, rfl, q1, _, g1⟩ := seq_b rs1 rv h1
    exact ⟨t, a, xs, rfl, q1, po _ S1 H1 _ _ _ k e1 rs1 (walkw_enuB (x := .non) fun H2 S2 e2 rs2 h => g1 H2 S2 e2 rs2 (h2 _ h))⟩
  · exact k1.elim
/-! ### sorted(ints), max and min of a list of ints -/
def fSorted : NOp := fun ws S K => lsK S ws fun xs => ∃ ns : List Int, xs = ns.map W.int ∧ ∀ (ns' : List Int) (p : Addr), ns'.Perm ns → ns'.Pairwise (· ≤ ·) → S p = none → K (.ref p) (S.put p (.lst (ns'.map W.int)))
theorem rvs_ints {K : PySem.W.Frag} {H : Hp} : ∀ ns : List Int, RVs K H (ns.map W.int) (ns.map V.int)
  | [] => .nil
  | n :: ns => .cons (.int n) (rvs_ints ns)
theorem o_sorted {c : Cst} : OpN c (rSortedI c.K) fSorted := fun ws vs H S Kk Q rs r h po => by
  obtain ⟨a, us, xs, rfl, q, rr, ns, rfl, k⟩ := rd1 rs r h
  rw [rvs_map (g := V.int) (fun x v r => by cases r; rfl) rr] at q
  exact ⟨_, ns, rfl, .inl q, fun ns' p h1 h2 hp => po _ _ _ _ (k ns' p h1 h2 (rs.fresh hp)) (.new hp) (rs.new hp (.lst (rvs_ints ns'))) (.ref p)⟩
def fMax1 : NOp := fun ws S K => lsK S ws fun xs => ∃ ns : List Int, xs = ns.map W.int ∧ 0 < ns.length ∧ ∀ m, m ∈ ns → (∀ y, y ∈ ns → y ≤ m) → K (.int m) S
theorem o_max1 {c : Cst} : OpN c (rMax c.K) fMax1 := fun ws vs H S Kk Q rs r h po => by
  obtain ⟨a, us, xs, rfl, q, rr, ns, rfl, h0, k⟩ := rd1 rs r h
  rw [rvs_map (g := V.int) (fun x v r => by cases r; rfl) rr] at q
  exact ⟨_, ns, rfl, .inl q, h0, fun m h1 h2 => po _ S H _ (k m h1 h2) .refl rs (.int _)⟩
def fMin1 : NOp := fun ws S K => lsK S ws fun xs => ∃ ns : List Int, xs = ns.map W.int ∧ 0 < ns.length ∧ ∀ m, m ∈ ns → (∀ y, y ∈ ns → m ≤ y) → K (.int m) S
theorem o_min1 {c : Cst} : OpN c (rMin c.K) fMin1 := fun ws vs H S Kk Q rs r h po => by
  obtain ⟨a, us, xs, rfl, q, rr, ns, rfl, h0, k⟩ := rd1 rs r h
  rw [rvs_map (g := V.int) (fun x v r => by cases r; rfl) rr] at q
  exact ⟨_, ns, rfl, .inl q, h0, fun m h1 h2 => po _ S H _ (k m h1 h2) .refl rs (.int _)⟩
end Dp
namespace Dp
open PySem PySem.Spec L2
open PyProof.Rows hiding St

/-! ### zip of two, each a list or a tuple -/
def ItzB (t u : Bool) (K : PySem.W.Frag) (a b : Addr) : It :=
  ⟨fun i H => ∃ (xs ys : List V) (x y : V), SqB t K H a xs ∧ SqB u K H b ys ∧ xs[i]? = some x ∧ ys[i]? = some y,
    fun i H v H' => ∃ x y, NewPr H v H' x y ∧ (∀ xs, SqB t K H a xs → xs[i]? = some x) ∧ ∀ ys, SqB u K H b ys → ys[i]? = some y,
    fun i H => ∃ xs ys : List V, SqB t K H a xs ∧ SqB u K H b ys ∧ i ≤ xs.length ∧ i ≤ ys.length ∧ (i = xs.length ∨ i = ys.length)⟩
structure ZA (z TI TO i1 i2 a b : Addr) : Prop where
  s : ZipSep2 z TI TO i1 i2 [i1, a] [i2, b]
  a1 : a ≠ i1
  b2 : b ≠ i2
theorem nin2 {x a b : Nat} (h : x ≠ a) (k : x ≠ b) : ¬ (x : Nat) ∈ ([a, b] : List Nat) := fun m => by
  rcases List.mem_cons.mp m with m | m
  · exact h m
  · exact k (List.mem_singleton.mp m)
theorem za_new {n a b : Nat} (ha : a < n) (hb : b < n) : ZA (n + 4) (n + 2) (n + 3) n (n + 1) a b :=
  ⟨⟨show (n + 2 : Nat) ≠ n + 4 by omega, show (n + 3 : Nat) ≠ n + 4 by omega, show (n + 2 : Nat) ≠ n + 3 by omega, show (n + 2 : Nat) ≠ n by omega, List.mem_cons_self .., nin2 (by omega) (by omega), nin2 (by omega) (by omega),
    show (n + 2 : Nat) ≠ n + 1 by omega, List.mem_cons_self .., nin2 (by omega) (by omega), nin2 (by omega) (by omega), nin2 (by omega) (by omega), nin2 (by omega) (by omega)⟩, Nat.ne_of_lt ha, show (b : Nat) ≠ n + 1 by omega⟩
theorem turn_zipB {P : Program} {w : World} {K : PySem.W.Frag} {elts : List Expr} {kk : Nat} {tpos : Pos} {t u : Bool} {a b z TI TO i1 i2 : Addr} (D : ZA z TI TO i1 i2 a b) :
    Turn P w K (.Tuple elts kk tpos) (ItzB t u K a b) [z, TI, TO, i1, i2] z (fun i h => IsZip h z TI TO .none ∧ IsTupOf2 h TI (.ref i1) (.ref i2) ∧ (∃ x y, IsTupOf2 h TO x y) ∧ ItB t h i1 a i ∧ ItB u h i2 b i) where
  mem := by simp
  obj := fun i h st c hc => by
    obtain ⟨hz, hTI, ⟨x, y, hTO⟩, h1, h2⟩ := st
    obtain ⟨o1, vs1, e1, d1⟩ := h1.data
    obtain ⟨o2, vs2, e2, d2⟩ := h2.data
    have e' : c = z ∨ c = TI ∨ c = TO ∨ c = i1 ∨ c = i2 := by simpa using hc
    rcases e' with q | q | q | q | q
    · rw [q]; exact ⟨_, hz, fun v q => nomatch q⟩
    · rw [q]; exact ⟨_, hTI, fun v q => nomatch q⟩
    · rw [q]; exact ⟨_, hTO, fun v q => nomatch q⟩
    · rw [q]; exact ⟨o1, e1, fun v q => by rw [d1] at q; cases q⟩
    · rw [q]; exact ⟨o2, e2, fun v q => by rw [d2] at q; cases q⟩
  keep := fun i h h' st k => by
    obtain ⟨hz, hTI, ⟨x, y, hTO⟩, h1, h2⟩ := st
    exact ⟨k z (by simp) _ hz, k TI (by simp) _ hTI, ⟨x, y, k TO (by simp) _ hTO⟩, h1.at fun o q => k i1 (by simp) o q, h2.at fun o q => k i2 (by simp) o q⟩
  item := by
    intro X hP hw hK hc i pins s σ H E I hf st hg
    subst hP hw hK
    obtain ⟨hz, hTI, ⟨x0, y0, hTO⟩, h1, h2⟩ := st
    obtain ⟨xs, ys, x, y, hqx, hqy, hx, hy⟩ := hg
    obtain ⟨its, rv, p, _⟩ := inv_sq I hqx
    obtain ⟨its2, rv2, p2, _⟩ := inv_sq I hqy
    obtain ⟨v, hv, ru⟩ := rv.get hx
    obtain ⟨v2, hv2, ru2⟩ := rv2.get hy
    have hzl : z < s.heap.objs.size := Heap.lt_size hz
    have hd : X.A.in1.handled = none := I.ok.hd hc
    have l1 : i < its.toArray.size := by
      have := (List.getElem?_eq_some_iff.mp hv).1
      simpa using this
    have l2 : i < its2.toArray.size := by
      have := (List.getElem?_eq_some_iff.mp hv2).1
      simpa using this
    refine wpAny_pyNext_zipD2_item D.s (draws_b hd t i1 a D.a1 its.toArray) (draws_b hd u i2 b D.b2 its2.toArray) hz hTI hTO ⟨h1, p⟩ ⟨h2, p2⟩ l1 l2 fun x1 x2 h' tk e1 e2 z' TO' st1 st2 hT hsz hk => ?_
    obtain rfl : x1 = v := by
      have q1 : its.toArray[i]? = some v := by simpa using hv
      rw [q1] at e1
      exact (Option.some.inj e1).symm
    obtain rfl : x2 = v2 := by
      have q1 : its2.toArray[i]? = some v2 := by simpa using hv2
      rw [q1] at e2
      exact (Option.some.inj e2).symm
    refine ⟨_, rfl, wpAny_letOwnedTupleGo_zip (s := { s with heap := h', toks := tk }) z' fun h'' z'' sb => ?_⟩
    have hT2 : h''.get? s.heap.objs.size = some { cls := .type "tuple", data := .seq #[x1, x2] } := (sb.2 _ (Nat.ne_of_gt hzl)).trans hT
    have new : ObjOk X.prog X.w (upd H s.heap.objs.size (.frz { cls := .type "tuple", data := .seq #[x1, x2] } (.tup [x, y]))) h'' s.heap.objs.size (.frz { cls := .type "tuple", data := .seq #[x1, x2] } (.tup [x, y])) :=
      ⟨hT2, by show 2 ≤ sizeLine; decide, [x1, x2], .cons ru (.cons ru2 .nil), ⟨_, hT2, rfl, _, rfl⟩⟩
    have I1 := I.turnedNew (t' := tk) (ch := [z, TI, TO, i1, i2]) (fun c o hb q => (sb.2 c (fun q' => hb (by simp [q']))).trans (hk c o (fun q' => hb (by simp [q'])) (fun q' => hb (by simp [q'])) (fun q' => hb (by simp [q'])) (fun q' => hb (by simp [q'])) q)) hf (Nat.le_refl _) new
    refine ⟨.ref s.heap.objs.size, _, I1, rfl, ⟨x, y, ⟨_, _, rfl, I.hok.fresh (Nat.le_refl _), rfl, rfl, rfl⟩, fun l hl => by rw [inv_inj I hl hqx]; exact hx, fun l hl => by rw [inv_inj I hl hqy]; exact hy⟩, ⟨z'', ?_, ⟨x1, x2, ?_⟩, ?_, ?_⟩, fun c hcm => ?_⟩
    · exact (sb.2 _ D.s.TIz).trans (hk _ _ D.s.TIz D.s.TITO D.s.TIi1 D.s.TIi2 hTI)
    · exact (sb.2 _ D.s.TOz).trans TO'
    · exact st1.1.at fun o q => (sb.2 _ (Ne.symm D.s.zi1)).trans q
    · exact st2.1.at fun o q => (sb.2 _ (Ne.symm D.s.zi2)).trans q
    · have hlt : c < s.heap.objs.size := by
        obtain ⟨o1, _, g1, _⟩ := h1.data
        obtain ⟨o2, _, g2, _⟩ := h2.data
        have e' : c = z ∨ c = TI ∨ c = TO ∨ c = i1 ∨ c = i2 := by simpa using hcm
        rcases e' with q | q | q | q | q
        · rw [q]; exact hzl
        · rw [q]; exact Heap.lt_size hTI
        · rw [q]; exact Heap.lt_size hTO
        · rw [q]; exact Heap.lt_size g1
        · rw [q]; exact Heap.lt_size g2
      rw [upd_ne (Nat.ne_of_lt hlt)]
      exact (hf c hcm).1
  done := by
    intro X hP hw hK hc i pins s σ H E I hf st hg
    subst hP hw hK
    obtain ⟨hz, hTI, ⟨x0, y0, hTO⟩, h1, h2⟩ := st
    obtain ⟨xs, ys, hqx, hqy, g1, g2, g3⟩ := hg
    obtain ⟨its, rv, p, _⟩ := inv_sq I hqx
    obtain ⟨its2, rv2, p2, _⟩ := inv_sq I hqy
    have l1 : xs.length = its.toArray.size := by rw [List.size_toArray]; exact rv.length
    have l2 : ys.length = its2.toArray.size := by rw [List.size_toArray]; exact rv2.length
    have hd : X.A.in1.handled = none := I.ok.hd hc
    exact wpAny_pyNext_zipD2_end D.s (draws_b hd t i1 a D.a1 its.toArray) (draws_b hd u i2 b D.b2 its2.toArray) hz hTI hTO ⟨h1, p⟩ ⟨h2, p2⟩ (by omega) (by omega) (by omega) fun h' tk hk => ⟨rfl, I.turnedL (t' := tk) (ch := [z, TI, TO, i1, i2]) (fun c o hb q =>
      hk c o (fun q' => hb (by simp [q'])) (fun q' => hb (by simp [q'])) (fun q' => hb (by simp [q'])) (fun q' => hb (by simp [q'])) q) hf⟩
  self := fun A i s Q E st h => wpAny_pyIter_zip st.1 h
def iZipB (K : PySem.W.Frag) (ta : TA) : TI := fun σ H R => ta σ H fun vs H1 => ∃ t u a b xs ys, vs = [.ref a, .ref b] ∧ SqB t K H1 a xs ∧ SqB u K H1 b ys ∧ R (ItzB t u K a b) H1
theorem pi_zipB {X : Cx} {e e2 : Expr} {ta : TA} {p pos tpos : Pos} {elts : List Expr} {kk : Nat} (hg : Gl X "zip") (hm : X.mg "zip" = none) (ha : PA X [e, e2] ta)
    (hs : starEach [e, e2] X.env = (false, eval e X.env) :: starEach [e2] X.env) (hpl : (backTo pos (starEach [e2] X.env)).any (·.1) = false) :
    PI X (.Tuple elts kk tpos) (.Call (.Name "zip" p) [e, e2] [] pos) (iZipB X.K ta) := by
  refine ⟨fun pins s σ H R I h => ?_⟩
  refine Call_ (ld_blt I hg hm PyProof.Rows.boot_zip (PyProof.Rows.callWith_type1 (thn (ha.run pos pins s σ H _ I h) fun us s1 ⟨vs, H1, I1, r1, q1⟩ => ?_) hs hpl))
  obtain ⟨t, u, a, b, xs, ys, ex, hqx, hqy, q⟩ := q1
  subst ex
  cases r1 with
  | cons r rr =>
    cases rr with
    | cons r' rr =>
      cases rr
      cases r
      cases r'
      have fresh5 : ∀ c, c ∈ [s1.heap.objs.size + 4, s1.heap.objs.size + 2, s1.heap.objs.size + 3, s1.heap.objs.size, s1.heap.objs.size + 1] → FpOk X pins H1 c := fun c hcm => by
        have e' : c = s1.heap.objs.size + 4 ∨ c = s1.heap.objs.size + 2 ∨ c = s1.heap.objs.size + 3 ∨ c = s1.heap.objs.size ∨ c = s1.heap.objs.size + 1 := by simpa using hcm
        have hle : s1.heap.objs.size ≤ c := by
          rcases e' with z | z | z | z | z
          · rw [z]; exact Nat.le_add_right _ _
          · rw [z]; exact Nat.le_add_right _ _
          · rw [z]; exact Nat.le_add_right _ _
          · rw [z]; exact Nat.le_refl _
          · rw [z]; exact Nat.le_add_right _ _
        exact I1.fpOk hle (I1.hok.fresh hle)
      obtain ⟨its, rv, p1, _⟩ := inv_sq I1 hqx
      obtain ⟨its2, rv2, p2, _⟩ := inv_sq I1 hqy
      refine zip_begins2 (begins_b t a its.toArray) (begins_b u b its2.toArray) p1 p2 fun h' hz hTI hTO g1 g2 hsz hk => wpAny_pyIter_zip hz ?_
      have I2 : Inv X pins σ H1 { s1 with heap := h' } := I1.kept (t' := s1.toks) hk
      exact ⟨s1.heap.objs.size + 4, [s1.heap.objs.size + 4, s1.heap.objs.size + 2, s1.heap.objs.size + 3, s1.heap.objs.size, s1.heap.objs.size + 1], _, _, H1, rfl, I2, turn_zipB (za_new p1.lt p2.lt), ⟨hz, hTI, ⟨_, _, hTO⟩, itO_at g1, itO_at g2⟩, fresh5, q⟩

/-! ### by plain values -/
def zipW (ws us : List W) : List W := List.zipWith (fun w u => .tup [w, u]) ws us
theorem zipW_len (ws us : List W) : (zipW ws us).length = min ws.length us.length := by unfold zipW; simp
theorem zipW_at {ws us : List W} {i : Nat} {w u : W} (h : ws[i]? = some w) (k : us[i]? = some u) : (zipW ws us)[i]? = some (.tup [w, u]) := by
  unfold zipW
  rw [List.getElem?_zipWith, h, k]
theorem zipW_get {ws us : List W} {i : Nat} {x : W} (h : (zipW ws us)[i]? = some x) : ∃ w u, ws[i]? = some w ∧ us[i]? = some u ∧ x = .tup [w, u] := by
  unfold zipW at h
  rw [List.getElem?_zipWith] at h
  cases e : ws[i]? with
  | none => rw [e] at h; cases h
  | some w =>
    cases e2 : us[i]? with
    | none => rw [e, e2] at h; cases h
    | some u => rw [e, e2] at h; exact ⟨w, u, rfl, rfl, (Option.some.inj h).symm⟩
def mZip (a : WEs) : WI := fun ρ S Kk Ek => a ρ S (fun xs S1 => match xs with
  | [x, y] => sqK S1 x fun g ws => sqK S1 y fun g' us => Kk ⟨fun S => g S ∧ g' S, zipW ws us⟩ S1
  | _ => False) Ek
theorem walkw_zip {K : PySem.W.Frag} {H : Hp} {S : Sto} {t u : Bool} {a b : Addr} {g g' : Sto → Prop} {ws us : List W}
    (g1 : ∀ H1 S1, Ext H S H1 S1 → RS K H1 S1 → g S1 → ∃ xs', SqB t K H1 a xs' ∧ RVs K H1 ws xs') (g2 : ∀ H1 S1, Ext H S H1 S1 → RS K H1 S1 → g' S1 → ∃ xs', SqB u K H1 b xs' ∧ RVs K H1 us xs') :
    WalkW K ⟨fun S => g S ∧ g' S, zipW ws us⟩ H S (ItzB t u K a b) (fun H1 => ∃ xs ys, SqB t K H1 a xs ∧ RVs K H1 ws xs ∧ SqB u K H1 b ys ∧ RVs K H1 us ys)
      (fun i H1 v H2 => ∃ xs ys, RVs K H1 ws xs ∧ RVs K H1 us ys ∧ ∃ p q, NewPr H1 v H2 p q ∧ xs[i]? = some p ∧ ys[i]? = some q) where
  walk := by
    show Walk _ (zipW ws us).length _ _
    rw [zipW_len]
    refine ⟨fun i H1 hi ⟨xs, ys, q1, r1, q2, r2⟩ => ?_, fun H1 ⟨xs, ys, q1, r1, q2, r2⟩ => ?_, fun i H1 v H2 hi ⟨xs, ys, q1, r1, q2, r2⟩ y => ?_⟩
    · have e1 := r1.length
      have e2 := r2.length
      exact ⟨xs, ys, xs[i]'(by omega), ys[i]'(by omega), q1, q2, List.getElem?_eq_getElem _, List.getElem?_eq_getElem _⟩
    · have e1 := r1.length
      have e2 := r2.length
      exact ⟨xs, ys, q1, q2, by omega, by omega, by omega⟩
    · obtain ⟨p, q, h1, h4, h5⟩ := y
      exact ⟨xs, ys, r1, r2, p, q, h1, h4 xs q1, h5 ys q2⟩
  stand := fun H1 S1 e rs1 g => by
    obtain ⟨xs, q1, r1⟩ := g1 H1 S1 e rs1 g.1
    obtain ⟨ys, q2, r2⟩ := g2 H1 S1 e rs1 g.2
    exact ⟨xs, ys, q1, r1, q2, r2⟩
  gives := fun i H1 S1 v H2 hi e rs1 _ y => by
    obtain ⟨xs, ys, r1, r2, p, q, hn, h1, h2⟩ := y
    obtain ⟨w, hw, rw'⟩ := r1.get h1
    obtain ⟨w2, hw2, rw2⟩ := r2.get h2
    exact ⟨_, zipW_at hw hw2, pair_new rs1 rw' rw2 hn⟩
theorem s_zip {X : Cx} {c : Cst} {Wx : WX} {e e2 : Expr} {a : WEs} {p pos tpos : Pos} {elts : List Expr} {kk : Nat} (hK : c.K = X.K) (hg : Gl X "zip") (hm : X.mg "zip" = none) (ha : PA X [e, e2] (tA c Wx a))
    (hs : starEach [e, e2] X.env = (false, eval e X.env) :: starEach [e2] X.env) (hpl : (backTo pos (starEach [e2] X.env)).any (·.1) = false) :
    PI X (.Tuple elts kk tpos) (.Call (.Name "zip" p) [e, e2] [] pos) (tI c Wx (mZip a)) := PI.imp (pi_zipB hg hm ha hs hpl) fun σ H Q q => by
  obtain ⟨ρ, S, Kk, Ek, re, rs, hm, po, px⟩ := q
  refine ⟨ρ, S, _, Ek, re, rs, hm, fun xs S1 H1 us k1 e1 rs1 rx => ?_, px⟩
  rw [← hK]
  split at k1
  · obtain ⟨v, v2, rfl, rv, rv2⟩ := rvs2 rx
    obtain ⟨g, ws, h1, n1, k1⟩ := sqK_of k1
    obtain ⟨g', us, h2, n2, k⟩ := sqK_of k1
    obtain ⟨t, a, xs, rfl, q1, r1, g1⟩ := seq_b rs1 rv h1
    obtain ⟨u, b, ys, rfl, q2, r2, g2⟩ := seq_b rs1 rv2 h2
    exact ⟨t, u, a, b, xs, ys, rfl, q1, q2, po _ S1 H1 _ _ _ k e1 rs1 (walkw_zip (fun H2 S2 e r h => g1 H2 S2 e r (n1 _ h)) fun H2 S2 e r h => g2 H2 S2 e r (n2 _ h))⟩
  · exact k1.elim
end Dp
namespace Dp
open PySem PySem.Spec L2
open PyProof.Rows hiding St

/-! ### sorted(..) of a list or a tuple -/
section
variable {prog : Program} {w : World} {A : Around} {E : Value → Shared → Prop} {s : Shared}
theorem collect_tup {l : Addr} {vs : List Value} {Q : List Value → Shared → Prop} (hl : s.heap.IsTuple l vs.toArray)
    (h : Q vs { s with heap := (s.heap.push (seqObj "list" #[] 0)).update s.heap.objs.size (Obj.mapSeq (· ++ vs.toArray)) }) (hsz : vs.length ≤ sizeLine) :
    wpAny (model prog w) A (collect (.ref l)) Q E s := by
  obtain ⟨o, ho, hc, n, hd⟩ := id hl
  unfold collect
  refine wpAny_bind (wpAny_runValue (codeAny_builtin entry_proto_collect' ?_))
  show wpAny _ _ (do again (.builtin "list.__iadd__" ⟨[← newList [], .ref l], []⟩)) _ _ s
  refine wpAny_bind (wpAny_newList (wpAny_pure ⟨Code.quiet_builtin _ (by decide +kernel), codeAny_builtin entry_list_iadd' ?_⟩))
  show wpAny _ _ (Builtin.List.listExtendWith (.ref s.heap.objs.size) (.ref l) (.ref s.heap.objs.size)) _ _ { s with heap := s.heap.push (seqObj "list" #[] 0) }
  unfold Builtin.List.listExtendWith
  have ho' : (s.heap.push (seqObj "list" #[] 0)).get? l = some o := Heap.get?_push_of_some _ ho
  refine wpAny_bind (wpAny_typeOf (T := "tuple") ⟨o, ho', hc⟩ ?_)
  have ht : (Value.type "tuple" == Value.type "tuple") = true := by rfl
  rw [if_pos (by rw [ht]; simp)]
  refine wpAny_bind (listItems_at ho' hd ?_)
  refine wpAny_bind (listItems_at (xs := #[]) (n := 0) (Heap.get?_push_size _ rfl) rfl ?_)
  rw [if_neg (by simp)]
  refine wpAny_bind (listUpdate_at (xs := #[]) (n := 0) (Heap.get?_push_size _ rfl) rfl ?_ (Nat.zero_le _) (by show (#[] ++ vs.toArray).size ≤ sizeLine + 1; simp only [Array.size_append, List.size_toArray, List.length_nil]; omega))
  refine wpAny_pure ?_
  show wpAny (model prog w) A (do
      let o ← load s.heap.objs.size
      match o.data with
      | .seq xs _ => pure xs.toList
      | _ => unsupported "internal:collect") Q E { s with heap := (s.heap.push (seqObj "list" #[] 0)).update s.heap.objs.size (Obj.mapSeq (· ++ vs.toArray)) }
  refine wpAny_bind (wpAny_load (get?_update_seq (Heap.get?_push_size _ rfl) _) ?_)
  show wpAny _ _ (pure ((#[] : Array Value) ++ vs.toArray).toList) Q E _
  rw [show ((#[] : Array Value) ++ vs.toArray).toList = vs by simp]
  exact wpAny_pure h
theorem collect_b {t : Bool} {l : Addr} {vs : List Value} {Q : List Value → Shared → Prop} (hl : HsB t s.heap l vs.toArray)
    (h : Q vs { s with heap := (s.heap.push (seqObj "list" #[] 0)).update s.heap.objs.size (Obj.mapSeq (· ++ vs.toArray)) }) (hsz : vs.length ≤ sizeLine) :
    wpAny (model prog w) A (collect (.ref l)) Q E s := by
  cases t with
  | false => exact collect_list hl h hsz
  | true => exact collect_tup hl h hsz
open SrtO in
theorem sorted_ordB {t : Bool} {l : Addr} {vs : List Value} {ltv : Value → Value → Bool} {Q : Value → Shared → Prop} (O : Swo ltv) (hl : HsB t s.heap l vs.toArray) (hz : vs.length ≤ sizeLine)
    (hS : 2 ≤ vs.length → ∀ (h₁ : Heap) (a : Addr), h₁.get? a = some (seqObj "list" vs.toArray 0) → (∀ b o, s.heap.get? b = some o → b ≠ a ∧ h₁.get? b = some o) → SortableO prog w A.in1.in1 { s with heap := h₁ } a vs ltv)
    (h : ∀ out : List Value, Srtd ltv out → Stb ltv out vs → Q (.ref (s.heap.objs.size + 1)) { s with heap := sortedAll s.heap vs out.toArray }) :
    wpAny (model prog w) A (call (.builtin "sorted") [.ref l]) Q E s := by
  refine Calls.call_function_entry kind_sorted plain_sorted entry_sorted (args_sorted1 _) ?_
  unfold Builtin.«sorted»
  refine wpAny_bind (m := checkCount "sorted" 1 1 _) (wpAny_pure ?_)
  refine wpAny_bind (collect_b hl ?_ hz)
  refine wpAny_bind (wpAny_newList ?_ hz)
  have hsz : ((s.heap.push (seqObj "list" #[] 0)).update s.heap.objs.size (Obj.mapSeq (· ++ vs.toArray))).objs.size = s.heap.objs.size + 1 := by
    rw [Heap.size_update, size_push']
  have hoL : (((s.heap.push (seqObj "list" #[] 0)).update s.heap.objs.size (Obj.mapSeq (· ++ vs.toArray))).push (seqObj "list" vs.toArray 0)).get? (s.heap.objs.size + 1) = some (seqObj "list" vs.toArray 0) := by
    rw [← hsz]; exact Heap.get?_push_size _ rfl
  have keep : ∀ b o, s.heap.get? b = some o → b ≠ s.heap.objs.size + 1 ∧ (((s.heap.push (seqObj "list" #[] 0)).update s.heap.objs.size (Obj.mapSeq (· ++ vs.toArray))).push (seqObj "list" vs.toArray 0)).get? b = some o := fun b o q => by
    have hlt : b < s.heap.objs.size := Heap.lt_size q
    refine ⟨Nat.ne_of_lt (Nat.lt_succ_of_lt hlt), Heap.get?_push_of_some _ ?_⟩
    rw [Heap.get?_update_ne _ _ _ _ (Nat.ne_of_lt hlt)]
    exact Heap.get?_push_of_some _ q
  show wpAny _ _ _ _ _ { s with heap := ((s.heap.push (seqObj "list" #[] 0)).update s.heap.objs.size (Obj.mapSeq (· ++ vs.toArray))).push (seqObj "list" vs.toArray 0) }
  rw [hsz]
  refine wpAny_bind (wpAny_holding (wpAny_call_entry slot_list_sort ⟨_, hoL, rfl⟩ entry_list_sort (list_sort_ord O hoL hz (fun h2 => hS h2 _ _ hoL keep) fun out hs hb => ⟨_, rfl, ?_⟩) (args_list_sort _)))
  exact wpAny_pure ⟨_, rfl, h out hs hb⟩
end
def rSortedBI (K : PySem.W.Frag) : List V → Hp → VK → Prop := fun vs H Q => ∃ (t : Bool) (a : Addr) (ns : List Int), vs = [V.ref a] ∧ SqB t K H a (ns.map V.int) ∧
  ∀ (ns' : List Int) (p : Addr), ns'.Perm ns → ns'.Pairwise (· ≤ ·) → H p = none → Q (.ref p) (upd H p (.lst (ns'.map V.int)))
/-- items that are pairs of ints -/
def PrsAt (K : PySem.W.Frag) (H : Hp) : List V → List (Int × Int) → Prop := Paired fun x p => ∃ T, x = V.ref T ∧ TqN K H T [.int p.1, .int p.2]
def leP (p q : Int × Int) : Prop := p.1 < q.1 ∨ (p.1 = q.1 ∧ p.2 ≤ q.2)
def rSortedBP (K : PySem.W.Frag) : List V → Hp → VK → Prop := fun vs H Q => ∃ (t : Bool) (a : Addr) (xs : List V) (ps : List (Int × Int)), vs = [V.ref a] ∧ SqB t K H a xs ∧ PrsAt K H xs ps ∧
  ∀ (ys : List V) (qs : List (Int × Int)) (p : Addr), qs.Perm ps → qs.Pairwise leP → PrsAt K H ys qs → H p = none → Q (.ref p) (upd H p (.lst ys))
section
variable {X : Cx}
theorem cr_sortedBI : CallR X (.builtin "sorted") (rSortedBI X.K) := by
  intro pins s σ H vs us Q I r h
  obtain ⟨t, a, ns, rfl, hs, q⟩ := h
  obtain ⟨its, rv, hl, hz⟩ := inv_sq I hs
  rw [Vals.ref1 r]
  have hi := rv.ints
  refine sorted_ordB SrtO.swo_int hl (by rw [← rv.length]; exact hz) (fun h2 h₁ a' _ _ => SrtO.ints_sortable hi h2) fun out h1 h2 => ?_
  obtain ⟨k1, k2, k3⟩ := SrtO.ints_out hi h1 h2
  obtain ⟨ep, he'⟩ := PyProof.Rows.sortedAll_at s.heap its out.toArray
  have hlen : ((out.map SrtO.iv).map V.int).length ≤ sizeLine := by
    rw [List.length_map, k2.length_eq]
    rw [List.length_map] at hz
    exact hz
  exact ⟨.ref _, upd H (s.heap.objs.size + 1) (.lst ((out.map SrtO.iv).map V.int)), I.laid (t' := s.toks) (fun _ _ => PyProof.Rows.sortedAll_old) (Nat.le_succ _) ⟨hlen, out, ep, vals_of_ints k1, he'⟩, rfl, q _ _ k2 k3 (I.hok.fresh (Nat.le_succ _))⟩
theorem prs_refs {K : PySem.W.Frag} {H : Hp} : ∀ {xs : List V} {ps : List (Int × Int)}, PrsAt K H xs ps → ∀ x ∈ xs, ∃ p T, p ∈ ps ∧ x = V.ref T ∧ TqN K H T [.int p.1, .int p.2]
  | _, _, .nil, x, hx => by cases hx
  | _, _, .cons h t, x, hx => by
    rcases List.mem_cons.mp hx with rfl | hx
    · obtain ⟨T, e, q⟩ := h
      exact ⟨_, T, List.mem_cons_self .., e, q⟩
    · obtain ⟨p, T, m, e, q⟩ := prs_refs t x hx
      exact ⟨p, T, List.mem_cons_of_mem _ m, e, q⟩
/-- what stands at an item -/
noncomputable def keyAt (K : PySem.W.Frag) (H : Hp) (x : V) : Int × Int := open Classical in if h : ∃ p : Int × Int, ∃ T, x = V.ref T ∧ TqN K H T [.int p.1, .int p.2] then Classical.choose h else (0, 0)
theorem keyAt_eq {pins : List (Addr × Obj)} {σ : L2.St} {H : Hp} {s : Shared} (I : Inv X pins σ H s) {x : V} {p : Int × Int} {T : Addr} (e : x = V.ref T) (h : TqN X.K H T [.int p.1, .int p.2]) : keyAt X.K H x = p := by
  have hx : ∃ p : Int × Int, ∃ T, x = V.ref T ∧ TqN X.K H T [.int p.1, .int p.2] := ⟨p, T, e, h⟩
  unfold keyAt
  rw [dif_pos hx]
  obtain ⟨T', e', h'⟩ := Classical.choose_spec hx
  generalize Classical.choose hx = q at h' ⊢
  rw [e] at e'
  cases e'
  have := I.tuple_inj h.sq h'.sq
  injection this with a1 a2
  injection a2 with a2 _
  injection a1 with a1
  injection a2 with a2
  exact Prod.ext a1.symm a2.symm
theorem prs_map {pins : List (Addr × Obj)} {σ : L2.St} {H : Hp} {s : Shared} (I : Inv X pins σ H s) : ∀ {xs : List V} {ps : List (Int × Int)}, PrsAt X.K H xs ps → xs.map (keyAt X.K H) = ps
  | _, _, .nil => rfl
  | _, _, .cons ⟨T, e, q⟩ t => by rw [List.map_cons, keyAt_eq I e q, prs_map I t]
theorem prs_of {pins : List (Addr × Obj)} {σ : L2.St} {H : Hp} {s : Shared} (I : Inv X pins σ H s) : ∀ {xs : List V}, (∀ x ∈ xs, ∃ (p : Int × Int) (T : Addr), x = V.ref T ∧ TqN X.K H T [.int p.1, .int p.2]) → PrsAt X.K H xs (xs.map (keyAt X.K H))
  | [], _ => .nil
  | x :: xs, h => by
    obtain ⟨p, T, e, q⟩ := h x (List.mem_cons_self ..)
    refine .cons ⟨T, e, ?_⟩ (prs_of I fun y hy => h y (List.mem_cons_of_mem _ hy))
    rw [keyAt_eq I e q]; exact q
theorem cr_sortedBP : CallR X (.builtin "sorted") (rSortedBP X.K) := by
  intro pins s σ H vs us Q I r h
  obtain ⟨t, a, xs, ps, rfl, hs, hx, q⟩ := h
  obtain ⟨its, rv, hl, hz⟩ := inv_sq I hs
  obtain ⟨u, rfl, ru⟩ := vals1 r
  obtain rfl : u = Value.ref a := ru
  obtain ⟨e1, e2⟩ := refs_back rv fun x m => by
    obtain ⟨_, t, _, e, _⟩ := prs_refs hx x m
    exact ⟨t, e⟩
  have k := keyAt X.K H
  refine sorted_ordB (SrtO.swo_lex fun u => keyAt X.K H (backV u)) hl (by rw [← rv.length]; exact hz) (fun h2 h₁ a' ha kk => ?_) fun out h1 h2 => ?_
  · have hp : ∀ v ∈ its, Srt.IsPair s.heap v (keyAt X.K H (backV v)).1 (keyAt X.K H (backV v)).2 := fun v hv => by
      obtain ⟨t, rfl⟩ := e2 v hv
      have hm : V.ref t ∈ xs := by rw [e1]; exact List.mem_map.mpr ⟨_, hv, rfl⟩
      obtain ⟨p, T, _, e, ht⟩ := prs_refs hx _ hm
      cases e
      rw [show keyAt X.K H (backV (.ref t)) = p from keyAt_eq I rfl ht]
      obtain ⟨its2, r2, ⟨o, ho, hc, n, hd⟩, _⟩ := I.tuple ht.sq
      obtain ⟨u1, u2, rfl, ri, rj⟩ := vals2 r2
      obtain ⟨t1, rfl⟩ := ri
      obtain ⟨t2, rfl⟩ := rj
      exact ⟨t, o, t1, t2, n, rfl, ho, hc, hd⟩
    refine SrtO.pairs_sortableO (s := { s with heap := h₁ }) (by omega) (fun v hm => (hp v hm).keeps fun b o e _ => (kk b o e).2) fun o e => ?_
    have e' : some o = some (seqObj "list" its.toArray 0) := e.symm.trans ha
    cases e'
    intro c
    exact absurd (Value.type.inj c) (by decide)
  · have h3 : ∀ u ∈ out, ∃ a, u = Value.ref a := fun u hu => e2 u (h2.perm.mem_iff.mp hu)
    obtain ⟨ep, he'⟩ := PyProof.Rows.sortedAll_at s.heap its out.toArray
    have hpm : (out.map backV).Perm xs := by rw [e1]; exact h2.perm.map _
    have hat : PrsAt X.K H (out.map backV) ((out.map backV).map (keyAt X.K H)) := prs_of I fun x m => by
      obtain ⟨p, T, _, e, z⟩ := prs_refs hx x (hpm.mem_iff.mp m)
      exact ⟨p, T, e, z⟩
    refine ⟨.ref (s.heap.objs.size + 1), upd H (s.heap.objs.size + 1) (.lst (out.map backV)), I.laid (t' := s.toks) (fun _ _ => PyProof.Rows.sortedAll_old) (Nat.le_succ _) ⟨?_, out, ep, vals_back h3, he'⟩, rfl, q _ _ _ ?_ ?_ hat (I.hok.fresh (Nat.le_succ _))⟩
    · rw [hpm.length_eq]; exact hz
    · rw [← prs_map I hx]; exact hpm.map _
    · rw [List.map_map, List.pairwise_map]
      refine h1.imp fun {a b} z => ?_
      have z := SrtO.lexB_no.mp z
      show leP (keyAt X.K H (backV a)) (keyAt X.K H (backV b))
      unfold leP
      omega
end
/-! ### by plain values -/
def pairW (p : Int × Int) : W := .tup [.int p.1, .int p.2]
/-- sorted(..): ints of a list or a tuple, or pairs of ints -/
def fSorted2 : NOp := fun ws S K => match ws with
  | [x] => sqK S x fun _ xs => (∃ ns : List Int, xs = ns.map W.int ∧ ∀ (ns' : List Int) (p : Addr), ns'.Perm ns → ns'.Pairwise (· ≤ ·) → S p = none → K (.ref p) (S.put p (.lst (ns'.map W.int)))) ∨
    ∃ ps : List (Int × Int), xs = ps.map pairW ∧ ∀ (qs : List (Int × Int)) (p : Addr), qs.Perm ps → qs.Pairwise leP → S p = none → K (.ref p) (S.put p (.lst (qs.map pairW)))
  | _ => False
theorem rvs_prs {K : PySem.W.Frag} {H : Hp} : ∀ {ps : List (Int × Int)} {vs : List V}, RVs K H (ps.map pairW) vs → PrsAt K H vs ps
  | [], _, r => by cases r; exact .nil
  | p :: ps, _, r => by
    cases r with
    | cons h t =>
      refine .cons ?_ (rvs_prs t)
      cases h with
      | tp hq r =>
        cases r with
        | cons r1 r =>
          cases r with
          | cons r2 r =>
            cases r
            cases r1; cases r2
            exact ⟨_, rfl, hq⟩
theorem prs_rvs {K : PySem.W.Frag} {H : Hp} : ∀ {ps : List (Int × Int)} {vs : List V}, PrsAt K H vs ps → RVs K H (ps.map pairW) vs
  | _, _, .nil => .nil
  | _, _, .cons ⟨T, e, q⟩ t => by subst e; exact .cons (.tp (k := false) q (.cons (.int _) (.cons (.int _) .nil))) (prs_rvs t)
def rSorted2 (K : PySem.W.Frag) : List V → Hp → VK → Prop := fun vs H Q => rSortedBI K vs H Q ∨ rSortedBP K vs H Q
theorem o_sorted2 {c : Cst} : OpN c (rSorted2 c.K) fSorted2 := fun ws vs H S Kk Q rs r h po => by
  unfold fSorted2 at h
  split at h
  · obtain ⟨v, rfl, rx⟩ := rvs1 r
    obtain ⟨g, xs, h, _, h'⟩ := sqK_of h
    rcases h' with ⟨ns, rfl, k⟩ | ⟨ps, rfl, k⟩
    · obtain ⟨t, a, xs, rfl, q1, r1, _⟩ := seq_b rs rx h
      rw [rvs_map (g := V.int) (fun x v r => by cases r; rfl) r1] at q1
      exact .inl ⟨t, a, ns, rfl, q1, fun ns' p h1 h2 hp => po _ _ _ _ (k ns' p h1 h2 (rs.fresh hp)) (.new hp) (rs.new hp (.lst (rvs_ints ns'))) (.ref p)⟩
    · obtain ⟨t, a, xs, rfl, q1, r1, _⟩ := seq_b rs rx h
      exact .inr ⟨t, a, xs, ps, rfl, q1, rvs_prs r1, fun ys qs p h1 h2 h3 hp => po _ _ _ _ (k qs p h1 h2 (rs.fresh hp)) (.new hp) (rs.new hp (.lst (prs_rvs h3))) (.ref p)⟩
  · exact h.elim

/-! ### x.count(y), x.index(y) of flat items -/
theorem count_vals {y : V} : ∀ {ys : List V} {its : List Value}, Vals ys its → ys.all flatV = true → its.countP (eqU y) = ys.countP (fun z => eqV z y)
  | _, _, .nil, _ => rfl
  | z :: ys, u :: its, .cons r t, f => by
    rw [List.all_cons, Bool.and_eq_true] at f
    rw [List.countP_cons, List.countP_cons, count_vals t f.2, eqU_of r f.1]
def rCntB (t : Bool) (K : PySem.W.Frag) : V → List V → Hp → VK → Prop := fun x xs H Q => ∃ p ys y, x = .ref p ∧ xs = [y] ∧ SqB t K H p ys ∧ flatV y = true ∧ ys.all flatV = true ∧ Q (.int (ys.countP (fun z => eqV z y) : Nat)) H
section
variable {X : Cx}
theorem mt_lcountB : MtR X "list.count" (rCntB false X.K) := by
  intro pins s σ H x xs v us Q I rx rxs h
  obtain ⟨p, ys, y, rfl, rfl, hs, fy, fys, q⟩ := h
  cases rx
  obtain ⟨u, rfl, ru⟩ := vals1 rxs
  obtain ⟨its, rv, ⟨⟨cls, dd, data, sl⟩, n, ho, hc, hdn, hd⟩, hlen⟩ := I.list hs
  simp only at hc hd
  subst hc hd
  refine call_meets PySem.F.slot_list_count ⟨_, ho, rfl⟩ PySem.F.entry_list_count (PySem.F.args_list_count_2 _ _)
    (SeqAt.list_countAt p its.toArray n dd sl u (eqU y)) ⟨ho, fun w hw => mem_eqAt ru fy rv fys w (by simpa using hw), ?_⟩
  refine ⟨.int (ys.countP (fun z => eqV z y) : Nat), H, I.tok _, ⟨s.toks, ?_⟩, q⟩
  show Value.int ((its.toArray.toList.countP (eqU y) : Nat) : Int) s.toks = Value.int ((ys.countP (fun z => eqV z y) : Nat) : Int) s.toks
  rw [show its.toArray.toList = its from rfl, count_vals rv fys]
theorem mt_tcountB : MtR X "tuple.count" (rCntB true X.K) := by
  intro pins s σ H x xs v us Q I rx rxs h
  obtain ⟨p, ys, y, rfl, rfl, hs, fy, fys, q⟩ := h
  cases rx
  obtain ⟨u, rfl, ru⟩ := vals1 rxs
  obtain ⟨its, rv, ⟨⟨cls, dd, data, sl⟩, ho, hc, n, hd⟩, hlen⟩ := I.tuple hs
  simp only at hc hd
  subst hc hd
  refine call_meets PySem.F.slot_tuple_count ⟨_, ho, rfl⟩ PySem.F.entry_tuple_count (PySem.F.args_tuple_count_2 _ _)
    (SeqAt.tuple_countAt p its.toArray n dd sl u (eqU y)) ⟨ho, fun w hw => mem_eqAt ru fy rv fys w (by simpa using hw), ?_⟩
  refine ⟨.int (ys.countP (fun z => eqV z y) : Nat), H, I.tok _, ⟨s.toks, ?_⟩, q⟩
  show Value.int ((its.toArray.toList.countP (eqU y) : Nat) : Int) s.toks = Value.int ((ys.countP (fun z => eqV z y) : Nat) : Int) s.toks
  rw [show its.toArray.toList = its from rfl, count_vals rv fys]
def rIndexT (K : PySem.W.Frag) : V → List V → Hp → VK → Prop := fun x xs H Q => ∃ (a : Addr) (ys : List V) (y : V) (j : Nat) (z : V), x = V.ref a ∧ xs = [y] ∧ SqT K H a ys ∧ flatV y = true ∧ ys.all flatV = true ∧ ys[j]? = some z ∧ eqV z y = true ∧
  (∀ (m : Nat) (z' : V), m < j → ys[m]? = some z' → eqV z' y = false) ∧ Q (.int (j : Nat)) H
theorem mt_tindexB : MtR X "tuple.index" (rIndexT X.K) := by
  intro pins s σ H x xs v us Q I rx rxs h
  obtain ⟨a, ys, y, j, z, rfl, rfl, hs, fy, fys, hz, hzj, hno, q⟩ := h
  cases rx
  obtain ⟨uy, rfl, ry⟩ := vals1 rxs
  obtain ⟨its, rv, ⟨⟨cls, dd, data, sl⟩, ho, hc, n, hd⟩, hlen⟩ := I.tuple hs
  simp only at hc hd
  subst hc hd
  obtain ⟨u, hu, ru⟩ := rv.get hz
  obtain ⟨hjl, hje⟩ := List.getElem?_eq_some_iff.mp hu
  have hvl := rv.length
  have hj : j < its.toArray.size := by simpa using hjl
  refine call_meets PySem.F.slot_tuple_index ⟨_, ho, rfl⟩ PySem.F.entry_tuple_index (PySem.F.args_tuple_index_2 _ _)
    (TI.tuple_indexAt a its.toArray n dd sl uy (eqU y) j hj ?_ ?_) ⟨ho, fun u' hu' => mem_eqAt ry fy rv fys u' (by simpa using hu'), ?_⟩
  · have e1 : its.toArray[j] = u := by simpa using hje
    rw [e1, eqU_of ru (flat_at fys hz)]
    exact hzj
  · intro m hm hmj
    have hml : m < its.length := by simpa using hm
    have hmy : m < ys.length := by omega
    have hy' : ys[m]? = some ys[m] := List.getElem?_eq_getElem hmy
    obtain ⟨u2, hu2, ru2⟩ := rv.get hy'
    obtain ⟨_, hme⟩ := List.getElem?_eq_some_iff.mp hu2
    have e1 : its.toArray[m] = u2 := by simpa using hme
    rw [e1, eqU_of ru2 (flat_at fys hy')]
    exact hno m _ hmj hy'
  · exact ⟨.int (j : Nat), H, I.tok _, ⟨_, rfl⟩, q⟩
end
def fCountL : MOp := fun x ws S K => match x, ws with
  | x, [y] => rdK S x fun xs => flat y = true ∧ xs.all flat = true ∧ K (.int (xs.countP (fun w => eqF w y) : Nat)) S
  | _, _ => False
def fCountT : MOp := fun x ws S K => match x, ws with
  | .tp false xs, [y] => flat y = true ∧ xs.all flat = true ∧ K (.int (xs.countP (fun w => eqF w y) : Nat)) S
  | _, _ => False
def fIndexL : MOp := fun x ws S K => match x, ws with
  | x, [y] => rdK S x fun xs => ∃ j z, flat y = true ∧ xs.all flat = true ∧ xs[j]? = some z ∧ eqF z y = true ∧ (∀ (m : Nat) z', m < j → xs[m]? = some z' → eqF z' y = false) ∧ K (.int (j : Nat)) S
  | _, _ => False
def fIndexT : MOp := fun x ws S K => match x, ws with
  | .tp false xs, [y] => ∃ j z, flat y = true ∧ xs.all flat = true ∧ xs[j]? = some z ∧ eqF z y = true ∧ (∀ (m : Nat) z', m < j → xs[m]? = some z' → eqF z' y = false) ∧ K (.int (j : Nat)) S
  | _, _ => False
def fIndexS : MOp := fun x ws S K => match x, ws with
  | .str a, [.str b] => ∃ i rest, Builtin.Str.occurrences a b 0 a.length 1 = i :: rest ∧ K (.int (i : Nat)) S
  | _, _ => False
theorem rvs_count {K : PySem.W.Frag} {H : Hp} {y : W} {v : V} (ry : RV K H y v) (fy : flat y = true) : ∀ {xs : List W} {vs : List V}, RVs K H xs vs → xs.all flat = true → vs.countP (fun z => eqV z v) = xs.countP (fun w => eqF w y)
  | _, _, .nil, _ => rfl
  | x :: xs, u :: vs, .cons r t, f => by
    rw [List.all_cons, Bool.and_eq_true] at f
    rw [List.countP_cons, List.countP_cons, rvs_count ry fy t f.2, rv_eqF r ry f.1 fy]
theorem rvs_find {K : PySem.W.Frag} {H : Hp} {y z : W} {v : V} {xs : List W} {vs : List V} {j : Nat} (ry : RV K H y v) (fy : flat y = true) (r : RVs K H xs vs) (f : xs.all flat = true) (hz : xs[j]? = some z) (e : eqF z y = true) (no : ∀ (m : Nat) z', m < j → xs[m]? = some z' → eqF z' y = false) :
    ∃ z', vs[j]? = some z' ∧ eqV z' v = true ∧ ∀ (m : Nat) z', m < j → vs[m]? = some z' → eqV z' v = false := by
  obtain ⟨z', h1, h2⟩ := r.get' hz
  refine ⟨z', h1, by rw [rv_eqF h2 ry (List.all_eq_true.mp f z (List.mem_of_getElem? hz)) fy]; exact e, fun m u hm hu => ?_⟩
  obtain ⟨w, h3, h4⟩ := r.get hu
  rw [rv_eqF h4 ry (List.all_eq_true.mp f w (List.mem_of_getElem? h3)) fy]
  exact no m w hm h3
theorem mo_countL {c : Cst} : OpM c ⟨"list", fCountL⟩ ⟨"list", "list.count", rCntB false c.K⟩ := ⟨rfl, fun x ws u vs H S Kk Q rs rx r h po => by
  simp only [fCountL] at h
  split at h
  · obtain ⟨v, rfl, ry⟩ := rvs1 r
    obtain ⟨xs, l, fy, fx, k⟩ := rdK_of h
    obtain ⟨a, us, rfl, hq, rr⟩ := rs.list rx l
    exact ⟨_, us, v, rfl, rfl, hq, rv_flat ry fy, rvs_flat rr fx, by rw [rvs_count ry fy rr fx]; exact po _ _ _ _ k .refl rs (.int _)⟩
  · exact h.elim⟩
theorem mo_countT {c : Cst} : OpM c ⟨"tuple", fCountT⟩ ⟨"tuple", "tuple.count", rCntB true c.K⟩ := ⟨rfl, fun x ws u vs H S Kk Q rs rx r h po => by
  simp only [fCountT] at h
  split at h
  · cases rx with
    | tp hq rr =>
      obtain ⟨v, rfl, ry⟩ := rvs1 r
      obtain ⟨fy, fx, k⟩ := h
      exact ⟨_, _, v, rfl, rfl, hq.sq, rv_flat ry fy, rvs_flat rr fx, by rw [rvs_count ry fy rr fx]; exact po _ _ _ _ k .refl rs (.int _)⟩
  · exact h.elim⟩
theorem mo_indexL {c : Cst} : OpM c ⟨"list", fIndexL⟩ ⟨"list", "list.index", rIndex c.K⟩ := ⟨rfl, fun x ws u vs H S Kk Q rs rx r h po => by
  simp only [fIndexL] at h
  split at h
  · obtain ⟨v, rfl, ry⟩ := rvs1 r
    obtain ⟨xs, l, j, z, fy, fx, hz, e, no, k⟩ := rdK_of h
    obtain ⟨a, us, rfl, hq, rr⟩ := rs.list rx l
    obtain ⟨z', h1, h2, h3⟩ := rvs_find ry fy rr fx hz e no
    exact ⟨_, us, v, j, z', rfl, rfl, hq, rv_flat ry fy, rvs_flat rr fx, h1, h2, h3, po _ _ _ _ k .refl rs (.int _)⟩
  · exact h.elim⟩
theorem mo_indexT {c : Cst} : OpM c ⟨"tuple", fIndexT⟩ ⟨"tuple", "tuple.index", rIndexT c.K⟩ := ⟨rfl, fun x ws u vs H S Kk Q rs rx r h po => by
  simp only [fIndexT] at h
  split at h
  · cases rx with
    | tp hq rr =>
      obtain ⟨v, rfl, ry⟩ := rvs1 r
      obtain ⟨j, z, fy, fx, hz, e, no, k⟩ := h
      obtain ⟨z', h1, h2, h3⟩ := rvs_find ry fy rr fx hz e no
      exact ⟨_, _, v, j, z', rfl, rfl, hq.sq, rv_flat ry fy, rvs_flat rr fx, h1, h2, h3, po _ _ _ _ k .refl rs (.int _)⟩
  · exact h.elim⟩
def rIndexS : V → List V → Hp → VK → Prop := fun x xs H Q => ∃ a b i rest, x = .str a ∧ xs = [.str b] ∧ Builtin.Str.occurrences a b 0 a.length 1 = i :: rest ∧ Q (.int (i : Nat)) H
theorem mo_indexS {c : Cst} : OpM c ⟨"str", fIndexS⟩ ⟨"str", "str.index", rIndexS⟩ := ⟨rfl, fun x ws u vs H S Kk Q rs rx r h po => by
  simp only [fIndexS] at h
  split at h
  · cases rx
    obtain ⟨v, rfl, ry⟩ := rvs1 r
    cases ry
    obtain ⟨i, rest, e, k⟩ := h
    exact ⟨_, _, i, rest, rfl, rfl, e, po _ _ _ _ k .refl rs (.int _)⟩
  · exact h.elim⟩
theorem ml_countL : Mth "list" "count" "list.count" := ⟨PySem.F.plainAttrs_list, PySem.F.slot_list_count, PySem.F.type_list_count⟩
theorem ml_countT : Mth "tuple" "count" "tuple.count" := ⟨PySem.F.plainAttrs_tuple, PySem.F.slot_tuple_count, PySem.F.type_tuple_count⟩
theorem ml_indexL : Mth "list" "index" "list.index" := ⟨PySem.F.plainAttrs_list, PySem.F.slot_list_index, PySem.F.type_list_index⟩
theorem ml_indexT : Mth "tuple" "index" "tuple.index" := ⟨PySem.F.plainAttrs_tuple, PySem.F.slot_tuple_index, PySem.F.type_tuple_index⟩
theorem ml_indexS : Mth "str" "index" "str.index" := ⟨PySem.F.plainAttrs_str, PySem.F.slot_str_index, PySem.F.type_str_index⟩

/-! ### list(range(..)), tuple(range(..)) -/
def lrgK (t : Bool) (ws : List W) (S : Sto) (Kk : WK) : Prop := match t with
  | true => Kk (.tup ws) S
  | false => ∀ p, S p = none → Kk (.ref p) (S.put p (.lst ws))
def mLrg1 (t : Bool) (a : WE) : WE := fun ρ S Kk Ek => a ρ S (fun x S1 => match x with
  | .int n => RgOk 0 n ∧ lrgK t (rgList 0 1 n.toNat) S1 Kk
  | _ => False) Ek
def mLrg2 (t : Bool) (a b : WE) : WE := fun ρ S Kk Ek => a ρ S (fun x S1 => b ρ S1 (fun y S2 => match x, y with
  | .int m, .int n => RgOk m n ∧ lrgK t (rgList m 1 (n - m).toNat) S2 Kk
  | _, _ => False) Ek) Ek
theorem rvs_rg {K : PySem.W.Frag} {H : Hp} (a : Int) : ∀ (l : List Nat), RVs K H (l.map fun i => W.int (a + (i : Nat) * 1)) (l.map fun i => V.int (a + (i : Nat)))
  | [] => .nil
  | i :: l => by
    have e : a + (i : Nat) * 1 = a + ((i : Nat) : Int) := by omega
    rw [List.map_cons, List.map_cons, e]
    exact .cons (.int _) (rvs_rg a l)
section
variable {X : Cx} {c : Cst} {Wx : WX}
def rgN : Bool → Str
  | true => "tuple"
  | false => "list"
theorem s_lrg1 {t : Bool} {e : Expr} {a : WE} {p p2 pos pos2 : Pos} (hc : X.calm = true) (hg : Gl X (rgN t)) (hm : X.mg (rgN t) = none) (hg2 : Gl X "range") (hm2 : X.mg "range" = none) (ha : PE X e (tE c Wx a)) (na : starEach [e] X.env = [(false, eval e X.env)]) :
    PE X (.Call (.Name (rgN t) p) [.Call (.Name "range" p2) [e] [] pos2] [] pos) (tE c Wx (mLrg1 t a)) := by
  cases t with
  | false =>
    refine PE.imp (pe_listRg hc hg hm (prg_1 hg2 hm2 ha na) rfl) fun σ H Q q => ?_
    obtain ⟨ρ, S, Kk, Ek, re, rs, hm, po, px⟩ := q
    refine ⟨ρ, S, _, Ek, re, rs, hm, fun x S1 H1 u k1 e1 rs1 rx => ?_, px⟩
    cases rx with
    | int n =>
      refine ⟨n, rfl, k1.1, fun q hq => po _ _ _ _ (k1.2 q (rs1.fresh hq)) (e1.trans (.new hq)) (rs1.new hq (.lst ?_)) (.ref q)⟩
      have := rvs_rg (K := c.K) (H := H1) 0 (List.range n.toNat)
      unfold rgList rgV
      rw [Int.sub_zero]
      exact this
    | _ => exact (show False from k1).elim
  | true =>
    refine PE.imp (pe_tupRgN hc hg hm (prg_1 hg2 hm2 ha na) rfl) fun σ H Q q => ?_
    obtain ⟨ρ, S, Kk, Ek, re, rs, hm, po, px⟩ := q
    refine ⟨ρ, S, _, Ek, re, rs, hm, fun x S1 H1 u k1 e1 rs1 rx => ?_, px⟩
    cases rx with
    | int n =>
      refine ⟨n, rfl, k1.1, fun q o hq hc hd => po _ _ _ _ k1.2 (e1.trans (.tup hq)) (rs1.tup hq) (.tp (k := false) (.new hc hd) (RVs.tst (tst_upd_new hq) ?_))⟩
      have := rvs_rg (K := c.K) (H := H1) 0 (List.range n.toNat)
      unfold rgList rgV
      rw [Int.sub_zero]
      exact this
    | _ => exact (show False from k1).elim
theorem s_lrg2 {t : Bool} {e e2 : Expr} {a b : WE} {p p2 pos pos2 : Pos} (hc : X.calm = true) (hg : Gl X (rgN t)) (hm : X.mg (rgN t) = none) (hg2 : Gl X "range") (hm2 : X.mg "range" = none) (ha : PE X e (tE c Wx a)) (hb : PE X e2 (tE c Wx b)) (na : starEach [e, e2] X.env = (false, eval e X.env) :: starEach [e2] X.env) (nb : starEach [e2] X.env = [(false, eval e2 X.env)]) :
    PE X (.Call (.Name (rgN t) p) [.Call (.Name "range" p2) [e, e2] [] pos2] [] pos) (tE c Wx (mLrg2 t a b)) := by
  have hp : (backTo pos2 (starEach [e2] X.env)).any (·.1) = false := by rw [nb]; rfl
  cases t with
  | false =>
    refine PE.imp (pe_listRg hc hg hm (prg_2 hg2 hm2 ha hb na nb hp) rfl) fun σ H Q q => ?_
    obtain ⟨ρ, S, Kk, Ek, re, rs, hm, po, px⟩ := q
    refine ⟨ρ, S, _, Ek, re, rs, hm, fun x S1 H1 u k1 e1 rs1 rx => ?_, px⟩
    refine ⟨ρ, S1, _, Ek, re.tst (e1.tst rs), rs1, k1, fun y S2 H2 v k2 e2 rs2 ry => ?_, px.on e1⟩
    cases rx with
    | int m =>
      cases ry with
      | int n => exact ⟨m, n, rfl, rfl, k2.1, fun q hq => po _ _ _ _ (k2.2 q (rs2.fresh hq)) ((e1.trans e2).trans (.new hq)) (rs2.new hq (.lst (rvs_rg m _))) (.ref q)⟩
      | _ => exact (show False from k2).elim
    | _ => cases ry <;> exact (show False from k2).elim
  | true =>
    refine PE.imp (pe_tupRgN hc hg hm (prg_2 hg2 hm2 ha hb na nb hp) rfl) fun σ H Q q => ?_
    obtain ⟨ρ, S, Kk, Ek, re, rs, hm, po, px⟩ := q
    refine ⟨ρ, S, _, Ek, re, rs, hm, fun x S1 H1 u k1 e1 rs1 rx => ?_, px⟩
    refine ⟨ρ, S1, _, Ek, re.tst (e1.tst rs), rs1, k1, fun y S2 H2 v k2 e2 rs2 ry => ?_, px.on e1⟩
    cases rx with
    | int m =>
      cases ry with
      | int n => exact ⟨m, n, rfl, rfl, k2.1, fun q o hq hc hd => po _ _ _ _ k2.2 ((e1.trans e2).trans (.tup hq)) (rs2.tup hq) (.tp (k := false) (.new hc hd) (RVs.tst (tst_upd_new hq) (rvs_rg m _)))⟩
      | _ => exact (show False from k2).elim
    | _ => cases ry <;> exact (show False from k2).elim
end

/-! ### t[::-1] -/
section
variable {prog : Program} {w : World} {A : Around} {E : Value → Shared → Prop} {s : Shared}
theorem rev_pick (xs : Array Value) : ((List.range xs.size).filterMap fun (k : Nat) => xs[(((xs.size : Int) - 1) + (k : Int) * (-1)).toNat]?).toArray = xs.toList.reverse.toArray := by
  have e : (List.range xs.size).filterMap (fun (k : Nat) => xs[(((xs.size : Int) - 1) + (k : Int) * (-1)).toNat]?) = ((List.range xs.size).map fun k => xs.size - 1 - k).filterMap (xs[·]?) := by
    rw [List.filterMap_map]
    congr 1
    funext k
    have e2 : (((xs.size : Int) - 1) + (k : Int) * (-1)).toNat = xs.size - 1 - k := by omega
    show xs[(((xs.size : Int) - 1) + (k : Int) * (-1)).toNat]? = xs[xs.size - 1 - k]?
    rw [e2]
  rw [e, PySem.W.krv_range, List.filterMap_reverse, PySem.W.krv_all]
theorem sliceApplied_rev {sl : Addr} {vl vu vs : Value} {n : Nat} {Q : Int × Int × Nat → Shared → Prop} (hs : s.heap.IsSliceOf sl vl vu vs) (pl : IsPart vl none) (pu : IsPart vu none) (ps : IsPart vs (some (-1)))
    (h : Q ((n : Int) - 1, -1, n) s) : wpAny (model prog w) A (Builtin.Slice.sliceApplied (.ref sl) (pure (n : Int))) Q E s := by
  obtain ⟨os, hos, hcs, hds⟩ := id hs
  unfold Builtin.Slice.sliceApplied Builtin.Slice.sliceFields
  refine wpAny_bind (wpAny_bind (wpAny_field hos hds (x := vl) rfl (wpAny_bind (wpAny_field hos hds (x := vu) rfl (wpAny_bind (wpAny_field hos hds (x := vs) rfl (wpAny_pure ?_)))))))
  refine wpAny_bind (HT.slicePart_ ps ?_)
  show wpAny _ _ (if ((-1 : Int) == 0) = true then _ else _) _ _ s
  rw [if_neg (by decide)]
  refine wpAny_bind (HT.slicePart_ pl (wpAny_bind (HT.slicePart_ pu (wpAny_bind (wpAny_pure ?_)))))
  show wpAny _ _ (pure (((n : Int) - 1), (-1 : Int), Builtin.Slice.slicePlaces ((n : Int) - 1) (-1) (-1))) _ _ s
  have e : Builtin.Slice.slicePlaces ((n : Int) - 1) (-1) (-1) = n := by
    unfold Builtin.Slice.slicePlaces
    rw [if_neg (by decide)]
    have e1 : (-(-1) : Int) = 1 := by decide
    rw [e1, Int.ediv_one]
    split <;> omega
  rw [e]
  exact wpAny_pure h
open HT in
theorem getItem_tuple_rev {t sl : Addr} {items : Array Value} {vl vu vs : Value} {Q : Value → Shared → Prop} (ht : IsTup s.heap t items) (hs : s.heap.IsSliceOf sl vl vu vs) (pl : IsPart vl none) (pu : IsPart vu none) (ps : IsPart vs (some (-1)))
    (h : Q (.ref s.heap.objs.size) { s with heap := s.heap.push { cls := .type "tuple", data := .seq items.toList.reverse.toArray } })
    (hsz : items.size ≤ sizeLine) : wpAny (model prog w) A (getItem (.ref t) (.ref sl)) Q E s := by
  have htake : sizeOk (.seq items.toList.reverse.toArray) := by
    show items.toList.reverse.toArray.size ≤ sizeLine
    rw [List.size_toArray, List.length_reverse, Array.length_toList]
    exact hsz
  obtain ⟨os, hos, hcs, hds⟩ := id hs
  have hTs : s.TypeIs (.ref sl) "slice" := ⟨os, hos, hcs⟩
  unfold getItem
  try with_reducible refine wpAny_holding ?_
  first | refine wpAny_bind (wpAny_pure ?_) | skip
  refine wpAny_bind (wpAny_sequenceKey ht.typeIs (by decide) ?_)
  refine wpAny_bind (wpAny_callSpecial?_slot (name := Str.ofString "__getitem__") ht.typeIs PyProof.Rows.slot_tuple_getitem
    (wpAny_call_entry PyProof.Rows.slot_tuple_getitem ht.typeIs entry_tuple_getitem ?_ (args_tuple_getitem _ _)))
  show wpAny _ _ (Builtin.Tuple.tupleItemsOf (.ref t) >>= _) _ _ s
  refine wpAny_bind (tupleItemsOf_ ht ?_)
  refine wpAny_bind (wpAny_typeOf hTs ?_)
  rw [if_pos (by decide)]
  refine wpAny_bind (sliceApplied_rev hs pl pu ps ?_)
  have hno : ¬ ((((items.size : Int) - 1) == 0 && (-1 : Int) == 1 && items.size == items.size) = true) := by
    intro q
    rw [Bool.and_eq_true, Bool.and_eq_true] at q
    exact absurd q.1.2 (by decide)
  show wpAny _ _ (if ((((items.size : Int) - 1) == 0 && (-1 : Int) == 1 && items.size == items.size) = true) then _ else _) _ _ s
  rw [if_neg hno, rev_pick]
  first
    | exact wpAny_bind (m := Builtin.Tuple.tupleExact _) (wpAny_newObj_type (wpAny_pure ⟨_, rfl, wpAny_pure h⟩) htake)
    | exact wpAny_bind (m := Builtin.Tuple.tupleExact _) (wpAny_newObj_type (wpAny_bind (wpAny_pure (wpAny_pure ⟨_, rfl, wpAny_pure h⟩))) htake)
    | exact wpAny_bind (wpAny_bind (m := Builtin.Tuple.tupleExact _) (wpAny_newObj_type (wpAny_pure (wpAny_pure ⟨_, rfl, wpAny_pure h⟩)) htake))
    | exact wpAny_bind (wpAny_bind (m := Builtin.Tuple.tupleExact _) (wpAny_newObj_type (wpAny_pure ⟨_, rfl, wpAny_pure h⟩) htake))
end
def tRevB (K : PySem.W.Frag) (te : TE) : TE := fun σ H Q => te σ H fun x H1 => ∃ a xs, x = .ref a ∧ ((SqL K H1 a xs ∧ ∀ p, H1 p = none → Q (.ref p) (upd H1 p (.lst xs.reverse))) ∨ (SqT K H1 a xs ∧ FrT H1 Q xs.reverse))
section
variable {X : Cx} {c : Cst} {Wx : WX}
theorem pe_revB {e : Expr} {te : TE} {k : Nat} {p1 p2 p3 pos : Pos} (he : PE X e te) : PE X (.Subscript e (.Slice none none (some (.UnaryOp .USub (.Constant (.int 1) k p1) p2)) p3) pos) (tRevB X.K te) := by
  refine ⟨fun pins s σ H Q I h => ?_⟩
  refine Subscript_ (thn (he.run pins s σ H _ I h) fun v s1 ⟨x, H1, I1, r1, q1⟩ => ?_)
  obtain ⟨a, xs, ex, q1⟩ := q1
  subst ex
  cases r1
  have hst : PO X (some (.UnaryOp .USub (.Constant (.int 1) k p1) p2)) (tPart (tUn (rU fun i => .int (-i)) (tC (.int 1)))) := po_some (pe_un un_neg pe_int)
  refine wpAny_Slice (thn (po_none.run pins s1 σ H1 (fun o H2 => o = none ∧ H2 = H1) I1 ⟨rfl, rfl⟩) fun vl s2 ⟨l, H2, I2, pl, el, e2⟩ => ?_)
  subst el e2
  refine thn (po_none.run pins s2 σ H2 (fun o H3 => o = none ∧ H3 = H2) I2 ⟨rfl, rfl⟩) fun vu s3 ⟨u, H3, I3, pu, eu, e3⟩ => ?_
  subst eu e3
  refine thn (hst.run pins s3 σ H3 (fun o H4 => o = some (-1) ∧ H4 = H3) I3 ⟨1, rfl, -1, rfl, rfl, rfl⟩) fun vs s4 ⟨o, H4, I4, ps, eo, e4⟩ => ?_
  subst eo e4
  have I5 : Inv X pins σ H4 { s4 with heap := s4.heap.push { cls := .type "slice", data := .fields #[vl, vu, vs] } } := I4.kept (t' := s4.toks) fun b ob q => Heap.get?_push_of_some _ q
  show wpAny (model X.prog X.w) X.A (subscriptTail e (.Slice none none (some (.UnaryOp .USub (.Constant (.int 1) k p1) p2)) p3) (.ref a) (.ref s4.heap.objs.size)) (EP X pins σ Q) X.xe { s4 with heap := s4.heap.push { cls := .type "slice", data := .fields #[vl, vu, vs] } }
  rcases q1 with ⟨hx, q⟩ | ⟨hx, q⟩
  · obtain ⟨its, r, ht, hz⟩ := I5.list hx
    have hlen := r.length
    refine tail_any (ops := [.ref a, .ref s4.heap.objs.size]) ht.isList.typeIs (PySem.slot_list_getitem.lookup) ?_ (by with_unfolding_all rfl)
    refine wpAny_getItem_list_slice ht.isList (Heap.IsSliceOf.new _ vl vu vs) pl pu ps (by decide) ?_ (by rw [List.size_toArray]; omega)
    rw [PySem.W.krv_pick]
    refine ⟨.ref _, _, I5.laid (t' := s4.toks) (o := .lst xs.reverse) (fun b ob q => Heap.get?_push_of_some _ q) (Nat.le_refl _) ?_, rfl, q _ (I5.hok.fresh (Nat.le_refl _))⟩
    exact ⟨by rw [List.length_reverse]; exact hz, _, 0, r.reverse, Heap.get?_push_size _ rfl⟩
  · obtain ⟨its, r, ht, hz⟩ := I5.tuple hx
    have hlen := r.length
    refine tail_any (ops := [.ref a, .ref s4.heap.objs.size]) ht.typeIs (PyProof.Rows.slot_tuple_getitem.lookup) ?_ (by with_unfolding_all rfl)
    refine getItem_tuple_rev ht (Heap.IsSliceOf.new _ vl vu vs) pl pu ps ?_ (by rw [List.size_toArray]; omega)
    exact frT (t := s4.toks) I5 r.reverse (by rw [List.length_reverse]; exact hz) q
def uRev2 : UOp := fun x S K => match x with
  | .tp _ ws => K (.tup ws.reverse) S
  | x => rdK S x fun ws => ∀ p, S p = none → K (.ref p) (S.put p (.lst ws.reverse))
theorem s_rev2 {e : Expr} {a : WE} {k : Nat} {p1 p2 p3 pos : Pos} (hK : c.K = X.K) (ha : PE X e (tE c Wx a)) : PE X (.Subscript e (.Slice none none (some (.UnaryOp .USub (.Constant (.int 1) k p1) p2)) p3) pos) (tE c Wx (mUn uRev2 a)) :=
  PE.imp (pe_revB ha) fun σ H Q q => by
    obtain ⟨ρ, S, Kk, Ek, re, rs, hm, po, px⟩ := q
    refine ⟨ρ, S, _, Ek, re, rs, hm, fun x S1 H1 u k1 e1 rs1 rx => ?_, px⟩
    by_cases ht : ∃ k ws, x = .tp k ws
    · obtain ⟨k, ws, rfl⟩ := ht
      cases rx with
      | tp hq r => exact ⟨_, _, rfl, .inr ⟨by rw [← hK]; exact hq.sq, fun p o hp hc hd => po _ _ _ _ k1 (e1.trans (.tup hp)) (rs1.tup hp) (.tp (k := false) (.new hc hd) (r.rev.tst (tst_upd_new hp)))⟩⟩
    · have k1 : rdK S1 x (fun ws => ∀ p, S1 p = none → Kk (.ref p) (S1.put p (.lst ws.reverse))) := by
        unfold uRev2 at k1
        split at k1
        · exact absurd ⟨_, _, rfl⟩ ht
        · exact k1
      obtain ⟨ws, l, k⟩ := rdK_of k1
      obtain ⟨a, vs, rfl, hq, r⟩ := rs1.list rx l
      exact ⟨a, vs, rfl, .inl ⟨by rw [← hK]; exact hq, fun p hp => po _ _ _ _ (k p (rs1.fresh hp)) (e1.trans (.new hp)) (rs1.new hp (.lst r.rev)) (.ref p)⟩⟩
end
end Dp
/-! sorted of a list of pairs (text, number) -/
namespace Dp
open PySem PySem.Spec L2
open PyProof.Rows hiding St
def SisAt (K : PySem.W.Frag) (H : Hp) : List V → List (Str × Int) → Prop := Paired fun x p => ∃ T, x = V.ref T ∧ TqN K H T [.str p.1, .int p.2]
def rSortedSI (K : PySem.W.Frag) : List V → Hp → VK → Prop := fun vs H Q => ∃ (a : Addr) (xs : List V) (ps : List (Str × Int)), vs = [V.ref a] ∧ SqL K H a xs ∧ SisAt K H xs ps ∧
  ∀ (ys : List V) (qs : List (Str × Int)) (p : Addr), qs.Perm ps → SisAt K H ys qs → H p = none → Q (.ref p) (upd H p (.lst ys))
section
variable {X : Cx}
def shSI : Nat → Bool := fun j => decide (j = 0)
theorem sis_tups {pins : List (Addr × Obj)} {σ : L2.St} {H : Hp} {s : Shared} (I : Inv X pins σ H s) : ∀ {xs : List V} {its : List Value} {ps : List (Str × Int)}, Vals xs its → SisAt X.K H xs ps →
    ∃ fs, TupsOf s.heap shSI its fs ∧ ∀ v ∈ its, ∃ l, G.tupKeyC s.heap shSI v = some l
  | _, _, _, .nil, .nil => ⟨[], .nil, fun _ h => by cases h⟩
  | _, _, _, .cons r t, .cons (b := p0) h t' => by
    obtain ⟨fs, ht, hk⟩ := sis_tups I t t'
    obtain ⟨T, e, hq⟩ := h
    subst e
    cases r
    obtain ⟨its2, r2, ⟨o, ho, hc, n, hd⟩, _⟩ := I.tuple hq.sq
    obtain ⟨u1, u2, rfl, ri, rj⟩ := vals2 r2
    obtain ⟨t1, rfl⟩ := ri
    obtain ⟨t2, rfl⟩ := rj
    refine ⟨_ :: fs, .cons ⟨T, o, _, n, rfl, ho, hc, hd, rfl, (fun z => by cases z), (fun _ => ⟨_, _, rfl⟩)⟩ ht, fun v hv => ?_⟩
    rcases List.mem_cons.mp hv with rfl | hv
    · refine ⟨[Sum.inr p0.1.cps.toList, Sum.inl p0.2], ?_⟩
      unfold G.tupKeyC G.isTupObj tupKey
      simp only [ho, hc, hd]
      rfl
    · exact hk v hv
theorem sis_refs {K : PySem.W.Frag} {H : Hp} : ∀ {xs : List V} {ps : List (Str × Int)}, SisAt K H xs ps → ∀ x ∈ xs, ∃ T, x = V.ref T
  | _, _, .nil, x, hx => by cases hx
  | _, _, .cons h t, x, hx => by
    rcases List.mem_cons.mp hx with rfl | hx
    · obtain ⟨T, e, _⟩ := h; exact ⟨T, e⟩
    · exact sis_refs t x hx
/-- what is turned about is still told -/
theorem sis_perm {K : PySem.W.Frag} {H : Hp} {xs ys : List V} (p : ys.Perm xs) : ∀ {ps : List (Str × Int)}, SisAt K H xs ps → ∃ qs, qs.Perm ps ∧ SisAt K H ys qs := by
  induction p with
  | nil => exact fun h => ⟨_, .refl _, h⟩
  | cons x _ ih =>
    intro ps h
    cases h with
    | cons h t =>
      obtain ⟨qs, a, b⟩ := ih t
      exact ⟨_, a.cons _, .cons h b⟩
  | swap x y l =>
    intro ps h
    cases h with
    | cons h t =>
      cases t with
      | cons h' t => exact ⟨_, .swap .., .cons h' (.cons h t)⟩
  | trans _ _ ih1 ih2 =>
    intro ps h
    obtain ⟨qs, a, b⟩ := ih2 h
    obtain ⟨rs, c, d⟩ := ih1 b
    exact ⟨rs, c.trans a, d⟩
theorem cr_sortedSI : CallR X (.builtin "sorted") (rSortedSI X.K) := by
  intro pins s σ H vs us Q I r h
  obtain ⟨a, xs, ps, rfl, hs, hx, q⟩ := h
  obtain ⟨its, rv, pl, hz⟩ := I.list hs
  rw [Vals.ref1 r]
  obtain ⟨e1, e2⟩ := refs_back rv fun x m => sis_refs hx x m
  obtain ⟨fs, ht, hk⟩ := sis_tups I rv hx
  refine G.sorted_tups pl.isList ht hk (by rw [← rv.length]; exact hz) fun st' h1 _ _ => ?_
  have hp : (((arrOf st').map (·.2)).toList).Perm its := by
    have h2 := (Array.perm_iff_toList_perm.mp h1).map (·.2)
    rw [pairsOf_toList, List.map_snd_zip (Nat.le_refl _)] at h2
    rw [Array.toList_map]; exact h2
  generalize hout : ((arrOf st').map (·.2)) = out at hp
  have h3 : ∀ u ∈ out.toList, ∃ a, u = Value.ref a := fun u hu => e2 u (hp.mem_iff.mp hu)
  obtain ⟨ep, he'⟩ := PyProof.Rows.sortedAll_at s.heap its out
  have hpm : (out.toList.map backV).Perm xs := by rw [e1]; exact hp.map _
  obtain ⟨qs, a1, a2⟩ := sis_perm hpm hx
  refine ⟨.ref (s.heap.objs.size + 1), upd H (s.heap.objs.size + 1) (.lst (out.toList.map backV)), I.laid (t' := s.toks) (fun _ _ => PyProof.Rows.sortedAll_old) (Nat.le_succ _) ⟨?_, out.toList, ep, vals_back h3, he'⟩, rfl, q _ _ _ a1 a2 (I.hok.fresh (Nat.le_succ _))⟩
  rw [hpm.length_eq]; exact hz
end
def siW (p : Str × Int) : W := .tup [.str p.1, .int p.2]
def fSortSI : NOp := fun ws S K => match ws with
  | [x] => rdK S x fun xs => ∃ ps : List (Str × Int), xs = ps.map siW ∧ ∀ (qs : List (Str × Int)) (p : Addr), qs.Perm ps → S p = none → K (.ref p) (S.put p (.lst (qs.map siW)))
  | _ => False
theorem rvs_sis {K : PySem.W.Frag} {H : Hp} : ∀ {ps : List (Str × Int)} {vs : List V}, RVs K H (ps.map siW) vs → SisAt K H vs ps
  | [], _, r => by cases r; exact .nil
  | p :: ps, _, r => by
    cases r with
    | cons h t =>
      refine .cons ?_ (rvs_sis t)
      cases h with
      | tp hq r =>
        cases r with
        | cons r1 r =>
          cases r with
          | cons r2 r =>
            cases r
            cases r1; cases r2
            exact ⟨_, rfl, hq⟩
theorem sis_rvs {K : PySem.W.Frag} {H : Hp} : ∀ {ps : List (Str × Int)} {vs : List V}, SisAt K H vs ps → RVs K H (ps.map siW) vs
  | _, _, .nil => .nil
  | _, _, .cons ⟨T, e, q⟩ t => by subst e; exact .cons (.tp (k := false) q (.cons (.str _) (.cons (.int _) .nil))) (sis_rvs t)
theorem o_sortSI {c : Cst} : OpN c (rSortedSI c.K) fSortSI := fun ws vs H S Kk Q rs r h po => by
  unfold fSortSI at h
  split at h
  · obtain ⟨v, rfl, rx⟩ := rvs1 r
    obtain ⟨ws, l, ps, rfl, k⟩ := rdK_of h
    obtain ⟨a, vs, rfl, hq, r⟩ := rs.list rx l
    exact ⟨a, vs, ps, rfl, hq, rvs_sis r, fun ys qs p h1 h2 hp => po _ _ _ _ (k qs p h1 (rs.fresh hp)) (.new hp) (rs.new hp (.lst (sis_rvs h2))) (.ref p)⟩
  · exact h.elim
end Dp
/-! tuple(range(a, b, c)) -/
namespace Dp
open PySem PySem.Spec L2
open PyProof.Rows hiding St
section
variable {X : Cx}
theorem prg_3 {a b c : Expr} {ta : TA} {p pos : Pos} (hg : Gl X "range") (hm : X.mg "range" = none) (ha : PA X [a, b, c] ta)
    (hs : starEach [a, b, c] X.env = (false, eval a X.env) :: starEach [b, c] X.env) (hpl : (backTo pos (starEach [b, c] X.env)).any (·.1) = false)
    {pins : List (Addr × Obj)} {s : Shared} {σ : L2.St} {H : Hp} {R : Int → Int → Nat → Hp → Prop} (I : Inv X pins σ H s) (h : ta σ H fun vs H1 => ∃ (i j c : Int) (n : Nat), vs = [.int i, .int j, .int c] ∧ RgC i j c n ∧ R i c n H1) :
    wpAny (model X.prog X.w) X.A (eval (.Call (.Name "range" p) [a, b, c] [] pos) X.env) (fun x s' => ∃ r i j c n t u v H', x = .ref r ∧ IsRange s'.heap r i j c t u v ∧ Inv X pins σ H' s' ∧ RgC i j c n ∧ R i c n H') X.xe s := by
  refine Call_ (ld_blt I hg hm boot_range (PyProof.Rows.callWith_type1 (thn (ha.run pos pins s σ H _ I h) fun us s1 ⟨vs, H1, I1, r1, q1⟩ => ?_) hs hpl))
  obtain ⟨i, j, k, n, e, ⟨c0, c1, c2, c3⟩, q⟩ := q1
  subst e
  cases r1 with
  | cons r rr =>
    cases rr with
    | cons r' rr =>
      cases rr with
      | cons r'' rr =>
        cases rr
        obtain ⟨t, rfl⟩ := r
        obtain ⟨t', rfl⟩ := r'
        obtain ⟨t'', rfl⟩ := r''
        exact call_range_3 c0 ⟨_, i, j, k, n, _, _, _, H1, rfl, IsRange.new .., I1.kept fun b o e => Heap.get?_push_of_some _ e, ⟨c0, c1, c2, c3⟩, q⟩ (.inl (PyProof.noPylong_small c1))
theorem vals_rgC {i c : Int} {n : Nat} {acc : Array Value} (h : ItemsOf (fun k v => ∃ t, v = .int (i + k * c) t) acc n) : Vals ((List.range n).map fun k => V.int (i + (k : Nat) * c)) acc.toList := by
  have e : acc.toList.length = n := by rw [Array.length_toList]; exact h.1
  rw [← e]
  refine vals_of_get acc.toList _ fun j u hj => ?_
  obtain ⟨t, rfl⟩ := h.2 j u (by rw [← hj, Array.getElem?_toList])
  exact ⟨t, rfl⟩
theorem pe_tupRg3 {a b c : Expr} {ta : TA} {p p2 pos pos2 : Pos} (hc : X.calm = true) (hg : Gl X "tuple") (hm : X.mg "tuple" = none) (hg2 : Gl X "range") (hm2 : X.mg "range" = none) (ha : PA X [a, b, c] ta)
    (hs : starEach [a, b, c] X.env = (false, eval a X.env) :: starEach [b, c] X.env) (hpl : (backTo pos2 (starEach [b, c] X.env)).any (·.1) = false) :
    PE X (.Call (.Name "tuple" p) [.Call (.Name "range" p2) [a, b, c] [] pos2] [] pos) (fun σ H Q => ta σ H fun vs H1 => ∃ (i j c : Int) (n : Nat), vs = [.int i, .int j, .int c] ∧ RgC i j c n ∧ (n ≤ 2 ^ 24 ∧ FrT H1 Q ((List.range n).map fun k => V.int (i + (k : Nat) * c)))) := by
  refine ⟨fun pins s σ H Q I h => ?_⟩
  refine Call_ (ld_blt I hg hm boot_tuple (PyProof.Rows.callWith_type1 (args_cons (thn (prg_3 (R := fun i c n H1 => n ≤ 2 ^ 24 ∧ FrT H1 Q ((List.range n).map fun k => V.int (i + (k : Nat) * c))) hg2 hm2 ha hs hpl I h) fun x s1 ⟨r, i, j, k, n, t, u, v, H1, ex, hr, I1, ok, l, q⟩ => args_nil ?_) rfl) rfl))
  subst ex
  refine call_tuple_range (n := n) (I1.ok.hd hc) hr ok.2.2.1 ok.2.2.2 l fun h' tk acc hk hi => ?_
  have I2 : Inv X pins σ H1 { s1 with heap := h', toks := tk } := I1.kept hk
  exact frT (us := acc) (t := tk) I2 (vals_rgC hi) (by rw [List.length_map, List.length_range, sizeLine_eq]; omega) q
end
def mTrg3 (a : WEs) : WE := fun ρ S Kk Ek => a ρ S (fun ws S1 => match ws with
  | [.int i, .int j, .int k] => ∃ n, RgC i j k n ∧ n ≤ 2 ^ 24 ∧ Kk (.tup (rgList i k n)) S1
  | _ => False) Ek
theorem rvs_rgC {K : PySem.W.Frag} {H : Hp} (a c : Int) : ∀ (l : List Nat), RVs K H (l.map fun i => W.int (a + (i : Nat) * c)) (l.map fun i => V.int (a + (i : Nat) * c))
  | [] => .nil
  | i :: l => by
    rw [List.map_cons, List.map_cons]
    exact .cons (.int _) (rvs_rgC a c l)
theorem s_trg3 {X : Cx} {c : Cst} {Wx : WX} {e e2 e3 : Expr} {a : WEs} {p p2 pos pos2 : Pos} (hc : X.calm = true) (hg : Gl X "tuple") (hm : X.mg "tuple" = none) (hg2 : Gl X "range") (hm2 : X.mg "range" = none) (ha : PA X [e, e2, e3] (tA c Wx a))
    (hs : starEach [e, e2, e3] X.env = (false, eval e X.env) :: starEach [e2, e3] X.env) (hpl : (backTo pos2 (starEach [e2, e3] X.env)).any (·.1) = false) :
    PE X (.Call (.Name "tuple" p) [.Call (.Name "range" p2) [e, e2, e3] [] pos2] [] pos) (tE c Wx (mTrg3 a)) := by
  refine PE.imp (pe_tupRg3 hc hg hm hg2 hm2 ha hs hpl) fun σ H Q q => ?_
  obtain ⟨ρ, S, Kk, Ek, re, rs, hm, po, px⟩ := q
  refine ⟨ρ, S, _, Ek, re, rs, hm, fun ws S1 H1 vs k1 e1 rs1 rx => ?_, px⟩
  split at k1
  · obtain ⟨v, u, t, rfl, ri, rj, rk⟩ := rvs3 rx
    cases ri; cases rj; cases rk
    obtain ⟨n, h1, h2, h3⟩ := k1
    exact ⟨_, _, _, n, rfl, h1, h2, fun q o hq hc hd => po _ _ _ _ h3 (e1.trans (.tup hq)) (rs1.tup hq) (.tp (k := false) (.new hc hd) (RVs.tst (tst_upd_new hq) (rvs_rgC _ _ _)))⟩
  · exact k1.elim
end Dp
/-! i in range(n) -/
namespace Dp
open PySem PySem.Spec L2
open PyProof.Rows hiding St

def notOp : Bool → CmpOp
  | true => .NotIn
  | false => .In
section
variable {X : Cx} {c : Cst} {Wx : WX}
@[irreducible] def rngB (n : Bool) (lo hi i : Int) : Bool := if n then !decide (lo ≤ i ∧ i < hi) else decide (lo ≤ i ∧ i < hi)
theorem in_rngO {pins : List (Addr × Obj)} {s : Shared} {σ : L2.St} {H : Hp} {n : Bool} {v : Value} {i lo hi : Int} {r : Addr} {t1 t2 t3 : Tok} {Q : VK} (I : Inv X pins σ H s) (rx : RelV (.int i) v) (hr : IsRange s.heap r lo hi 1 t1 t2 t3) (q : Q (.bl (rngB n lo hi i)) H) :
    wpAny (model X.prog X.w) X.A (compareOp (notOp n) v (.ref r)) (fun x s' => ∃ y H', Inv X pins σ H' s' ∧ RelV y x ∧ Q y H') X.xe s := by
  obtain ⟨k, rfl⟩ := rx
  unfold rngB at q
  cases n with
  | false =>
    show wpAny _ _ (do return Value.bool (← contains (Value.ref r) (Value.int i k))) _ _ s
    refine wpAny_bind (wpAny_contains_slot (T := "range") ⟨_, hr, rfl⟩ F.slot_range_contains (call_meets F.slot_range_contains ⟨_, hr, rfl⟩ F.entry_range_contains (F.args_range_contains_2 _ _) (q_contains r lo hi i t1 t2 t3 k)
      ⟨hr, wpAny_truthy_bool (wpAny_pure ⟨.bl _, H, I, rfl, ?_⟩)⟩))
    rw [place1]
    exact q
  | true =>
    show wpAny _ _ (do return Value.bool (!(← contains (Value.ref r) (Value.int i k)))) _ _ s
    refine wpAny_bind (wpAny_contains_slot (T := "range") ⟨_, hr, rfl⟩ F.slot_range_contains (call_meets F.slot_range_contains ⟨_, hr, rfl⟩ F.entry_range_contains (F.args_range_contains_2 _ _) (q_contains r lo hi i t1 t2 t3 k)
      ⟨hr, wpAny_truthy_bool (wpAny_pure ⟨.bl _, H, I, rfl, ?_⟩)⟩))
    rw [place1]
    exact q
theorem rng_in {lo hi i : Int} (h : lo ≤ i) (h' : i < hi) : rngB false lo hi i = true ∧ rngB true lo hi i = false := by
  unfold rngB
  exact ⟨decide_eq_true ⟨h, h'⟩, by rw [if_pos rfl, decide_eq_true ⟨h, h'⟩]; rfl⟩
def mInr (n : Bool) (a b : WE) : WE := fun ρ S Kk Ek => a ρ S (fun x S1 => b ρ S1 (fun y S2 => match x, y with
  | .int i, .int j => Kk (.bl (rngB n 0 j i)) S2
  | _, _ => False) Ek) Ek
def mInrT (n : Bool) (a b : WE) : WT := fun ρ S Kk Ek => a ρ S (fun x S1 => b ρ S1 (fun y S2 => match x, y with
  | .int i, .int j => Kk (rngB n 0 j i) S2
  | _, _ => False) Ek) Ek
def tInr (n : Bool) (ta : TE) (te : L2.St → Hp → (Int → Int → Hp → Prop) → Prop) : TE := fun σ H Q => ta σ H fun x H1 => te σ H1 fun lo hi H2 => ∃ i, x = .int i ∧ Q (.bl (rngB n lo hi i)) H2
theorem pe_inr {n : Bool} {a e : Expr} {ta : TE} {te : L2.St → Hp → (Int → Int → Hp → Prop) → Prop} {pos : Pos} (ha : PE X a ta) (he : PRg X e te) (hm : behindInMarks (notOp n) e = false) : PE X (.Compare a [notOp n] [e] pos) (tInr n ta te) := by
  refine ⟨fun pins s σ H Q I h => ?_⟩
  exact wpAny_Compare1 (thn (ha.run pins s σ H _ I h) fun v s1 ⟨x, H1, I1, r1, q1⟩ => thn (he pins s1 σ H1 _ I1 q1) fun u s2 ⟨r, lo, hi, t, u', v', H2, ex, hr, I2, i, ei, q⟩ => by
    subst ex ei
    exact in_rngO I2 r1 hr q) hm
theorem pt_inr {n : Bool} {a e : Expr} {ta : TE} {te : L2.St → Hp → (Int → Int → Hp → Prop) → Prop} {pos : Pos} (ha : PE X a ta) (he : PRg X e te) (hm : behindInMarks (notOp n) e = false) : PT X (.Compare a [notOp n] [e] pos) (tTest (tInr n ta te)) := by
  refine ⟨fun pins s σ H Q I h => ?_⟩
  refine wpAny_isTrue_Compare1 (thn (ha.run pins s σ H _ I h) fun v s1 ⟨x, H1, I1, r1, q1⟩ => thn (he pins s1 σ H1 _ I1 q1) fun u s2 ⟨r, lo, hi, t, u', v', H2, ex, hr, I2, i, ei, q⟩ => ?_) hm
  subst ex ei
  refine thn (in_rngO (Q := fun x H' => ∃ k, x = .bl k ∧ Q k H') I2 r1 hr q) fun c s3 ⟨z, H3, I3, r3, k, e, q3⟩ => ?_
  subst e
  cases r3
  exact wpAny_truthy_bool ⟨H3, I3, q3⟩
theorem s_inr {n : Bool} {e e2 : Expr} {a b : WE} {p2 pos pos2 : Pos} (hg2 : Gl X "range") (hm2 : X.mg "range" = none) (ha : PE X e (tE c Wx a)) (hb : PE X e2 (tE c Wx b)) (na : starEach [e2] X.env = [(false, eval e2 X.env)]) (hm : behindInMarks (notOp n) (.Call (.Name "range" p2) [e2] [] pos2) = false) :
    PE X (.Compare e [notOp n] [.Call (.Name "range" p2) [e2] [] pos2] pos) (tE c Wx (mInr n a b)) := PE.imp (pe_inr ha (prg_1 hg2 hm2 hb na) hm) fun σ H Q q => by
  obtain ⟨ρ, S, Kk, Ek, re, rs, hm, po, px⟩ := q
  refine ⟨ρ, S, _, Ek, re, rs, hm, fun x S1 H1 u k1 e1 rs1 rx => ?_, px⟩
  refine ⟨ρ, S1, _, Ek, re.tst (e1.tst rs), rs1, k1, fun y S2 H2 v k2 e2 rs2 ry => ?_, px.on e1⟩
  cases rx with
  | int i =>
    cases ry with
    | int j => exact ⟨j, rfl, i, rfl, po _ S2 H2 _ k2 (e1.trans e2) rs2 (.bl _)⟩
    | _ => exact (show False from k2).elim
  | _ => exact (show False by cases ry <;> exact k2).elim
theorem s_inrT {n : Bool} {e e2 : Expr} {a b : WE} {p2 pos pos2 : Pos} (hg2 : Gl X "range") (hm2 : X.mg "range" = none) (ha : PE X e (tE c Wx a)) (hb : PE X e2 (tE c Wx b)) (na : starEach [e2] X.env = [(false, eval e2 X.env)]) (hm : behindInMarks (notOp n) (.Call (.Name "range" p2) [e2] [] pos2) = false) :
    PT X (.Compare e [notOp n] [.Call (.Name "range" p2) [e2] [] pos2] pos) (tT c Wx (mInrT n a b)) := PT.imp (pt_inr ha (prg_1 hg2 hm2 hb na) hm) fun σ H Q q => by
  obtain ⟨ρ, S, Kk, Ek, re, rs, hm, po, px⟩ := q
  refine ⟨ρ, S, _, Ek, re, rs, hm, fun x S1 H1 u k1 e1 rs1 rx => ?_, px⟩
  refine ⟨ρ, S1, _, Ek, re.tst (e1.tst rs), rs1, k1, fun y S2 H2 v k2 e2 rs2 ry => ?_, px.on e1⟩
  cases rx with
  | int i =>
    cases ry with
    | int j => exact ⟨j, rfl, i, rfl, _, rfl, po _ S2 H2 k2 (e1.trans e2) rs2⟩
    | _ => exact (show False from k2).elim
  | _ => exact (show False by cases ry <;> exact k2).elim
end
end Dp
namespace Dp
open PySem PySem.Spec L2
open PyProof.Rows hiding St

/-! ### what is made, held as it is from then on -/
@[irreducible] def fzK (w : W) (S : Sto) (K : WK) : Prop := match w with
  | .ref p => (∃ xs, S p = some (.lst xs) ∧ K (.lst xs) (S.del p)) ∨ (∃ kvs, S p = some (.dic kvs) ∧ K (.dct (kvs.map (·.1)) (kvs.map (·.2))) (S.del p)) ∨ ∃ kvs, S p = some (.dit kvs) ∧ K (.dit (kvs.map (·.1)) (kvs.map (·.2))) (S.del p)
  | _ => False
def mFz (a : WE) : WE := fun ρ S Kk Ek => a ρ S (fun w S1 => fzK w S1 Kk) Ek
section
variable {K : PySem.W.Frag} {H : Hp} {S : Sto}
theorem fz_rs (rs : RS K H S) {p : Addr} {c : Ce} {o : HO} (h : S p = some c) : RS K (upd H p o) (S.del p) ∧ Ext H S (upd H p o) (S.del p) := by
  refine ⟨fun a d e => ?_, fun a u e n => ?_⟩
  · have : a ≠ p := fun z => by subst z; rw [sdel_same] at e; cases e
    rw [sdel_ne this] at e
    obtain ⟨u, h1, r⟩ := rs a d e
    exact ⟨u, by rw [upd_ne this]; exact h1, r.tst (.upd (rs.at_ h))⟩
  · have : a ≠ p := fun z => by subst z; rw [n] at h; cases h
    exact ⟨by rw [upd_ne this]; exact e, by rw [sdel_ne this]; exact n⟩
theorem rkv_un {a : List (Key × W)} {b : List (Key × V)} (r : RKV K H a b) : b = (a.map (·.1)).zip (b.map (·.2)) ∧ RVs K H (a.map (·.2)) (b.map (·.2)) := by
  induction r with
  | nil => exact ⟨rfl, .nil⟩
  | @cons p q a b h t ih =>
    refine ⟨?_, .cons h.2 ih.2⟩
    rw [List.map_cons, List.map_cons, List.zip_cons_cons, ← ih.1, h.1]
theorem rtv_un {a : List (List Key × W)} {b : List (List Key × V)} (r : RTV K H a b) : b = (a.map (·.1)).zip (b.map (·.2)) ∧ RVs K H (a.map (·.2)) (b.map (·.2)) := by
  induction r with
  | nil => exact ⟨rfl, .nil⟩
  | @cons p q a b h t ih =>
    refine ⟨?_, .cons h.2 ih.2⟩
    rw [List.map_cons, List.map_cons, List.zip_cons_cons, ← ih.1, h.1]
end
theorem s_fz {X : Cx} {c : Cst} {Wx : WX} {e : Expr} {a : WE} (ha : PE X e (tE c Wx a)) : PE X e (tE c Wx (mFz a)) := PE.imp (pe_fz ha) fun σ H Q q => by
  obtain ⟨ρ, S, Kk, Ek, re, rs, hm, po, px⟩ := q
  refine ⟨ρ, S, _, Ek, re, rs, hm, fun w S1 H1 v k1 e1 rs1 rv => ?_, px⟩
  unfold fzK at k1
  cases rv with
  | ref p =>
    rcases k1 with ⟨xs, l, k⟩ | ⟨kvs, l, k⟩ | ⟨kvs, l, k⟩
    · obtain ⟨vs, q, r⟩ := rs1.lst l
      refine .inr ⟨p, _, rfl, q, trivial, fun o => ?_⟩
      obtain ⟨h1, h2⟩ := fz_rs (o := .frz o (.lst vs)) rs1 l
      exact po _ _ _ _ k (e1.trans h2) h1 (.lst ⟨o, upd_same⟩ (r.tst (.upd (rs1.at_ l))))
    · obtain ⟨vs, q, r⟩ := rs1.dic l
      refine .inr ⟨p, _, rfl, q, trivial, fun o => ?_⟩
      obtain ⟨h1, h2⟩ := fz_rs (o := .frz o (.dK vs)) rs1 l
      obtain ⟨z1, z2⟩ := rkv_un r
      exact po _ _ _ _ k (e1.trans h2) h1 (.dct ⟨o, by rw [upd_same]; exact congrArg (fun x => some (HO.frz o (.dK x))) z1⟩ (by simp) (z2.tst (.upd (rs1.at_ l))))
    · obtain ⟨vs, q, r⟩ := rs1.dit l
      refine .inr ⟨p, _, rfl, q, trivial, fun o => ?_⟩
      obtain ⟨h1, h2⟩ := fz_rs (o := .frz o (.dT vs)) rs1 l
      obtain ⟨z1, z2⟩ := rtv_un r
      exact po _ _ _ _ k (e1.trans h2) h1 (.dit ⟨o, by rw [upd_same]; exact congrArg (fun x => some (HO.frz o (.dT x))) z1⟩ (by simp) (z2.tst (.upd (rs1.at_ l))))
  | _ => exact (show False from k1).elim
/-! ### the syntax -/
inductive Blt where
  | len | abs | max2 | min2 | sum | all | any | list | tuple | ord | str | int | repr | sorted | max1 | min1 | dict | sortsi
  deriving DecidableEq
inductive Mn where
  | append | extend | pop | insert | reverse | count | index | remove | get
  deriving DecidableEq
mutual
inductive E where
  | var (i : Nat)
  | cst (k : Const)
  | glb (j : Nat)
  | bin (op : Operator) (a b : E)
  | neg (a : E)
  | not (a : E)
  | cmp (op : CmpOp) (a b : E)
  | chn (op op' : CmpOp) (a b d : E)
  | and (a b : E)
  | or (a b : E)
  | ite (t a b : E)
  | call (f : Nat) (as : Es)
  | blt (b : Blt) (as : Es)
  | isi (T : Ty) (a : E)
  | mth (m : Mn) (o : E) (as : Es)
  | tup (as : Es)
  | lst (as : Es)
  | dic
  | dct (ks : List Str) (as : Es)
  | ix (a i : E)
  | sl (a : E) (lo hi : Eo)
  | rev (a : E)
  | comp (el : E) (tg : Tg) (it : It') (cd : Eo) (own : List (Str × Nat))
  | lrg1 (t : Bool) (a : E)
  | lrg2 (t : Bool) (a b : E)
  | fz (a : E)
  | inr (n : Bool) (a b : E)
  | sset (t : Bool) (a : E)
  | trg3 (a b d : E)
inductive Es where
  | nil
  | cons (a : E) (r : Es)
inductive Eo where
  | none
  | some (a : E)
inductive It' where
  | seq (a : E)
  | rg1 (a : E)
  | rg2 (a b : E)
  | rg3 (a b d : E)
  | enu (a : E)
  | zip (a b : E)
end
mutual
inductive Sm where
  | asg (tg : Tg) (a : E)
  | par (is : List Nat) (as : Es)
  | set (o i a : E)
  | aug (i : Nat) (op : Operator) (a : E)
  | augS (o i : E) (op : Operator) (a : E)
  | exp (a : E)
  | ret (a : E)
  | retN
  | ite (t : E) (a b : Sms)
  | for (tg : Tg) (it : It') (b : Sms)
  | whl (t : E) (b : Sms)
  | brk
  | cnt
  | pass
  | rse (n : Nat) (as : Es)
  | tra (k i : Nat) (b : Sms) (h : List SS)
  | trn (k : Nat) (b : Sms) (h : List SS)
inductive Sms where
  | nil
  | cons (a : Sm) (r : Sms)
end
/-! ### what it means -/
def cW : Const → W
  | .bool b => .bl b
  | .int i => .int i
  | .str x => .str x
  | _ => .non
def bopOf : Operator → BOp
  | .Add => bAddB | .Sub => bSubB | .Mult => bMul2 | .FloorDiv => bDiv | .Mod => bMod | .Pow => bPow
  | _ => fun _ _ _ _ => False
def copOf : CmpOp → COp
  | .Eq => cEq | .NotEq => cNe | .Lt => cLt | .LtE => cLe | .Gt => cGt | .GtE => cGe | .In => inK false | .NotIn => inK true | .Is => isK false | .IsNot => isK true
def iopOf : Operator → BOp
  | .Add => iAdd | .Sub => iSub
  | _ => fun _ _ _ _ => False
def nopOf : Blt → NOp
  | .len => fLen | .abs => fAbs | .max2 => fMax2 | .min2 => fMin2 | .sum => fSum2 | .all => fAll | .any => fAny | .list => fList | .tuple => fTuple | .ord => fOrd | .str => fStr | .int => fInt | .repr => fRepr2 | .sorted => fSorted2 | .max1 => fMax1 | .min1 => fMin1 | .dict => fDict | .sortsi => fSortSI
def mopOf : Mn → List AltW
  | .append => [⟨"list", fAppend⟩]
  | .extend => [⟨"list", fExtend⟩]
  | .pop => [⟨"list", fPopL⟩]
  | .insert => [⟨"list", fInsert⟩]
  | .reverse => [⟨"list", fReverse⟩]
  | .remove => [⟨"list", fRemove⟩]
  | .get => [⟨"dict", fGetD⟩]
  | .count => [⟨"list", fCountL⟩, ⟨"tuple", fCountT⟩]
  | .index => [⟨"list", fIndexL⟩, ⟨"tuple", fIndexT⟩, ⟨"str", fIndexS⟩]
def mDic : WE := fun _ S Kk _ => ∀ p, S p = none → Kk (.ref p) (S.put p (.dic []))
def mIsi (T : Ty) (a : WE) : WE := mUn (uIsi T) a
section
variable (P : Nat → Pm) (G : Nat → W)
mutual
def dE : E → WE
  | .var i => mVar i
  | .cst k => mCst (cW k)
  | .glb j => mCst (G j)
  | .bin op a b => mBin (bopOf op) (dE a) (dE b)
  | .neg a => mUn uNegB (dE a)
  | .not a => mNot (dE a)
  | .cmp op a b => mCmp (copOf op) (dE a) (dE b)
  | .chn op op' a b d => mChn (copOf op) (copOf op') (dE a) (dE b) (dE d)
  | .and a b => mAnd (dE a) (dE b)
  | .or a b => mOr (dE a) (dE b)
  | .ite t a b => mIf (dT t) (dE a) (dE b)
  | .call f as => mCall (P f) (dEs as)
  | .blt b as => mBlt (nopOf b) (dEs as)
  | .isi T a => mIsi T (dE a)
  | .mth m o as => mMth (mopOf m) (dE o) (dEs as)
  | .tup as => mTup (dEs as)
  | .lst as => mLst (dEs as)
  | .dic => mDic
  | .dct ks as => mDct (ks.map Sum.inr) (dEs as)
  | .ix a i => mBin ixK (dE a) (dE i)
  | .sl a lo hi => mSl (dE a) (dO lo) (dO hi)
  | .rev a => mUn uRev2 (dE a)
  | .sset t a => mUn (ssetK t) (dE a)
  | .trg3 a b d => mTrg3 (mCons (dE a) (mCons (dE b) (mCons (dE d) mNil)))
  | .lrg1 t a => mLrg1 t (dE a)
  | .lrg2 t a b => mLrg2 t (dE a) (dE b)
  | .fz a => mFz (dE a)
  | .inr n a b => mInr n (dE a) (dE b)
  | .comp el tg it cd own => mComp (dI it) tg (dC cd) (dE el) (own.map (·.2))
def dT : E → WT
  | .not a => mNotT (dT a)
  | .cmp op a b => mCmpT (copOf op) (dE a) (dE b)
  | .chn op op' a b d => mChnT (copOf op) (copOf op') (dE a) (dE b) (dE d)
  | .and a b => mAndT (dT a) (dT b)
  | .or a b => mOrT (dT a) (dT b)
  | .var i => mTru (mVar i)
  | .cst k => mTru (mCst (cW k))
  | .call f as => mTru (mCall (P f) (dEs as))
  | .blt b as => mTru (mBlt (nopOf b) (dEs as))
  | .isi T a => mTru (mIsi T (dE a))
  | .ix a i => mTru (mBin ixK (dE a) (dE i))
  | .mth m o as => mTru (mMth (mopOf m) (dE o) (dEs as))
  | .inr n a b => mInrT n (dE a) (dE b)
  | _ => fun _ _ _ _ => False
def dEs : Es → WEs
  | .nil => mNil
  | .cons a r => mCons (dE a) (dEs r)
def dO : Eo → WO
  | .none => mNoPart
  | .some a => mPart (dE a)
def dC : Eo → WT
  | .none => mYes
  | .some a => dT a
def dI : It' → WI
  | .seq a => mSeq (dE a)
  | .rg1 a => mRg1 (mCons (dE a) mNil)
  | .rg2 a b => mRg2 (mCons (dE a) (mCons (dE b) mNil))
  | .rg3 a b d => mRg3 (mCons (dE a) (mCons (dE b) (mCons (dE d) mNil)))
  | .enu a => mEnu (mCons (dE a) mNil)
  | .zip a b => mZip (mCons (dE a) (mCons (dE b) mNil))
end
def mPar (is : List Nat) (a : WEs) : WS := fun E ρ S => a ρ S (fun ws S1 => ws.length = is.length ∧ E.nx (rsets ρ is ws) S1) (E.ex ρ)
mutual
def dS : Sm → WS
  | .asg tg a => mAsg tg (dE P G a)
  | .par is as => mPar is (dEs P G as)
  | .set o i a => mSet (dE P G o) (dE P G i) (dE P G a)
  | .aug i op a => mAug i (iopOf op) (dE P G a)
  | .augS o i op a => mAugS (dE P G o) (dE P G i) (iopOf op) (dE P G a)
  | .exp a => mExp (dE P G a)
  | .ret a => mRet (dE P G a)
  | .retN => mRetN
  | .ite t a b => mIte (dT P G t) (dSs a) (dSs b)
  | .for tg it b => mFor (dI P G it) tg (dSs b)
  | .whl t b => mWhl (dT P G t) (dSs b)
  | .brk => mBrk
  | .cnt => mCnt
  | .pass => mPass
  | .rse n as => mRse n (dEs P G as)
  | .tra k i b h => mTry k (some i) (dSs b) h
  | .trn k b h => mTry k none (dSs b) h
def dSs : Sms → WS
  | .nil => mSkip
  | .cons a r => mThen (dS a) (dSs r)
end
end
/-! ### whether it is the given syntax -/
def bltN : Blt → Str
  | .len => "len" | .abs => "abs" | .max2 => "max" | .min2 => "min" | .sum => "sum" | .all => "all" | .any => "any" | .list => "list" | .tuple => "tuple" | .ord => "ord" | .str => "str" | .int => "int" | .repr => "repr" | .sorted => "sorted" | .max1 => "max" | .min1 => "min" | .dict => "dict" | .sortsi => "sorted"
def bltA : Blt → Nat
  | .max2 => 2 | .min2 => 2 | _ => 1
def mnN : Mn → Str
  | .append => "append" | .extend => "extend" | .pop => "pop" | .insert => "insert" | .reverse => "reverse" | .count => "count" | .index => "index" | .remove => "remove" | .get => "get"
def tyN : Ty → Str
  | .int => "int" | .bool => "bool" | .str => "str" | .tup => "tuple" | .lst => "list" | .dic => "dict"
def notStar : Expr → Bool
  | .Starred .. => false
  | _ => true
def notSlice : Expr → Bool
  | .Slice .. => false
  | _ => true
def notSet : Expr → Bool
  | .Set .. => false
  | _ => true
def notComp : Expr → Bool
  | .ListComp .. => false
  | .SetComp .. => false
  | .DictComp .. => false
  | _ => true
def notCall : Expr → Bool
  | .Call .. => false
  | _ => true
def notTup : Expr → Bool
  | .Tuple .. => false
  | _ => true
def chkC : Const → Bool
  | .none => true | .bool _ => true | .int _ => true | .str _ => true
  | _ => false
def opOk : Operator → Bool
  | .Add => true | .Sub => true | .Mult => true | .FloorDiv => true | .Mod => true | .Pow => true
  | _ => false
def Sx.blk (s : Sx) (scope : Scope) : Sx := { s with sc := relS scope s.sc, fn := fun x => scope.names.lookup x == some .cell }
def chkNms (s : Sx) : List Nat → List Expr → Bool
  | [], [] => true
  | i :: is, .Name x _ :: es => s.loc i x && chkNms s is es
  | _, _ => false
def chkTg (s : Sx) : Tg → Expr → Bool
  | .nm i, .Name x _ => s.loc i x
  | .tp is, .Tuple es _ _ => chkNms s is es
  | .tk i is, .Tuple [.Name x _, .Tuple es _ _] _ _ => s.loc i x && chkNms s is es
  | _, _ => false
def isTup : Expr → Bool
  | .Tuple .. => true
  | _ => false
def chkKeys : List Str → List (Option Expr) → Bool
  | [], [] => true
  | k :: ks, some (.Constant (.str x) _ _) :: r => decide (k = x) && chkKeys ks r
  | _, _ => false
mutual
def chkE : E → Sx → Expr → Bool
  | .fz a, s, e => chkE a s e
  | .var i, s, .Name x _ => s.vis i x
  | .cst k, _, .Constant k' _ _ => decide (k = k') && chkC k
  | .glb j, s, .Name x _ => decide (s.gls[j]? = some x) && s.glob x
  | .bin op a b, s, .BinOp l op' r _ => decide (op = op') && opOk op && chkE a s l && chkE b s r
  | .neg a, s, .UnaryOp .USub e _ => chkE a s e
  | .not a, s, .UnaryOp .Not e _ => chkE a s e
  | .cmp op a b, s, .Compare l [op'] [r] _ => decide (op = op') && !behindInMarks op r && chkE a s l && chkE b s r
  | .inr n a b, s, .Compare l [op'] [r] _ => decide (op' = notOp n) && !behindInMarks op' r && chkE a s l && (match r with
    | .Call (.Name x _) [e] [] _ => decide (x = ("range" : Str)) && s.glob x && notStar e && chkE b s e
    | _ => false)
  | .chn op1 op2 a b d, s, .Compare l [o1, o2] [r, q] _ => decide (op1 = o1) && decide (op2 = o2) && !lastMarks [op1, op2] [r, q] && chkE a s l && chkE b s r && chkE d s q
  | .and a b, s, .BoolOp .And (e1 :: e2 :: rest) pos => chkE a s e1 && chkE b s (match rest with | [] => e2 | _ => .BoolOp .And (e2 :: rest) pos)
  | .or a b, s, .BoolOp .Or (e1 :: e2 :: rest) pos => chkE a s e1 && chkE b s (match rest with | [] => e2 | _ => .BoolOp .Or (e2 :: rest) pos)
  | .ite t a b, s, .IfExp e1 e2 e3 _ => chkE t s e1 && chkE a s e2 && chkE b s e3
  | .call f as, s, .Call (.Name x _) es [] _ => decide (s.fns[f]? = some x) && s.glob x && chkEs as s es
  | .blt b as, s, .Call (.Name x _) es [] _ => decide (x = bltN b) && s.glob x && decide (es.length = bltA b) && chkEs as s es
  | .isi T a, s, .Call (.Name x _) [e, .Name y _] [] _ => decide (x = ("isinstance" : Str)) && s.glob x && decide (y = tyN T) && s.glob y && notStar e && chkE a s e
  | .mth m o as, s, .Call (.Attribute e x apos) es [] pos => decide (x = mnN m) && notCall e && (apos.endLine == pos.line) && decide (es.length < 30) && chkE o s e && chkEs as s es
  | .tup as, s, .Tuple es _ _ => chkEs as s es
  | .lst as, s, .List es _ => chkEs as s es
  | .dic, _, .Dict [] [] _ => true
  | .dct ks as, s, .Dict keys vals _ => chkKeys ks keys && decide (keys.length = vals.length) && decide (keys.length ≤ 15) && !keys.isEmpty && chkEs as s vals
  | .ix a i, s, .Subscript e1 e2 _ => notSlice e2 && chkE a s e1 && chkE i s e2
  | .sl a lo hi, s, .Subscript e (.Slice l h none _) _ => chkE a s e && chkO lo s l && chkO hi s h
  | .rev a, s, .Subscript e (.Slice none none (some (.UnaryOp .USub (.Constant (.int 1) _ _) _)) _) _ => chkE a s e
  | .lrg1 t a, s, .Call (.Name x _) [.Call (.Name y _) [e] [] _] [] _ => decide (x = rgN t) && s.glob x && decide (y = ("range" : Str)) && s.glob y && notStar e && chkE a s e
  | .trg3 a b d, s, .Call (.Name x _) [.Call (.Name y _) [e, f, g] [] _] [] _ => decide (x = ("tuple" : Str)) && s.glob x && decide (y = ("range" : Str)) && s.glob y && notStar e && chkE a s e && notStar f && chkE b s f && notStar g && chkE d s g
  | .sset t a, s, .Call (.Name x _) [.Call (.Name y _) [e] [] _] [] _ => decide (x = setN t) && s.glob x && decide (y = ("set" : Str)) && s.glob y && notStar e && chkE a s e
  | .lrg2 t a b, s, .Call (.Name x _) [.Call (.Name y _) [e, f] [] _] [] _ => decide (x = rgN t) && s.glob x && decide (y = ("range" : Str)) && s.glob y && notStar e && chkE a s e && notStar f && chkE b s f
  | .comp el tg it cd own, s, .ListComp e [⟨t, iter, ifs, 0⟩] scope _ => blkC s.N s.sc scope own && decide (∀ i ∈ tg.own, i ∈ own.map (·.2)) && notSet iter && chkI it s t iter && chkTg (s.blk scope) tg t && chkC1 cd (s.blk scope) ifs && chkE el (s.blk scope) e
  | _, _, _ => false
def chkEs : Es → Sx → List Expr → Bool
  | .nil, _, [] => true
  | .cons a r, s, e :: es => notStar e && chkE a s e && chkEs r s es
  | _, _, _ => false
def chkO : Eo → Sx → Option Expr → Bool
  | .none, _, none => true
  | .some a, s, some e => chkE a s e
  | _, _, _ => false
def chkC1 : Eo → Sx → List Expr → Bool
  | .none, _, [] => true
  | .some a, s, [e] => chkE a s e
  | _, _, _ => false
def chkI : It' → Sx → Expr → Expr → Bool
  | .seq a, s, _, e => chkE a s e
  | .rg1 a, s, _, .Call (.Name x _) [e] [] _ => decide (x = ("range" : Str)) && s.glob x && notStar e && chkE a s e
  | .rg2 a b, s, _, .Call (.Name x _) [e, f] [] _ => decide (x = ("range" : Str)) && s.glob x && notStar e && chkE a s e && notStar f && chkE b s f
  | .rg3 a b d, s, _, .Call (.Name x _) [e, f, g] [] _ => decide (x = ("range" : Str)) && s.glob x && notStar e && chkE a s e && notStar f && chkE b s f && notStar g && chkE d s g
  | .enu a, s, t, .Call (.Name x _) [e] [] _ => decide (x = ("enumerate" : Str)) && s.glob x && isTup t && notStar e && chkE a s e
  | .zip a b, s, t, .Call (.Name x _) [e, f] [] _ => decide (x = ("zip" : Str)) && s.glob x && isTup t && notStar e && chkE a s e && notStar f && chkE b s f
  | _, _, _, _ => false
end
end Dp
namespace Dp
open PySem PySem.Spec L2
open PyProof.Rows hiding St

/-- the names of built-ins that the rules lean on -/
def bnames : List Str := ["len", "abs", "max", "min", "sum", "all", "any", "list", "tuple", "ord", "str", "int", "repr", "isinstance", "bool", "dict", "range", "enumerate", "sorted", "zip", "set", "ValueError"]
/-- all that the rules ask of where one stands -/
structure Okx (c : Cst) (X : Cx) (Wx : WX) (k : Nat) (P : Nat → Pm) (G : Nat → W) (s : Sx) : Prop where
  hK : c.K = X.K
  calm : X.calm = true
  nd : X.N.Nodup
  gd : X.A.guards = some []
  room : Room k X.A
  tk : Takes X Wx
  po : PassesOwn (model X.prog X.w) X.A X.env X.xe
  eN : X.N = s.N
  esc : X.env.scope = s.sc
  efn : X.fn = s.fn
  bl : ∀ x ∈ bnames, X.mg x = none
  fns : ∀ (j : Nat) (x : Str), s.fns[j]? = some x → ∃ f fd ps, X.mg x = some (.ref f) ∧ PySem.W.keepIn X.K (.ref f) = true ∧ Binds X.K fd ps [] ∧ GOk X.prog X.w X.K X.mg X.base k f fd ps (spOf c (P j))
  ecl : c.cls = s.cls
  cl : ∀ n ∈ s.cls, ClOk X.prog X.w X.K X.mg X.base c.cl n
  bet : BetOk X.K c.cl s.cls
  r2 : s.cls ≠ [] → 2 ≤ k
  gls : ∀ (j : Nat) (x : Str), s.gls[j]? = some x → ∃ u v, X.mg x = some u ∧ RelV v u ∧ ∀ H, RV c.K H (G j) v
section
variable {c : Cst} {X : Cx} {Wx : WX} {k : Nat} {P : Nat → Pm} {G : Nat → W} {s : Sx}
theorem Okx.gl (o : Okx c X Wx k P G s) {x : Str} (h : s.glob x = true) : Gl X x ∧ (x == ("__debug__" : Str)) = false := by
  unfold Sx.glob at h
  rw [Bool.and_eq_true] at h
  refine ⟨?_, by simpa using h.2⟩
  show X.env.scope.names.lookup x = _
  rw [o.esc]
  exact of_decide_eq_true h.1
theorem Okx.oks (o : Okx c X Wx k P G s) : Oks c X s := ⟨o.hK, o.nd, o.eN, o.esc, o.efn, o.ecl, by have := o.room.un; omega, o.bl _ (by decide +kernel), o.bl _ (by decide +kernel), fun n h => (o.cl n h).gl, fun n h => (o.cl n h).xf, fun n h => (o.cl n h).exc, o.bet⟩
theorem Okx.un (o : Okx c X Wx k P G s) : X.A.units + 65 < cLine := by have := o.room.un; omega
theorem Okx.mgn (o : Okx c X Wx k P G s) {x : Str} (h : x ∈ bnames) : X.mg x = none := o.bl x h
theorem star_cons {e : Expr} {es : List Expr} (h : notStar e = true) (env : Env) : starEach (e :: es) env = (false, eval e env) :: starEach es env := by
  cases e <;> first | rfl | (simp [notStar] at h)
theorem star_plain {pos : Pos} {env : Env} : ∀ {es : List Expr}, (∀ e ∈ es, notStar e = true) → (backTo pos (starEach es env)).any (·.1) = false
  | [], _ => rfl
  | e :: es, h => by
    rw [star_cons (h e (List.mem_cons_self ..))]
    have ih := star_plain (pos := pos) (env := env) (es := es) fun x hx => h x (List.mem_cons_of_mem _ hx)
    show (false || (backTo pos (starEach es env)).any (·.1)) = false
    rw [ih]; rfl
theorem star_few {pos : Pos} {env : Env} : ∀ {es : List Expr}, (∀ e ∈ es, notStar e = true) → (backTo pos (starEach es env)).all (fun x => !x.1) = true
  | [], _ => rfl
  | e :: es, h => by
    rw [star_cons (h e (List.mem_cons_self ..))]
    have ih := star_few (pos := pos) (env := env) (es := es) fun x hx => h x (List.mem_cons_of_mem _ hx)
    show (true && (backTo pos (starEach es env)).all (fun x => !x.1)) = true
    rw [ih]; rfl
theorem chkEs_star : ∀ {as : Es} {s : Sx} {es : List Expr}, chkEs as s es = true → ∀ e ∈ es, notStar e = true
  | .nil, _, [], _ => fun _ h => by cases h
  | .cons a r, s, e :: es, h => by
    simp only [chkEs, Bool.and_eq_true] at h
    intro x hx
    rcases List.mem_cons.mp hx with rfl | hx
    · exact h.1.1
    · exact chkEs_star h.2 x hx
  | .nil, _, _ :: _, h => by simp [chkEs] at h
  | .cons _ _, _, [], h => by simp [chkEs] at h
theorem tail_star {e : Expr} {es : List Expr} (h : ∀ x ∈ e :: es, notStar x = true) : ∀ x ∈ es, notStar x = true := fun x hx => h x (List.mem_cons_of_mem _ hx)
theorem set_fold {e : Expr} (h : notSet e = true) (env : Env) : ∀ x, foldedSetIterable e env x = pure x := by
  intro x
  cases e <;> first | rfl | (simp [notSet] at h)
theorem plain_ix {e : Expr} (h : notSlice e = true) : PlainIx e := by
  intro o i
  cases e <;> first | rfl | (simp [notSlice] at h)
theorem base_attr {e : Expr} (h : notCall e = true) (x : Str) (env : Env) : attributeBase e x env (eval e env) = eval e env := by
  cases e <;> first | rfl | (simp [notCall] at h)
theorem aug_store {e : Expr} (h : notSlice e = true) (ov iv new : Value) : augStore e ov iv new = (do holding [new, ov, iv] (setItem ov iv new); release [new, ov, iv] []; pure .next) := by
  cases e <;> first | rfl | (simp [notSlice] at h)
theorem swaps_not {e : Expr} (h : notComp e = true) (t : Option Expr) (l : Nat) (env : Env) : swapsWith e t l env = pure false := by
  cases e <;> first | rfl | (simp [notComp] at h)
theorem swaps_sub {e o i : Expr} {p : Pos} (l : Nat) (env : Env) : swapsWithSole [.Subscript o i p] e l env = pure false := by
  cases e <;> rfl
theorem stores_sub {e o i : Expr} {p : Pos} (env : Env) : swappedStores [.Subscript o i p] e env = pure none := by
  cases e <;> rfl
theorem stores_tup {e : Expr} {es : List Expr} {k : Nat} {p : Pos} (h : notTup e = true) (env : Env) : swappedStores [.Tuple es k p] e env = pure none := by
  cases e <;> first | rfl | (simp [notTup] at h)
theorem assign_sub {o i : Expr} {p : Pos} (h : notSlice i = true) (env : Env) (v : Value) : assign (.Subscript o i p) env v = (do
      let ov ← holding [v] (eval o env)
      let iv ← holding [v, ov] (eval i env)
      standAt p
      holding [v, ov, iv] (setItem ov iv v)
      release [v, ov, iv] []) := by
  cases i <;> first | rfl | (simp [notSlice] at h)
/-- a call of a built-in function or type, by its rule -/
theorem s_fn {f : NOp} {r : List V → Hp → VK → Prop} {id : String} {x : Str} {e : Expr} {es : List Expr} {a : WEs} {p pos : Pos} (o : Okx c X Wx k P G s) (hx : s.glob x = true) (hb : x ∈ bnames) (hv : bootBuiltins x = some (.builtin id)) (hn : x ≠ "__name__")
    (hr : CallR X (.builtin id) r) (hf : OpN c r f) (hs : ∀ y ∈ e :: es, notStar y = true) (ha : PA X (e :: es) (tA c Wx a)) : PE X (.Call (.Name x p) (e :: es) [] pos) (tE c Wx (mBlt f a)) :=
  PE.imp (pe_callB hr (o.gl hx).1 (o.bl x hb) hv ha hn (o.gl hx).2 (star_cons (hs e (List.mem_cons_self ..)) _) (star_plain (tail_star hs))) (s_blt hf)
theorem s_ty {f : NOp} {r : List V → Hp → VK → Prop} {T : String} {x : Str} {e : Expr} {es : List Expr} {a : WEs} {p pos : Pos} (o : Okx c X Wx k P G s) (hx : s.glob x = true) (hb : x ∈ bnames) (hv : bootBuiltins x = some (.type T)) (hn : x ≠ "__name__")
    (hr : CallR X (.type T) r) (hf : OpN c r f) (hs : ∀ y ∈ e :: es, notStar y = true) (ha : PA X (e :: es) (tA c Wx a)) : PE X (.Call (.Name x p) (e :: es) [] pos) (tE c Wx (mBlt f a)) :=
  PE.imp (pe_callTy hr (o.gl hx).1 (o.bl x hb) hv ha hn (o.gl hx).2 (star_cons (hs e (List.mem_cons_self ..)) _) (star_plain (tail_star hs))) (s_blt hf)
theorem s_bltAll {b : Blt} {e : Expr} {es : List Expr} {a : WEs} {p pos : Pos} (o : Okx c X Wx k P G s) (hx : s.glob (bltN b) = true) (hl : (e :: es).length = bltA b) (hs : ∀ y ∈ e :: es, notStar y = true) (ha : PA X (e :: es) (tA c Wx a)) :
    PE X (.Call (.Name (bltN b) p) (e :: es) [] pos) (tE c Wx (mBlt (nopOf b) a)) := by
  have hK := o.hK
  have hc := o.calm
  cases b
  · exact s_fn o hx (by decide +kernel) (id := "len") (by decide +kernel) (by decide +kernel) (hK ▸ r_len) o_len hs ha
  · exact s_fn o hx (by decide +kernel) (id := "abs") (by decide +kernel) (by decide +kernel) call_abs o_abs hs ha
  · exact s_fn o hx (by decide +kernel) (id := "max") (by decide +kernel) (by decide +kernel) (call_max2 hc) o_max2 hs ha
  · exact s_fn o hx (by decide +kernel) (id := "min") (by decide +kernel) (by decide +kernel) (call_min2 hc) o_min2 hs ha
  · exact s_fn o hx (by decide +kernel) (id := "sum") (by decide +kernel) (by decide +kernel) (hK ▸ CallR.or (cr_sum hc) (cr_sumT hc)) o_sum2 hs ha
  · exact s_fn o hx (by decide +kernel) (id := "all") (by decide +kernel) (by decide +kernel) (hK ▸ cr_all hc) o_all hs ha
  · exact s_fn o hx (by decide +kernel) (id := "any") (by decide +kernel) (by decide +kernel) (hK ▸ cr_any hc) o_any hs ha
  · exact s_ty o hx (by decide +kernel) (T := "list") (by decide +kernel) (by decide +kernel) (hK ▸ call_list_of) o_list hs ha
  · exact s_ty o hx (by decide +kernel) (T := "tuple") (by decide +kernel) (by decide +kernel) (show CallR X _ (rTupOfN c.K) by rw [hK]; exact call_tupleN) o_tuple hs ha
  · exact s_fn o hx (by decide +kernel) (id := "ord") (by decide +kernel) (by decide +kernel) call_ord o_ord1 hs ha
  · exact s_ty o hx (by decide +kernel) (T := "str") (by decide +kernel) (by decide +kernel) call_str_int o_str hs ha
  · exact s_ty o hx (by decide +kernel) (T := "int") (by decide +kernel) (by decide +kernel) call_int1 o_int hs ha
  · exact s_fn o hx (by decide +kernel) (id := "repr") (by decide +kernel) (by decide +kernel) (hK ▸ CallR.or cr_reprF (r_repr o.gd (by have := o.un; omega))) o_repr2 hs ha
  · exact s_fn o hx (by decide +kernel) (id := "sorted") (by decide +kernel) (by decide +kernel) (show CallR X _ (rSorted2 c.K) by rw [hK]; exact CallR.or cr_sortedBI cr_sortedBP) o_sorted2 hs ha
  · exact s_fn o hx (by decide +kernel) (id := "max") (by decide +kernel) (by decide +kernel) (hK ▸ cr_max hc) o_max1 hs ha
  · exact s_fn o hx (by decide +kernel) (id := "min") (by decide +kernel) (by decide +kernel) (hK ▸ cr_min hc) o_min1 hs ha
  · exact s_ty o hx (by decide +kernel) (T := "dict") (by decide +kernel) (by decide +kernel) (show CallR X _ (rDictT c.K) by rw [hK]; exact call_dictT hc) o_dict hs ha
  · exact s_fn o hx (by decide +kernel) (id := "sorted") (by decide +kernel) (by decide +kernel) (hK ▸ cr_sortedSI) o_sortSI hs ha
theorem ty_boot (T : Ty) : bootBuiltins (tyN T) = some (.type T.nm) ∧ tyN T ∈ bnames ∧ tyN T ≠ "__name__" := by
  cases T <;> decide +kernel
theorem s_isi {T : Ty} {e : Expr} {a : WE} {p p2 pos : Pos} (o : Okx c X Wx k P G s) (hx : s.glob "isinstance" = true) (hy : s.glob (tyN T) = true) (hs : notStar e = true) (ha : PE X e (tE c Wx a)) :
    PE X (.Call (.Name "isinstance" p) [e, .Name (tyN T) p2] [] pos) (tE c Wx (mIsi T a)) := by
  obtain ⟨b1, b2, b3⟩ := ty_boot T
  have hA := pa_cons ha (pa_cons (pe_bltn (pos := p2) (v := .ty T.nm) (o.gl hy).1 (o.bl _ b2) b1 rfl b3 (o.gl hy).2) pa_nil (star_cons rfl X.env)) (star_cons hs X.env)
  refine PE.imp (pe_callB (call_isi (X := X)) (o.gl hx).1 (o.bl _ (by decide +kernel)) (by decide +kernel) hA (by decide +kernel) (o.gl hx).2 (star_cons hs _) (star_plain (fun y hy => by rw [List.mem_singleton.mp hy]; rfl))) fun σ H Q q => ?_
  obtain ⟨ρ, S, Kk, Ek, re, rs, hm, po, px⟩ := q
  refine ⟨ρ, S, _, Ek, re, rs, hm, fun x S1 H1 u k1 e1 rs1 rx => ?_, px⟩
  obtain ⟨t, ty, k2⟩ := tyX_of rs1 rx k1
  exact ⟨u, .ty T.nm, _, _, isB t T, rfl, .ty _, o.hK ▸ ty, kit_ty (kit_all t T), po _ S1 H1 _ k2 e1 rs1 (.bl _)⟩
end
end Dp
namespace Dp
open PySem PySem.Spec L2
open PyProof.Rows hiding St

section
variable {c : Cst} {X : Cx} {Wx : WX} {k : Nat} {P : Nat → Pm} {G : Nat → W} {s : Sx}
theorem Okx.visi (o : Okx c X Wx k P G s) {i : Nat} {x : Str} (h : s.vis i x = true) : X.N[i]? = some x ∧ Vis X.env.scope x ∧ (x == ("__debug__" : Str)) = false ∧ (x == ("__classdict__" : Str)) = false := by
  unfold Sx.vis at h
  simp only [Bool.and_eq_true, Bool.or_eq_true, decide_eq_true_eq, Bool.not_eq_true'] at h
  obtain ⟨⟨⟨h1, h2⟩, h3⟩, h4⟩ := h
  refine ⟨by rw [o.eN]; exact h1, ?_, h3, h4⟩
  rw [o.esc]
  rcases h2 with (h | h) | h
  · exact .inl h
  · exact .inr (.inl h)
  · exact .inr (.inr h)
theorem Okx.loca (o : Okx c X Wx k P G s) {i : Nat} {x : Str} (h : s.loc i x = true) : X.N[i]? = some x ∧ Loc X.env.scope x ∧ (X.fn x = true ∨ X.env.scope.names.lookup x = some .local) := by
  unfold Sx.loc at h
  simp only [Bool.and_eq_true, Bool.or_eq_true, decide_eq_true_eq] at h
  obtain ⟨h1, h2⟩ := h
  refine ⟨by rw [o.eN]; exact h1, ?_, ?_⟩
  · rw [o.esc]
    rcases h2 with h | h
    · exact .inl h
    · exact .inr h.1
  · rcases h2 with h | h
    · exact .inr (by rw [o.esc]; exact h)
    · exact .inl (by rw [o.efn]; exact h.2)
theorem Okx.blk (o : Okx c X Wx k P G s) (s1 : Shared) (H : Hp) (scope : Scope) (C : Addr) (cl : List (Str × Addr)) (fp : List Addr) : Okx c (X.blk s1 H scope (compEnvC scope cl C X.env) fp) noW k P G (s.blk scope) where
  hK := o.hK
  calm := o.calm
  nd := o.nd
  gd := o.gd
  room := o.room
  tk := takes0
  po := PassesOwn.never
  eN := o.eN
  esc := by
    show relS scope X.env.scope = relS scope s.sc
    rw [o.esc]
  efn := rfl
  bl := o.bl
  fns := o.fns
  gls := o.gls
  ecl := o.ecl
  cl := o.cl
  bet := o.bet
  r2 := o.r2
/-- targets -/
theorem s_nms (o : Okx c X Wx k P G s) : ∀ {is : List Nat} {es : List Expr}, chkNms s is es = true → PGs X es (gNames is) ∧ (assignEach es X.env).length = is.length ∧ (assignEach es X.env).findIdx? (·.1) = none
  | [], [], _ => ⟨pgs_nil, rfl, rfl⟩
  | [], _ :: _, h => (Bool.false_ne_true h).elim
  | _ :: _, [], h => (Bool.false_ne_true h).elim
  | i :: is, e :: es, h => by
    cases e with
    | Name x p =>
      have h : (s.loc i x && chkNms s is es) = true := h
      rw [Bool.and_eq_true] at h
      obtain ⟨h1, h2, h3⟩ := o.loca h.1
      obtain ⟨q1, q2, q3⟩ := s_nms o h.2
      refine ⟨pgs_cons (pg_name o.nd h1 h2 h3) q1 rfl, by show (assignEach es X.env).length + 1 = _; rw [q2]; rfl, ?_⟩
      show ((false, assign (.Name x p) X.env) :: assignEach es X.env).findIdx? (·.1) = none
      rw [List.findIdx?_cons, q3]; rfl
    | _ => exact (Bool.false_ne_true h).elim
theorem s_tg (o : Okx c X Wx k P G s) {tg : Tg} {e : Expr} (h : chkTg s tg e = true) : PG X e (gOf c.K tg) := by
  cases tg with
  | nm i =>
    cases e with
    | Name x p =>
      obtain ⟨h1, h2, h3⟩ := o.loca (show s.loc i x = true from h)
      exact pg_name o.nd h1 h2 h3
    | _ => exact (Bool.false_ne_true h).elim
  | tp is =>
    cases e with
    | Tuple es j p =>
      obtain ⟨q1, q2, q3⟩ := s_nms o (show chkNms s is es = true from h)
      show PG X _ (gTL c.K is.length (gNames is))
      rw [o.hK]
      exact pg_tl o.calm q1 q2 q3
    | _ => exact (Bool.false_ne_true h).elim
  | tk i is =>
    cases e with
    | Tuple es j p =>
      match es, h with
      | [.Name x p1, .Tuple es2 j2 p2], h =>
        have h : (s.loc i x && chkNms s is es2) = true := h
        rw [Bool.and_eq_true] at h
        obtain ⟨h1, h2, h3⟩ := o.loca h.1
        obtain ⟨q1, q2, q3⟩ := s_nms o h.2
        show PG X _ (gTup c.K 2 (gCons (gName i) (gCons (gTup c.K is.length (gNames is)) gNil)))
        rw [o.hK]
        exact pg_tup o.calm (pgs_cons (pg_name o.nd h1 h2 h3) (pgs_cons (pg_tup o.calm q1 q2 q3) pgs_nil rfl) rfl) rfl rfl
    | _ => exact (Bool.false_ne_true h).elim
theorem pw_of_pt {op : BoolOp} {es : List Expr} {pos : Pos} {t : TT} (h : PT X (.BoolOp op es pos) t) : PW X (.BoolOp op es pos) t := ⟨fun _ pins s σ H Q I q => h.run pins s σ H Q I q⟩
/-- each comparison has a rule -/
theorem copR (o : Okx c X Wx k P G s) (op : CmpOp) : ∃ r, OpR X (compareOp op) r ∧ OpC c r (copOf op) := by
  have hK := o.hK
  have hu := o.un
  cases op with
  | Eq => exact ⟨_, r_eq (by omega), hK ▸ o_eq⟩
  | NotEq => exact ⟨_, r_ne (by omega), hK ▸ o_ne⟩
  | Lt => exact ⟨_, r_lt, o_ord⟩
  | LtE => exact ⟨_, r_le, o_ord⟩
  | Gt => exact ⟨_, r_gt, o_ord⟩
  | GtE => exact ⟨_, r_ge, o_ord⟩
  | Is => exact ⟨_, r_is, o_is⟩
  | IsNot => exact ⟨_, r_isnot, o_is⟩
  | In => exact ⟨_, r_in hu, hK ▸ o_in⟩
  | NotIn => exact ⟨_, r_nin hu, hK ▸ o_in⟩
theorem s_mthAll {m : Mn} {e : Expr} {es : List Expr} {a : WE} {b : WEs} {apos pos : Pos} (o : Okx c X Wx k P G s) (hn : notCall e = true) (hl : (apos.endLine == pos.line) = true) (hs : ∀ y ∈ es, notStar y = true) (hle : es.length < 30)
    (ha : PE X e (tE c Wx a)) (hb : PA X es (tA c Wx b)) (hz : es = [] → b = mNil) : PE X (.Call (.Attribute e (mnN m) apos) es [] pos) (tE c Wx (mMth (mopOf m) a b)) := by
  obtain ⟨bs, h1, h2⟩ : ∃ bs : List Alt, (∀ d ∈ bs, Mth d.T (mnN m) d.id ∧ MtR X d.id d.r) ∧ ∀ d ∈ mopOf m, ∃ q ∈ bs, OpM c d q := by
    cases m with
    | append => exact ⟨[⟨"list", "list.append", rAppend⟩], fun d hd => by rw [List.mem_singleton.mp hd]; exact ⟨ml_append, mt_append⟩, fun d hd => ⟨_, List.mem_singleton.mpr rfl, by rw [List.mem_singleton.mp hd]; exact mo_append⟩⟩
    | extend => exact ⟨[⟨"list", "list.extend", rExtendL⟩], fun d hd => by rw [List.mem_singleton.mp hd]; exact ⟨ml_extend, mt_extendL⟩, fun d hd => ⟨_, List.mem_singleton.mpr rfl, by rw [List.mem_singleton.mp hd]; exact mo_extend⟩⟩
    | pop => exact ⟨[⟨"list", "list.pop", rPopL⟩], fun d hd => by rw [List.mem_singleton.mp hd]; exact ⟨ml_pop, mt_popU⟩, fun d hd => ⟨_, List.mem_singleton.mpr rfl, by rw [List.mem_singleton.mp hd]; exact mo_pop⟩⟩
    | insert => exact ⟨[⟨"list","list.insert", fun x vs H Q => ∃ (l : Addr) (xs : List V) (i : Int) (y : V), x = .ref l ∧ vs = [.int i, y] ∧ H l = some (.lst xs) ∧ xs.length < sizeLine ∧ 0 ≤ i ∧ i < 2 ^ 63 ∧ Q .non (upd H l (.lst (xs.take i.toNat ++ [y] ++ xs.drop i.toNat)))⟩], fun d hd => by rw [List.mem_singleton.mp hd]; exact ⟨ml_insert, mt_insert⟩, fun d hd => ⟨_, List.mem_singleton.mpr rfl, by rw [List.mem_singleton.mp hd]; exact mo_insert⟩⟩
    | reverse => exact ⟨[⟨"list", "list.reverse", rReverse⟩], fun d hd => by rw [List.mem_singleton.mp hd]; exact ⟨ml_reverse, mt_reverse⟩, fun d hd => ⟨_, List.mem_singleton.mpr rfl, by rw [List.mem_singleton.mp hd]; exact mo_reverse⟩⟩
    | remove => exact ⟨[⟨"list", "list.remove", rRemI⟩], fun d hd => by rw [List.mem_singleton.mp hd]; exact ⟨ml_remove, mt_remove⟩, fun d hd => ⟨_, List.mem_singleton.mpr rfl, by rw [List.mem_singleton.mp hd]; exact mo_remove⟩⟩
    | get => exact ⟨[⟨"dict", "dict.get", rGetD⟩], fun d hd => by rw [List.mem_singleton.mp hd]; exact ⟨ml_getD, mt_getD (by have := o.un; omega)⟩, fun d hd => ⟨_, List.mem_singleton.mpr rfl, by rw [List.mem_singleton.mp hd]; exact mo_getD⟩⟩
    | count => exact ⟨[⟨"list", "list.count", rCntB false c.K⟩, ⟨"tuple", "tuple.count", rCntB true c.K⟩], fun d hd => by
        rcases List.mem_cons.mp hd with rfl | hd
        · exact ⟨ml_countL, by rw [o.hK]; exact mt_lcountB⟩
        · rw [List.mem_singleton.mp hd]; exact ⟨ml_countT, by rw [o.hK]; exact mt_tcountB⟩, fun d hd => by
        rcases List.mem_cons.mp hd with rfl | hd
        · exact ⟨_, List.mem_cons_self .., mo_countL⟩
        · rw [List.mem_singleton.mp hd]; exact ⟨_, List.mem_cons_of_mem _ (List.mem_cons_self ..), mo_countT⟩⟩
    | index => exact ⟨[⟨"list", "list.index", rIndex c.K⟩, ⟨"tuple", "tuple.index", rIndexT c.K⟩, ⟨"str", "str.index", rIndexS⟩], fun d hd => by
        rcases List.mem_cons.mp hd with rfl | hd
        · exact ⟨ml_indexL, by rw [o.hK]; exact mt_index⟩
        · rcases List.mem_cons.mp hd with rfl | hd
          · exact ⟨ml_indexT, by rw [o.hK]; exact mt_tindexB⟩
          · rw [List.mem_singleton.mp hd]; exact ⟨ml_indexS, mt_sindex⟩, fun d hd => by
        rcases List.mem_cons.mp hd with rfl | hd
        · exact ⟨_, List.mem_cons_self .., mo_indexL⟩
        · rcases List.mem_cons.mp hd with rfl | hd
          · exact ⟨_, List.mem_cons_of_mem _ (List.mem_cons_self ..), mo_indexT⟩
          · rw [List.mem_singleton.mp hd]; exact ⟨_, List.mem_cons_of_mem _ (List.mem_cons_of_mem _ (List.mem_cons_self ..)), mo_indexS⟩⟩
  cases es with
  | nil =>
    rw [hz rfl]
    exact PE.imp (pe_mU0 h1 ha (base_attr hn _ _) hl) (s_mth0 o.hK h2)
  | cons e1 es =>
    refine PE.imp (pe_mU h1 ha hb (base_attr hn _ _) ?_ hl (star_cons (hs e1 (List.mem_cons_self ..)) _) (star_plain (tail_star hs))) (s_mth o.hK h2)
    rw [Bool.and_eq_true, Bool.and_eq_true]
    exact ⟨⟨star_few hs, rfl⟩, decide_eq_true hle⟩
end
theorem keys_all : ∀ {ks : List Str} {keys : List (Option Expr)}, chkKeys ks keys = true → keys.all (·.isSome) = true ∧ ks.length = keys.length
  | [], [], _ => ⟨rfl, rfl⟩
  | [], _ :: _, h => (Bool.false_ne_true h).elim
  | _ :: _, [], h => (Bool.false_ne_true h).elim
  | k :: ks, none :: r, h => (Bool.false_ne_true h).elim
  | k :: ks, some e :: r, h => by
    match e, h with
    | .Constant (.str x) _ _, h =>
      have h : (decide (k = x) && chkKeys ks r) = true := h
      rw [Bool.and_eq_true] at h
      obtain ⟨a, b⟩ := keys_all h.2
      exact ⟨by rw [List.all_cons, a]; rfl, by rw [List.length_cons, List.length_cons, b]⟩
theorem no_pt {X : Cx} {c : Cst} {Wx : WX} {e : Expr} : PT X e (tT c Wx fun _ _ _ _ => False) := ⟨fun _ _ _ _ _ _ ⟨_, _, _, _, _, _, h, _⟩ => h.elim⟩
variable {P : Nat → Pm} {G : Nat → W}
mutual
theorem sE : ∀ (e : E) {c : Cst} {X : Cx} {Wx : WX} {k : Nat} {s : Sx} (o : Okx c X Wx k P G s) (ex : Expr), chkE e s ex = true → PE X ex (tE c Wx (dE P G e))
  | .fz a, c, X, Wx, k, s, o, ex, h => s_fz (sE a o ex h)
  | .var i, c, X, Wx, k, s, o, ex, h => by
    cases ex with
    | Name x p =>
      obtain ⟨h1, h2, h3, h4⟩ := o.visi (show s.vis i x = true from h)
      exact s_var (pe_var h1 h2 h3 h4)
    | _ => exact (Bool.false_ne_true h).elim
  | .cst q, c, X, Wx, k, s, o, ex, h => by
    cases ex with
    | Constant q' j p =>
      have h1 : (decide (q = q') && chkC q) = true := h
      rw [Bool.and_eq_true, decide_eq_true_eq] at h1
      obtain ⟨rfl, h2⟩ := h1
      cases q with
      | none => exact s_const pe_non fun H => .non
      | bool b => exact s_const pe_bl fun H => .bl b
      | int i => exact s_const pe_int fun H => .int i
      | str x => exact s_const pe_str fun H => .str x
      | _ => exact (Bool.false_ne_true h2).elim
    | _ => exact (Bool.false_ne_true h).elim
  | .glb j, c, X, Wx, k, s, o, ex, h => by
    cases ex with
    | Name x p =>
      have h : (decide (s.gls[j]? = some x) && s.glob x) = true := h
      rw [Bool.and_eq_true, decide_eq_true_eq] at h
      obtain ⟨u, v, h1, h2, h3⟩ := o.gls j x h.1
      exact s_const (pe_glob (o.gl h.2).1 h1 h2 (o.gl h.2).2) h3
    | _ => exact (Bool.false_ne_true h).elim
  | .bin op a b, c, X, Wx, k, s, o, ex, h => by
    cases ex with
    | BinOp l op' r p =>
      have h : (decide (op = op') && opOk op && chkE a s l && chkE b s r) = true := h
      simp only [Bool.and_eq_true, decide_eq_true_eq] at h
      obtain ⟨⟨⟨rfl, h1⟩, h2⟩, h3⟩ := h
      have ha := sE a o l h2
      have hb := sE b o r h3
      have hK := o.hK
      cases op with
      | Add => exact PE.imp (pe_op r_addB ha hb) (s_bin (hK ▸ o_addB))
      | Sub => exact PE.imp (pe_op r_subB ha hb) (s_bin o_subB)
      | Mult => exact PE.imp (pe_op r_mul2 ha hb) (s_bin (hK ▸ o_mul2))
      | FloorDiv => exact PE.imp (pe_op op_fdivW ha hb) (s_bin o_div)
      | Mod => exact PE.imp (pe_op op_mod ha hb) (s_bin o_mod)
      | Pow => exact PE.imp (pe_op op_pow ha hb) (s_bin o_pow)
      | _ => exact (Bool.false_ne_true h1).elim
    | _ => exact (Bool.false_ne_true h).elim
  | .neg a, c, X, Wx, k, s, o, ex, h => by
    cases ex with
    | UnaryOp op e p =>
      cases op with
      | USub => exact PE.imp (pe_un un_negB (sE a o e h)) (s_un o_negB)
      | _ => exact (Bool.false_ne_true h).elim
    | _ => exact (Bool.false_ne_true h).elim
  | .not a, c, X, Wx, k, s, o, ex, h => by
    cases ex with
    | UnaryOp op e p =>
      cases op with
      | Not => exact s_not o.hK (sE a o e h)
      | _ => exact (Bool.false_ne_true h).elim
    | _ => exact (Bool.false_ne_true h).elim
  | .inr n a b, c, X, Wx, k, s, o, ex, h => by
    cases ex with
    | Compare l ops rs p =>
      match ops, rs, h with
      | [op'], [r], h =>
        have h : (decide (op' = notOp n) && !behindInMarks op' r && chkE a s l && (match (generalizing := false) r with
          | .Call (.Name x _) [e] [] _ => decide (x = ("range" : Str)) && s.glob x && notStar e && chkE b s e
          | _ => false)) = true := h
        rw [Bool.and_eq_true] at h
        obtain ⟨h, h9⟩ := h
        simp only [Bool.and_eq_true, decide_eq_true_eq, Bool.not_eq_true'] at h
        obtain ⟨⟨rfl, h1⟩, h2⟩ := h
        cases r with
        | Call fe es kws p2 =>
          match fe, es, kws, h9, h1 with
          | .Name x p1, [e], [], h9, h1 =>
            have h9 : (decide (x = ("range" : Str)) && s.glob x && notStar e && chkE b s e) = true := h9
            simp only [Bool.and_eq_true, decide_eq_true_eq] at h9
            obtain ⟨⟨⟨rfl, h3⟩, h4⟩, h5⟩ := h9
            exact s_inr (o.gl h3).1 (o.bl _ (by decide +kernel)) (sE a o l h2) (sE b o e h5) (star_cons h4 _) h1
        | _ => exact (Bool.false_ne_true h9).elim
      | [], _, h => exact (Bool.false_ne_true h).elim
      | [_], [], h => exact (Bool.false_ne_true h).elim
      | [_], _ :: _ :: _, h => exact (Bool.false_ne_true h).elim
      | _ :: _ :: _, _, h => exact (Bool.false_ne_true h).elim
    | _ => exact (Bool.false_ne_true h).elim
  | .cmp op a b, c, X, Wx, k, s, o, ex, h => by
    cases ex with
    | Compare l ops rs p =>
      match ops, rs, h with
      | [op'], [r], h =>
        have h : (decide (op = op') && !behindInMarks op r && chkE a s l && chkE b s r) = true := h
        simp only [Bool.and_eq_true, decide_eq_true_eq, Bool.not_eq_true'] at h
        obtain ⟨⟨⟨rfl, h1⟩, h2⟩, h3⟩ := h
        obtain ⟨r1, f1, g1⟩ := copR o op
        exact s_cmp f1 g1 (sE a o l h2) (sE b o r h3) h1
      | [], _, h => exact (Bool.false_ne_true h).elim
      | [_], [], h => exact (Bool.false_ne_true h).elim
      | [_], _ :: _ :: _, h => exact (Bool.false_ne_true h).elim
      | _ :: _ :: _, _, h => exact (Bool.false_ne_true h).elim
    | _ => exact (Bool.false_ne_true h).elim
  | .chn op1 op2 a b d, c, X, Wx, k, s, o, ex, h => by
    cases ex with
    | Compare l ops rs p =>
      match ops, rs, h with
      | [o1, o2], [r, q], h =>
        have h : (decide (op1 = o1) && decide (op2 = o2) && !lastMarks [op1, op2] [r, q] && chkE a s l && chkE b s r && chkE d s q) = true := h
        simp only [Bool.and_eq_true, decide_eq_true_eq, Bool.not_eq_true'] at h
        obtain ⟨⟨⟨⟨⟨rfl, rfl⟩, h1⟩, h2⟩, h3⟩, h4⟩ := h
        obtain ⟨r1, f1, g1⟩ := copR o op1
        obtain ⟨r2, f2, g2⟩ := copR o op2
        exact s_chn f1 f2 g1 g2 (sE a o l h2) (sE b o r h3) (sE d o q h4) h1
      | [], _, h => exact (Bool.false_ne_true h).elim
      | [_], _, h => exact (Bool.false_ne_true h).elim
      | [_, _], [], h => exact (Bool.false_ne_true h).elim
      | [_, _], [_], h => exact (Bool.false_ne_true h).elim
      | [_, _], _ :: _ :: _ :: _, h => exact (Bool.false_ne_true h).elim
      | _ :: _ :: _ :: _, _, h => exact (Bool.false_ne_true h).elim
    | _ => exact (Bool.false_ne_true h).elim
  | .and a b, c, X, Wx, k, s, o, ex, h => by
    cases ex with
    | BoolOp op vs p =>
      cases op with
      | Or => exact (Bool.false_ne_true h).elim
      | And =>
        match vs, h with
        | e1 :: e2 :: [], h =>
          have h : (chkE a s e1 && chkE b s e2) = true := h
          rw [Bool.and_eq_true] at h
          exact s_and o.hK (sE a o e1 h.1) (pe_one (sE b o e2 h.2))
        | e1 :: e2 :: e3 :: rest, h =>
          have h : (chkE a s e1 && chkE b s (.BoolOp .And (e2 :: e3 :: rest) p)) = true := h
          rw [Bool.and_eq_true] at h
          exact s_and o.hK (sE a o e1 h.1) (sE b o _ h.2)
        | [], h => exact (Bool.false_ne_true h).elim
        | [_], h => exact (Bool.false_ne_true h).elim
    | _ => exact (Bool.false_ne_true h).elim
  | .or a b, c, X, Wx, k, s, o, ex, h => by
    cases ex with
    | BoolOp op vs p =>
      cases op with
      | And => exact (Bool.false_ne_true h).elim
      | Or =>
        match vs, h with
        | e1 :: e2 :: [], h =>
          have h : (chkE a s e1 && chkE b s e2) = true := h
          rw [Bool.and_eq_true] at h
          exact s_or o.hK (sE a o e1 h.1) (pe_one (sE b o e2 h.2))
        | e1 :: e2 :: e3 :: rest, h =>
          have h : (chkE a s e1 && chkE b s (.BoolOp .Or (e2 :: e3 :: rest) p)) = true := h
          rw [Bool.and_eq_true] at h
          exact s_or o.hK (sE a o e1 h.1) (sE b o _ h.2)
        | [], h => exact (Bool.false_ne_true h).elim
        | [_], h => exact (Bool.false_ne_true h).elim
    | _ => exact (Bool.false_ne_true h).elim
  | .ite t a b, c, X, Wx, k, s, o, ex, h => by
    cases ex with
    | IfExp e1 e2 e3 p =>
      have h : (chkE t s e1 && chkE a s e2 && chkE b s e3) = true := h
      simp only [Bool.and_eq_true] at h
      exact s_if (sT t o e1 h.1.1) (sE a o e2 h.1.2) (sE b o e3 h.2)
    | _ => exact (Bool.false_ne_true h).elim
  | .call f as, c, X, Wx, k, s, o, ex, h => by
    cases ex with
    | Call fe es kws p =>
      cases fe with
      | Name x p1 =>
        cases kws with
        | cons _ _ => exact (Bool.false_ne_true h).elim
        | nil =>
          have h : (decide (s.fns[f]? = some x) && s.glob x && chkEs as s es) = true := h
          simp only [Bool.and_eq_true, decide_eq_true_eq] at h
          obtain ⟨⟨h1, h2⟩, h3⟩ := h
          obtain ⟨fa, fd, ps, m1, m2, m3, g⟩ := o.fns f x h1
          have st := chkEs_star h3
          have hA := sEs as o es h3
          match as, es, h3, st, hA with
          | .nil, [], _, _, _ => exact s_call0 g o.gd o.room (o.gl h2).1 m1 m2 m3 o.tk (o.gl h2).2
          | as, e :: es, _, st, hA => exact s_call g o.gd o.room (o.gl h2).1 m1 m2 m3 o.tk hA (o.gl h2).2 (star_cons (st e (List.mem_cons_self ..)) _) (star_plain (tail_star st))
          | .cons _ _, [], h3, _, _ => exact (Bool.false_ne_true h3).elim
      | _ => cases kws <;> exact (Bool.false_ne_true h).elim
    | _ => exact (Bool.false_ne_true h).elim
  | .blt b as, c, X, Wx, k, s, o, ex, h => by
    cases ex with
    | Call fe es kws p =>
      cases fe with
      | Name x p1 =>
        cases kws with
        | cons _ _ => exact (Bool.false_ne_true h).elim
        | nil =>
          have h : (decide (x = bltN b) && s.glob x && decide (es.length = bltA b) && chkEs as s es) = true := h
          simp only [Bool.and_eq_true, decide_eq_true_eq] at h
          obtain ⟨⟨⟨rfl, h2⟩, h4⟩, h3⟩ := h
          have st := chkEs_star h3
          have hA := sEs as o es h3
          cases es with
          | nil => cases b <;> simp [bltA] at h4
          | cons e es => exact s_bltAll o h2 h4 st hA
      | _ => cases kws <;> exact (Bool.false_ne_true h).elim
    | _ => exact (Bool.false_ne_true h).elim
  | .isi T a, c, X, Wx, k, s, o, ex, h => by
    cases ex with
    | Call fe es kws p =>
      match fe, es, kws, h with
      | .Name x p1, [e, .Name y p2], [], h =>
        have h : (decide (x = ("isinstance" : Str)) && s.glob x && decide (y = tyN T) && s.glob y && notStar e && chkE a s e) = true := h
        simp only [Bool.and_eq_true, decide_eq_true_eq] at h
        obtain ⟨⟨⟨⟨⟨rfl, h1⟩, rfl⟩, h2⟩, h3⟩, h4⟩ := h
        exact s_isi o h1 h2 h3 (sE a o e h4)
    | _ => exact (Bool.false_ne_true h).elim
  | .mth m a as, c, X, Wx, k, s, o, ex, h => by
    cases ex with
    | Call fe es kws p =>
      cases fe with
      | Attribute e x apos =>
        cases kws with
        | cons _ _ => exact (Bool.false_ne_true h).elim
        | nil =>
          have h : (decide (x = mnN m) && notCall e && (apos.endLine == p.line) && decide (es.length < 30) && chkE a s e && chkEs as s es) = true := h
          simp only [Bool.and_eq_true, decide_eq_true_eq] at h
          obtain ⟨⟨⟨⟨⟨rfl, h2⟩, h3⟩, h4⟩, h5⟩, h6⟩ := h
          exact s_mthAll o h2 h3 (chkEs_star h6) h4 (sE a o e h5) (sEs as o es h6) fun z => by
            subst z
            cases as with
            | nil => rfl
            | cons _ _ => exact (Bool.false_ne_true h6).elim
      | _ => cases kws <;> exact (Bool.false_ne_true h).elim
    | _ => exact (Bool.false_ne_true h).elim
  | .tup as, c, X, Wx, k, s, o, ex, h => by
    cases ex with
    | Tuple es j p => exact s_tup (sEs as o es h)
    | _ => exact (Bool.false_ne_true h).elim
  | .lst as, c, X, Wx, k, s, o, ex, h => by
    cases ex with
    | List es p => exact s_lst (sEs as o es h)
    | _ => exact (Bool.false_ne_true h).elim
  | .dic, c, X, Wx, k, s, o, ex, h => by
    cases ex with
    | Dict ks vs p =>
      match ks, vs, h with
      | [], [], _ =>
        refine PE.imp pe_dnewK fun σ H Q q => ?_
        obtain ⟨ρ, S, Kk, Ek, re, rs, hm, po, px⟩ := q
        exact fun p hp => po _ _ _ _ (hm p (rs.fresh hp)) (.new hp) (rs.new hp (.dic .nil)) (.ref p)
      | [], _ :: _, h => exact (Bool.false_ne_true h).elim
      | _ :: _, _, h => exact (Bool.false_ne_true h).elim
    | _ => exact (Bool.false_ne_true h).elim
  | .dct ks as, c, X, Wx, k, s, o, ex, h => by
    cases ex with
    | Dict keys vals p =>
      have h : (chkKeys ks keys && decide (keys.length = vals.length) && decide (keys.length ≤ 15) && !keys.isEmpty && chkEs as s vals) = true := h
      simp only [Bool.and_eq_true, decide_eq_true_eq, Bool.not_eq_true'] at h
      obtain ⟨⟨⟨⟨h1, h2⟩, h3⟩, h4⟩, h5⟩ := h
      obtain ⟨k1, k2⟩ := keys_all h1
      exact s_dct (sPr as o ks keys vals h1 h2 h5) k1 h2 (fun z => by rw [z] at h4; exact absurd h4 (by decide)) h3 (by rw [List.length_map]; exact k2)
    | _ => exact (Bool.false_ne_true h).elim
  | .ix a i, c, X, Wx, k, s, o, ex, h => by
    cases ex with
    | Subscript e1 e2 p =>
      have h : (notSlice e2 && chkE a s e1 && chkE i s e2) = true := h
      simp only [Bool.and_eq_true] at h
      exact PE.imp (pe_ix (r_ix (by have := o.un; omega)) (sE a o e1 h.1.2) (sE i o e2 h.2) (plain_ix h.1.1)) (s_bin (o.hK ▸ o_ix))
    | _ => exact (Bool.false_ne_true h).elim
  | .sl a lo hi, c, X, Wx, k, s, o, ex, h => by
    cases ex with
    | Subscript e sl p =>
      match sl, h with
      | .Slice l u none p2, h =>
        have h : (chkE a s e && chkO lo s l && chkO hi s u) = true := h
        simp only [Bool.and_eq_true] at h
        exact s_sl o.hK (sE a o e h.1.1) (sO lo o l h.1.2) (sO hi o u h.2)
    | _ => exact (Bool.false_ne_true h).elim
  | .rev a, c, X, Wx, k, s, o, ex, h => by
    cases ex with
    | Subscript e sl p =>
      match sl, h with
      | .Slice none none (some (.UnaryOp .USub (.Constant (.int 1) j p1) p2)) p3, h => exact s_rev2 o.hK (sE a o e h)
    | _ => exact (Bool.false_ne_true h).elim
  | .comp el tg it cd own, c, X, Wx, k, s, o, ex, h => by
    cases ex with
    | ListComp e gs scope p =>
      match gs, h with
      | [⟨t, iter, ifs, 0⟩], h =>
        have h : (blkC s.N s.sc scope own && decide (∀ i ∈ tg.own, i ∈ own.map (·.2)) && notSet iter && chkI it s t iter && chkTg (s.blk scope) tg t && chkC1 cd (s.blk scope) ifs && chkE el (s.blk scope) e) = true := h
        simp only [Bool.and_eq_true, decide_eq_true_eq] at h
        obtain ⟨⟨⟨⟨⟨⟨h1, h2⟩, h3⟩, h4⟩, h5⟩, h6⟩, h7⟩ := h
        have ok : BlkOk X.N X.env.scope scope own := by
          rw [o.eN, o.esc]
          exact blkOk_by h1
        exact PE.imp (pe_lc o.calm o.nd (sI it o t iter h4) ok (fun s1 H C cl fp => s_tg (o.blk s1 H scope C cl fp) h5) (fun s1 H C cl fp => sC cd (o.blk s1 H scope C cl fp) ifs h6)
          (fun s1 H C cl fp => sE el (o.blk s1 H scope C cl fp) e h7) (set_fold h3 _)) (comp_of h2)
    | _ => exact (Bool.false_ne_true h).elim
  | .trg3 a b d, c, X, Wx, k, s, o, ex, h => by
    cases ex with
    | Call fe es kws p =>
     match fe, es, kws, h with
     | .Name x p1, [.Call (.Name y p2) [e1, e2, e3] [] p3], [], h =>
      have h : (decide (x = ("tuple" : Str)) && s.glob x && decide (y = ("range" : Str)) && s.glob y && notStar e1 && chkE a s e1 && notStar e2 && chkE b s e2 && notStar e3 && chkE d s e3) = true := h
      simp only [Bool.and_eq_true, decide_eq_true_eq] at h
      obtain ⟨⟨⟨⟨⟨⟨⟨⟨⟨rfl, h1⟩, rfl⟩, h1'⟩, h2⟩, h3⟩, h4⟩, h5⟩, h6⟩, h7⟩ := h
      exact s_trg3 o.calm (o.gl h1).1 (o.bl _ (by decide +kernel)) (o.gl h1').1 (o.bl _ (by decide +kernel)) (s_cons (sE a o e1 h3) (s_cons (sE b o e2 h5) (s_cons (sE d o e3 h7) s_nil (star_cons h6 _)) (star_cons h4 _)) (star_cons h2 _)) (star_cons h2 _)
        (star_plain (fun y hy => by
          rcases List.mem_cons.mp hy with rfl | hy
          · exact h4
          · rw [List.mem_singleton.mp hy]; exact h6))
    | _ => exact (Bool.false_ne_true h).elim
  | .sset t a, c, X, Wx, k, s, o, ex, h => by
    cases ex with
    | Call fe es kws p =>
     match fe, es, kws, h with
     | .Name x p1, [.Call (.Name y p2) [e] [] p3], [], h =>
      have h : (decide (x = setN t) && s.glob x && decide (y = ("set" : Str)) && s.glob y && notStar e && chkE a s e) = true := h
      simp only [Bool.and_eq_true, decide_eq_true_eq] at h
      obtain ⟨⟨⟨⟨⟨rfl, h1⟩, rfl⟩, h2⟩, h3⟩, h4⟩ := h
      exact s_sset o.hK o.calm (o.gl h1).1 (o.bl _ (by cases t <;> decide +kernel)) (o.gl h2).1 (o.bl _ (by decide +kernel)) (sE a o e h4) (star_cons h3 _)
    | _ => exact (Bool.false_ne_true h).elim
  | .lrg1 t a, c, X, Wx, k, s, o, ex, h => by
    cases ex with
    | Call fe es kws p =>
     match fe, es, kws, h with
     | .Name x p1, [.Call (.Name y p2) [e] [] p3], [], h =>
      have h : (decide (x = rgN t) && s.glob x && decide (y = ("range" : Str)) && s.glob y && notStar e && chkE a s e) = true := h
      simp only [Bool.and_eq_true, decide_eq_true_eq] at h
      obtain ⟨⟨⟨⟨⟨rfl, h1⟩, rfl⟩, h2⟩, h3⟩, h4⟩ := h
      exact s_lrg1 o.calm (o.gl h1).1 (o.bl _ (by cases t <;> decide +kernel)) (o.gl h2).1 (o.bl _ (by decide +kernel)) (sE a o e h4) (star_cons h3 _)
    | _ => exact (Bool.false_ne_true h).elim
  | .lrg2 t a b, c, X, Wx, k, s, o, ex, h => by
    cases ex with
    | Call fe es kws p =>
     match fe, es, kws, h with
     | .Name x p1, [.Call (.Name y p2) [e, f] [] p3], [], h =>
      have h : (decide (x = rgN t) && s.glob x && decide (y = ("range" : Str)) && s.glob y && notStar e && chkE a s e && notStar f && chkE b s f) = true := h
      simp only [Bool.and_eq_true, decide_eq_true_eq] at h
      obtain ⟨⟨⟨⟨⟨⟨⟨rfl, h1⟩, rfl⟩, h2⟩, h3⟩, h4⟩, h5⟩, h6⟩ := h
      exact s_lrg2 o.calm (o.gl h1).1 (o.bl _ (by cases t <;> decide +kernel)) (o.gl h2).1 (o.bl _ (by decide +kernel)) (sE a o e h4) (sE b o f h6) (star_cons h3 _) (star_cons h5 _)
    | _ => exact (Bool.false_ne_true h).elim
theorem sT : ∀ (e : E) {c : Cst} {X : Cx} {Wx : WX} {k : Nat} {s : Sx} (o : Okx c X Wx k P G s) (ex : Expr), chkE e s ex = true → PT X ex (tT c Wx (dT P G e))
  | .not a, c, X, Wx, k, s, o, ex, h => by
    cases ex with
    | UnaryOp op e p =>
      cases op with
      | Not => exact s_notT (sT a o e h)
      | _ => exact (Bool.false_ne_true h).elim
    | _ => exact (Bool.false_ne_true h).elim
  | .inr n a b, c, X, Wx, k, s, o, ex, h => by
    cases ex with
    | Compare l ops rs p =>
      match ops, rs, h with
      | [op'], [r], h =>
        have h : (decide (op' = notOp n) && !behindInMarks op' r && chkE a s l && (match (generalizing := false) r with
          | .Call (.Name x _) [e] [] _ => decide (x = ("range" : Str)) && s.glob x && notStar e && chkE b s e
          | _ => false)) = true := h
        rw [Bool.and_eq_true] at h
        obtain ⟨h, h9⟩ := h
        simp only [Bool.and_eq_true, decide_eq_true_eq, Bool.not_eq_true'] at h
        obtain ⟨⟨rfl, h1⟩, h2⟩ := h
        cases r with
        | Call fe es kws p2 =>
          match fe, es, kws, h9, h1 with
          | .Name x p1, [e], [], h9, h1 =>
            have h9 : (decide (x = ("range" : Str)) && s.glob x && notStar e && chkE b s e) = true := h9
            simp only [Bool.and_eq_true, decide_eq_true_eq] at h9
            obtain ⟨⟨⟨rfl, h3⟩, h4⟩, h5⟩ := h9
            exact s_inrT (o.gl h3).1 (o.bl _ (by decide +kernel)) (sE a o l h2) (sE b o e h5) (star_cons h4 _) h1
        | _ => exact (Bool.false_ne_true h9).elim
      | [], _, h => exact (Bool.false_ne_true h).elim
      | [_], [], h => exact (Bool.false_ne_true h).elim
      | [_], _ :: _ :: _, h => exact (Bool.false_ne_true h).elim
      | _ :: _ :: _, _, h => exact (Bool.false_ne_true h).elim
    | _ => exact (Bool.false_ne_true h).elim
  | .cmp op a b, c, X, Wx, k, s, o, ex, h => by
    cases ex with
    | Compare l ops rs p =>
      match ops, rs, h with
      | [op'], [r], h =>
        have h : (decide (op = op') && !behindInMarks op r && chkE a s l && chkE b s r) = true := h
        simp only [Bool.and_eq_true, decide_eq_true_eq, Bool.not_eq_true'] at h
        obtain ⟨⟨⟨rfl, h1⟩, h2⟩, h3⟩ := h
        obtain ⟨r1, f1, g1⟩ := copR o op
        exact s_cmpT f1 g1 (sE a o l h2) (sE b o r h3) h1
      | [], _, h => exact (Bool.false_ne_true h).elim
      | [_], [], h => exact (Bool.false_ne_true h).elim
      | [_], _ :: _ :: _, h => exact (Bool.false_ne_true h).elim
      | _ :: _ :: _, _, h => exact (Bool.false_ne_true h).elim
    | _ => exact (Bool.false_ne_true h).elim
  | .chn op1 op2 a b d, c, X, Wx, k, s, o, ex, h => by
    cases ex with
    | Compare l ops rs p =>
      match ops, rs, h with
      | [o1, o2], [r, q], h =>
        have h : (decide (op1 = o1) && decide (op2 = o2) && !lastMarks [op1, op2] [r, q] && chkE a s l && chkE b s r && chkE d s q) = true := h
        simp only [Bool.and_eq_true, decide_eq_true_eq, Bool.not_eq_true'] at h
        obtain ⟨⟨⟨⟨⟨rfl, rfl⟩, h1⟩, h2⟩, h3⟩, h4⟩ := h
        obtain ⟨r1, f1, g1⟩ := copR o op1
        obtain ⟨r2, f2, g2⟩ := copR o op2
        exact s_chnT f1 f2 g1 g2 (sE a o l h2) (sE b o r h3) (sE d o q h4) h1
      | [], _, h => exact (Bool.false_ne_true h).elim
      | [_], _, h => exact (Bool.false_ne_true h).elim
      | [_, _], [], h => exact (Bool.false_ne_true h).elim
      | [_, _], [_], h => exact (Bool.false_ne_true h).elim
      | [_, _], _ :: _ :: _ :: _, h => exact (Bool.false_ne_true h).elim
      | _ :: _ :: _ :: _, _, h => exact (Bool.false_ne_true h).elim
    | _ => exact (Bool.false_ne_true h).elim
  | .and a b, c, X, Wx, k, s, o, ex, h => by
    cases ex with
    | BoolOp op vs p =>
      cases op with
      | Or => exact (Bool.false_ne_true h).elim
      | And =>
        match vs, h with
        | e1 :: e2 :: [], h =>
          have h : (chkE a s e1 && chkE b s e2) = true := h
          rw [Bool.and_eq_true] at h
          exact (s_andT (sT a o e1 h.1) (pw_and1 (sT b o e2 h.2))).pt
        | e1 :: e2 :: e3 :: rest, h =>
          have h : (chkE a s e1 && chkE b s (.BoolOp .And (e2 :: e3 :: rest) p)) = true := h
          rw [Bool.and_eq_true] at h
          exact (s_andT (sT a o e1 h.1) (pw_of_pt (sT b o _ h.2))).pt
        | [], h => exact (Bool.false_ne_true h).elim
        | [_], h => exact (Bool.false_ne_true h).elim
    | _ => exact (Bool.false_ne_true h).elim
  | .or a b, c, X, Wx, k, s, o, ex, h => by
    cases ex with
    | BoolOp op vs p =>
      cases op with
      | And => exact (Bool.false_ne_true h).elim
      | Or =>
        match vs, h with
        | e1 :: e2 :: [], h =>
          have h : (chkE a s e1 && chkE b s e2) = true := h
          rw [Bool.and_eq_true] at h
          exact (s_orT (sT a o e1 h.1) (pw_or1 (sT b o e2 h.2))).pt
        | e1 :: e2 :: e3 :: rest, h =>
          have h : (chkE a s e1 && chkE b s (.BoolOp .Or (e2 :: e3 :: rest) p)) = true := h
          rw [Bool.and_eq_true] at h
          exact (s_orT (sT a o e1 h.1) (pw_of_pt (sT b o _ h.2))).pt
        | [], h => exact (Bool.false_ne_true h).elim
        | [_], h => exact (Bool.false_ne_true h).elim
    | _ => exact (Bool.false_ne_true h).elim
  | .var i, c, X, Wx, k, s, o, ex, h => by
    have q := sE (.var i) o ex h
    cases ex with
    | Name x p => exact s_tru o.hK q fun _ => rfl
    | _ => exact (Bool.false_ne_true h).elim
  | .cst i, c, X, Wx, k, s, o, ex, h => by
    have q := sE (.cst i) o ex h
    cases ex with
    | Constant x j p => exact s_tru o.hK q fun _ => rfl
    | _ => exact (Bool.false_ne_true h).elim
  | .call f as, c, X, Wx, k, s, o, ex, h => by
    have q := sE (.call f as) o ex h
    cases ex with
    | Call fe es kws p => exact s_tru o.hK q fun _ => rfl
    | _ => exact (Bool.false_ne_true h).elim
  | .blt b as, c, X, Wx, k, s, o, ex, h => by
    have q := sE (.blt b as) o ex h
    cases ex with
    | Call fe es kws p => exact s_tru o.hK q fun _ => rfl
    | _ => exact (Bool.false_ne_true h).elim
  | .isi T a, c, X, Wx, k, s, o, ex, h => by
    have q := sE (.isi T a) o ex h
    cases ex with
    | Call fe es kws p => exact s_tru o.hK q fun _ => rfl
    | _ => exact (Bool.false_ne_true h).elim
  | .mth m a as, c, X, Wx, k, s, o, ex, h => by
    have q := sE (.mth m a as) o ex h
    cases ex with
    | Call fe es kws p => exact s_tru o.hK q fun _ => rfl
    | _ => exact (Bool.false_ne_true h).elim
  | .ix a i, c, X, Wx, k, s, o, ex, h => by
    have q := sE (.ix a i) o ex h
    cases ex with
    | Subscript e1 e2 p => exact s_tru o.hK q fun _ => rfl
    | _ => exact (Bool.false_ne_true h).elim
  | .glb _, c, X, Wx, k, s, o, ex, _ => no_pt
  | .bin _ _ _, c, X, Wx, k, s, o, ex, _ => no_pt
  | .neg _, c, X, Wx, k, s, o, ex, _ => no_pt
  | .ite _ _ _, c, X, Wx, k, s, o, ex, _ => no_pt
  | .tup _, c, X, Wx, k, s, o, ex, _ => no_pt
  | .fz _, c, X, Wx, k, s, o, ex, _ => no_pt
  | .lst _, c, X, Wx, k, s, o, ex, _ => no_pt
  | .dic, c, X, Wx, k, s, o, ex, _ => no_pt
  | .dct _ _, c, X, Wx, k, s, o, ex, _ => no_pt
  | .sl _ _ _, c, X, Wx, k, s, o, ex, _ => no_pt
  | .rev _, c, X, Wx, k, s, o, ex, _ => no_pt
  | .comp _ _ _ _ _, c, X, Wx, k, s, o, ex, _ => no_pt
  | .lrg1 _ _, c, X, Wx, k, s, o, ex, _ => no_pt
  | .sset _ _, c, X, Wx, k, s, o, ex, _ => no_pt
  | .trg3 _ _ _, c, X, Wx, k, s, o, ex, _ => no_pt
  | .lrg2 _ _ _, c, X, Wx, k, s, o, ex, _ => no_pt
theorem sO : ∀ (a : Eo) {c : Cst} {X : Cx} {Wx : WX} {k : Nat} {s : Sx} (o : Okx c X Wx k P G s) (e : Option Expr), chkO a s e = true → PO X e (tO c Wx (dO P G a))
  | .none, c, X, Wx, k, s, o, none, _ => s_noPart
  | .some a, c, X, Wx, k, s, o, some e, h => s_part (sE a o e h)
  | .none, c, X, Wx, k, s, o, some _, h => (Bool.false_ne_true h).elim
  | .some _, c, X, Wx, k, s, o, none, h => (Bool.false_ne_true h).elim
theorem sC : ∀ (a : Eo) {c : Cst} {X : Cx} {Wx : WX} {k : Nat} {s : Sx} (o : Okx c X Wx k P G s) (es : List Expr), chkC1 a s es = true → PTs X es (tT c Wx (dC P G a))
  | .none, c, X, Wx, k, s, o, [], _ => ⟨fun pins st σ H Q I q => pts_nil.run pins st σ H Q I (s_yes (X := X) _ _ _ q)⟩
  | .some a, c, X, Wx, k, s, o, [e], h => pts_one (sT a o e h)
  | .none, c, X, Wx, k, s, o, _ :: _, h => (Bool.false_ne_true h).elim
  | .some _, c, X, Wx, k, s, o, [], h => (Bool.false_ne_true h).elim
  | .some _, c, X, Wx, k, s, o, _ :: _ :: _, h => (Bool.false_ne_true h).elim
theorem sI : ∀ (it : It') {c : Cst} {X : Cx} {Wx : WX} {k : Nat} {s : Sx} (o : Okx c X Wx k P G s) (t e : Expr), chkI it s t e = true → PI X t e (tI c Wx (dI P G it))
  | .seq a, c, X, Wx, k, s, o, t, e, h => s_seq o.hK (sE a o e h)
  | .rg1 a, c, X, Wx, k, s, o, t, e, h => by
    match e, h with
    | .Call (.Name x p1) [e1] [] p, h =>
      have h : (decide (x = ("range" : Str)) && s.glob x && notStar e1 && chkE a s e1) = true := h
      simp only [Bool.and_eq_true, decide_eq_true_eq] at h
      obtain ⟨⟨⟨rfl, h1⟩, h2⟩, h3⟩ := h
      exact s_rg1 (o.gl h1).1 (o.bl _ (by decide +kernel)) (s_cons (sE a o e1 h3) s_nil (star_cons h2 _)) (star_cons h2 _)
  | .rg2 a b, c, X, Wx, k, s, o, t, e, h => by
    match e, h with
    | .Call (.Name x p1) [e1, e2] [] p, h =>
      have h : (decide (x = ("range" : Str)) && s.glob x && notStar e1 && chkE a s e1 && notStar e2 && chkE b s e2) = true := h
      simp only [Bool.and_eq_true, decide_eq_true_eq] at h
      obtain ⟨⟨⟨⟨⟨rfl, h1⟩, h2⟩, h3⟩, h4⟩, h5⟩ := h
      exact s_rg2 (o.gl h1).1 (o.bl _ (by decide +kernel)) (s_cons (sE a o e1 h3) (s_cons (sE b o e2 h5) s_nil (star_cons h4 _)) (star_cons h2 _)) (by rw [star_cons h2, star_cons h4]; rfl) (star_cons h4 _)
  | .rg3 a b d, c, X, Wx, k, s, o, t, e, h => by
    match e, h with
    | .Call (.Name x p1) [e1, e2, e3] [] p, h =>
      have h : (decide (x = ("range" : Str)) && s.glob x && notStar e1 && chkE a s e1 && notStar e2 && chkE b s e2 && notStar e3 && chkE d s e3) = true := h
      simp only [Bool.and_eq_true, decide_eq_true_eq] at h
      obtain ⟨⟨⟨⟨⟨⟨⟨rfl, h1⟩, h2⟩, h3⟩, h4⟩, h5⟩, h6⟩, h7⟩ := h
      exact s_rg3 (o.gl h1).1 (o.bl _ (by decide +kernel)) (s_cons (sE a o e1 h3) (s_cons (sE b o e2 h5) (s_cons (sE d o e3 h7) s_nil (star_cons h6 _)) (star_cons h4 _)) (star_cons h2 _)) (star_cons h2 _)
        (star_plain (fun y hy => by
          rcases List.mem_cons.mp hy with rfl | hy
          · exact h4
          · rw [List.mem_singleton.mp hy]; exact h6))
  | .enu a, c, X, Wx, k, s, o, t, e, h => by
    match e, h with
    | .Call (.Name x p1) [e1] [] p, h =>
      have h : (decide (x = ("enumerate" : Str)) && s.glob x && isTup t && notStar e1 && chkE a s e1) = true := h
      simp only [Bool.and_eq_true, decide_eq_true_eq] at h
      obtain ⟨⟨⟨⟨rfl, h1⟩, ht⟩, h2⟩, h3⟩ := h
      cases t with
      | Tuple elts kk tpos => exact s_enu o.hK (o.gl h1).1 (o.bl _ (by decide +kernel)) (s_cons (sE a o e1 h3) s_nil (star_cons h2 _)) (star_cons h2 _)
      | _ => exact (Bool.false_ne_true ht).elim
  | .zip a b, c, X, Wx, k, s, o, t, e, h => by
    match e, h with
    | .Call (.Name x p1) [e1, e2] [] p, h =>
      have h : (decide (x = ("zip" : Str)) && s.glob x && isTup t && notStar e1 && chkE a s e1 && notStar e2 && chkE b s e2) = true := h
      simp only [Bool.and_eq_true, decide_eq_true_eq] at h
      obtain ⟨⟨⟨⟨⟨⟨rfl, h1⟩, ht⟩, h2⟩, h3⟩, h4⟩, h5⟩ := h
      cases t with
      | Tuple elts kk tpos => exact s_zip o.hK (o.gl h1).1 (o.bl _ (by decide +kernel)) (s_cons (sE a o e1 h3) (s_cons (sE b o e2 h5) s_nil (star_cons h4 _)) (star_cons h2 _)) (star_cons h2 _) (star_plain (fun y hy => by rw [List.mem_singleton.mp hy]; exact h4))
      | _ => exact (Bool.false_ne_true ht).elim
theorem sEs : ∀ (as : Es) {c : Cst} {X : Cx} {Wx : WX} {k : Nat} {s : Sx} (o : Okx c X Wx k P G s) (es : List Expr), chkEs as s es = true → PA X es (tA c Wx (dEs P G as))
  | .nil, c, X, Wx, k, s, o, [], _ => s_nil
  | .nil, c, X, Wx, k, s, o, _ :: _, h => (Bool.false_ne_true h).elim
  | .cons a r, c, X, Wx, k, s, o, [], h => (Bool.false_ne_true h).elim
  | .cons a r, c, X, Wx, k, s, o, e :: es, h => by
    have h : (notStar e && chkE a s e && chkEs r s es) = true := h
    simp only [Bool.and_eq_true] at h
    exact s_cons (sE a o e h.1.2) (sEs r o es h.2) (star_cons h.1.1 _)
theorem sPr : ∀ (as : Es) {c : Cst} {X : Cx} {Wx : WX} {k : Nat} {s : Sx} {pos : Pos} (o : Okx c X Wx k P G s) (ks : List Str) (keys : List (Option Expr)) (vals : List Expr), chkKeys ks keys = true → keys.length = vals.length → chkEs as s vals = true → Pr X c Wx pos keys vals (ks.map Sum.inr) (dEs P G as)
  | .nil, c, X, Wx, k, s, pos, o, ks, keys, vals, h, hl, h' => by
    match vals, h' with
    | [], _ =>
      match keys, hl with
      | [], _ =>
        match ks, h with
        | [], _ => exact pr_nil
  | .cons a r, c, X, Wx, k, s, pos, o, ks, keys, vals, h, hl, h' => by
    match vals, h' with
    | e :: es, h' =>
      have h' : (notStar e && chkE a s e && chkEs r s es) = true := h'
      simp only [Bool.and_eq_true] at h'
      match keys, hl with
      | q :: keys, hl =>
        match ks, q, h with
        | x :: ks, some (.Constant (.str y) _ _), h =>
          have h : (decide (x = y) && chkKeys ks keys) = true := h
          rw [Bool.and_eq_true, decide_eq_true_eq] at h
          obtain ⟨h1, h2⟩ := h
          subst h1
          exact pr_cons (sE a o e h'.1.2) (sPr r o ks keys es h2 (by simpa using hl) h'.2)
end
end Dp
namespace Dp
open PySem PySem.Spec L2
open PyProof.Rows hiding St

def iopOk : Operator → Bool
  | .Add => true | .Sub => true
  | _ => false
def isLc : E → Bool
  | .comp .. => true
  | .fz (.comp ..) => true
  | _ => false
/-- what a name holds is held as it is from then on -/
theorem ps_fz {X : Cx} {st : Stmt} {t : TS} (h : PS X st t) : PS X st (fun D σ H => t { D with nx := fun σ H => D.nx σ H ∨ ∃ p u, H p = some u ∧ Fzb u ∧ ∀ o, D.nx σ (upd H p (.frz o u)) } σ H) :=
  ⟨fun pins s σ H D I q => thn (h.run pins s σ H _ I q) fun fl s1 z => by
    cases fl with
    | next =>
      obtain ⟨σ2, H2, I2, q | ⟨p, u, e, f, q⟩⟩ := z
      · exact ⟨σ2, H2, I2, q⟩
      · obtain ⟨o, I3⟩ := Inv.freeze I2 e f
        exact ⟨σ2, _, I3, q o⟩
    | ret u => exact z
    | brk => exact z
    | cont => exact z⟩
theorem asgFz_of {c : Cst} {Wx : WX} {i : Nat} {a : WE} {te : TE} {D : Ends} {σ : L2.St} {H : Hp} (hx : ∀ σ H Q, tE c Wx a σ H Q → te σ H Q) (h : tS c Wx (mAsg (.nm i) (mFz a)) D σ H) :
    tAsg te (gName i) { D with nx := fun σ H => D.nx σ H ∨ ∃ p u, H p = some u ∧ Fzb u ∧ ∀ o, D.nx σ (upd H p (.frz o u)) } σ H := by
  obtain ⟨E, ρ, S, re, rs, hm, rd⟩ := h
  refine hx _ _ _ ⟨ρ, S, _, (E.ex ρ), re, rs, hm, fun w S1 H1 v k1 e1 rs1 rv => ?_, rd.ex re rs⟩
  have re1 := re.tst (e1.tst rs)
  unfold fzK at k1
  cases rv with
  | ref p =>
    rcases k1 with ⟨xs, l, k⟩ | ⟨kvs, l, k⟩ | ⟨kvs, l, k⟩
    · obtain ⟨vs, q, r⟩ := rs1.lst l
      refine .inr ⟨p, _, q, trivial, fun o => ?_⟩
      obtain ⟨h1, h2⟩ := fz_rs (o := .frz o (.lst vs)) rs1 l
      have t : Tst c.K H1 (upd H1 p (.frz o (.lst vs))) := .upd (rs1.at_ l)
      exact rd.nx _ _ _ _ k (e1.trans h2) ((re1.tst t).set (.lst ⟨o, upd_same⟩ (r.tst t))) h1
    · obtain ⟨vs, q, r⟩ := rs1.dic l
      refine .inr ⟨p, _, q, trivial, fun o => ?_⟩
      obtain ⟨h1, h2⟩ := fz_rs (o := .frz o (.dK vs)) rs1 l
      obtain ⟨z1, z2⟩ := rkv_un r
      have t : Tst c.K H1 (upd H1 p (.frz o (.dK vs))) := .upd (rs1.at_ l)
      exact rd.nx _ _ _ _ k (e1.trans h2) ((re1.tst t).set (.dct ⟨o, by rw [upd_same]; exact congrArg (fun x => some (HO.frz o (.dK x))) z1⟩ (by simp) (z2.tst t))) h1
    · obtain ⟨vs, q, r⟩ := rs1.dit l
      refine .inr ⟨p, _, q, trivial, fun o => ?_⟩
      obtain ⟨h1, h2⟩ := fz_rs (o := .frz o (.dT vs)) rs1 l
      obtain ⟨z1, z2⟩ := rtv_un r
      have t : Tst c.K H1 (upd H1 p (.frz o (.dT vs))) := .upd (rs1.at_ l)
      exact rd.nx _ _ _ _ k (e1.trans h2) ((re1.tst t).set (.dit ⟨o, by rw [upd_same]; exact congrArg (fun x => some (HO.frz o (.dT x))) z1⟩ (by simp) (z2.tst t))) h1
  | _ => exact (show False from k1).elim
def Sx.lcl (s : Sx) (x : Str) : Bool := decide (s.sc.names.lookup x = some .local)
def Sx.cel (s : Sx) (x : Str) : Bool := decide (s.sc.names.lookup x = some .cell)
def Sx.isFn (s : Sx) : Bool := decide (s.sc.kind = .function)
def lcOk (s : Sx) (x : Str) (p1 : Pos) : Expr → Bool
  | .ListComp _ _ scope pos => s.isFn && s.lcl x && (p1.line == pos.line) && ((scope.names.any fun (n, k) => n == x && (k == .local || k == .cell)) == false)
  | _ => false
def chkPar (s : Sx) (as : Es) : List Nat → List Expr → Expr → Bool
  | [i, j], [.Tuple [.Name x px, .Name y py] _ _], .Tuple [a, b] _ _ => s.isFn && decide (s.N[i]? = some x) && decide (s.N[j]? = some y) && decide (i ≠ j) && decide (x ≠ y) && s.lcl x && s.lcl y && (py.line == px.line) &&
      notStar a && notStar b && !(foldedForSure 8 a && foldedForSure 8 b) && !(constantsAlone 8 a && constantsAlone 8 b) && chkEs as s [a, b]
  | [i, j, l], [.Tuple [.Name x px, .Name y py, .Name z pz] _ _], .Tuple [a, b, d] _ _ => s.isFn && decide (s.N[i]? = some x) && decide (s.N[j]? = some y) && decide (s.N[l]? = some z) && decide (i ≠ j) && decide (i ≠ l) && decide (j ≠ l) && decide (x ≠ y) && decide (x ≠ z) && decide (y ≠ z) && s.lcl x && s.lcl y && s.lcl z && (py.line == px.line) && (pz.line == px.line) &&
      notStar a && notStar b && notStar d && !(foldedForSure 8 a && (foldedForSure 8 b && foldedForSure 8 d)) && !(constantsAlone 8 a && (constantsAlone 8 b && constantsAlone 8 d)) && chkEs as s [a, b, d]
  | _, _, _ => false
def getTry : Stmt → Option (List Stmt × Str × Option Str × List Stmt)
  | .Try body [.ExceptHandler (some (.Name x _)) nme (b0 :: suite) _] [] [] _ => some (body, x, nme, b0 :: suite)
  | _ => none
theorem getTry_some {st : Stmt} {body suite : List Stmt} {x : Str} {nme : Option Str} (h : getTry st = some (body, x, nme, suite)) : ∃ b0 r np p1 p2, suite = b0 :: r ∧ st = .Try body [.ExceptHandler (some (.Name x np)) nme (b0 :: r) p1] [] [] p2 := by
  unfold getTry at h
  split at h
  · cases h; exact ⟨_, _, _, _, _, rfl, rfl⟩
  · cases h
def getRse : Stmt → Option (Str × List Expr)
  | .Raise (some (.Call (.Name x _) (e :: es) [] _)) none _ => some (x, e :: es)
  | _ => none
theorem getRse_some {st : Stmt} {es : List Expr} {x : Str} (h : getRse st = some (x, es)) : ∃ e r p p1 p2, es = e :: r ∧ st = .Raise (some (.Call (.Name x p) (e :: r) [] p1)) none p2 := by
  unfold getRse at h
  split at h
  · cases h; exact ⟨_, _, _, _, _, rfl, rfl⟩
  · cases h
def okRse (s : Sx) (n : Nat) (as : Es) : Option (Str × List Expr) → Bool
  | some (x, es) => clsAt s n x && decide (clsF n ≠ []) && chkEs as s es
  | none => false
/-- a tuple's names of which one is a cell: no stores are swapped -/
def hasCel (s : Sx) (es : List Expr) : Bool := es.any fun e => match e with
  | .Name x _ => s.cel x
  | _ => false
def swNo (s : Sx) (es : List Expr) (v : Expr) : Bool := notTup v || hasCel s es || (match v with
  | .Tuple vs _ _ => vs.all (foldedForSure 8)
  | _ => false)
def chkAsg (s : Sx) (a : E) : Tg → List Expr → Expr → Bool
  | .nm i, [.Name x p1], v => s.loc i x && chkE a s v && (notComp v || (lcOk s x p1 v && isLc a) || s.cel x)
  | .tp is, [.Tuple es j p1], v => chkTg s (.tp is) (.Tuple es j p1) && swNo s es v && notComp v && chkE a s v
  | _, _, _ => false
mutual
def chkS : Sm → Sx → Stmt → Bool
  | .asg tg a, s, .Assign ts v _ => chkAsg s a tg ts v
  | .par is as, s, .Assign ts v _ => chkPar s as is ts v
  | .set o i a, s, .Assign [.Subscript eo ei _] v _ => notSlice ei && chkE o s eo && chkE i s ei && chkE a s v
  | .aug i op a, s, .AugAssign (.Name x _) op' e _ => decide (op = op') && iopOk op && s.loc i x && chkE a s e
  | .augS o i op a, s, .AugAssign (.Subscript eo ei _) op' e _ => decide (op = op') && iopOk op && notSlice ei && chkE o s eo && chkE i s ei && chkE a s e
  | .exp a, s, .Expr e _ => notComp e && chkE a s e
  | .ret a, s, .Return (some e) _ => chkE a s e
  | .retN, _, .Return none _ => true
  | .ite t a b, s, .If e p q _ => chkE t s e && chkSs a s p && chkSs b s q
  | .for tg it b, s, .For t e body [] _ => notSet e && chkI it s t e && chkTg s tg t && chkSs b s body
  | .whl t b, s, .While e body [] _ => chkE t s e && chkSs b s body
  | .brk, _, .Break _ => true
  | .cnt, _, .Continue _ => true
  | .rse n as, s, st => okRse s n as (getRse st)
  | .tra k i b h, s, st => match getTry st with
    | some (body, x, some nme, suite) => clsAt s k x && decide (s.N[i]? = some nme) && s.lcl nme && chkSs b s body && chkSus h s suite
    | _ => false
  | .trn k b h, s, st => match getTry st with
    | some (body, x, none, suite) => clsAt s k x && chkSs b s body && chkSus h s suite
    | _ => false
  | .pass, _, .Pass _ => true
  | .pass, _, .Expr (.Constant (.str _) _ _) _ => true
  | _, _, _ => false
def chkSs : Sms → Sx → List Stmt → Bool
  | .nil, _, [] => true
  | .cons a r, s, st :: rest => chkS a s st && chkSs r s rest
  | _, _, _ => false
end
theorem sw2 {x y : Str} {px py pt pt2 : Pos} {kt k2} {a b : Expr} {env : Env} (hk : env.scope.kind = .function) (hx : env.scope.names.lookup x = some .local) (hy : env.scope.names.lookup y = some .local) (hxy : x ≠ y) (hl : (py.line == px.line) = true)
    (h1 : notStar a = true) (h2 : notStar b = true) (h3 : (foldedForSure 8 a && foldedForSure 8 b) = false) (h4 : (constantsAlone 8 a && constantsAlone 8 b) = false) :
    swappedStores [.Tuple [.Name x px, .Name y py] kt pt] (.Tuple [a, b] k2 pt2) env = pure (some [x, y]) := by
  have ky : env.kindOf y = some .local := hy
  have kx : env.kindOf x = some .local := hx
  have hb : env.blockKind = .function := by unfold Env.blockKind; rw [hk]; rfl
  have hl2 : py.line = px.line := by simpa using hl
  have e1 : (y == x) = false := by simpa using Ne.symm hxy
  have e2 : (x == y) = false := by simpa using hxy
  unfold swappedStores
  have h3' : ¬ (foldedForSure 8 a = true ∧ foldedForSure 8 b = true) := by simpa using h3
  have h4' : ¬ (constantsAlone 8 a = true ∧ constantsAlone 8 b = true) := by simpa using h4
  have hd : ([x, y] : List Str).eraseDups = [x, y] := by simp [List.eraseDups_cons, e1]
  simp [hb, kx, ky, Expr.pos, hl2, List.eraseDups_cons, e1, e2, h3', h4', hxy, Ne.symm hxy]
  intro hh
  exfalso
  rcases hh with hh | hh
  · revert h1; cases a <;> first | (intro h1; exact Bool.false_ne_true h1) | (intro _; exact Bool.false_ne_true hh)
  · revert h2; cases b <;> first | (intro h1; exact Bool.false_ne_true h1) | (intro _; exact Bool.false_ne_true hh)
theorem sw3 {x y z : Str} {px py pz pt pt2 : Pos} {kt k2} {a b d : Expr} {env : Env} (hk : env.scope.kind = .function) (hx : env.scope.names.lookup x = some .local) (hy : env.scope.names.lookup y = some .local) (hz : env.scope.names.lookup z = some .local) (hxy : x ≠ y) (hxz : x ≠ z) (hyz : y ≠ z) (hl : (py.line == px.line) = true) (hm : (pz.line == px.line) = true)
    (h1 : notStar a = true) (h2 : notStar b = true) (h5 : notStar d = true) (h3 : (foldedForSure 8 a && (foldedForSure 8 b && foldedForSure 8 d)) = false) (h4 : (constantsAlone 8 a && (constantsAlone 8 b && constantsAlone 8 d)) = false) :
    swappedStores [.Tuple [.Name x px, .Name y py, .Name z pz] kt pt] (.Tuple [a, b, d] k2 pt2) env = pure (some [x, y, z]) := by
  have ky : env.kindOf y = some .local := hy
  have kx : env.kindOf x = some .local := hx
  have kz : env.kindOf z = some .local := hz
  have hb : env.blockKind = .function := by unfold Env.blockKind; rw [hk]; rfl
  have hl2 : py.line = px.line := by simpa using hl
  have hm2 : pz.line = px.line := by simpa using hm
  unfold swappedStores
  have h3' : ¬ (foldedForSure 8 a = true ∧ foldedForSure 8 b = true ∧ foldedForSure 8 d = true) := by simpa using h3
  have h4' : ¬ (constantsAlone 8 a = true ∧ constantsAlone 8 b = true ∧ constantsAlone 8 d = true) := by simpa using h4
  simp [hb, kx, ky, kz, Expr.pos, hl2, hm2, List.eraseDups_cons, h3', h4', hxy, Ne.symm hxy, hxz, Ne.symm hxz, hyz, Ne.symm hyz]
  intro hh
  exfalso
  rcases hh with hh | hh | hh
  · revert h1; cases a <;> first | (intro h1; exact Bool.false_ne_true h1) | (intro _; exact Bool.false_ne_true hh)
  · revert h2; cases b <;> first | (intro h1; exact Bool.false_ne_true h1) | (intro _; exact Bool.false_ne_true hh)
  · revert h5; cases d <;> first | (intro h1; exact Bool.false_ne_true h1) | (intro _; exact Bool.false_ne_true hh)
theorem swaps_cell {x : Str} {p : Pos} {e : Expr} {l : Nat} {env : Env} (h : env.scope.names.lookup x = some .cell) : swapsWith e (some (.Name x p)) l env = pure false := by
  have k : env.kindOf x = some .cell := h
  unfold swapsWith
  have e1 : (env.kindOf x == some NameKind.local) = false := by rw [k]; rfl
  cases e <;> first | rfl | (simp only [e1, Bool.and_false, Bool.false_and]; done) | (simp only [e1, Bool.and_false, Bool.false_and]; rfl)
theorem sws_not {t e : Expr} (h : notComp e = true) (l : Nat) (env : Env) : swapsWithSole [t] e l env = pure false := swaps_not h _ _ _
theorem sws_tup {t : Expr} {es : List Expr} {j : Nat} {p : Pos} (l : Nat) (env : Env) : swapsWithSole [t] (.Tuple es j p) l env = pure false := rfl
theorem fm_ne {α β : Type} {f : α → Option β} : ∀ {xs : List α}, (∃ x ∈ xs, f x = none) → (xs.filterMap f).length ≠ xs.length
  | [], ⟨_, h, _⟩ => by cases h
  | y :: ys, ⟨x, h, e⟩ => by
    have l : (ys.filterMap f).length ≤ ys.length := List.length_filterMap_le ..
    rcases List.mem_cons.mp h with rfl | h
    · rw [List.filterMap_cons, e, List.length_cons]
      show (ys.filterMap f).length ≠ _
      omega
    · have ih := fm_ne (f := f) ⟨x, h, e⟩
      rw [List.filterMap_cons]
      cases q : f y with
      | none => simp only; rw [List.length_cons]; omega
      | some z => simp only; rw [List.length_cons, List.length_cons]; omega
theorem stores_no {s : Sx} {env : Env} {es : List Expr} {v : Expr} {k : Nat} {p : Pos} (he : env.scope = s.sc) (h : swNo s es v = true) : swappedStores [.Tuple es k p] v env = pure none := by
  unfold swNo at h
  rw [Bool.or_eq_true, Bool.or_eq_true] at h
  cases v with
  | Tuple vs k2 p2 =>
    have h : hasCel s es = true ∨ vs.all (foldedForSure 8) = true := by
      rcases h with (h | h) | h
      · exact (Bool.false_ne_true h).elim
      · exact .inl h
      · exact .inr h
    unfold swappedStores
    simp only [pure_bind]
    split
    · rfl
    try simp only [pure_bind]
    split
    · rfl
    try simp only [pure_bind]
    split
    · rfl
    rename_i hn
    try simp only [pure_bind]
    split
    · rfl
    rename_i hf
    exfalso
    rcases h with h | h
    · unfold hasCel at h
      obtain ⟨x, hx, hc⟩ := List.any_eq_true.mp h
      apply hn
      rw [Bool.or_eq_true]
      left
      rw [bne_iff_ne]
      refine fm_ne ⟨x, hx, ?_⟩
      cases x with
      | Name id pos =>
        have hc : s.cel id = true := hc
        have : env.kindOf id = some .cell := by
          show env.scope.names.lookup id = _
          rw [he]; exact of_decide_eq_true hc
        simp [this]
      | _ => rfl
    · exact hf h
  | _ => rfl
variable {P : Nat → Pm} {G : Nat → W}
theorem par_of {c : Cst} {Wx : WX} {is : List Nat} {a : WEs} {D : Ends} {σ : L2.St} {H : Hp} (h : tS c Wx (mPar is a) D σ H) : tA c Wx a σ H fun vs H1 => vs.length = is.length ∧ D.nx (sets σ is vs) H1 := by
  obtain ⟨E, ρ, S, re, rs, hm, rd⟩ := h
  refine ⟨ρ, S, _, E.ex ρ, re, rs, hm, fun ws S1 H1 vs k1 e1 rs1 rv => ?_, rd.ex re rs⟩
  exact ⟨by rw [← rv.length]; exact k1.1, rd.nx _ S1 _ H1 k1.2 e1 (RE.sets (re.tst (e1.tst rs)) rv) rs1⟩
theorem par2_of {c : Cst} {Wx : WX} {i j : Nat} {a : WEs} {D : Ends} {σ : L2.St} {H : Hp} (h : tS c Wx (mPar [i, j] a) D σ H) : tPar i j (tA c Wx a) D σ H := by
  obtain ⟨ρ, S, Kk, Ek, re, rs, hm, po, px⟩ := par_of h
  refine ⟨ρ, S, Kk, Ek, re, rs, hm, fun ws S1 H1 vs k1 e1 rs1 rv => ?_, px⟩
  obtain ⟨hl, q⟩ := po ws S1 H1 vs k1 e1 rs1 rv
  match vs, hl, q with
  | [v, w], _, q => exact ⟨v, w, rfl, q⟩
theorem par3_of {c : Cst} {Wx : WX} {i j l : Nat} {a : WEs} {D : Ends} {σ : L2.St} {H : Hp} (h : tS c Wx (mPar [i, j, l] a) D σ H) : tPar3 i j l (tA c Wx a) D σ H := by
  obtain ⟨ρ, S, Kk, Ek, re, rs, hm, po, px⟩ := par_of h
  refine ⟨ρ, S, Kk, Ek, re, rs, hm, fun ws S1 H1 vs k1 e1 rs1 rv => ?_, px⟩
  obtain ⟨hl, q⟩ := po ws S1 H1 vs k1 e1 rs1 rv
  match vs, hl, q with
  | [v, w, u], _, q => exact ⟨v, w, u, rfl, q⟩
theorem lcl_of {s : Sx} {x : Str} (h : s.lcl x = true) : s.sc.names.lookup x = some .local := of_decide_eq_true h
theorem Okx.nth {c : Cst} {X : Cx} {Wx : WX} {k : Nat} {s : Sx} (o : Okx c X Wx k P G s) {i : Nat} {x : Str} (h : s.N[i]? = some x) : X.N[i]? = some x := by rw [o.eN]; exact h
theorem Okx.lk {c : Cst} {X : Cx} {Wx : WX} {k : Nat} {s : Sx} (o : Okx c X Wx k P G s) {x : Str} (h : s.lcl x = true) : X.env.scope.names.lookup x = some .local := by rw [o.esc]; exact lcl_of h
theorem s_asgN {c : Cst} {X : Cx} {Wx : WX} {k : Nat} {s : Sx} (o : Okx c X Wx k P G s) (i : Nat) (a : E) (x : Str) (p1 pos : Pos) (v : Expr) (h : (s.loc i x && chkE a s v && (notComp v || (lcOk s x p1 v && isLc a) || s.cel x)) = true) : PS X (.Assign [.Name x p1] v pos) (tS c Wx (mAsg (.nm i) (dE P G a))) := by
  simp only [Bool.and_eq_true, Bool.or_eq_true] at h
  obtain ⟨⟨h1, h2⟩, h3⟩ := h
  rcases h3 with (h3 | h3) | h3
  · obtain ⟨l1, l2, l3⟩ := o.loca h1
    exact PS.imp (ps_set o.nd l1 l2 (sE a o v h2) (swaps_not h3 _ _ _) l3) fun D σ H q => asg_of (fun _ _ _ q => q) q
  rotate_left
  · obtain ⟨l1, l2, l3⟩ := o.loca h1
    have hc : X.env.scope.names.lookup x = some .cell := by rw [o.esc]; exact of_decide_eq_true h3
    exact PS.imp (ps_set o.nd l1 l2 (sE a o v h2) (swaps_cell hc) l3) fun D σ H q => asg_of (fun _ _ _ q => q) q
  · obtain ⟨l1, _, _⟩ := o.loca h1
    obtain ⟨h3, h4⟩ := h3
    have key : ∀ (el : E) (tg : Tg) (it : It') (cd : Eo) (own : List (Str × Nat)), chkE (.comp el tg it cd own) s v = true → ∃ te : TE, PS X (.Assign [.Name x p1] v pos) (tAsg te (gName i)) ∧ ∀ σ H Q, tE c Wx (mComp (dI P G it) tg (dC P G cd) (dE P G el) (own.map (·.2))) σ H Q → te σ H Q := by
      intro el tg it cd own h2
      cases v with
      | ListComp e gs scope p =>
        match gs, h2 with
        | [⟨t, iter, ifs, 0⟩], h =>
          have h : (blkC s.N s.sc scope own && decide (∀ i ∈ tg.own, i ∈ own.map (·.2)) && notSet iter && chkI it s t iter && chkTg (s.blk scope) tg t && chkC1 cd (s.blk scope) ifs && chkE el (s.blk scope) e) = true := h
          simp only [Bool.and_eq_true, decide_eq_true_eq] at h
          obtain ⟨⟨⟨⟨⟨⟨h1, h2⟩, h3'⟩, h4⟩, h5⟩, h6⟩, h7⟩ := h
          have ok : BlkOk X.N X.env.scope scope own := by
            rw [o.eN, o.esc]
            exact blkOk_by h1
          have h3 : (s.isFn && s.lcl x && (p1.line == p.line) && ((scope.names.any fun (n, k) => n == x && (k == .local || k == .cell)) == false)) = true := h3
          simp only [Bool.and_eq_true] at h3
          obtain ⟨⟨⟨g1, g2⟩, g3⟩, g4⟩ := h3
          have kf : X.env.scope.kind = .function := by rw [o.esc]; exact of_decide_eq_true g1
          exact ⟨_, ps_setLc o.calm o.nd l1 (o.lk g2) (sw_true kf (o.lk g2) g3 (by simpa using g4)) (sI it o t iter h4) ok (fun s1 H C cl fp => s_tg (o.blk s1 H scope C cl fp) h5) (fun s1 H C cl fp => sC cd (o.blk s1 H scope C cl fp) ifs h6)
            (fun s1 H C cl fp => sE el (o.blk s1 H scope C cl fp) e h7) (set_fold h3' _), comp_of h2⟩
      | _ => exact (Bool.false_ne_true h2).elim
    cases a with
    | comp el tg it cd own =>
      obtain ⟨te, h5, h6⟩ := key el tg it cd own h2
      exact PS.imp h5 fun D σ H q => asg_of (te := te) h6 q
    | fz a =>
      cases a with
      | comp el tg it cd own =>
        obtain ⟨te, h5, h6⟩ := key el tg it cd own h2
        exact PS.imp (ps_fz h5) fun D σ H q => asgFz_of (te := te) h6 q
      | _ => exact (Bool.false_ne_true h4).elim
    | _ => exact (Bool.false_ne_true h4).elim
theorem s_asgAll {c : Cst} {X : Cx} {Wx : WX} {k : Nat} {s : Sx} (o : Okx c X Wx k P G s) (tg : Tg) (a : E) (ts : List Expr) (v : Expr) (pos : Pos) (h : chkAsg s a tg ts v = true) : PS X (.Assign ts v pos) (tS c Wx (mAsg tg (dE P G a))) := by
  cases tg with
  | nm i =>
    match ts, h with
    | [.Name x p1], h => exact s_asgN o i a x p1 pos v h
  | tp is =>
    match ts, h with
    | [.Tuple es j p1], h =>
      have h : (chkTg s (.tp is) (.Tuple es j p1) && swNo s es v && notComp v && chkE a s v) = true := h
      simp only [Bool.and_eq_true] at h
      obtain ⟨⟨⟨h1, h2⟩, h3⟩, h4⟩ := h
      exact PS.imp (ps_asg (sE a o v h4) (s_tg o h1) (sws_not h3 _ _) (stores_no o.esc h2) rfl) fun D σ H q => asg_of (fun _ _ _ q => q) q
  | tk i is =>
    match ts, h with
    | [], h => exact (Bool.false_ne_true h).elim
    | _ :: _, h => exact (Bool.false_ne_true h).elim
/-- a def's own frame -/
structure Oky (X : Cx) : Prop where
  hs : X.stack = X.env :: X.outer
  hf : X.env.frame = some X.env.locals
theorem Oky.tr {X : Cx} (y : Oky X) (pn : List (Addr × Obj)) (xe : Value → Shared → Prop) : Oky (X.tr pn xe) := ⟨y.hs, y.hf⟩
theorem Okx.tr {c : Cst} {X : Cx} {Wx W : WX} {k : Nat} {s : Sx} (o : Okx c X Wx k P G s) {pn : List (Addr × Obj)} {xe : Value → Shared → Prop} (tk : Takes (X.tr pn xe) W) (po : PassesOwn (model X.prog X.w) X.A X.env xe) : Okx c (X.tr pn xe) W k P G s :=
  ⟨o.hK, o.calm, o.nd, o.gd, o.room, tk, po, o.eN, o.esc, o.efn, o.bl, o.fns, o.ecl, o.cl, o.bet, o.r2, o.gls⟩
theorem s_rseAll {c : Cst} {X : Cx} {Wx : WX} {k : Nat} {s : Sx} (o : Okx c X Wx k P G s) (n : Nat) (as : Es) (st : Stmt) (h : okRse s n as (getRse st) = true) : PS X st (tS c Wx (mRse n (dEs P G as))) := by
  cases e : getRse st with
  | none => rw [e] at h; exact (Bool.false_ne_true h).elim
  | some t =>
    obtain ⟨x, es⟩ := t
    rw [e] at h
    have h : (clsAt s n x && decide (clsF n ≠ []) && chkEs as s es) = true := h
    simp only [Bool.and_eq_true, decide_eq_true_eq] at h
    obtain ⟨⟨h1, h2⟩, h3⟩ := h
    obtain ⟨e0, r, p, p1, p2, rfl, rfl⟩ := getRse_some e
    unfold clsAt at h1
    simp only [Bool.and_eq_true, decide_eq_true_eq] at h1
    obtain ⟨⟨rfl, hn⟩, hg⟩ := h1
    have k2 := o.r2 (List.ne_nil_of_mem hn)
    have stz := chkEs_star h3
    exact s_rse o.hK o.calm o.tk (o.room.mono k2) (o.cl n hn) h2 (o.ecl ▸ hn) (o.gl hg).1 (o.gl hg).2 (sEs as o _ h3) (star_cons (stz e0 (List.mem_cons_self ..)) _) (star_plain (tail_star stz))
mutual
theorem sS : ∀ (a : Sm) {c : Cst} {X : Cx} {Wx : WX} {k : Nat} {s : Sx} (o : Okx c X Wx k P G s) (y : Oky X) (st : Stmt), chkS a s st = true → PS X st (tS c Wx (dS P G a))
  | .asg tg a, c, X, Wx, k, s, o, y, st, h => by
    cases st with
    | Assign ts v pos => exact s_asgAll o tg a ts v pos h
    | _ => exact (Bool.false_ne_true h).elim
  | .par is as, c, X, Wx, k, s, o, y, st, h => by
    cases st with
    | Assign ts v pos =>
      match is, ts, v, h with
      | [i, j], [.Tuple [.Name x px, .Name y py] _ _], .Tuple [a, b] _ _, h =>
        have h : (s.isFn && decide (s.N[i]? = some x) && decide (s.N[j]? = some y) && decide (i ≠ j) && decide (x ≠ y) && s.lcl x && s.lcl y && (py.line == px.line) && notStar a && notStar b && !(foldedForSure 8 a && foldedForSure 8 b) && !(constantsAlone 8 a && constantsAlone 8 b) && chkEs as s [a, b]) = true := h
        simp only [Bool.and_eq_true, decide_eq_true_eq] at h
        obtain ⟨⟨⟨⟨⟨⟨⟨⟨⟨⟨⟨⟨h1, h2⟩, h3⟩, h4⟩, h5⟩, h6⟩, h7⟩, h8⟩, h9⟩, h10⟩, h11⟩, h12⟩, h13⟩ := h
        have kf : X.env.scope.kind = .function := by rw [o.esc]; exact of_decide_eq_true h1
        exact PS.imp (ps_par o.calm o.nd (o.nth h2) (o.nth h3) h4 (o.lk h6) (o.lk h7) (sEs as o [a, b] h13) (sw2 kf (o.lk h6) (o.lk h7) h5 h8 h9 h10 (by rw [Bool.not_eq_true'] at h11; exact h11) (by rw [Bool.not_eq_true'] at h12; exact h12)) rfl) fun D σ H q => par2_of q
      | [i, j, l], [.Tuple [.Name x px, .Name y py, .Name z pz] _ _], .Tuple [a, b, d] _ _, h =>
        have h : (s.isFn && decide (s.N[i]? = some x) && decide (s.N[j]? = some y) && decide (s.N[l]? = some z) && decide (i ≠ j) && decide (i ≠ l) && decide (j ≠ l) && decide (x ≠ y) && decide (x ≠ z) && decide (y ≠ z) && s.lcl x && s.lcl y && s.lcl z && (py.line == px.line) && (pz.line == px.line) &&
          notStar a && notStar b && notStar d && !(foldedForSure 8 a && (foldedForSure 8 b && foldedForSure 8 d)) && !(constantsAlone 8 a && (constantsAlone 8 b && constantsAlone 8 d)) && chkEs as s [a, b, d]) = true := h
        simp only [Bool.and_eq_true, decide_eq_true_eq] at h
        obtain ⟨⟨⟨⟨⟨⟨⟨⟨⟨⟨⟨⟨⟨⟨⟨⟨⟨⟨⟨⟨h1, h2⟩, h3⟩, h3'⟩, h4⟩, h4'⟩, h4''⟩, h5⟩, h5'⟩, h5''⟩, h6⟩, h7⟩, h7'⟩, h8⟩, h8'⟩, h9⟩, h10⟩, h10'⟩, h11⟩, h12⟩, h13⟩ := h
        have kf : X.env.scope.kind = .function := by rw [o.esc]; exact of_decide_eq_true h1
        exact PS.imp (ps_par3 o.calm o.nd (o.nth h2) (o.nth h3) (o.nth h3') h4 h4' h4'' (o.lk h6) (o.lk h7) (o.lk h7') (sEs as o [a, b, d] h13) (sw3 kf (o.lk h6) (o.lk h7) (o.lk h7') h5 h5' h5'' h8 h8' h9 h10 h10' (by rw [Bool.not_eq_true'] at h11; exact h11) (by rw [Bool.not_eq_true'] at h12; exact h12)) rfl) fun D σ H q => par3_of q
    | _ => exact (Bool.false_ne_true h).elim
  | .set oo i a, c, X, Wx, k, s, o, y, st, h => by
    cases st with
    | Assign ts v pos =>
      match ts, h with
      | [.Subscript eo ei p1], h =>
        have h : (notSlice ei && chkE oo s eo && chkE i s ei && chkE a s v) = true := h
        simp only [Bool.and_eq_true] at h
        obtain ⟨⟨⟨h1, h2⟩, h3⟩, h4⟩ := h
        exact s_set (by have := o.un; omega) (sE oo o eo h2) (sE i o ei h3) (sE a o v h4) (assign_sub h1 _) (swaps_sub _ _) (stores_sub _) rfl
    | _ => exact (Bool.false_ne_true h).elim
  | .aug i op a, c, X, Wx, k, s, o, y, st, h => by
    cases st with
    | AugAssign t op' e pos =>
      cases t with
      | Name x p1 =>
        have h : (decide (op = op') && iopOk op && s.loc i x && chkE a s e) = true := h
        simp only [Bool.and_eq_true, decide_eq_true_eq] at h
        obtain ⟨⟨⟨rfl, h1⟩, h2⟩, h3⟩ := h
        obtain ⟨l1, l2, l3⟩ := o.loca h2
        cases op with
        | Add => exact PS.imp (ps_aug o.nd l1 l2 (sE a o e h3) (pip_of r_iadd) l3) fun D σ H q => aug_of o_iadd q
        | Sub => exact PS.imp (ps_aug o.nd l1 l2 (sE a o e h3) (pip_of iop_sub) l3) fun D σ H q => aug_of o_isub q
        | _ => exact (Bool.false_ne_true h1).elim
      | _ => exact (Bool.false_ne_true h).elim
    | _ => exact (Bool.false_ne_true h).elim
  | .augS oo i op a, c, X, Wx, k, s, o, y, st, h => by
    cases st with
    | AugAssign t op' e pos =>
      cases t with
      | Subscript eo ei p1 =>
        have h : (decide (op = op') && iopOk op && notSlice ei && chkE oo s eo && chkE i s ei && chkE a s e) = true := h
        simp only [Bool.and_eq_true, decide_eq_true_eq] at h
        obtain ⟨⟨⟨⟨⟨rfl, h1⟩, h2⟩, h3⟩, h4⟩, h5⟩ := h
        have hu : X.A.units + 1 < cLine := by have := o.un; omega
        cases op with
        | Add => exact s_augS o.hK hu (sE oo o eo h3) (sE i o ei h4) (sE a o e h5) r_iadd o_iadd (aug_store h2)
        | Sub => exact s_augS o.hK hu (sE oo o eo h3) (sE i o ei h4) (sE a o e h5) iop_sub o_isub (aug_store h2)
        | _ => exact (Bool.false_ne_true h1).elim
      | _ => exact (Bool.false_ne_true h).elim
    | _ => exact (Bool.false_ne_true h).elim
  | .exp a, c, X, Wx, k, s, o, y, st, h => by
    cases st with
    | Expr e pos =>
      have h : (notComp e && chkE a s e) = true := h
      rw [Bool.and_eq_true] at h
      exact s_exp (sE a o e h.2) (swaps_not h.1 _ _ _)
    | _ => exact (Bool.false_ne_true h).elim
  | .ret a, c, X, Wx, k, s, o, y, st, h => by
    cases st with
    | Return e pos =>
      cases e with
      | some e => exact s_ret (sE a o e h)
      | none => exact (Bool.false_ne_true h).elim
    | _ => exact (Bool.false_ne_true h).elim
  | .retN, c, X, Wx, k, s, o, y, st, h => by
    cases st with
    | Return e pos =>
      cases e with
      | some e => exact (Bool.false_ne_true h).elim
      | none => exact s_retN
    | _ => exact (Bool.false_ne_true h).elim
  | .ite t a b, c, X, Wx, k, s, o, y, st, h => by
    cases st with
    | If e p q pos =>
      have h : (chkE t s e && chkSs a s p && chkSs b s q) = true := h
      simp only [Bool.and_eq_true] at h
      exact s_ite (sT t o e h.1.1) (sSs a o y p h.1.2) (sSs b o y q h.2)
    | _ => exact (Bool.false_ne_true h).elim
  | .for tg it b, c, X, Wx, k, s, o, y, st, h => by
    cases st with
    | For t e body orelse pos =>
      cases orelse with
      | nil =>
        have h : (notSet e && chkI it s t e && chkTg s tg t && chkSs b s body) = true := h
        simp only [Bool.and_eq_true] at h
        exact PS.imp (ps_for o.po o.calm (sI it o t e h.1.1.2) (s_tg o h.1.2) (sSs b o y body h.2) (set_fold h.1.1.1 _)) fun D σ H q => for_of q
      | cons _ _ => exact (Bool.false_ne_true h).elim
    | _ => exact (Bool.false_ne_true h).elim
  | .whl t b, c, X, Wx, k, s, o, y, st, h => by
    cases st with
    | While e body orelse pos =>
      cases orelse with
      | nil =>
        have h : (chkE t s e && chkSs b s body) = true := h
        simp only [Bool.and_eq_true] at h
        exact PS.imp (ps_while o.po (sT t o e h.1) (sSs b o y body h.2)) fun D σ H q => whl_of q
      | cons _ _ => exact (Bool.false_ne_true h).elim
    | _ => exact (Bool.false_ne_true h).elim
  | .brk, c, X, Wx, k, s, o, y, st, h => by
    cases st with
    | Break pos => exact s_brk
    | _ => exact (Bool.false_ne_true h).elim
  | .cnt, c, X, Wx, k, s, o, y, st, h => by
    cases st with
    | Continue pos => exact s_cnt
    | _ => exact (Bool.false_ne_true h).elim
  | .rse n as, c, X, Wx, k, s, o, y, st, h => s_rseAll o n as st h
  | .tra kk i b hd, c, X, Wx, k, s, o, y, st, h => by
    have h : (match getTry st with
      | some (body, x, some nme, suite) => clsAt s kk x && decide (s.N[i]? = some nme) && s.lcl nme && chkSs b s body && chkSus hd s suite
      | _ => false) = true := h
    cases e : getTry st with
    | none => rw [e] at h; exact (Bool.false_ne_true h).elim
    | some t =>
      obtain ⟨body, x, nme, suite⟩ := t
      rw [e] at h
      cases nme with
      | none => exact (Bool.false_ne_true h).elim
      | some nme =>
        have h : (clsAt s kk x && decide (s.N[i]? = some nme) && s.lcl nme && chkSs b s body && chkSus hd s suite) = true := h
        simp only [Bool.and_eq_true, decide_eq_true_eq] at h
        obtain ⟨⟨⟨⟨h1, h2⟩, h3⟩, h4⟩, h5⟩ := h
        obtain ⟨b0, r, np, p1, p2, rfl, rfl⟩ := getTry_some e
        exact s_tryAs o.oks y.hs y.hf o.tk (o.nth h2) (o.lk h3) h1 (fun W pn xe tk po => sSs b (o.tr tk po) (y.tr pn xe) body h4) h5
  | .trn kk b hd, c, X, Wx, k, s, o, y, st, h => by
    have h : (match getTry st with
      | some (body, x, none, suite) => clsAt s kk x && chkSs b s body && chkSus hd s suite
      | _ => false) = true := h
    cases e : getTry st with
    | none => rw [e] at h; exact (Bool.false_ne_true h).elim
    | some t =>
      obtain ⟨body, x, nme, suite⟩ := t
      rw [e] at h
      cases nme with
      | some _ => exact (Bool.false_ne_true h).elim
      | none =>
        have h : (clsAt s kk x && chkSs b s body && chkSus hd s suite) = true := h
        simp only [Bool.and_eq_true] at h
        obtain ⟨⟨h1, h4⟩, h5⟩ := h
        obtain ⟨b0, r, np, p1, p2, rfl, rfl⟩ := getTry_some e
        exact s_try o.oks y.hs y.hf o.tk h1 (fun W pn xe tk po => sSs b (o.tr tk po) (y.tr pn xe) body h4) h5
  | .pass, c, X, Wx, k, s, o, y, st, h => by
    cases st with
    | Pass pos => exact s_pass
    | Expr e pos =>
      match e, h with
      | .Constant (.str x) _ _, _ => exact s_doc
    | _ => exact (Bool.false_ne_true h).elim
theorem sSs : ∀ (a : Sms) {c : Cst} {X : Cx} {Wx : WX} {k : Nat} {s : Sx} (o : Okx c X Wx k P G s) (y : Oky X) (st : List Stmt), chkSs a s st = true → PSs X st (tS c Wx (dSs P G a))
  | .nil, c, X, Wx, k, s, o, y, [], _ => s_skip
  | .nil, c, X, Wx, k, s, o, y, _ :: _, h => (Bool.false_ne_true h).elim
  | .cons a r, c, X, Wx, k, s, o, y, [], h => (Bool.false_ne_true h).elim
  | .cons a r, c, X, Wx, k, s, o, y, st :: rest, h => by
    have h : (chkS a s st && chkSs r s rest) = true := h
    rw [Bool.and_eq_true] at h
    exact s_then (sS a o y st h.1) (sSs r o y rest h.2)
end
/-! ### a def -/
/-- the callees and the constants of a whole, as the layer asks for them -/
structure Whole (c : Cst) (P : Program) (w : World) (mg : Str → Option Value) (base : Heap) (k : Nat) (p : Nat → Pm) (G : Nat → W) (fns gls : List Str) : Prop where
  bl : ∀ x ∈ bnames, mg x = none
  fns : ∀ (j : Nat) (x : Str), fns[j]? = some x → ∃ f fd ps, mg x = some (.ref f) ∧ PySem.W.keepIn c.K (.ref f) = true ∧ Binds c.K fd ps [] ∧ GOk P w c.K mg base k f fd ps (spOf c (p j))
  gls : ∀ (j : Nat) (x : Str), gls[j]? = some x → ∃ u v, mg x = some u ∧ RelV v u ∧ ∀ H, RV c.K H (G j) v
  cl : ∀ n ∈ c.cls, ClOk P w c.K mg base c.cl n
  bet : BetOk c.K c.cl c.cls
  r2 : c.cls ≠ [] → 2 ≤ k
/-- the meaning of a def's body by a promise -/
def Keeps (p : Nat → Pm) (G : Nat → W) (n : Nat) (np : Nat) (b : Sms) (q : Pm) : Prop := ∀ ws S Kk Ek, q ws S Kk Ek → ws.length = np ∧ dSs p G b { nx := fun _ S' => fgt S' (Kk .non), rt := fun w S' => fgt S' (Kk w), bk := fun _ _ => False, ct := fun _ _ => False, ex := fun _ x S' => fgt S' (Ek x) } (startW n ws) S
theorem def_ok {c : Cst} {P : Program} {w : World} {mg : Str → Option Value} {base : Heap} {k : Nat} {p : Nat → Pm} {G : Nat → W} {fns gls : List Str} {f : Addr} {x qual : Str} {params : Arguments} {body : List Stmt} {scope : Scope} {fd : FuncData} {N ps : List Str} {b : Sms} {q : Pm}
    (F : FunD c.K x qual params body scope [] [] f fd) (S : FnScope N ps scope) (hc : chkSs b ⟨N, scope, fun _ => true, fns, gls, c.cls⟩ body = true) (W : Whole c P w mg base k p G fns gls) (hq : Keeps p G N.length ps.length b q) : GOk P w c.K mg base (k + 1) f fd ps (spOf c q) := by
  refine g_of F S (fun vs H Q E h => ?_) fun cdv A outer s H vs Q E hg hr h => ?_
  · obtain ⟨ws, S, Kk, Ek, rv, _, hm, _⟩ := h
    rw [← rv.length]
    exact (hq ws S Kk Ek hm).1
  · obtain ⟨ws, S', Kk, Ek, rv, rs, hm, po, px⟩ := h
    have o : Okx c (cxOf (L2.CX P w) P w c.K mg base N qual scope f cdv A outer s H E) (fun cls d _ H => E cls d H) k p G ⟨N, scope, fun _ => true, fns, gls, c.cls⟩ := {
      hK := rfl, calm := rfl, nd := S.nd, gd := hg, room := hr, tk := takes_of rfl rfl rfl rfl, po := passes_of rfl, eN := rfl, esc := rfl, efn := rfl, bl := W.bl, fns := W.fns, gls := W.gls, ecl := rfl, cl := W.cl, bet := W.bet, r2 := W.r2 }
    refine ⟨_, sSs b o ⟨rfl, rfl⟩ body hc, ?_⟩
    refine ⟨{ nx := fun _ S' => fgt S' (Kk .non), rt := fun w S' => fgt S' (Kk w), bk := fun _ _ => False, ct := fun _ _ => False, ex := fun _ x S' => fgt S' (Ek x) }, startW N.length ws, S', re_start rv, rs, (hq ws S' Kk Ek hm).2, ⟨fun ρ' S1 σ' H' k1 e r1 s1 => ?_, fun w' S1 H1 v k1 e s1 r1 => ?_, fun _ _ _ _ k1 => k1.elim, fun _ _ _ _ k1 => k1.elim, fun ρ' S1 σ' H1 x cls d k1 e1 _ rs1 rx => ?_⟩⟩
    · have k1 : fgt S1 (Kk .non) := k1
      unfold fgt at k1
      obtain ⟨A, l, k1⟩ := k1
      exact po .non A H' .non k1 (e.le l) (s1.le l) .non
    · have k1 : fgt S1 (Kk w') := k1
      unfold fgt at k1
      obtain ⟨A, l, k1⟩ := k1
      exact po w' A H1 v k1 (e.le l) (s1.le l) r1
    · have k1 : fgt S1 (Ek x) := k1
      unfold fgt at k1
      obtain ⟨A, l, k1⟩ := k1
      exact px x A H1 cls d k1 (e1.le l) (rs1.le l) rx
/-- a promise that speaks of a feed, kept from within: the feed may be opened -/
theorem open_fd {K : PySem.W.Frag} {H : Hp} {S : Sto} {f : Addr} {k : Fk} {n : Nat} (rs : RS K H S) (h : S f = some (.fd k n)) : ∃ (its : List Int) (x y z : Int), its.length ≤ 63 ∧ 0 ≤ x ∧ x ≤ n ∧ 0 ≤ z ∧ z ≤ n ∧ RS K H (S.put f (fdW k its x y z)) := by
  obtain ⟨o, h1, r⟩ := rs f _ h
  cases r with
  | @fd _ _ its x y z _ r l a b c d =>
    refine ⟨its, x, y, z, l, a, b, c, d, fun b e q => ?_⟩
    by_cases hb : b = f
    · subst hb
      rw [put_same] at q; cases q
      exact ⟨o, h1, r⟩
    · rw [put_ne hb] at q; exact rs b e q
theorem spOf_open {c : Cst} {q : Pm} {f : List W → Option Addr} {P : Program} {w : World} {mg : Str → Option Value} {base : Heap} {k : Nat} {fa : Addr} {fd : FuncData} {ps : List Str}
    (G : GOk P w c.K mg base k fa fd ps (spOf c fun ws S Kk Ek => ∃ (a : Addr) (kk : Fk) (n : Nat) (its : List Int) (x y z : Int) (S0 : Sto), f ws = some a ∧ S0 a = some (.fd kk n) ∧ S = S0.put a (fdW kk its x y z) ∧ its.length ≤ 63 ∧ 0 ≤ x ∧ x ≤ (n : Int) ∧ 0 ≤ z ∧ z ≤ (n : Int) ∧ q ws S0 Kk Ek))
    (hf : ∀ ws S Kk Ek, q ws S Kk Ek → ∃ a kk n, f ws = some a ∧ S a = some (.fd kk n)) : GOk P w c.K mg base k fa fd ps (spOf c q) := G.imp fun vs H Q E h => by
  obtain ⟨ws, S, Kk, Ek, rv, rs, hm, po, px⟩ := h
  obtain ⟨a, kk, n, e1, e2⟩ := hf ws S Kk Ek hm
  obtain ⟨its, x, y, z, l, x0, x1, z0, z1, rs'⟩ := open_fd rs e2
  have none : ∀ b, (S.put a (fdW kk its x y z)) b = Option.none ↔ S b = Option.none := fun b => by
    by_cases hb : b = a
    · subst hb; rw [put_same, e2]; constructor <;> intro h <;> cases h
    · rw [put_ne hb]
  have ex : ∀ {H' : Hp} {S' : Sto}, Ext H (S.put a (fdW kk its x y z)) H' S' → Ext H S H' S' := fun e b o h1 h2 => e b o h1 ((none b).mpr h2)
  exact ⟨ws, _, Kk, Ek, rv, rs', ⟨a, kk, n, its, x, y, z, S, e1, e2, rfl, l, x0, x1, z0, z1, hm⟩, fun w S' H' v k e r1 r2 => po w S' H' v k (ex e) r1 r2, fun x S' H' cls d k e r1 r2 => px x S' H' cls d k (ex e) r1 r2⟩
/-- a def that is never reached -/
theorem def_no {c : Cst} {P : Program} {w : World} {K : PySem.W.Frag} {mg : Str → Option Value} {base : Heap} {k : Nat} {f : Addr} {fd : FuncData} {ps : List Str} : GOk P w K mg base k f fd ps (spOf c fun _ _ _ _ => False) :=
  ⟨fun vs H Q E h => by obtain ⟨_, _, _, _, _, _, h, _⟩ := h; exact h.elim, fun A outer s H args us vs Q E _ _ _ _ _ h => by obtain ⟨_, _, _, _, _, _, h, _⟩ := h; exact h.elim⟩
end Dp
namespace Dp
open PySem PySem.Spec L2
open PyProof.Rows hiding St

/-! ### a law's end -/
abbrev okLaw (q : Pm) (w : W) (S : Sto) : Prop := q [w] S (fun z _ => z = .bl true) fun _ _ => False
abbrev scrObj (us : List Value) : Obj := { cls := .type "list", data := .seq us.toArray }
/-- from a heap T in which the script alone may be followed -/
theorem at_heap {P : Program} {w : World} {K : PySem.W.Frag} {cl : Nat → Addr} {cls : List Nat} {mg mb : Str → Option Value} {k : Nat} {fa ad : Addr} {fd : FuncData} {x : Str} {q : Pm} {st : Shared} {us : List Value} {ns : List Int} {T : Hp} {z : W} {S : Sto}
    (kin : K.In st.heap) (g1 : st.heap.Ns mainGlobals mg) (g2 : st.heap.Ns builtinsNs mb) (g3 : ∀ y : Str, y ≠ "__name__" → mb y = bootBuiltins y) (g4 : st.heap.NoLimit) (g5 : st.gens = #[])
    (lo : st.heap.get? ad = some (scrObj us)) (rm : Room k callerA) (only : ∀ b u, T b = some u → b = ad ∧ K.lookup ad = none ∧ u = .frz (scrObj us) (.lst (ns.map V.int))) (ok : HOk P w T st.heap)
    (F : ∀ base : Heap, K.In base → base.Ns mainGlobals mg → GOk P w K mg base k fa fd [x] (spOf ⟨K, cl, cls⟩ q)) (bd : ∀ (s : Shared) (u : Value), BindsTo s fd ⟨[u], []⟩ [(x, u)])
    (rs : RS K T S) (rv : RV K T z (.ref ad)) (good : okLaw q z S) :
    codeAny (model P w) callerA (.call (.ref fa) ⟨[.ref ad], []⟩) (fun r s' => r = .ok (.ret (.bool true)) ∧ OldK st.heap s'.heap ∧ s'.os = st.os ∧ AllBare s'.gens) st := by
  have out : ∀ {b : Addr} {o : Obj}, st.heap.get? b = some o → (∀ es n, o.data ≠ .seq es n) → T b = none := by
    intro b o e nd
    cases hb : T b with
    | none => rfl
    | some u =>
      obtain ⟨rfl, _, _⟩ := only b u hb
      rw [lo] at e
      cases e
      exact absurd rfl (nd us.toArray _)
  have nsB : ∀ {b : Addr} {m : Str → Option Value}, st.heap.Ns b m → (hidT st.heap T).Ns b m := by
    rintro b m ⟨o, es, ep, e, d, r⟩
    refine ⟨o, es, ep, hidT_get e (out e fun xs n hx => ?_), d, r⟩
    rw [d] at hx
    cases hx
  have kinB : K.In (hidT st.heap T) := by
    intro b o e
    refine hidT_get (kin b o e) ?_
    cases hb : T b with
    | none => rfl
    | some u =>
      obtain ⟨rfl, hn, _⟩ := only b u hb
      rw [hn] at e
      cases e
  obtain ⟨mc, l1, l2⟩ := g4
  have env : Env0 P w K mg (hidT st.heap T) callerA [] st T := { frames := rfl, mod := ⟨kinB, nsB g1, ⟨mb, nsB g2, g3⟩, ⟨mc, nsB l1, l2⟩⟩, bs := fun b o e => of_hidT e, bsz := Nat.le_of_eq (hidT_size _ _), funs := trivial, frf := (fun b hb => by cases hb), hok := ok, bare := .of_eq g5 }
  have sp : spOf ⟨K, cl, cls⟩ q [.ref ad] T (fun v _ => v = .bl true) (fun _ _ _ => False) := by
    refine ⟨[z], S, _, _, .cons rv .nil, rs, good, fun w' S' H' v e _ _ r => ?_, fun x S' H' cls d e _ _ _ => e⟩
    subst e
    cases r
    rfl
  have run := (F _ kinB (nsB g1)).run callerA [] st T ⟨[.ref ad], []⟩ [.ref ad] [.ref ad] _ _ rfl rm env (bd st (.ref ad)) (.cons rfl .nil) sp
  refine codeAny_mono run fun r s' h => ?_
  match r, h with
  | .error e, h =>
    obtain ⟨_, _, _, _, _, _, _, _, _, _, _, _, no⟩ := h
    exact no.elim
  | .ok .next, h => exact False.elim h
  | .ok .brk, h => exact False.elim h
  | .ok .cont, h => exact False.elim h
  | .ok (.ret u), h =>
    obtain ⟨v, T', os, bare, un, ok', rel, hv⟩ := h
    have hv : v = .bl true := hv
    subst hv
    have hu : u = Value.bool true := rel
    subst hu
    refine ⟨rfl, OldK.of_keep ?_, os, bare⟩
    intro b o e
    cases hb : T b with
    | none => exact un.keep b o e hb (fun m => by cases m) (fun m => by cases m)
    | some u =>
      obtain ⟨rfl, _, rfl⟩ := only b u hb
      rw [lo] at e
      cases e
      exact (ok' b _ (un.frzs b _ _ hb)).1
theorem law_run {P : Program} {w : World} {K : PySem.W.Frag} {cl : Nat → Addr} {cls : List Nat} {mg mb : Str → Option Value} {k : Nat} {fa ad : Addr} {fd : FuncData} {x : Str} {q : Pm} {st : Shared} {us : List Value} {ns : List Int}
    (kin : K.In st.heap) (g1 : st.heap.Ns mainGlobals mg) (g2 : st.heap.Ns builtinsNs mb) (g3 : ∀ y : Str, y ≠ "__name__" → mb y = bootBuiltins y) (g4 : st.heap.NoLimit) (g5 : st.gens = #[])
    (lo : st.heap.get? ad = some (scrObj us)) (rm : Room k callerA) (iv : IntsAre us ns) (fit : ns.length ≤ sizeLine)
    (F : ∀ base : Heap, K.In base → base.Ns mainGlobals mg → GOk P w K mg base k fa fd [x] (spOf ⟨K, cl, cls⟩ q)) (bd : ∀ (s : Shared) (u : Value), BindsTo s fd ⟨[u], []⟩ [(x, u)])
    (good : ∀ z, z = .lst (ns.map W.int) ∨ z = .kls (ns.map W.int) → okLaw q z fun _ => none) :
    codeAny (model P w) callerA (.call (.ref fa) ⟨[.ref ad], []⟩) (fun r s' => r = .ok (.ret (.bool true)) ∧ OldK st.heap s'.heap ∧ s'.os = st.os ∧ AllBare s'.gens) st := by
  have vals := vals_ints iv
  have len := iv.length
  have rvs : ∀ T : Hp, RVs K T (ns.map W.int) (ns.map V.int) := fun T => by
    clear iv fit good vals len
    induction ns with
    | nil => exact .nil
    | cons n ns ih => exact .cons (.int n) ih
  cases own : K.lookup ad with
  | some o =>
    have e := kin ad o own
    rw [lo] at e
    cases e
    refine at_heap (ns := ns) (T := fun _ => none) kin g1 g2 g3 g4 g5 lo rm (fun b u h => by cases h) (fun b u h => by cases h) F bd (z := .kls (ns.map W.int)) (S := fun _ => none) (fun b u h => by cases h) (.kls (vs := ns.map V.int) (fun H => .inr ⟨_, us.toArray, _, own, rfl, rfl, rfl, ?_, ?_⟩) (rvs _)) (good _ (.inr rfl))
    · rw [List.size_toArray, len]; exact fit
    · simpa using vals
  | none =>
    let T : Hp := fun b => if b = ad then some (.frz (scrObj us) (.lst (ns.map V.int))) else none
    have one : ∀ b u, T b = some u → b = ad ∧ u = .frz (scrObj us) (.lst (ns.map V.int)) := fun b u h => by
      by_cases hb : b = ad
      · have h := (if_pos hb).symm.trans h
        exact ⟨hb, (Option.some.inj h).symm⟩
      · have h := (if_neg hb).symm.trans h
        cases h
    refine at_heap (T := T) kin g1 g2 g3 g4 g5 lo rm (fun b u h => ⟨(one b u h).1, own, (one b u h).2⟩) (fun b u h => ?_) F bd (z := .lst (ns.map W.int)) (S := fun _ => none) (fun b u h => by cases h) (.lst ⟨_, if_pos rfl⟩ (rvs _)) (good _ (.inl rfl))
    · obtain ⟨rfl, rfl⟩ := one b u h
      exact ⟨lo, by rw [List.length_map]; exact fit, us, _, vals, lo⟩
/-- the walk of a law, from its promise -/
theorem walk_g {l : PySem.W.OpenLaw} {n k : Nat} {q : Program} {loose : List Str} {XP : (Str → Option Value) → Heap → Prop} {YP : World → Heap → Prop} {d : DefRec} {x : Str} {p : Pm}
    (hn : l.most = some n) (hn2 : n ≤ sizeLine) (hdf : d.params.defaults = []) (rm : Room k callerA)
    (good : ∀ (ns : List Int) z, ns.length ≤ n → z = .lst (ns.map W.int) ∨ z = .kls (ns.map W.int) → okLaw p z fun _ => none)
    (F : ∀ (w : World) (mg : Str → Option Value) (fa : Addr) (h : Heap), YP w h → h.Ns mainGlobals mg → mg d.name = some (.ref fa) →
      ∃ (K : PySem.W.Frag) (cl : Nat → Addr) (cls : List Nat) (fd : FuncData), K.In h ∧ (∀ (s : Shared) (u : Value), BindsTo s fd ⟨[u], []⟩ [(x, u)]) ∧
        ∀ base : Heap, K.In base → base.Ns mainGlobals mg → GOk l.prog w K mg base k fa fd [x] (spOf ⟨K, cl, cls⟩ p)) :
    PySem.W.WalkO q loose XP YP l.row.toRowW d [] (fun f vs => PySem.call f vs) := by
  refine Att.attach_call hn hdf fun w s0 s1 mg mb fa o pm cd doc ad us ns G Y _ _ _ hm lo iv len gens => ?_
  obtain ⟨K, cl, cls, fd, kin, bd, hF⟩ := F w mg fa _ Y G.T.g hm
  exact law_run kin G.T.g G.T.b G.T.builtins G.T.nolimit gens lo rm iv (Nat.le_trans len hn2) hF bd fun z h => good ns z len h
end Dp
namespace Dp
open PySem PySem.Spec L2
open PyProof.Rows hiding St

/-! ### plain steps -/
theorem ite_of {b : Bool} {A B : Prop} (h1 : b = true → A) (h2 : b = false → B) : if b = true then A else B := by
  cases b with
  | true => rw [if_pos rfl]; exact h1 rfl
  | false => rw [if_neg (by decide)]; exact h2 rfl
/-- a walk by an invariant -/
theorem for_inv {g : Sto → Prop} {tg : WG} {b : WS} {E : Ew} (I : Nat → Ro → Sto → Prop) (xs : List W) {ρ : Ro} {S : Sto} (h0 : I 0 ρ S) (hg : ∀ i ρ S, I i ρ S → g S)
    (step : ∀ i x ρ S (nx : Ro → Sto → Prop), xs[i]? = some x → I i ρ S → (∀ ρ' S', I (i + 1) ρ' S' → nx ρ' S') → tg x ρ fun ρ2 => b { E with nx := nx, ct := nx, bk := E.nx } ρ2 S)
    (fin : ∀ ρ S, I xs.length ρ S → E.nx ρ S) : forW g tg b E xs ρ S := by
  have go : ∀ (ys : List W) (i : Nat) (ρ : Ro) (S : Sto), xs.drop i = ys → i ≤ xs.length → I i ρ S → forW g tg b E ys ρ S := by
    intro ys
    induction ys with
    | nil =>
      intro i ρ S hd hi h
      have : i = xs.length := by
        have := congrArg List.length hd
        rw [List.length_drop] at this
        simp at this; omega
      subst this
      exact ⟨hg _ _ _ h, fin _ _ h⟩
    | cons y ys ih =>
      intro i ρ S hd hi h
      have hlt : i < xs.length := by
        have := congrArg List.length hd
        rw [List.length_drop] at this
        simp at this; omega
      have hx : xs[i]? = some y := by
        rw [List.drop_eq_getElem_cons hlt] at hd
        rw [List.getElem?_eq_getElem hlt]
        exact congrArg some (List.cons.inj hd).1
      have hy : xs.drop (i + 1) = ys := by
        rw [List.drop_eq_getElem_cons hlt] at hd
        exact (List.cons.inj hd).2
      exact ⟨hg _ _ _ h, step i y ρ S _ hx h fun ρ' S' h' => ih (i + 1) ρ' S' hy hlt h'⟩
  exact go xs 0 ρ S rfl (Nat.zero_le _) h0
theorem comp_inv {g : Sto → Prop} {tg : WG} {cd : WT} {el : WE} {ρ : Ro} {F : List W → Sto → Prop} (I : Nat → List W → Sto → Prop) (xs : List W) {S : Sto} (h0 : I 0 [] S) (hg : ∀ i acc S, I i acc S → g S)
    (step : ∀ i x acc S (nx : List W → Sto → Prop), xs[i]? = some x → I i acc S → (∀ acc' S', I (i + 1) acc' S' → nx acc' S') → tg x ρ fun ρ2 => cd ρ2 S (fun b S1 => if b = true then el ρ2 S1 (fun w S2 => acc.length < sizeLine ∧ nx (acc ++ [w]) S2) (fun _ _ => False) else nx acc S1) (fun _ _ => False))
    (fin : ∀ acc S, I xs.length acc S → F acc S) : compW g tg cd el ρ F xs [] S := by
  have go : ∀ (ys : List W) (i : Nat) (acc : List W) (S : Sto), xs.drop i = ys → i ≤ xs.length → I i acc S → compW g tg cd el ρ F ys acc S := by
    intro ys
    induction ys with
    | nil =>
      intro i acc S hd hi h
      have : i = xs.length := by
        have := congrArg List.length hd
        rw [List.length_drop] at this
        simp at this; omega
      subst this
      exact ⟨hg _ _ _ h, fin _ _ h⟩
    | cons y ys ih =>
      intro i acc S hd hi h
      have hlt : i < xs.length := by
        have := congrArg List.length hd
        rw [List.length_drop] at this
        simp at this; omega
      have hx : xs[i]? = some y := by
        rw [List.drop_eq_getElem_cons hlt] at hd
        rw [List.getElem?_eq_getElem hlt]
        exact congrArg some (List.cons.inj hd).1
      have hy : xs.drop (i + 1) = ys := by
        rw [List.drop_eq_getElem_cons hlt] at hd
        exact (List.cons.inj hd).2
      exact ⟨hg _ _ _ h, step i y acc S _ hx h fun acc' S' h' => ih (i + 1) acc' S' hy hlt h'⟩
  exact go xs 0 [] S rfl (Nat.zero_le _) h0
theorem whl_inv {t : WT} {b : WS} {E : Ew} (I : Nat → Ro → Sto → Prop) {n : Nat} {ρ : Ro} {S : Sto} (h0 : I n ρ S)
    (step : ∀ n ρ S (nx : Ro → Sto → Prop), I n ρ S → (∀ m ρ' S', m < n → I m ρ' S' → nx ρ' S') → t ρ S (fun k S1 => if k = true then b { E with nx := nx, ct := nx, bk := E.nx } ρ S1 else E.nx ρ S1) (E.ex ρ)) : mWhl t b E ρ S := by
  have go : ∀ (N n : Nat) (ρ : Ro) (S : Sto), n < N → I n ρ S → whlW t b E N ρ S := by
    intro N
    induction N with
    | zero => intro n ρ S h _; exact absurd h (Nat.not_lt_zero _)
    | succ N ih => intro n ρ S h hi; exact step n ρ S _ hi fun m ρ' S' hm hi' => ih m ρ' S' (by omega) hi'
  exact ⟨n + 1, go (n + 1) n ρ S (Nat.lt_succ_self _) h0⟩

theorem ite_d {p : Prop} [Decidable p] {A B : Prop} (h1 : p → A) (h2 : ¬ p → B) : if decide p = true then A else B := by
  by_cases h : p
  · rw [if_pos (decide_eq_true h)]; exact h1 h
  · rw [if_neg (by rw [decide_eq_false h]; decide)]; exact h2 h
theorem ite_nd {p : Prop} [Decidable p] {A B : Prop} (h1 : ¬ p → A) (h2 : p → B) : if (!decide p) = true then A else B := by
  by_cases h : p
  · rw [if_neg (by rw [decide_eq_true h]; decide)]; exact h2 h
  · rw [if_pos (by rw [decide_eq_false h]; rfl)]; exact h1 h
theorem step_ {a b : WS} {E : Ew} {ρ : Ro} {S : Sto} (h : a { E with nx := fun ρ' S' => b E ρ' S' } ρ S) : mThen a b E ρ S := by unfold mThen; exact h
theorem then_join {a b : WS} {E : Ew} {ρ : Ro} {S : Sto} (R : Ro → Sto → Prop) (h1 : ∀ nx : Ro → Sto → Prop, (∀ ρ' S', R ρ' S' → nx ρ' S') → a { E with nx := nx } ρ S) (h2 : ∀ ρ' S', R ρ' S' → b E ρ' S') : mThen a b E ρ S := by unfold mThen; exact h1 _ h2
theorem test_join {P : Nat → Pm} {G : Nat → W} {t : Dp.E} {a b : Sms} {E : Ew} {ρ : Ro} {S : Sto} (R : Bool → Sto → Prop) (h1 : ∀ Kt : Bool → Sto → Prop, (∀ k S', R k S' → Kt k S') → dT P G t ρ S Kt (E.ex ρ)) (h2 : ∀ k S', R k S' → if k = true then dSs P G a E ρ S' else dSs P G b E ρ S') : dS P G (.ite t a b) E ρ S := h1 _ h2
/-- an expression's value, met again behind its ways -/
theorem ex_join {m : WE} {ρ : Ro} {S : Sto} {K : WK} {X : EK} (R : W → Sto → Prop) (h : ∀ K' : WK, (∀ w S', R w S' → K' w S') → m ρ S K' X) (hK : ∀ w S', R w S' → K w S') : m ρ S K X := h K hK
/-! ### walks over what is told by a list -/
theorem for_t {α : Type} {g : Sto → Prop} {tg : WG} {b : WS} {E : Ew} {ρ : Ro} {S : Sto} (as : List α) (e : α → W) (I : Nat → Ro → Sto → Prop) (h0 : I 0 ρ S) (hg : ∀ i ρ S, I i ρ S → g S)
    (step : ∀ i a ρ S (nx : Ro → Sto → Prop), as[i]? = some a → I i ρ S → (∀ ρ' S', I (i + 1) ρ' S' → nx ρ' S') → tg (e a) ρ fun ρ2 => b { E with nx := nx, ct := nx, bk := E.nx } ρ2 S)
    (fin : ∀ ρ S, I as.length ρ S → E.nx ρ S) : forW g tg b E (as.map e) ρ S := by
  refine for_inv I (as.map e) h0 hg (fun i x ρ S nx hx hi hn => ?_) fun ρ S h => fin ρ S (by rw [List.length_map] at h; exact h)
  rw [List.getElem?_map] at hx
  cases q : as[i]? with
  | none => rw [q] at hx; cases hx
  | some a => rw [q] at hx; cases hx; exact step i a ρ S nx q hi hn
/-- by what was walked -/
theorem for_p {α : Type} {g : Sto → Prop} {tg : WG} {b : WS} {E : Ew} {ρ : Ro} {S : Sto} (as : List α) (e : α → W) (I : List α → Ro → Sto → Prop) (h0 : I [] ρ S) (hg : ∀ l ρ S, I l ρ S → g S)
    (step : ∀ l a r ρ S (nx : Ro → Sto → Prop), as = l ++ a :: r → I l ρ S → (∀ ρ' S', I (l ++ [a]) ρ' S' → nx ρ' S') → tg (e a) ρ fun ρ2 => b { E with nx := nx, ct := nx, bk := E.nx } ρ2 S)
    (fin : ∀ ρ S, I as ρ S → E.nx ρ S) : forW g tg b E (as.map e) ρ S := by
  refine for_t as e (fun i => I (as.take i)) (by simpa using h0) (fun i => hg _) (fun i a ρ S nx ha hi hn => ?_) fun ρ S h => fin ρ S (by rw [List.take_length] at h; exact h)
  have hl := (List.getElem?_eq_some_iff.mp ha)
  refine step (as.take i) a (as.drop (i + 1)) ρ S nx ?_ hi fun ρ' S' h => hn ρ' S' (by rw [List.take_add_one, ha]; exact h)
  rw [← hl.2, ← List.drop_eq_getElem_cons hl.1, List.take_append_drop]
theorem comp_t {α : Type} {g : Sto → Prop} {tg : WG} {cd : WT} {el : WE} {ρ : Ro} {F : List W → Sto → Prop} {S : Sto} (as : List α) (e : α → W) (I : Nat → List W → Sto → Prop) (h0 : I 0 [] S) (hg : ∀ i acc S, I i acc S → g S)
    (step : ∀ i a acc S (nx : List W → Sto → Prop), as[i]? = some a → I i acc S → (∀ acc' S', I (i + 1) acc' S' → nx acc' S') → tg (e a) ρ fun ρ2 => cd ρ2 S (fun b S1 => if b = true then el ρ2 S1 (fun w S2 => acc.length < sizeLine ∧ nx (acc ++ [w]) S2) (fun _ _ => False) else nx acc S1) (fun _ _ => False))
    (fin : ∀ acc S, I as.length acc S → F acc S) : compW g tg cd el ρ F (as.map e) [] S := by
  refine comp_inv I (as.map e) h0 hg (fun i x acc S nx hx hi hn => ?_) fun acc S h => fin acc S (by rw [List.length_map] at h; exact h)
  rw [List.getElem?_map] at hx
  cases q : as[i]? with
  | none => rw [q] at hx; cases hx
  | some a => rw [q] at hx; cases hx; exact step i a acc S nx q hi hn
/-- each one gives one thing, the store stays -/
theorem comp_m {α : Type} {g : Sto → Prop} {tg : WG} {el : WE} {ρ : Ro} {F : List W → Sto → Prop} {S : Sto} (as : List α) (e h : α → W) (hl : as.length ≤ 100000) (hg : g S)
    (step : ∀ a ∈ as, ∀ Kt : WK, Kt (h a) S → tg (e a) ρ fun ρ2 => el ρ2 S Kt (fun _ _ => False)) (fin : F (as.map h) S) : compW g tg mYes el ρ F (as.map e) [] S := by
  refine comp_t as e (fun i acc S' => acc = (as.take i).map h ∧ S' = S) ⟨by simp, rfl⟩ (fun _ _ _ q => q.2 ▸ hg) ?_ ?_
  · rintro i a acc S' nx ha ⟨rfl, rfl⟩ hn
    refine step a (List.mem_of_getElem? ha) _ ⟨?_, hn _ _ ⟨by rw [List.take_add_one, ha]; simp, rfl⟩⟩
    have h1 := (List.getElem?_eq_some_iff.mp ha).1
    refine Nat.lt_of_le_of_lt (show _ ≤ 100000 from ?_) (by decide)
    rw [List.length_map, List.length_take]; omega
  · rintro acc S' ⟨rfl, rfl⟩
    rw [List.take_length]; exact fin
/-- those that pass -/
theorem comp_f {α : Type} {g : Sto → Prop} {tg : WG} {cd : WT} {el : WE} {ρ : Ro} {F : List W → Sto → Prop} {S : Sto} (as : List α) (e h : α → W) (q : α → Bool) (hl : as.length ≤ 100000) (hg : g S)
    (step : ∀ a ∈ as, ∀ (KT : WK) (KF : Sto → Prop), (q a = true → KT (h a) S) → (q a = false → KF S) → tg (e a) ρ fun ρ2 => cd ρ2 S (fun b S1 => if b = true then el ρ2 S1 KT (fun _ _ => False) else KF S1) (fun _ _ => False))
    (fin : F ((as.filter q).map h) S) : compW g tg cd el ρ F (as.map e) [] S := by
  refine comp_t as e (fun i acc S' => acc = ((as.take i).filter q).map h ∧ S' = S) ⟨by simp, rfl⟩ (fun _ _ _ z => z.2 ▸ hg) ?_ ?_
  · rintro i a acc S' nx ha ⟨rfl, rfl⟩ hn
    have h1 := (List.getElem?_eq_some_iff.mp ha).1
    have hlen : (((as.take i).filter q).map h).length < sizeLine := by
      have := List.length_filter_le q (as.take i)
      rw [List.length_take] at this
      refine Nat.lt_of_le_of_lt (show _ ≤ 100000 from ?_) (by decide)
      rw [List.length_map]; omega
    refine step a (List.mem_of_getElem? ha) (fun w S2 => (((as.take i).filter q).map h).length < sizeLine ∧ nx (((as.take i).filter q).map h ++ [w]) S2) (nx (((as.take i).filter q).map h)) (fun hq => ⟨hlen, hn _ _ ⟨?_, rfl⟩⟩) fun hq => hn _ _ ⟨?_, rfl⟩
    · rw [List.take_add_one, ha, List.filter_append, List.map_append, Option.toList_some, List.filter_cons, if_pos hq]; rfl
    · rw [List.take_add_one, ha, List.filter_append, List.map_append, Option.toList_some, List.filter_cons, if_neg (by rw [hq]; decide)]; simp
  · rintro acc S' ⟨rfl, rfl⟩
    rw [List.take_length]; exact fin
theorem rg_map (lo c : Int) (n : Nat) : rgList lo c n = (List.range n).map fun i => W.int (lo + (i : Nat) * c) := rfl
theorem rg_ints (n : Nat) : rgList 0 1 n = List.map W.int ((List.range n).map fun (i : Nat) => (i : Int)) := by
  unfold rgList
  rw [List.map_map]
  refine List.map_congr_left fun i _ => ?_
  show W.int (0 + (i : Nat) * 1) = W.int (i : Int)
  rw [Int.zero_add, Int.mul_one]
theorem zip_map {α β : Type} (e : α → W) (h : β → W) : ∀ (as : List α) (bs : List β), zipW (as.map e) (bs.map h) = (as.zip bs).map fun p => .tup [e p.1, h p.2]
  | [], _ => rfl
  | _ :: _, [] => rfl
  | a :: as, b :: bs => by
    show W.tup [e a, h b] :: zipW (as.map e) (bs.map h) = _
    rw [zip_map e h as bs]; rfl
theorem enu_map {α : Type} (e : α → W) : ∀ (as : List α) (k : Nat), enuW k (as.map e) = (as.zipIdx k).map fun p => .tup [.int (p.2 : Nat), e p.1]
  | [], _ => rfl
  | a :: as, k => by
    show W.tup [.int (k : Nat), e a] :: enuW (k + 1) (as.map e) = _
    rw [enu_map e as (k + 1)]; rfl
theorem signs_map (z : Str) : signs z = z.cps.toList.map fun ch => .str ⟨#[ch]⟩ := rfl
/-! ### stores -/
theorem new_ne {S : Sto} {p a : Addr} {c : Ce} (h : S p = none) (e : S a = some c) : a ≠ p := fun z => by rw [z, h] at e; cases e
theorem put_swap {S : Sto} {a b : Addr} {c d : Ce} (h : a ≠ b) : (S.put a c).put b d = (S.put b d).put a c := by
  funext x; unfold Sto.put
  by_cases h1 : x = b
  · have : x ≠ a := fun z => h (z.symm.trans h1)
    rw [if_pos h1, if_neg this, if_pos h1]
  · by_cases h2 : x = a
    · rw [if_neg h1, if_pos h2, if_pos h2]
    · rw [if_neg h1, if_neg h2, if_neg h2, if_neg h1]
theorem put_id {S : Sto} {a : Addr} {c : Ce} (h : S a = some c) : S.put a c = S := by
  funext b; unfold Sto.put; split
  · rename_i e; rw [e, h]
  · rfl
theorem put_none {S : Sto} {a b : Addr} {c : Ce} : (S.put a c) b = none ↔ b ≠ a ∧ S b = none := by
  by_cases h : b = a
  · subst h; rw [put_same]; simp
  · rw [put_ne h]; simp [h]
/-- the lower of two is written -/
theorem pf1 {S : Sto} {f q : Addr} {a b c : Ce} (h : q ≠ f) : ((S.put f a).put q c).put f b = (S.put f b).put q c := by rw [put_swap h, put_put]
theorem pf2 {S : Sto} {f q r : Addr} {a b c d : Ce} (h : q ≠ f) (h' : r ≠ f) : (((S.put f a).put q c).put r d).put f b = ((S.put f b).put q c).put r d := by rw [put_swap h', pf1 h]
theorem pf3 {S : Sto} {f q r t : Addr} {a b c d e : Ce} (h : q ≠ f) (h' : r ≠ f) (h2 : t ≠ f) : ((((S.put f a).put q c).put r d).put t e).put f b = (((S.put f b).put q c).put r d).put t e := by rw [put_swap h2, pf2 h h']
theorem at1 {S : Sto} {f q : Addr} {a c : Ce} (h : f ≠ q) : ((S.put f a).put q c) f = some a := by rw [put_ne h, put_same]
theorem at2 {S : Sto} {f q r : Addr} {a c d : Ce} (h : f ≠ q) (h' : f ≠ r) : (((S.put f a).put q c).put r d) f = some a := by rw [put_ne h', at1 h]
theorem at3 {S : Sto} {f q r t : Addr} {a c d e : Ce} (h : f ≠ q) (h' : f ≠ r) (h2 : f ≠ t) : ((((S.put f a).put q c).put r d).put t e) f = some a := by rw [put_ne h2, at2 h h']
theorem Le.drop {A B : Sto} {p : Addr} {c : Ce} (l : Le A B) (n : A p = Option.none) : Le A (B.put p c) := fun a d e => by
  have : a ≠ p := fun z => by rw [z, n] at e; cases e
  rw [put_ne this]; exact l a d e
theorem Le.both {A B : Sto} {p : Addr} {c d : Ce} (l : Le A B) (w : Wk d c) : Le (A.put p c) (B.put p d) := fun a x e => by
  by_cases h : a = p
  · subst h
    rw [put_same] at e ⊢; cases e; exact ⟨d, rfl, w⟩
  · rw [put_ne h] at e ⊢; exact l a x e
theorem Le.fd {S : Sto} {p : Addr} {k : Fk} {n m : Nat} (h : n ≤ m) : Le (S.put p (.fd k m)) (S.put p (.fd k n)) := Le.both .refl (.more h)
theorem Le.fd0 {S : Sto} {p : Addr} {k : Fk} {n m : Nat} (e : S p = some (.fd k n)) (h : n ≤ m) : Le (S.put p (.fd k m)) S := by
  have := Le.fd (S := S) (p := p) (k := k) h
  rw [put_id e] at this; exact this
/-! ### leaves -/
theorem get_l {S : Sto} {a : Addr} {xs : List W} {i : Int} {w : W} {K : WK} (h : S a = some (.lst xs)) (e : atI xs i = some w) (k : K w S) : getK (.ref a) (.int i) S K := by unfold getK; exact .inl ⟨xs, i, w, rfl, h, e, k⟩
theorem get_d {S : Sto} {a : Addr} {xs : List (Key × W)} {i : Key} {w : W} {K : WK} (h : S a = some (.dic xs)) (e : valW xs i = some w) (k : K w S) : getK (.ref a) (kW i) S K := by unfold getK; exact .inr ⟨xs, i, w, h, rfl, e, k⟩
theorem ix_l {S : Sto} {a : Addr} {xs : List W} {i : Int} {w : W} {K : WK} (h : S a = some (.lst xs)) (e : atI xs i = some w) (k : K w S) : ixK (.ref a) (.int i) S K := by unfold ixK; exact .inl ⟨xs, i, w, rfl, h, e, k⟩
theorem ix_d {S : Sto} {a : Addr} {xs : List (Key × W)} {i : Key} {w : W} {K : WK} (h : S a = some (.dic xs)) (e : valW xs i = some w) (k : K w S) : ixK (.ref a) (kW i) S K := by unfold ixK; exact .inr ⟨xs, i, w, h, rfl, e, k⟩
theorem ix_t {b : Bool} {S : Sto} {ws : List W} {i : Int} {w : W} {K : WK} (e : atI ws i = some w) (k : K w S) : ixK (.tp b ws) (.int i) S K := by unfold ixK; exact ⟨w, e, k⟩
theorem ix_v {S : Sto} {ws : List W} {i : Int} {w : W} {K : WK} (e : atI ws i = some w) (k : K w S) : ixK (.lst ws) (.int i) S K := by unfold ixK; exact ⟨w, e, k⟩
theorem set_l {S : Sto} {a : Addr} {xs : List W} {i : Int} {j : Nat} {v : W} {K : Sto → Prop} (h : S a = some (.lst xs)) (e : ixN xs.length i = some j) (k : K (S.put a (.lst (xs.set j v)))) : setK (.ref a) (.int i) v S K := by unfold setK; exact .inl ⟨xs, i, j, h, rfl, e, k⟩
theorem set_d {S : Sto} {a : Addr} {xs : List (Key × W)} {i : Key} {v : W} {K : Sto → Prop} (h : S a = some (.dic xs)) (l : xs.length ≤ 100000) (k : K (S.put a (.dic (putW xs i v)))) : setK (.ref a) (kW i) v S K := by unfold setK; exact .inr ⟨xs, i, h, rfl, Nat.lt_of_le_of_lt l (by decide), k⟩
theorem eq_d {S : Sto} {x y : W} {d e : PyData} {K : Bool → Prop} (h : Den S x d) (k : Den S y e) (s1 : SeqAt.shaped d = true) (s2 : SeqAt.shaped e = true) (q : K (PyData.eqv d e)) : eqK S x y K := by unfold eqK; exact .inr ⟨d, e, h, k, s1, s2, q⟩
theorem eq_f {S : Sto} {x y : W} {K : Bool → Prop} (h : flat x = true) (k : flat y = true) (q : K (eqF x y)) : eqK S x y K := by unfold eqK; exact .inl ⟨h, k, q⟩
theorem eq_i {S : Sto} {i j : Int} {K : Bool → Prop} (q : K (decide (i = j))) : eqK S (.int i) (.int j) K := eq_f rfl rfl (by
  have : eqF (.int i) (.int j) = decide (i = j) := by show (i == j) = _; by_cases h : i = j <;> simp [h]
  rw [this]; exact q)
theorem eq_s {S : Sto} {i j : Str} {K : Bool → Prop} (q : K (decide (i = j))) : eqK S (.str i) (.str j) K := eq_f rfl rfl (by
  have : eqF (.str i) (.str j) = decide (i = j) := by show (i == j) = _; by_cases h : i = j <;> simp [h]
  rw [this]; exact q)
theorem len_l {S : Sto} {a : Addr} {xs : List W} {K : WK} (h : S a = some (.lst xs)) (k : K (.int xs.length) S) : fLen [.ref a] S K := by unfold fLen; exact .inl ⟨xs, h, k⟩
theorem len_s {S : Sto} {x : Str} {K : WK} (h : x.length ≤ sizeLine) (k : K (.int x.length) S) : fLen [.str x] S K := by unfold fLen; exact ⟨h, k⟩
theorem len_t {b : Bool} {S : Sto} {xs : List W} {K : WK} (k : K (.int xs.length) S) : fLen [.tp b xs] S K := by unfold fLen; exact k
theorem len_v {S : Sto} {xs : List W} {K : WK} (k : K (.int xs.length) S) : fLen [.lst xs] S K := by unfold fLen; exact k
theorem len_tm {α : Type} {b : Bool} {S : Sto} {e : α → W} {xs : List α} {K : WK} (k : K (.int xs.length) S) : fLen [.tp b (xs.map e)] S K := len_t (by rw [List.length_map]; exact k)
theorem len_vm {α : Type} {S : Sto} {e : α → W} {xs : List α} {K : WK} (k : K (.int xs.length) S) : fLen [.lst (xs.map e)] S K := len_v (by rw [List.length_map]; exact k)
theorem len_lm {α : Type} {S : Sto} {a : Addr} {e : α → W} {xs : List α} {K : WK} (h : S a = some (.lst (xs.map e))) (k : K (.int xs.length) S) : fLen [.ref a] S K := len_l h (by rw [List.length_map]; exact k)
theorem ls_v {S : Sto} {xs : List W} {P : List W → Prop} (h : P xs) : lsK S [.lst xs] P := h
theorem ls_l {S : Sto} {a : Addr} {xs : List W} {P : List W → Prop} (e : S a = some (.lst xs)) (h : P xs) : lsK S [.ref a] P := ⟨xs, e, h⟩
theorem all_m {α : Type} {as : List α} {p : α → Bool} {K : Bool → Prop} (k : K (as.all p)) : ∃ bs : List Bool, (as.map fun a => W.bl (p a)) = bs.map W.bl ∧ K (bs.all id) := ⟨as.map p, by rw [List.map_map]; rfl, by rw [List.all_map]; exact k⟩
theorem any_m {α : Type} {as : List α} {p : α → Bool} {K : Bool → Prop} (k : K (as.any p)) : ∃ bs : List Bool, (as.map fun a => W.bl (p a)) = bs.map W.bl ∧ K (bs.any id) := ⟨as.map p, by rw [List.map_map]; rfl, by rw [List.any_map]; exact k⟩
theorem sum_m {α : Type} {as : List α} {p : α → Int} {K : Int → Prop} (k : K (as.map p).sum) : ∃ bs : List Int, (as.map fun a => W.int (p a)) = bs.map W.int ∧ K bs.sum := ⟨as.map p, by rw [List.map_map]; rfl, k⟩
theorem fz_l {S : Sto} {a : Addr} {xs : List W} {K : WK} (h : S a = some (.lst xs)) (k : K (.lst xs) (S.del a)) : fzK (.ref a) S K := by unfold fzK; exact .inl ⟨xs, h, k⟩
theorem fz_new {S : Sto} {p : Addr} {xs : List W} {K : WK} (n : S p = none) (k : K (.lst xs) S) : fzK (.ref p) (S.put p (.lst xs)) K := fz_l put_same (by rw [put_del n]; exact k)
theorem fz_nd {S : Sto} {p : Addr} {xs : List (Key × W)} {K : WK} (n : S p = none) (k : K (.dct (xs.map (·.1)) (xs.map (·.2))) S) : fzK (.ref p) (S.put p (.dic xs)) K := by unfold fzK; exact .inr (.inl ⟨xs, put_same, by rw [put_del n]; exact k⟩)
theorem in_sign {S : Sto} {c : Nat} {z : Str} {K : Bool → Prop} (k : K (decide (c ∈ z.cps.toList))) : inK false (.str ⟨#[c]⟩) (.str z) S K := by unfold inK; exact .inl ⟨c, rfl, k⟩
theorem in_t {n : Bool} {b' : Bool} {S : Sto} {x : W} {ws : List W} {b : Bool} {K : Bool → Prop} (f : flat x = true) (h : ws.all flat = true) (e : (ws.any fun w => eqF w x) = b) (k : K (if n then !b else b)) : inK n x (.tp b' ws) S K := by unfold inK; exact ⟨f, h, by rw [e]; exact k⟩
theorem in_v {n : Bool} {S : Sto} {x : W} {ws : List W} {b : Bool} {K : Bool → Prop} (f : flat x = true) (h : ws.all flat = true) (e : (ws.any fun w => eqF w x) = b) (k : K (if n then !b else b)) : inK n x (.lst ws) S K := by unfold inK; exact .inl ⟨f, h, by rw [e]; exact k⟩
theorem in_l {n : Bool} {S : Sto} {a : Addr} {x : W} {ws : List W} {b : Bool} {K : Bool → Prop} (l : S a = some (.lst ws)) (f : flat x = true) (h : ws.all flat = true) (e : (ws.any fun w => eqF w x) = b) (k : K (if n then !b else b)) : inK n x (.ref a) S K := by unfold inK; exact .inl ⟨ws, l, f, h, by rw [e]; exact k⟩
theorem in_d {n : Bool} {S : Sto} {a : Addr} {kvs : List (Key × W)} {i : Key} {K : Bool → Prop} (l : S a = some (.dic kvs)) (k : K (if n then !(valW kvs i).isSome else (valW kvs i).isSome)) : inK n (kW i) (.ref a) S K := by unfold inK; exact .inr (.inr ⟨kvs, i, l, rfl, k⟩)
theorem signs_at {z : Str} {i : Nat} {x : W} (h : (signs z)[i]? = some x) : ∃ c, z.cps.toList[i]? = some c ∧ x = .str ⟨#[c]⟩ := by
  unfold signs at h
  rw [List.getElem?_map] at h
  cases e : z.cps.toList[i]? with
  | none => rw [e] at h; cases h
  | some c => rw [e] at h; exact ⟨c, rfl, (Option.some.inj h).symm⟩
theorem rg_len {lo c : Int} {n : Nat} : (rgList lo c n).length = n := by simp [rgList]
theorem cut_to {α : Type} {xs : List α} {v : Int} (h : 0 ≤ v) : cutW xs none (some v) = xs.take v.toNat := by
  unfold cutW
  show (xs.drop 0).take ((if v < 0 then (v + (xs.length : Int)).toNat else min v.toNat xs.length) - 0) = _
  rw [if_neg (by omega), List.drop_zero, Nat.sub_zero]
  rcases Nat.le_total v.toNat xs.length with e | e
  · rw [Nat.min_eq_left e]
  · rw [Nat.min_eq_right e, List.take_length, List.take_of_length_le e]
theorem cut_from {α : Type} {xs : List α} {v : Int} (h : 0 ≤ v) : cutW xs (some v) none = xs.drop v.toNat := by
  unfold cutW
  show (xs.drop (if v < 0 then (v + (xs.length : Int)).toNat else min v.toNat xs.length)).take (xs.length - (if v < 0 then (v + (xs.length : Int)).toNat else min v.toNat xs.length)) = _
  rw [if_neg (by omega)]
  rcases Nat.le_total v.toNat xs.length with e | e
  · rw [Nat.min_eq_left e, List.take_of_length_le (by rw [List.length_drop]; omega)]
  · rw [Nat.min_eq_right e, List.drop_of_length_le e, List.drop_length, List.take_nil]
theorem cut_map {α β : Type} (g : α → β) (xs : List α) (lo hi : Option Int) : cutW (xs.map g) lo hi = (cutW xs lo hi).map g := by
  unfold cutW
  rw [List.length_map, List.map_take, List.map_drop]
theorem str_len (l : List Nat) : (⟨l.toArray⟩ : Str).length = l.length := by simp [Str.length]
theorem sl_s {S : Sto} {z : Str} {lo hi : Option Int} {K : WK} (h : z.length ≤ sizeLine) (k : K (.str ⟨(cutW z.cps.toList lo hi).toArray⟩) S) : slK (.str z) lo hi S K := by unfold slK; exact ⟨h, k⟩
theorem sl_l {S : Sto} {a : Addr} {ws : List W} {lo hi : Option Int} {K : WK} (h : S a = some (.lst ws)) (k : ∀ p, S p = none → K (.ref p) (S.put p (.lst (cutW ws lo hi)))) : slK (.ref a) lo hi S K := by unfold slK; exact ⟨ws, h, k⟩
theorem sl_v {S : Sto} {ws : List W} {lo hi : Option Int} {K : WK} (k : ∀ p, S p = none → K (.ref p) (S.put p (.lst (cutW ws lo hi)))) : slK (.lst ws) lo hi S K := by unfold slK; exact k
theorem sl_t {S : Sto} {ws : List W} {lo hi : Option Int} {K : WK} (k : K (.tup (cutW ws lo hi)) S) : slK (.tup ws) lo hi S K := by unfold slK; exact k
theorem sl_k {S : Sto} {ws : List W} {lo hi : Option Int} {K : WK} (k : ∀ p, S p = none → K (.ref p) (S.put p (.lst (cutW ws lo hi)))) : slK (.kls ws) lo hi S K := by unfold slK; exact k
/-- parts of told lists -/
theorem sl_tt {α : Type} {S : Sto} {e : α → W} {xs : List α} {i : Int} {K : WK} (h : 0 ≤ i) (k : K (.tup ((xs.take i.toNat).map e)) S) : slK (.tup (xs.map e)) none (some i) S K := sl_t (by rw [cut_to h, ← List.map_take]; exact k)
theorem sl_tf {α : Type} {S : Sto} {e : α → W} {xs : List α} {i : Int} {K : WK} (h : 0 ≤ i) (k : K (.tup ((xs.drop i.toNat).map e)) S) : slK (.tup (xs.map e)) (some i) none S K := sl_t (by rw [cut_from h, ← List.map_drop]; exact k)
theorem small {n : Nat} (h : Nat.ble n 1000 = true) : n ≤ sizeLine := Nat.le_trans (Nat.le_of_ble_eq_true h) (by decide)
theorem big {k : Nat} (h : k ≤ 100000) : k < sizeLine := Nat.lt_of_le_of_lt h (by decide)
theorem bigE {k : Nat} (h : k ≤ 100000) : k ≤ sizeLine := Nat.le_of_lt (big h)
theorem repr_a {S : Sto} {x : W} {d : PyData} {K : WK} (h : Den S x d) (h1 : d.showable = true) (h2 : d.depth ≤ 60) (h3 : d.shown.length ≤ sizeLine) (k : K (.str d.shown) S) : fRepr2 [x] S K := by unfold fRepr2; exact ⟨d, h, h1, h2, h3, k⟩
theorem mul_t {S : Sto} {xs : List W} {k : Int} {K : WK} (h2 : -(2 ^ 63) ≤ k) (h3 : k ≤ 1000) (h4 : xs.length ≤ 1000) (q : K (.tup (List.replicate k.toNat xs).flatten) S) : bMul2 (.tup xs) (.int k) S K := by unfold bMul2; exact ⟨h2, h3, h4, q⟩
theorem mul_l {S : Sto} {a : Addr} {xs : List W} {n : Int} {K : WK} (h : S a = some (.lst xs)) (h0 : -(2 ^ 63) ≤ n) (h1 : n < 2 ^ 63) (h2 : xs.length * n.toNat ≤ sizeLine) (q : ∀ p, S p = none → K (.ref p) (S.put p (.lst (List.replicate n.toNat xs).flatten))) : bMul2 (.ref a) (.int n) S K := by
  unfold bMul2
  show bMul _ _ _ _
  unfold bMul
  exact ⟨xs, h, h0, h1, h2, q⟩
theorem log2_lt {n b : Nat} (h : n < 2 ^ b) (h0 : 0 < b) : n.log2 < b := PySem.Flt.log2_lt_of h0 h
theorem mul_i {i j : Int} {S : Sto} {K : WK} (a b : Nat) (h : i.natAbs < 2 ^ (a + 1)) (h' : j.natAbs < 2 ^ (b + 1)) (ab : a + b < 900000) (k : K (.int (i * j)) S) : bMul2 (.int i) (.int j) S K := by
  unfold bMul2
  show bMul _ _ _ _
  unfold bMul
  refine ⟨?_, k⟩
  have h1 := log2_lt h (by omega)
  have h2 := log2_lt h' (by omega)
  omega
theorem atI_pos {α : Type} {xs : List α} {i : Int} {w : α} (h0 : 0 ≤ i) (h : xs[i.toNat]? = some w) : atI xs i = some w := by
  have hl : i.toNat < xs.length := (List.getElem?_eq_some_iff.mp h).1
  unfold atI ixN
  rw [if_pos h0, if_pos (by omega)]
  exact h
theorem ixN_pos {n : Nat} {i : Int} (h0 : 0 ≤ i) (h : i < n) : ixN n i = some i.toNat := by
  unfold ixN
  rw [if_pos h0, if_pos h]
theorem ixN_neg {n : Nat} {i : Int} (h0 : i < 0) (h : 0 ≤ i + n) : ixN n i = some (i + n).toNat := by
  unfold ixN
  rw [if_neg (by omega), if_pos (by omega)]
theorem none_in {α : Type} {P : α → Prop} : ∀ x ∈ ([] : List α), P x := fun x h => absurd h List.not_mem_nil
theorem getD_mem {α : Type} {d : α} {xs : List α} {i : Nat} (h : i < xs.length) : xs.getD i d ∈ xs := by
  rw [List.getD_eq_getElem?_getD, List.getElem?_eq_getElem h]
  exact List.getElem_mem h
theorem get_some {α : Type} {d : α} {xs : List α} {i : Nat} (h : i < xs.length) : xs[i]? = some (xs.getD i d) := by
  rw [List.getD_eq_getElem?_getD, List.getElem?_eq_getElem h]; rfl
theorem mapD {α β : Type} {f : α → β} {xs : List α} {i : Nat} {d : α} {e : β} (h : i < xs.length) : (xs.map f).getD i e = f (xs.getD i d) := by
  rw [List.getD_eq_getElem?_getD, List.getElem?_map, get_some (d := d) h]; rfl
/-- one of a told list -/
theorem at_m {α : Type} {e : α → W} (d : α) {xs : List α} {i : Int} (h0 : 0 ≤ i) (h : i < xs.length) : atI (xs.map e) i = some (e (xs.getD i.toNat d)) :=
  atI_pos h0 (by rw [List.getElem?_map, get_some (d := d) (show i.toNat < xs.length by omega)]; rfl)
theorem at_last {α : Type} {xs : List α} {w : α} : atI (xs ++ [w]) (-1) = some w := by
  unfold atI
  rw [ixN_neg (by decide) (by rw [List.length_append, List.length_singleton]; omega)]
  have e : ((-1 : Int) + ((xs ++ [w]).length : Nat)).toNat = xs.length := by rw [List.length_append]; show ((-1 : Int) + ((xs.length + 1 : Nat) : Int)).toNat = _; omega
  rw [e]
  show (xs ++ [w])[xs.length]? = some w
  simp
theorem ix_tm {α : Type} {b : Bool} {S : Sto} {e : α → W} (d : α) {xs : List α} {i : Int} {K : WK} (h0 : 0 ≤ i) (h : i < xs.length) (k : K (e (xs.getD i.toNat d)) S) : ixK (.tp b (xs.map e)) (.int i) S K := ix_t (at_m d h0 h) k
theorem ix_vm {α : Type} {S : Sto} {e : α → W} (d : α) {xs : List α} {i : Int} {K : WK} (h0 : 0 ≤ i) (h : i < xs.length) (k : K (e (xs.getD i.toNat d)) S) : ixK (.lst (xs.map e)) (.int i) S K := ix_v (at_m d h0 h) k
theorem ix_lm {α : Type} {S : Sto} {a : Addr} {e : α → W} (d : α) {xs : List α} {i : Int} {K : WK} (l : S a = some (.lst (xs.map e))) (h0 : 0 ≤ i) (h : i < xs.length) (k : K (e (xs.getD i.toNat d)) S) : ixK (.ref a) (.int i) S K := ix_l l (at_m d h0 h) k
theorem set_lm {α : Type} {S : Sto} {a : Addr} {e : α → W} {xs : List α} {i : Int} {v : α} {K : Sto → Prop} (l : S a = some (.lst (xs.map e))) (h0 : 0 ≤ i) (h : i < xs.length) (k : K (S.put a (.lst ((xs.set i.toNat v).map e)))) : setK (.ref a) (.int i) (e v) S K :=
  set_l l (ixN_pos h0 (by rw [List.length_map]; exact h)) (by rw [← List.map_set]; exact k)
theorem get_lm {α : Type} {S : Sto} {a : Addr} {e : α → W} (d : α) {xs : List α} {i : Int} {K : WK} (l : S a = some (.lst (xs.map e))) (h0 : 0 ≤ i) (h : i < xs.length) (k : K (e (xs.getD i.toNat d)) S) : getK (.ref a) (.int i) S K := get_l l (at_m d h0 h) k
theorem eqF_str (x : Str) : eqF (.str x) (.str x) = true := by
  show (x == x) = true
  exact beq_self_eq_true x
theorem flat_ints (xs : List Int) : (xs.map W.int).all flat = true := by rw [List.all_map]; exact List.all_eq_true.mpr fun _ _ => rfl
theorem flat_strs (xs : List Str) : (xs.map W.str).all flat = true := by rw [List.all_map]; exact List.all_eq_true.mpr fun _ _ => rfl
theorem any_int (xs : List Int) (x : Int) : ((xs.map W.int).any fun w => eqF w (.int x)) = decide (x ∈ xs) := by
  induction xs with
  | nil => rfl
  | cons y ys ih =>
    rw [List.map_cons, List.any_cons, ih]
    show ((y == x) || decide (x ∈ ys)) = _
    by_cases h : y = x
    · subst h; simp
    · have h' : ¬ x = y := fun z => h z.symm
      by_cases h2 : x ∈ ys <;> simp [h, h', h2]
theorem any_str (xs : List Str) (x : Str) : ((xs.map W.str).any fun w => eqF w (.str x)) = decide (x ∈ xs) := by
  induction xs with
  | nil => rfl
  | cons y ys ih =>
    rw [List.map_cons, List.any_cons, ih]
    show ((y == x) || decide (x ∈ ys)) = _
    by_cases h : y = x
    · subst h; simp
    · have h' : ¬ x = y := fun z => h z.symm
      by_cases h2 : x ∈ ys <;> simp [h, h', h2]
theorem rep_one {α : Type} (n : Nat) (x : α) : (List.replicate n [x]).flatten = List.replicate n x := by
  induction n with
  | zero => rfl
  | succ n ih => rw [List.replicate_succ, List.flatten_cons, ih, List.replicate_succ]; rfl
theorem sum_set : ∀ (l : List Int) (i : Nat) (x y : Int), l[i]? = some y → (l.set i x).sum = l.sum - y + x
  | [], i, x, y, h => by simp at h
  | a :: l, 0, x, y, h => by
    have h : a = y := by simpa using h
    subst h
    simp only [List.set_cons_zero, List.sum_cons]; omega
  | a :: l, i + 1, x, y, h => by
    have h : l[i]? = some y := by simpa using h
    simp only [List.set_cons_succ, List.sum_cons, sum_set l i x y h]; omega
theorem le_sum : ∀ {l : List Int}, (∀ r ∈ l, 0 ≤ r) → 0 ≤ l.sum ∧ ∀ r ∈ l, r ≤ l.sum
  | [], _ => ⟨by simp, fun r h => by cases h⟩
  | a :: l, h => by
    obtain ⟨h1, h2⟩ := le_sum (l := l) fun r hr => h r (List.mem_cons_of_mem _ hr)
    have h3 := h a (List.mem_cons_self ..)
    refine ⟨by simp only [List.sum_cons]; omega, fun r hr => ?_⟩
    simp only [List.sum_cons]
    rcases List.mem_cons.mp hr with rfl | hr
    · omega
    · have := h2 r hr; omega
theorem sum_rep (n : Nat) (x : Int) : (List.replicate n x).sum = n * x := by
  induction n with
  | zero => simp
  | succ n ih => rw [List.replicate_succ, List.sum_cons, ih]; push_cast; rw [Int.add_mul, Int.one_mul]; omega
theorem perm_sum {xs ys : List Int} (h : xs.Perm ys) : xs.sum = ys.sum := by
  induction h with
  | nil => rfl
  | cons x _ ih => rw [List.sum_cons, List.sum_cons, ih]
  | swap x y l => simp only [List.sum_cons]; omega
  | trans _ _ a b => exact a.trans b
theorem sum_low {B : Nat} : ∀ {xs : List Int}, (∀ x ∈ xs, x.natAbs < B) → xs.sum.natAbs ≤ B * xs.length
  | [], _ => by simp
  | x :: xs, h => by
    have h1 := h x (List.mem_cons_self ..)
    have h2 := sum_low (xs := xs) fun y hy => h y (List.mem_cons_of_mem _ hy)
    rw [List.sum_cons, List.length_cons, Nat.mul_add, Nat.mul_one]
    omega
theorem map_erase {α β : Type} (f : α → β) : ∀ (xs : List α) (i : Nat), (xs.map f).eraseIdx i = (xs.eraseIdx i).map f
  | [], _ => rfl
  | _ :: _, 0 => rfl
  | x :: xs, i + 1 => by show f x :: (xs.map f).eraseIdx i = f x :: (xs.eraseIdx i).map f; rw [map_erase f xs i]
theorem mem_erase {α : Type} {xs : List α} {i : Nat} {x : α} (h : x ∈ xs.eraseIdx i) : x ∈ xs := (List.eraseIdx_sublist xs i).subset h
theorem range_get {α : Type} (d : α) (xs : List α) : (List.range xs.length).map (fun i => xs.getD i d) = xs := by
  apply List.ext_getElem
  · simp
  · intro i h1 h2
    rw [List.getElem_map, List.getElem_range, List.getD_eq_getElem?_getD, List.getElem?_eq_getElem h2]; rfl
theorem range_map {α β : Type} (d : α) (f : α → β) (xs : List α) : (List.range xs.length).map (fun i => f (xs.getD i d)) = xs.map f := by
  have := congrArg (List.map f) (range_get d xs)
  rw [List.map_map] at this
  exact this
end Dp
namespace Dp
open PySem PySem.Spec L2
open PyProof.Rows hiding St

theorem canLay_ints : ∀ ns : List Int, PyData.canLayAll0 (ns.map PyData.int) = true
  | [] => rfl
  | n :: ns => by simp only [List.map_cons, PyData.canLayAll0, canLay_ints ns]; rfl
theorem depth_ints : ∀ ns : List Int, PyData.depthAll (ns.map PyData.int) ≤ PyData.depth (.int 0)
  | [] => Nat.zero_le _
  | n :: ns => Nat.max_le.mpr ⟨Nat.le_refl _, depth_ints ns⟩
theorem shaped_ints (ns : List Int) : SeqAt.shaped (.list (ns.map PyData.int)) = true := by
  have h := depth_ints ns
  have e : PyData.depth (.int 0) = 0 := rfl
  unfold SeqAt.shaped
  rw [Bool.and_eq_true, decide_eq_true_eq]
  refine ⟨canLay_ints ns, ?_⟩
  show PyData.depthAll _ + 1 ≤ 64
  omega
/-! ### small data -/
/-- data whose text is short -/
structure Nice (d : PyData) : Prop where
  lay : d.canLay0 = true
  shorts : d.intsShort 210 = true
  show_ : d.showable = true
  deep : d.depth ≤ 8
  light : d.weight ≤ 700
theorem strOk_iff {x : Str} : PyData.strOk x = true ↔ ∀ c ∈ x.cps.toList, c < 0x110000 := by
  unfold PyData.strOk
  rw [Array.all_eq_true_iff_forall_mem]
  constructor
  · intro h c hc
    have := h c (Array.mem_toList_iff.mp hc)
    simpa using this
  · intro h c hc
    simpa using h c (Array.mem_toList_iff.mpr hc)
theorem nice_str {x : Str} (h : PyData.strOk x = true) (l : x.length ≤ 700) : Nice (.str x) := ⟨h, rfl, rfl, Nat.zero_le _, l⟩
theorem nice_int {i : Int} (h : i.natAbs < 10 ^ 205) : Nice (.int i) := by
  have h2 : i.natAbs < 2 ^ 699 := Nat.lt_of_lt_of_le h (by decide +kernel)
  have h3 := log2_lt h2 (by decide)
  refine ⟨rfl, ?_, ?_, Nat.zero_le _, ?_⟩
  · have e := int_text_length_le10 (k := 205) (by decide) h
    show decide ((Str.ofString (toString i)).length ≤ 210) = true
    rw [PySem.ofString_length]; exact decide_eq_true (by omega)
  · show decide (i.natAbs.log2 < 1920) = true
    exact decide_eq_true (by omega)
  · show (if (i == 0) = true then 0 else i.natAbs.log2 + 1) ≤ 700
    split <;> omega
theorem nice_bl (b : Bool) : Nice (.bool b) := ⟨rfl, rfl, rfl, Nat.zero_le _, Nat.zero_le _⟩
theorem nice_non : Nice .none := ⟨rfl, rfl, rfl, Nat.zero_le _, Nat.zero_le _⟩
theorem all_nice {ds : List PyData} (h : ∀ d ∈ ds, Nice d) : PyData.canLayAll0 ds = true ∧ PyData.intsShortAll 210 ds = true ∧ PyData.showableAll ds = true ∧ PyData.depthAll ds ≤ 8 ∧ PyData.weightAll ds ≤ 701 * ds.length := by
  induction ds with
  | nil => exact ⟨rfl, rfl, rfl, Nat.zero_le _, Nat.zero_le _⟩
  | cons d ds ih =>
    obtain ⟨a1, a2, a3, a4, a5⟩ := ih fun x hx => h x (List.mem_cons_of_mem _ hx)
    obtain ⟨b1, b2, b3, b4, b5⟩ := h d (List.mem_cons_self ..)
    refine ⟨?_, ?_, ?_, Nat.max_le.mpr ⟨b4, a4⟩, ?_⟩
    · simp only [PyData.canLayAll0, a1, b1]; rfl
    · simp only [PyData.intsShortAll, a2, b2]; rfl
    · simp only [PyData.showableAll, a3, b3]; rfl
    · simp only [PyData.weightAll, List.length_cons]; omega
theorem show_list {ds : List PyData} (h : ∀ d ∈ ds, Nice d) (l : ds.length ≤ 110) : (PyData.list ds).showable = true ∧ (PyData.list ds).depth ≤ 60 ∧ (PyData.list ds).shown.length ≤ sizeLine ∧ SeqAt.shaped (.list ds) = true := by
  obtain ⟨a1, a2, a3, a4, a5⟩ := all_nice h
  have dp : (PyData.list ds).depth ≤ 9 := by show PyData.depthAll ds + 1 ≤ 9; omega
  have lv := PyData.leavesShort_of_canLay0 210 (.list ds) a1 a2
  have sh := PyData.shown_le 210 (by decide) (.list ds) lv
  have w : (PyData.list ds).weight = PyData.weightAll ds := by simp only [PyData.weight]
  rw [w] at sh
  refine ⟨a3, by omega, ?_, ?_⟩
  · rw [sizeLine_eq]; omega
  · unfold SeqAt.shaped
    rw [Bool.and_eq_true, decide_eq_true_eq]
    exact ⟨a1, by omega⟩
theorem nice_tup1 {d : PyData} (h : Nice d) (hd : d.depth ≤ 7) (hw : d.weight ≤ 699) : Nice (.tuple [d]) := by
  obtain ⟨b1, b2, b3, b4, b5⟩ := h
  refine ⟨?_, ?_, ?_, ?_, ?_⟩
  · simp only [PyData.canLay0, PyData.canLayAll0, b1]; rfl
  · simp only [PyData.intsShort, PyData.intsShortAll, b2]; rfl
  · simp only [PyData.showable, PyData.showableAll, b3]; rfl
  · show max d.depth 0 + 1 ≤ 8; omega
  · simp only [PyData.weight, PyData.weightAll]; omega
theorem nice_lst1 {d : PyData} (h : Nice d) (hd : d.depth ≤ 7) (hw : d.weight ≤ 699) : Nice (.list [d]) := by
  obtain ⟨b1, b2, b3, b4, b5⟩ := nice_tup1 h hd hw
  exact ⟨b1, b2, b3, b4, b5⟩
theorem shaped_nice {d : PyData} (h : Nice d) : SeqAt.shaped d = true := by
  unfold SeqAt.shaped
  rw [Bool.and_eq_true, decide_eq_true_eq]
  exact ⟨h.lay, by have := h.deep; omega⟩
/-- small data, checked -/
def niceB (d : PyData) : Bool := d.canLay0 && d.intsShort 210 && d.showable && decide (d.depth ≤ 8) && decide (d.weight ≤ 700)
theorem nice_by {d : PyData} (h : niceB d = true) : Nice d := by
  unfold niceB at h
  simp only [Bool.and_eq_true, decide_eq_true_eq] at h
  exact ⟨h.1.1.1.1, h.1.1.1.2, h.1.1.2, h.1.2, h.2⟩
/-! ### texts -/
theorem sok_of (s : String) : PyData.strOk (Str.ofString s) = true := by
  rw [strOk_iff, Str.ofString_eq_toList]
  intro c hc
  have hc : c ∈ s.toList.map Char.toNat := by simpa using hc
  obtain ⟨ch, _, rfl⟩ := List.mem_map.mp hc
  have h := ch.valid
  rcases h with h | ⟨_, h⟩
  · have h : ch.toNat < 0xd800 := h
    omega
  · exact h
theorem sok_app {x y : Str} (h : PyData.strOk x = true) (k : PyData.strOk y = true) : PyData.strOk (x ++ y) = true := by
  rw [strOk_iff] at *
  intro c hc
  have e : (x ++ y).cps.toList = x.cps.toList ++ y.cps.toList := by
    show (x.cps ++ y.cps).toList = _
    simp
  rw [e] at hc
  rcases List.mem_append.mp hc with hc | hc
  · exact h c hc
  · exact k c hc
theorem len_app (x y : Str) : (x ++ y).length = x.length + y.length := strLen_append ..
theorem cut_mem {α : Type} {xs : List α} {lo hi : Option Int} {c : α} (h : c ∈ cutW xs lo hi) : c ∈ xs := List.mem_of_mem_drop (List.mem_of_mem_take h)
theorem sok_cut {x : Str} (h : PyData.strOk x = true) (lo hi : Option Int) : PyData.strOk ⟨(cutW x.cps.toList lo hi).toArray⟩ = true := by
  rw [strOk_iff] at *
  intro c hc
  exact h c (cut_mem (by simpa using hc))
theorem len_toList (x : Str) : x.cps.toList.length = x.length := by simp [Str.length]
theorem len_cut (x : Str) (lo hi : Option Int) : (⟨(cutW x.cps.toList lo hi).toArray⟩ : Str).length ≤ x.length := by
  have : (⟨(cutW x.cps.toList lo hi).toArray⟩ : Str).length = (cutW x.cps.toList lo hi).length := by simp [Str.length]
  rw [this]
  unfold cutW
  rw [List.length_take, List.length_drop, len_toList]
  omega
theorem sok_one {x : Str} {ch : Nat} (h : PyData.strOk x = true) (k : ch ∈ x.cps.toList) : PyData.strOk ⟨#[ch]⟩ = true := by
  rw [strOk_iff] at *
  intro c hc
  have : c = ch := by simpa using hc
  rw [this]; exact h ch k
theorem atI_mem {α : Type} {xs : List α} {i : Int} {w : α} (h : atI xs i = some w) : w ∈ xs := by
  unfold atI at h
  cases e : ixN xs.length i with
  | none => rw [e] at h; cases h
  | some j => rw [e] at h; exact List.mem_of_getElem? h
theorem atI_some {α : Type} {xs : List α} {i : Int} (h0 : 0 ≤ i) (h : i < xs.length) : ∃ w, atI xs i = some w ∧ w ∈ xs := by
  have hl : i.toNat < xs.length := by omega
  refine ⟨xs[i.toNat], atI_pos h0 (List.getElem?_eq_getElem hl), List.getElem_mem hl⟩
/-- one sign of a text -/
theorem ix_s {S : Sto} {z : Str} {i : Int} {K : WK} (hz : z.length ≤ sizeLine) (h0 : 0 ≤ i) (h : i < z.length) (k : ∀ ch ∈ z.cps.toList, K (.str ⟨#[ch]⟩) S) : ixK (.str z) (.int i) S K := by
  obtain ⟨w, e, m⟩ := atI_some (xs := z.cps.toList) h0 (by rw [len_toList]; exact h)
  unfold ixK
  exact ⟨hz, w, e, k w m⟩
/-! ### data that may be shown -/
structure Fine (d : PyData) : Prop where
  lay : d.canLay0 = true
  shorts : d.intsShort 210 = true
  show_ : d.showable = true
  deep : d.depth ≤ 8
  light : d.weight ≤ 40000
theorem Nice.fine {d : PyData} (h : Nice d) : Fine d := ⟨h.lay, h.shorts, h.show_, h.deep, Nat.le_trans h.light (by decide)⟩
theorem fine_show {d : PyData} (h : Fine d) : d.showable = true ∧ d.depth ≤ 60 ∧ d.shown.length ≤ sizeLine ∧ SeqAt.shaped d = true := by
  have lv := PyData.leavesShort_of_canLay0 210 d h.lay h.shorts
  have sh := PyData.shown_le 210 (by decide) d lv
  have h4 := h.deep
  have h5 := h.light
  refine ⟨h.show_, by omega, by rw [sizeLine_eq]; omega, ?_⟩
  unfold SeqAt.shaped
  rw [Bool.and_eq_true, decide_eq_true_eq]
  exact ⟨h.lay, by omega⟩
theorem all_fine {B : Nat} {ds : List PyData} (h : ∀ d ∈ ds, Fine d ∧ d.depth ≤ 7 ∧ d.weight ≤ B) : PyData.canLayAll0 ds = true ∧ PyData.intsShortAll 210 ds = true ∧ PyData.showableAll ds = true ∧ PyData.depthAll ds ≤ 7 ∧ PyData.weightAll ds ≤ (B + 1) * ds.length := by
  induction ds with
  | nil => exact ⟨rfl, rfl, rfl, Nat.zero_le _, Nat.zero_le _⟩
  | cons d ds ih =>
    obtain ⟨a1, a2, a3, a4, a5⟩ := ih fun x hx => h x (List.mem_cons_of_mem _ hx)
    obtain ⟨⟨b1, b2, b3, _, _⟩, b4, b5⟩ := h d (List.mem_cons_self ..)
    refine ⟨?_, ?_, ?_, Nat.max_le.mpr ⟨b4, a4⟩, ?_⟩
    · simp only [PyData.canLayAll0, a1, b1]; rfl
    · simp only [PyData.intsShortAll, a2, b2]; rfl
    · simp only [PyData.showableAll, a3, b3]; rfl
    · simp only [PyData.weightAll, List.length_cons, Nat.mul_add, Nat.mul_one]; omega
theorem fine_tup {ds : List PyData} (B : Nat) (h : ∀ d ∈ ds, Fine d ∧ d.depth ≤ 7 ∧ d.weight ≤ B) (l : (B + 1) * ds.length ≤ 40000) : Fine (.tuple ds) := by
  obtain ⟨a1, a2, a3, a4, a5⟩ := all_fine h
  exact ⟨a1, a2, a3, by show PyData.depthAll ds + 1 ≤ 8; omega, by show PyData.weightAll ds ≤ _; omega⟩
theorem fine_lst {ds : List PyData} (B : Nat) (h : ∀ d ∈ ds, Fine d ∧ d.depth ≤ 7 ∧ d.weight ≤ B) (l : (B + 1) * ds.length ≤ 40000) : Fine (.list ds) := by
  obtain ⟨a1, a2, a3, a4, a5⟩ := all_fine h
  exact ⟨a1, a2, a3, by show PyData.depthAll ds + 1 ≤ 8; omega, by show PyData.weightAll ds ≤ _; omega⟩
def fineB (d : PyData) : Bool := d.canLay0 && d.intsShort 210 && d.showable && decide (d.depth ≤ 8) && decide (d.weight ≤ 40000)
theorem fine_by {d : PyData} (h : fineB d = true) : Fine d := by
  unfold fineB at h
  simp only [Bool.and_eq_true, decide_eq_true_eq] at h
  exact ⟨h.1.1.1.1, h.1.1.1.2, h.1.1.2, h.1.2, h.2⟩
theorem len_weight : ∀ ds : List PyData, ds.length ≤ PyData.weightAll ds
  | [] => Nat.zero_le _
  | d :: ds => by have := len_weight ds; simp only [PyData.weightAll, List.length_cons]; omega
theorem fine_len {ds : List PyData} (h : Fine (.tuple ds)) : ds.length ≤ 40000 := Nat.le_trans (len_weight ds) h.light
theorem filter_lay {q : PyData → Bool} : ∀ {ds : List PyData}, PyData.canLayAll0 ds = true → PyData.canLayAll0 (ds.filter q) = true ∧ PyData.depthAll (ds.filter q) ≤ PyData.depthAll ds
  | [], _ => ⟨rfl, Nat.le_refl _⟩
  | d :: ds, h => by
    have h : (d.canLay0 && PyData.canLayAll0 ds) = true := h
    rw [Bool.and_eq_true] at h
    obtain ⟨i1, i2⟩ := filter_lay (q := q) h.2
    rw [List.filter_cons]
    split
    · exact ⟨by show (d.canLay0 && _) = true; rw [h.1, i1]; rfl, Nat.max_le.mpr ⟨Nat.le_max_left .., Nat.le_trans i2 (Nat.le_max_right ..)⟩⟩
    · exact ⟨i1, Nat.le_trans i2 (Nat.le_max_right ..)⟩
theorem shaped_filter {q : PyData → Bool} {ds : List PyData} (h : Fine (.tuple ds)) : SeqAt.shaped (.list (ds.filter q)) = true := by
  obtain ⟨a, b⟩ := filter_lay (q := q) (ds := ds) h.lay
  have c : PyData.depthAll ds + 1 ≤ 8 := h.deep
  unfold SeqAt.shaped
  rw [Bool.and_eq_true, decide_eq_true_eq]
  exact ⟨a, by show PyData.depthAll _ + 1 ≤ 64; omega⟩
theorem eqv_nil (es : List PyData) : PyData.eqv (.list es) (.list []) = es.isEmpty := by cases es <;> rfl
theorem fine_int {i : Int} (h : i.natAbs < 2 ^ 30) : Fine (.int i) ∧ (PyData.int i).depth ≤ 7 ∧ (PyData.int i).weight ≤ 30 := by
  have h3 := log2_lt h (by decide)
  refine ⟨(nice_int (by omega)).fine, Nat.zero_le _, ?_⟩
  show (if (i == 0) = true then 0 else i.natAbs.log2 + 1) ≤ 30
  split <;> omega
/-- small: fine, shallow, light -/
def Smal (d : PyData) : Prop := Fine d ∧ d.depth ≤ 7 ∧ d.weight ≤ 700
theorem smal_int {i : Int} (h : i.natAbs < 10 ^ 205) : Smal (.int i) := ⟨(nice_int h).fine, Nat.zero_le _, (nice_int h).light⟩
theorem smal_i {i : Int} (h : i.natAbs < 2 ^ 400) : Smal (.int i) := smal_int (Nat.lt_trans h (by decide +kernel))
theorem smal_by {d : PyData} (h : (fineB d && decide (d.depth ≤ 7) && decide (d.weight ≤ 700)) = true) : Smal d := by
  simp only [Bool.and_eq_true, decide_eq_true_eq] at h
  exact ⟨fine_by h.1.1, h.1.2, h.2⟩
theorem smal_ints {xs : List Int} (h : ∀ x ∈ xs, x.natAbs < 2 ^ 400) : ∀ d ∈ xs.map PyData.int, Smal d := fun d hd => by
  obtain ⟨r, hr, rfl⟩ := List.mem_map.mp hd
  exact smal_i (h r hr)
theorem smal_show {d : PyData} (h : Fine d) : d.showable = true ∧ d.depth ≤ 60 ∧ d.shown.length ≤ sizeLine := by
  obtain ⟨a, b, c, _⟩ := fine_show h
  exact ⟨a, b, c⟩
theorem smal_set {ds : List PyData} {i : Nat} {d : PyData} (h : ∀ e ∈ ds, Smal e) (k : Smal d) : ∀ e ∈ ds.set i d, Smal e := fun e he => by
  rcases List.mem_or_eq_of_mem_set he with he | rfl
  · exact h e he
  · exact k
theorem fine_smal {ds : List PyData} (h : ∀ d ∈ ds, Smal d) (l : ds.length ≤ 28) : Fine (.tuple ds) := fine_tup 700 h (by omega)
theorem fine_smalL {ds : List PyData} (h : ∀ d ∈ ds, Smal d) (l : ds.length ≤ 28) : Fine (.list ds) := fine_lst 700 h (by omega)
/-- fine, of that depth and weight -/
structure FinD (k B : Nat) (d : PyData) : Prop where
  fine : Fine d
  deep : d.depth ≤ k
  light : d.weight ≤ B
theorem FinD.mono {k B k' B' : Nat} {d : PyData} (h : FinD k B d) (a : k ≤ k') (b : B ≤ B') : FinD k' B' d := ⟨h.fine, Nat.le_trans h.deep a, Nat.le_trans h.light b⟩
theorem find_all {k B : Nat} : ∀ {ds : List PyData}, (∀ d ∈ ds, FinD k B d) → PyData.canLayAll0 ds = true ∧ PyData.intsShortAll 210 ds = true ∧ PyData.showableAll ds = true ∧ PyData.depthAll ds ≤ k ∧ PyData.weightAll ds ≤ (B + 1) * ds.length
  | [], _ => ⟨rfl, rfl, rfl, Nat.zero_le _, Nat.zero_le _⟩
  | d :: ds, h => by
    obtain ⟨a1, a2, a3, a4, a5⟩ := find_all (ds := ds) fun x hx => h x (List.mem_cons_of_mem _ hx)
    obtain ⟨⟨b1, b2, b3, _, _⟩, b4, b5⟩ := h d (List.mem_cons_self ..)
    refine ⟨?_, ?_, ?_, Nat.max_le.mpr ⟨b4, a4⟩, ?_⟩
    · simp only [PyData.canLayAll0, a1, b1]; rfl
    · simp only [PyData.intsShortAll, a2, b2]; rfl
    · simp only [PyData.showableAll, a3, b3]; rfl
    · simp only [PyData.weightAll, List.length_cons, Nat.mul_add, Nat.mul_one]; omega
theorem fd_tup {k B : Nat} {ds : List PyData} (h : ∀ d ∈ ds, FinD k B d) (hk : k ≤ 7) (hB : (B + 1) * ds.length ≤ 40000) : FinD (k + 1) ((B + 1) * ds.length) (.tuple ds) := by
  obtain ⟨a1, a2, a3, a4, a5⟩ := find_all h
  exact ⟨⟨a1, a2, a3, by show PyData.depthAll ds + 1 ≤ 8; omega, by show PyData.weightAll ds ≤ _; omega⟩, by show PyData.depthAll ds + 1 ≤ _; omega, a5⟩
theorem fd_lst {k B : Nat} {ds : List PyData} (h : ∀ d ∈ ds, FinD k B d) (hk : k ≤ 7) (hB : (B + 1) * ds.length ≤ 40000) : FinD (k + 1) ((B + 1) * ds.length) (.list ds) := by
  obtain ⟨a1, a2, a3, a4, a5⟩ := find_all h
  exact ⟨⟨a1, a2, a3, by show PyData.depthAll ds + 1 ≤ 8; omega, by show PyData.weightAll ds ≤ _; omega⟩, by show PyData.depthAll ds + 1 ≤ _; omega, a5⟩
theorem fd_int {b : Nat} {i : Int} (h : i.natAbs < 2 ^ b) (h0 : 0 < b) (hb : b ≤ 600) : FinD 0 b (.int i) := by
  have h3 := log2_lt h h0
  refine ⟨(nice_int (Nat.lt_of_lt_of_le (Nat.lt_of_lt_of_le h (Nat.pow_le_pow_right (by decide) hb)) (by decide +kernel))).fine, Nat.zero_le _, ?_⟩
  show (if (i == 0) = true then 0 else i.natAbs.log2 + 1) ≤ b
  split <;> omega
theorem fd_ints {b : Nat} {xs : List Int} (h : ∀ x ∈ xs, x.natAbs < 2 ^ b) (h0 : 0 < b) (hb : b ≤ 600) : ∀ d ∈ xs.map PyData.int, FinD 0 b d := fun d hd => by
  obtain ⟨x, hx, rfl⟩ := List.mem_map.mp hd
  exact fd_int (h x hx) h0 hb
theorem FinD.show_ {k B : Nat} {d : PyData} (h : FinD k B d) : d.showable = true ∧ d.depth ≤ 60 ∧ d.shown.length ≤ sizeLine := smal_show h.fine
def pairD (p : Int × Int) : PyData := .tuple [.int p.1, .int p.2]
theorem fd_pairs {b : Nat} {ps : List (Int × Int)} (h : ∀ p ∈ ps, p.1.natAbs < 2 ^ b ∧ p.2.natAbs < 2 ^ b) (h0 : 0 < b) (hb : b ≤ 600) : ∀ d ∈ ps.map pairD, FinD 1 ((b + 1) * 2) d := fun d hd => by
  obtain ⟨p, hp, rfl⟩ := List.mem_map.mp hd
  obtain ⟨h1, h2⟩ := h p hp
  refine fd_tup (k := 0) (B := b) (ds := [.int p.1, .int p.2]) (fun e he => ?_) (by decide) (by show (b + 1) * 2 ≤ _; omega)
  simp only [List.mem_cons, List.not_mem_nil, or_false] at he
  rcases he with rfl | rfl
  · exact fd_int h1 h0 hb
  · exact fd_int h2 h0 hb

theorem fd_str {x : Str} (h : PyData.strOk x = true) {n : Nat} (l : x.length ≤ n) (ln : n ≤ 700) : FinD 0 n (.str x) := ⟨(nice_str h (by omega)).fine, Nat.zero_le _, l⟩
theorem fd_bl (b : Bool) : FinD 0 0 (.bool b) := ⟨(nice_bl b).fine, Nat.zero_le _, Nat.zero_le _⟩
theorem fd_non : FinD 0 0 .none := ⟨nice_non.fine, Nat.zero_le _, Nat.zero_le _⟩
theorem fd_by {k B : Nat} {d : PyData} (h : (fineB d && decide (d.depth ≤ k) && decide (d.weight ≤ B)) = true) : FinD k B d := by
  simp only [Bool.and_eq_true, decide_eq_true_eq] at h
  exact ⟨fine_by h.1.1, h.1.2, h.2⟩
/-! ### plain data -/
mutual
inductive Da : W → PyData → Prop where
  | non : Da .non .none
  | bl (b : Bool) : Da (.bl b) (.bool b)
  | int (i : Int) : Da (.int i) (.int i)
  | str (x : Str) : Da (.str x) (.str x)
  | tup {ws : List W} {ds : List PyData} (h : Das ws ds) : Da (.tup ws) (.tuple ds)
  | lst {ws : List W} {ds : List PyData} (h : Das ws ds) : Da (.lst ws) (.list ds)
inductive Das : List W → List PyData → Prop where
  | nil : Das [] []
  | cons {w : W} {ws : List W} {d : PyData} {ds : List PyData} (h : Da w d) (t : Das ws ds) : Das (w :: ws) (d :: ds)
end
mutual
theorem Da.den {S : Sto} : ∀ {w : W} {d : PyData}, Da w d → Den S w d
  | _, _, .non => .non
  | _, _, .bl b => .bl b
  | _, _, .int b => .int b
  | _, _, .str b => .str b
  | _, _, .tup t => .tup (Das.den t)
  | _, _, .lst t => .lst (Das.den t)
theorem Das.den {S : Sto} : ∀ {w : List W} {d : List PyData}, Das w d → Dens S w d
  | _, _, .nil => .nil
  | _, _, .cons a t => .cons (Da.den a) (Das.den t)
end
theorem Das.append {a b : List W} {x y : List PyData} (h : Das a x) (k : Das b y) : Das (a ++ b) (x ++ y) := by
  induction a generalizing x with
  | nil => cases h; exact k
  | cons w ws ih => cases h with | cons h t => exact .cons h (ih t)
theorem Das.take {a : List W} {x : List PyData} (n : Nat) (h : Das a x) : Das (a.take n) (x.take n) := by
  induction a generalizing x n with
  | nil => cases h; simp; exact .nil
  | cons w ws ih =>
    cases h with
    | cons h t =>
      cases n with
      | zero => exact .nil
      | succ n => simp; exact .cons h (ih n t)
theorem Das.drop {a : List W} {x : List PyData} (n : Nat) (h : Das a x) : Das (a.drop n) (x.drop n) := by
  induction a generalizing x n with
  | nil => cases h; simp; exact .nil
  | cons w ws ih =>
    cases h with
    | cons h t =>
      cases n with
      | zero => exact .cons h t
      | succ n => simp; exact ih n t
theorem Das.length {a : List W} {x : List PyData} (h : Das a x) : a.length = x.length := by
  induction a generalizing x with
  | nil => cases h; rfl
  | cons w ws ih => cases h with | cons h t => rw [List.length_cons, List.length_cons, ih t]
theorem Das.get {a : List W} {x : List PyData} (h : Das a x) {i : Nat} {w : W} (e : a[i]? = some w) : ∃ d, x[i]? = some d ∧ Da w d := by
  induction a generalizing x i with
  | nil => simp at e
  | cons z ws ih =>
    cases h with
    | cons h t =>
      cases i with
      | zero => simp at e; subst e; exact ⟨_, by simp, h⟩
      | succ i => simpa using ih t (by simpa using e)
theorem Das.get' {a : List W} {x : List PyData} (h : Das a x) {i : Nat} {d : PyData} (e : x[i]? = some d) : ∃ w, a[i]? = some w ∧ Da w d := by
  induction a generalizing x i with
  | nil => cases h; simp at e
  | cons z ws ih =>
    cases h with
    | cons h t =>
      cases i with
      | zero => simp at e; subst e; exact ⟨_, by simp, h⟩
      | succ i => simpa using ih t (by simpa using e)
theorem Das.mem {a : List W} {x : List PyData} (h : Das a x) {w : W} (e : w ∈ a) : ∃ d ∈ x, Da w d := by
  obtain ⟨i, hi, e⟩ := List.getElem_of_mem e
  obtain ⟨d, h1, h2⟩ := h.get (i := i) (w := w) (by rw [List.getElem?_eq_getElem hi, e])
  exact ⟨d, List.mem_of_getElem? h1, h2⟩
theorem Das.set {a : List W} {x : List PyData} {w : W} {d : PyData} (i : Nat) (h : Das a x) (k : Da w d) : Das (a.set i w) (x.set i d) := by
  induction a generalizing x i with
  | nil => cases h; exact .nil
  | cons z ws ih =>
    cases h with
    | cons h t =>
      cases i with
      | zero => exact .cons k t
      | succ i => exact .cons h (ih i t)
theorem Das.rev {a : List W} {x : List PyData} (h : Das a x) : Das a.reverse x.reverse := by
  induction a generalizing x with
  | nil => cases h; exact .nil
  | cons w ws ih => cases h with | cons h t => simp; exact (ih t).append (.cons h .nil)
theorem Das.erase {a : List W} {x : List PyData} (i : Nat) (h : Das a x) : Das (a.eraseIdx i) (x.eraseIdx i) := by
  induction a generalizing x i with
  | nil => cases h; exact .nil
  | cons z ws ih =>
    cases h with
    | cons h t =>
      cases i with
      | zero => exact t
      | succ i => exact .cons h (ih i t)
/-- the value that data is -/
def toW : PyData → W
  | .none => .non
  | .bool b => .bl b
  | .int i => .int i
  | .str x => .str x
  | .tuple ds => .tup (toWs ds)
  | .list ds => .lst (toWs ds)
  | _ => .non
where toWs : List PyData → List W
  | [] => []
  | d :: ds => toW d :: toWs ds
theorem das_ints : ∀ ns : List Int, Das (ns.map W.int) (ns.map PyData.int)
  | [] => .nil
  | n :: ns => .cons (.int n) (das_ints ns)
theorem das_map {α : Type} {e : α → W} {f : α → PyData} : ∀ (l : List α), (∀ a ∈ l, Da (e a) (f a)) → Das (l.map e) (l.map f)
  | [], _ => .nil
  | a :: l, h => .cons (h a (List.mem_cons_self ..)) (das_map l fun b hb => h b (List.mem_cons_of_mem _ hb))
theorem da_ints (ns : List Int) : Da (.tup (ns.map W.int)) (.tuple (ns.map PyData.int)) := .tup (das_ints ns)
theorem das_pairs (ps : List (Int × Int)) : Das (ps.map pairW) (ps.map pairD) := das_map ps fun p _ => .tup (.cons (.int _) (.cons (.int _) .nil))
/-- what is told, and shown -/
theorem repr_s {S : Sto} {x : W} {d : PyData} {k B : Nat} {K : WK} (h : Da x d) (f : FinD k B d) (q : K (.str d.shown) S) : fRepr2 [x] S K := by
  obtain ⟨a, b, c⟩ := f.show_
  exact repr_a h.den a b c q
theorem shp {k B : Nat} {d : PyData} (f : FinD k B d) : SeqAt.shaped d = true := by
  obtain ⟨_, _, _, h⟩ := fine_show f.fine; exact h
theorem eq_a {S : Sto} {x y : W} {d e : PyData} {k B k' B' : Nat} {K : Bool → Prop} (h : Da x d) (h' : Da y e) (f : FinD k B d) (f' : FinD k' B' e) (q : K (PyData.eqv d e)) : eqK S x y K := eq_d h.den h'.den (shp f) (shp f') q
/-! ### numbers by kind -/
def numB : PyData → Bool
  | .int _ => true
  | _ => false
def valI : PyData → Int
  | .int i => i
  | _ => 0
def pNum : Pm := fun ws S Kk Ek => ∃ w d, ws = [w] ∧ Da w d ∧ Kk (.bl (numB d)) S
theorem kNumA (p : Nat → Pm) (G : Nat → W) : Keeps p G 1 1 (.cons (.ret (.and (.isi .int (.var 0)) (.not (.isi .bool (.var 0))))) .nil) pNum := by
  rintro ws S Kk Ek ⟨w, d, rfl, hd, k⟩
  refine ⟨rfl, ?_⟩
  cases hd with
  | _ => ((conv => whnf); refine step_ ?_; (conv => whnf)); exact fgt_id k
theorem num_ints : ∀ {ws : List W} {ds : List PyData}, Das ws ds → ds.all numB = true → ws = List.map W.int (ds.map valI)
  | [], _, .nil, _ => rfl
  | w :: ws, d :: ds, .cons h t, k => by
    rw [List.all_cons, Bool.and_eq_true] at k
    rw [num_ints t k.2]
    cases h with
    | int i => rfl
    | _ => exact (Bool.false_ne_true k.1).elim
theorem num_intsD : ∀ {ds : List PyData}, ds.all numB = true → ds = (ds.map valI).map PyData.int
  | [], _ => rfl
  | d :: ds, k => by
    rw [List.all_cons, Bool.and_eq_true] at k
    rw [List.map_cons, List.map_cons, ← num_intsD k.2]
    cases d with
    | int i => rfl
    | _ => exact (Bool.false_ne_true k.1).elim
theorem ints_num (xs : List Int) : (xs.map PyData.int).all numB = true ∧ (xs.map PyData.int).map valI = xs := by
  induction xs with
  | nil => exact ⟨rfl, rfl⟩
  | cons x xs ih => exact ⟨by rw [List.map_cons, List.all_cons, ih.1]; rfl, by rw [List.map_cons, List.map_cons, ih.2]; rfl⟩
theorem eqv_nilT (es : List PyData) : PyData.eqv (.tuple es) (.tuple []) = es.isEmpty := by cases es <;> rfl
end Dp
/-! the program's own exception classes, as a head's facts tell them -/
namespace Dp
open PySem PySem.Spec L2
open PyProof.Rows hiding St

def oexB (K : PySem.W.Frag) (C : Addr) : Bool := (match K.lookup C with
  | some ⟨.type "type", _, .cls cd, sl⟩ => (match cd.mro, sl.toList with
    | .ref C' :: bm, [_, _, _, _, some (.builtin n), _] => decide (C' = C) && decide (n = "ValueError.__new__") && !cd.hasDel && cd.hasDict && PySem.HandSPX.refsVE bm
    | _, _ => false)
  | _ => false) && decide (PySem.W.findIn K (.ref C) "__setattr__" = some (some (.builtin "object.__setattr__"))) && decide (PySem.W.subIn K (.ref C) (.type "BaseException") = some true) && decide (PySem.W.typeIn K (.ref C) = some (.type "type")) && PySem.W.keepIn K (.ref C)
theorem oexB_ok {K : PySem.W.Frag} {C : Addr} (h : oexB K C = true) : OexC K C := by
  unfold oexB at h
  simp only [Bool.and_eq_true, decide_eq_true_eq] at h
  obtain ⟨⟨⟨⟨q, h2⟩, h3⟩, h4⟩, h5⟩ := h
  refine ⟨?_, h2, h3, h4, h5⟩
  split at q
  · rename_i dd cd sl ho
    split at q
    · rename_i C' bm k0 k1 k2 k3 n k5 hm hs
      simp only [Bool.and_eq_true, decide_eq_true_eq, Bool.not_eq_true'] at q
      obtain ⟨⟨⟨⟨rfl, rfl⟩, hdel⟩, hdct⟩, ht⟩ := q
      obtain ⟨nm, bs, mro, ns, qn, hd, sn, sub, ab, col, del⟩ := cd
      dsimp only at hm hdel hdct
      subst hm hdel hdct
      have hsl : sl = #[k0, k1, k2, k3, some (.builtin "ValueError.__new__"), k5] := by
        obtain ⟨l⟩ := sl
        simp only at hs
        rw [hs]
      subst hsl
      exact ⟨nm, qn, ns, bs, bm, sn, sub, ab, col, dd, k0, k1, k2, k3, k5, ho, ht⟩
    · cases q
  · cases q
def excB (K : PySem.W.Frag) (D : Addr) : Bool := decide (PySem.W.findIn K (.ref D) "__getattribute__" = some (some (.builtin "BaseException.__getattribute__"))) && decide (PySem.W.findIn K (.ref D) "__getattr__" = some none) && decide (PySem.W.subIn K (.ref D) (.type "BaseException") = some true) && PySem.W.hasDictIn K D &&
  decide (PySem.W.findIn K (.ref D) "__class__" = some (some (.builtin "object.__class__"))) && decide (PySem.W.specialIn K (.builtin "object.__class__") "__get__" = some (some (.builtin "getset_descriptor.__get__"))) && decide (PySem.W.takesIn K (.builtin "object.__class__") = some true) && decide (PySem.W.mroIn K D (.type "object") = some true)
theorem excB_ok {K : PySem.W.Frag} {D : Addr} (h : excB K D = true) : ExcC K D := by
  unfold excB at h
  simp only [Bool.and_eq_true, decide_eq_true_eq] at h
  obtain ⟨⟨⟨⟨⟨⟨⟨h1, h2⟩, h3⟩, h4⟩, h5⟩, h6⟩, h7⟩, h8⟩ := h
  exact ⟨h1, h2, h3, h4, h5, h6, h7, h8⟩
abbrev clA (K : PySem.W.Frag) (n : Nat) : Addr := He.ga K (clsN n)
abbrev inA (K : PySem.W.Frag) (n : Nat) : Addr := He.ma K (clA K n) "__init__"
def clsB (K : PySem.W.Frag) (n : Nat) : Bool := oexB K (clA K n) && xfB K (clA K n) && excB K (clA K n) && (clsF n).all (fun f => decide (PySem.W.findIn K (.ref (clA K n)) f = some none)) &&
  ((clsF n).isEmpty || (decide (PySem.W.findIn K (.ref (clA K n)) "__init__" = some (some (.ref (inA K n)))) && decide (PySem.W.typeIn K (.ref (inA K n)) = some (.type "function"))))
def betB (K : PySem.W.Frag) (cls : List Nat) : Bool := cls.all (fun i => decide (PySem.W.kitOne K (.ref (clA K i)) (.type "ValueError") = some true) && fldN.all (fun f => decide (PySem.W.findIn K (.ref (clA K i)) f = some none)) &&
  cls.all (fun j => decide (PySem.W.exmOne K (.ref (clA K i)) (.ref (clA K j)) = some (subC i j)) && decide (PySem.W.kitOne K (.ref (clA K i)) (.ref (clA K j)) = some (subC i j))))
def basB (K : PySem.W.Frag) : Bool := PySem.W.readsIn K (clA K 0) (.type "type") && decide (PySem.W.specialIn K (.ref (clA K 0)) "__getattribute__" = some (some (.builtin "type.__getattribute__"))) && (match PySem.W.findCls K (.ref (clA K 0)) (.type "type") "__init__" with
  | some (.val v) => decide (v = .builtin "ValueError.__init__")
  | _ => false)
/-- all that is checked of the classes -/
def clsAllB (cls : List Nat) (K : PySem.W.Frag) : Bool := cls.all (clsB K) && betB K cls && basB K
theorem betB_ok {K : PySem.W.Frag} {cls : List Nat} (h : betB K cls = true) : BetOk K (clA K) cls := by
  unfold betB at h
  rw [List.all_eq_true] at h
  have g : ∀ i ∈ cls, PySem.W.kitOne K (.ref (clA K i)) (.type "ValueError") = some true ∧ (∀ f ∈ fldN, PySem.W.findIn K (.ref (clA K i)) f = some none) ∧ ∀ j ∈ cls, PySem.W.exmOne K (.ref (clA K i)) (.ref (clA K j)) = some (subC i j) ∧ PySem.W.kitOne K (.ref (clA K i)) (.ref (clA K j)) = some (subC i j) := fun i hi => by
    have := h i hi
    simp only [Bool.and_eq_true, decide_eq_true_eq, List.all_eq_true] at this
    exact ⟨this.1.1, this.1.2, this.2⟩
  exact ⟨fun i hi j hj => ((g i hi).2.2 j hj).1, fun i hi j hj => ((g i hi).2.2 j hj).2, fun i hi => (g i hi).1, fun i hi => (g i hi).2.1⟩
theorem basB_ok {K : PySem.W.Frag} (h : basB K = true) : BaseOk K (clA K 0) := by
  unfold basB at h
  simp only [Bool.and_eq_true, decide_eq_true_eq] at h
  refine ⟨h.1.1, h.1.2, ?_⟩
  have h2 := h.2
  split at h2
  · rename_i v e
    rw [e, of_decide_eq_true h2]
  · cases h2
/-- the def __init__ within a class's statement -/
def initS (s : Stmt) : Stmt := match s with
  | .ClassDef _ _ _ body _ _ _ _ _ _ _ => (body.find? fun t => match t with
    | .FunctionDef x _ _ _ _ _ _ _ _ _ => decide (x = ("__init__" : Str))
    | _ => false).getD (.Pass ⟨0, 0, 0, 0⟩)
  | _ => .Pass ⟨0, 0, 0, 0⟩
/-- what the whole's text shows of a class's __init__ -/
structure InOk (s : Stmt) (n : Nat) : Prop where
  sc : ∃ N, FnScope N ("self" :: clsF n) (defScope (initS s)) ∧ chkIn (defScope (initS s)) N (clsF n) (defBody (initS s)) = true
section
variable {P : Program} {w : World} {K : PySem.W.Frag} {mg : Str → Option Value} {base : Heap} {cls : List Nat}
theorem clOk_of {s : Stmt} {n : Nat} {qual : Str} (hg : ∀ i ∈ cls, mg (clsN i) = some (.ref (clA K i))) (h0 : 0 ∈ cls) (c : clsAllB cls K = true) (hn : n ∈ cls)
    (hi : clsF n ≠ [] → InOk s n ∧ ∃ fd, FunD K "__init__" qual (defArgs (initS s)) (defBody (initS s)) (defScope (initS s)) [] [] (inA K n) fd ∧ Binds K fd ("self" :: clsF n) []) : ClOk P w K mg base (clA K) n := by
  unfold clsAllB at c
  simp only [Bool.and_eq_true, List.all_eq_true] at c
  obtain ⟨⟨c1, c2⟩, c3⟩ := c
  have c1 := c1 n hn
  unfold clsB at c1
  simp only [Bool.and_eq_true, Bool.or_eq_true, decide_eq_true_eq, List.all_eq_true] at c1
  obtain ⟨⟨⟨⟨a1, a2⟩, a3⟩, a4⟩, a5⟩ := c1
  refine ⟨hg n hn, oexB_ok a1, xfB_ok a2, excB_ok a3, a4, fun hf => ?_⟩
  obtain ⟨⟨N, g1, g2⟩, fd, F, B⟩ := hi hf
  rcases a5 with a5 | ⟨b1, b2⟩
  · exact absurd (List.isEmpty_iff.mp a5) hf
  · exact ⟨_, fd, b1, b2, B, init_ok F g1 rfl hf (Nat.le_trans (clsF_few n) (by decide)) (hg 0 h0) (basB_ok c3) (oexB_ok a1) a4 g2⟩
end
/-! ### what a head tells: the module's names, and the table of statics -/
structure SaysC (fa : List He.Fa) (fn : List He.DefD) (ex : PySem.W.Frag → Bool) (K : PySem.W.Frag) : Prop where
  d : He.SaysD fa fn K
  m : ex K = true
def frC (g : Addr → Option Obj) (n : Nat) : PySem.W.Frag := He.frT g (PySem.cStatics :: He.asD g n)
def obsC (n : Nat) (fa : List He.Fa) (fn : List He.DefD) (ex : PySem.W.Frag → Bool) (g : Addr → Option Obj) : He.AlD × Bool := (He.obsD fa fn (frC g n), ex (frC g n))
def hookC (n : Nat) (fa : List He.Fa) (fn : List He.DefD) (ex : PySem.W.Frag → Bool) : PySem.W.Hook where
  α := He.AlD × Bool
  obs := fun s => obsC n fa fn ex s.heap.get?
  val := fun _ => (He.valD fn, true)
  says := fun _ h => ∃ K : PySem.W.Frag, K.In h ∧ SaysC fa fn ex K
  of := fun _ _ e => ⟨_, He.frT_in, congrArg (fun z : He.AlD × Bool => z.1) e, congrArg (fun z : He.AlD × Bool => z.2) e⟩
  keeps := fun _ _ _ ⟨K, hK, c⟩ k => ⟨K, PySem.W.Frag.In.keeps hK k, c⟩
theorem obsC_eq {n : Nat} {fa : List He.Fa} {fn : List He.DefD} {ex : PySem.W.Frag → Bool} {g : Addr → Option Obj} {s : Shared} (h : ∀ a, g a = s.heap.get? a) : obsC n fa fn ex g = (hookC n fa fn ex).obs s := by
  have e : g = s.heap.get? := funext h
  rw [e] <;> rfl
end Dp
/-! feeds: the promises of what makes one, of what draws from one -/
namespace Dp
open PySem PySem.Spec L2
open PyProof.Rows hiding St

def adr1 : List W → Option Addr
  | .ref a :: _ => some a
  | _ => none
/-- the same promise, the feed seen from within -/
def opn (q : Pm) : Pm := fun ws S Kk Ek => ∃ (a : Addr) (kk : Fk) (n : Nat) (its : List Int) (x y z : Int) (S0 : Sto), adr1 ws = some a ∧ S0 a = some (.fd kk n) ∧ S = S0.put a (fdW kk its x y z) ∧ its.length ≤ 63 ∧ 0 ≤ x ∧ x ≤ (n : Int) ∧ 0 ≤ z ∧ z ≤ (n : Int) ∧ q ws S0 Kk Ek
/-- a draw below m -/
def pDraw (kk : Fk) : Pm := fun ws S Kk Ek => ∃ f m n, ws = [.ref f, .int m] ∧ 0 < m ∧ m < 2 ^ 64 ∧ S f = some (.fd kk n) ∧ n < 10 ^ 6 ∧ ∀ k, 0 ≤ k → k < m → Kk (.int k) (S.put f (.fd kk (n + 1)))
def pFeed (kk : Fk) : Pm := fun ws S Kk Ek => ∃ z ns, ws = [z] ∧ (z = .lst (List.map W.int ns) ∨ z = .kls (List.map W.int ns)) ∧ ns.length ≤ 63 ∧ ∀ f, S f = none → Kk (.ref f) (S.put f (.fd kk 0))
theorem g_draw {kk : Fk} {c : Cst} {P : Program} {w : World} {mg : Str → Option Value} {base : Heap} {k : Nat} {fa : Addr} {fd : FuncData} {ps : List Str} (G : GOk P w c.K mg base k fa fd ps (spOf c (opn (pDraw kk)))) : GOk P w c.K mg base k fa fd ps (spOf c (pDraw kk)) :=
  spOf_open (f := adr1) G fun ws S Kk Ek h => by
    obtain ⟨f, m, n, rfl, _, _, h, _⟩ := h
    exact ⟨f, kk, n, rfl, h⟩
/-- a draw, where it is called -/
theorem draw_ {S : Sto} {f : Addr} {kk : Fk} {m : Int} {n : Nat} {Kk : WK} {Ek : EK} (hf : S f = some (.fd kk n)) (m0 : 0 < m) (m1 : m < 2 ^ 64) (hn : n < 10 ^ 6) (k : ∀ k, 0 ≤ k → k < m → Kk (.int k) (S.put f (.fd kk (n + 1)))) : pDraw kk [.ref f, .int m] S Kk Ek := ⟨f, m, n, rfl, m0, m1, hf, hn, k⟩
/-! the feed that is a dict -/
abbrev fdD (its : List Int) (i c t : Int) : List (Key × W) := [(kC, W.lst (its.map W.int)), (kA, .int i), (kL, .int c), (kT, .int t)]
theorem kne1 : Str.ofString "cells" ≠ Str.ofString "at" := by decide +kernel
theorem kne2 : Str.ofString "cells" ≠ Str.ofString "left" := by decide +kernel
theorem kne3 : Str.ofString "cells" ≠ Str.ofString "turn" := by decide +kernel
theorem kne4 : Str.ofString "at" ≠ Str.ofString "left" := by decide +kernel
theorem kne5 : Str.ofString "at" ≠ Str.ofString "turn" := by decide +kernel
theorem kne6 : Str.ofString "left" ≠ Str.ofString "turn" := by decide +kernel
section
variable {its : List Int} {i c t j : Int}
theorem val_cells : valW (fdD its i c t) (kC) = some (.lst (its.map W.int)) := by simp [valW, kne1, Ne.symm kne1, kne2, Ne.symm kne2, kne3, Ne.symm kne3, kne4, Ne.symm kne4, kne5, Ne.symm kne5, kne6, Ne.symm kne6]
theorem val_at : valW (fdD its i c t) (kA) = some (.int i) := by simp [valW, kne1, Ne.symm kne1, kne2, Ne.symm kne2, kne3, Ne.symm kne3, kne4, Ne.symm kne4, kne5, Ne.symm kne5, kne6, Ne.symm kne6]
theorem val_left : valW (fdD its i c t) (kL) = some (.int c) := by simp [valW, kne1, Ne.symm kne1, kne2, Ne.symm kne2, kne3, Ne.symm kne3, kne4, Ne.symm kne4, kne5, Ne.symm kne5, kne6, Ne.symm kne6]
theorem val_turn : valW (fdD its i c t) (kT) = some (.int t) := by simp [valW, kne1, Ne.symm kne1, kne2, Ne.symm kne2, kne3, Ne.symm kne3, kne4, Ne.symm kne4, kne5, Ne.symm kne5, kne6, Ne.symm kne6]
theorem put_at : putW (fdD its i c t) (kA) (.int j) = fdD its j c t := by simp [putW, kne1, Ne.symm kne1, kne2, Ne.symm kne2, kne3, Ne.symm kne3, kne4, Ne.symm kne4, kne5, Ne.symm kne5, kne6, Ne.symm kne6]
theorem put_left : putW (fdD its i c t) (kL) (.int j) = fdD its i j t := by simp [putW, kne1, Ne.symm kne1, kne2, Ne.symm kne2, kne3, Ne.symm kne3, kne4, Ne.symm kne4, kne5, Ne.symm kne5, kne6, Ne.symm kne6]
theorem put_turn : putW (fdD its i c t) (kT) (.int j) = fdD its i c j := by simp [putW, kne1, Ne.symm kne1, kne2, Ne.symm kne2, kne3, Ne.symm kne3, kne4, Ne.symm kne4, kne5, Ne.symm kne5, kne6, Ne.symm kne6]
variable {S : Sto} {f : Addr}
theorem dcells {K : WK} (k : K (.lst (its.map W.int)) (S.put f (.dic (fdD its i c t)))) : ixK (.ref f) (.str "cells") (S.put f (.dic (fdD its i c t))) K := ix_d (i := kC) put_same val_cells k
theorem dat {K : WK} (k : K (.int i) (S.put f (.dic (fdD its i c t)))) : ixK (.ref f) (.str "at") (S.put f (.dic (fdD its i c t))) K := ix_d (i := kA) put_same val_at k
theorem dleft {K : WK} (k : K (.int c) (S.put f (.dic (fdD its i c t)))) : ixK (.ref f) (.str "left") (S.put f (.dic (fdD its i c t))) K := ix_d (i := kL) put_same val_left k
theorem dturn {K : WK} (k : K (.int t) (S.put f (.dic (fdD its i c t)))) : ixK (.ref f) (.str "turn") (S.put f (.dic (fdD its i c t))) K := ix_d (i := kT) put_same val_turn k
theorem dsetAt {K : Sto → Prop} (k : K (S.put f (.dic (fdD its j c t)))) : setK (.ref f) (.str "at") (.int j) (S.put f (.dic (fdD its i c t))) K := set_d (i := kA) put_same (by show 4 ≤ _; decide) (by rw [put_at, put_put]; exact k)
theorem dsetLeft {K : Sto → Prop} (k : K (S.put f (.dic (fdD its i j t)))) : setK (.ref f) (.str "left") (.int j) (S.put f (.dic (fdD its i c t))) K := set_d (i := kL) put_same (by show 4 ≤ _; decide) (by rw [put_left, put_put]; exact k)
theorem dsetTurn {K : Sto → Prop} (k : K (S.put f (.dic (fdD its i c j)))) : setK (.ref f) (.str "turn") (.int j) (S.put f (.dic (fdD its i c t))) K := set_d (i := kT) put_same (by show 4 ≤ _; decide) (by rw [put_turn, put_put]; exact k)
end
/-- shut again -/
theorem le_shut {S : Sto} {f : Addr} {kk : Fk} {its : List Int} {x y z : Int} {n : Nat} (l : its.length ≤ 63) (x0 : 0 ≤ x) (x1 : x ≤ n) (z0 : 0 ≤ z) (z1 : z ≤ n) : Le (S.put f (.fd kk n)) (S.put f (fdW kk its x y z)) := Le.both .refl (.shut l x0 x1 z0 z1)
theorem log_small {m : Int} (h : 0 < m) (h' : m < 2 ^ 64) : m.natAbs.log2 < 9000 := by have := log2_lt (n := m.natAbs) (b := 64) (by omega) (by decide); omega
end Dp
/-! more plain lemmas: things picked, weights, first faults, greatest ones; refusals -/
namespace Dp
open PySem PySem.Spec L2
open PyProof.Rows hiding St

/-- one of told things -/
theorem pick_v {S : Sto} {ws : List W} {ds : List PyData} {c : Int} {K : WK} (hd : Das ws ds) (c0 : 0 ≤ c) (c1 : c < (ws.length : Int)) (hK : ∀ w d, d ∈ ds → Da w d → K w S) : ixK (.lst ws) (.int c) S K := by
  obtain ⟨x, e, m⟩ := atI_some c0 c1
  obtain ⟨d, dm, dd⟩ := hd.mem m
  exact ix_v e (hK x d dm dd)
theorem pick_i {S : Sto} {xs : List Int} {c : Int} {K : WK} (c0 : 0 ≤ c) (c1 : c < (xs.length : Int)) (hK : ∀ v ∈ xs, K (.int v) S) : ixK (.lst (xs.map W.int)) (.int c) S K := ix_vm 0 c0 c1 (hK _ (getD_mem (by omega)))
/-! weights -/
theorem wt_int {i : Int} {B : Nat} (h : (PyData.int i).weight ≤ B) : i.natAbs < 2 ^ (B + 1) := by
  have h : (if (i == 0) = true then 0 else i.natAbs.log2 + 1) ≤ B := h
  by_cases e : i = 0
  · subst e; exact Nat.two_pow_pos _
  · rw [if_neg (by simpa using e)] at h
    have h1 : i.natAbs < 2 ^ (i.natAbs.log2 + 1) := Nat.lt_log2_self
    exact Nat.lt_of_lt_of_le h1 (Nat.pow_le_pow_right (by decide) (by omega))
theorem wt_mem {d : PyData} : ∀ {ds : List PyData}, d ∈ ds → d.weight ≤ PyData.weightAll ds
  | e :: ds, h => by
    simp only [PyData.weightAll]
    rcases List.mem_cons.mp h with rfl | h
    · omega
    · have := wt_mem h; omega
theorem FinD.tupMem {k B : Nat} {ds : List PyData} (h : FinD k B (.tuple ds)) {d : PyData} (m : d ∈ ds) : d.weight ≤ B := Nat.le_trans (wt_mem m) h.light
theorem FinD.le {k B : Nat} {d : PyData} (h : FinD k B d) : B ≤ 40000 ∨ d.weight ≤ 40000 := .inr h.fine.light
theorem num_low {k B : Nat} {d : PyData} (h : d.weight ≤ 40000) : (valI d).natAbs < 2 ^ 40001 := by
  cases d with
  | int i => exact wt_int h
  | _ => exact Nat.two_pow_pos _
/-! the first fault -/
theorem find_at {β : Type} {f : Nat → Option β} {n i : Nat} {x : β} (h : ∀ j, j < i → f j = none) (hi : i < n) (hx : f i = some x) : (List.range n).findSome? f = some x := by
  have e : List.range n = List.range i ++ i :: (List.range' (i + 1) (n - i - 1)) := by
    rw [List.range_eq_range', List.range_eq_range']
    have h1 : n = i + (1 + (n - i - 1)) := by omega
    conv => lhs; rw [h1, ← List.range'_append_1 (s := 0)]
    congr 1
    rw [← List.range'_append_1]; simp [List.range'_succ]
  rw [e, List.findSome?_append]
  have h0 : (List.range i).findSome? f = none := by
    rw [List.findSome?_eq_none_iff]
    intro j hj
    exact h j (List.mem_range.mp hj)
  rw [h0, List.findSome?_cons, hx]; rfl
theorem find_none {β : Type} {f : Nat → Option β} {n : Nat} (h : ∀ j, j < n → f j = none) : (List.range n).findSome? f = none := by
  rw [List.findSome?_eq_none_iff]
  intro j hj
  exact h j (List.mem_range.mp hj)
/-! the greatest one -/
theorem max_eq {m : Int} : ∀ {l : List Int}, m ∈ l → (∀ y ∈ l, y ≤ m) → (∀ y ∈ l, 0 ≤ y) → m = l.foldr max 0
  | a :: l, h, hm, h0 => by
    have hm' : ∀ y ∈ l, y ≤ m := fun y hy => hm y (List.mem_cons_of_mem _ hy)
    have h0' : ∀ y ∈ l, 0 ≤ y := fun y hy => h0 y (List.mem_cons_of_mem _ hy)
    have b : ∀ l : List Int, (∀ y ∈ l, y ≤ m) → 0 ≤ m → l.foldr max 0 ≤ m := by
      intro l
      induction l with
      | nil => intro _ h; exact h
      | cons a l ih => intro h h'; exact Int.max_le.mpr ⟨h a (List.mem_cons_self ..), ih (fun y hy => h y (List.mem_cons_of_mem _ hy)) h'⟩
    have m0 : 0 ≤ m := h0 m h
    show m = max a (l.foldr max 0)
    rcases List.mem_cons.mp h with rfl | h
    · have := b l hm' m0; omega
    · have h1 := max_eq h hm' h0'
      have h2 := hm a (List.mem_cons_self ..)
      omega
/-! walks over numbers -/
theorem for_r {g : Sto → Prop} {tg : WG} {b : WS} {E : Ew} {ρ : Ro} {S : Sto} {n : Nat} (I : Nat → Ro → Sto → Prop) (h0 : I 0 ρ S) (hg : ∀ i ρ S, I i ρ S → g S)
    (step : ∀ (i : Nat) ρ S (nx : Ro → Sto → Prop), i < n → I i ρ S → (∀ ρ' S', I (i + 1) ρ' S' → nx ρ' S') → tg (.int (i : Nat)) ρ fun ρ2 => b { E with nx := nx, ct := nx, bk := E.nx } ρ2 S)
    (fin : ∀ ρ S, I n ρ S → E.nx ρ S) : forW g tg b E (rgList 0 1 n) ρ S := by
  rw [rg_ints, List.map_map]
  refine for_t (List.range n) _ I h0 hg (fun i a ρ S nx ha hi hn => ?_) fun ρ S h => fin ρ S (by rw [List.length_range] at h; exact h)
  have hl := (List.getElem?_eq_some_iff.mp ha)
  obtain ⟨h1, e⟩ := hl
  rw [List.getElem_range] at e
  subst e
  rw [List.length_range] at h1
  exact step i ρ S nx h1 hi hn
/-- those numbers that pass -/
theorem comp_r {g : Sto → Prop} {tg : WG} {el : WE} {ρ : Ro} {F : List W → Sto → Prop} {S : Sto} {n : Nat} (I : Nat → List W → Sto → Prop) (h0 : I 0 [] S) (hg : ∀ i acc S, I i acc S → g S)
    (step : ∀ (i : Nat) acc S (nx : List W → Sto → Prop), i < n → I i acc S → (∀ acc' S', I (i + 1) acc' S' → nx acc' S') → tg (.int (i : Nat)) ρ fun ρ2 => el ρ2 S (fun w S2 => acc.length < sizeLine ∧ nx (acc ++ [w]) S2) (fun _ _ => False))
    (fin : ∀ acc S, I n acc S → F acc S) : compW g tg mYes el ρ F (rgList 0 1 n) [] S := by
  rw [rg_ints, List.map_map]
  refine comp_t (List.range n) _ I h0 hg (fun i a acc S nx ha hi hn => ?_) fun acc S h => fin acc S (by rw [List.length_range] at h; exact h)
  have hl := (List.getElem?_eq_some_iff.mp ha)
  obtain ⟨h1, e⟩ := hl
  rw [List.getElem_range] at e
  subst e
  rw [List.length_range] at h1
  exact step i acc S nx h1 hi hn
/-- two lists side by side -/
theorem comp_z {α β : Type} {g : Sto → Prop} {tg : WG} {el : WE} {ρ : Ro} {F : List W → Sto → Prop} {S : Sto} (as : List α) (bs : List β) (e : α → W) (e2 : β → W) (h : α × β → W) (hl : as.length ≤ 100000) (hg : g S)
    (step : ∀ a b, (a, b) ∈ as.zip bs → ∀ Kt : WK, Kt (h (a, b)) S → tg (.tup [e a, e2 b]) ρ fun ρ2 => el ρ2 S Kt (fun _ _ => False)) (fin : F ((as.zip bs).map h) S) : compW g tg mYes el ρ F (zipW (as.map e) (bs.map e2)) [] S := by
  rw [zip_map]
  exact comp_m (as.zip bs) _ h (by rw [List.length_zip]; omega) hg (fun p hp Kt k => step p.1 p.2 hp Kt k) fin
theorem for_z {α β : Type} {g : Sto → Prop} {tg : WG} {b : WS} {E : Ew} {ρ : Ro} {S : Sto} (as : List α) (bs : List β) (e : α → W) (e2 : β → W) (I : List (α × β) → Ro → Sto → Prop) (h0 : I [] ρ S) (hg : ∀ l ρ S, I l ρ S → g S)
    (step : ∀ l x y r ρ S (nx : Ro → Sto → Prop), as.zip bs = l ++ (x, y) :: r → I l ρ S → (∀ ρ' S', I (l ++ [(x, y)]) ρ' S' → nx ρ' S') → tg (.tup [e x, e2 y]) ρ fun ρ2 => b { E with nx := nx, ct := nx, bk := E.nx } ρ2 S)
    (fin : ∀ ρ S, I (as.zip bs) ρ S → E.nx ρ S) : forW g tg b E (zipW (as.map e) (bs.map e2)) ρ S := by
  rw [zip_map]
  exact for_p (as.zip bs) _ I h0 hg (fun l p r ρ S nx h hi hn => step l p.1 p.2 r ρ S nx h hi hn) fin
/-! walks over told things -/
theorem Das.two {us : List W} {ds : List PyData} (t : Das us ds) (h : us.length = 2) : ∃ u v x y, us = [u, v] ∧ ds = [x, y] ∧ Da u x ∧ Da v y := by
  match us, ds, t, h with
  | [u, v], [x, y], .cons a (.cons b .nil), _ => exact ⟨_, _, _, _, rfl, rfl, a, b⟩
theorem Das.zip1 : ∀ {us : List W} {ds : List PyData}, Das us ds → (us.zip ds).map Prod.fst = us ∧ (us.zip ds).map Prod.snd = ds ∧ ∀ p ∈ us.zip ds, p.2 ∈ ds ∧ Da p.1 p.2
  | [], _, .nil => ⟨rfl, rfl, none_in⟩
  | u :: us, d :: ds, .cons h t => by
    obtain ⟨a, b, c⟩ := Das.zip1 t
    refine ⟨by rw [List.zip_cons_cons, List.map_cons, a], by rw [List.zip_cons_cons, List.map_cons, b], fun p hp => ?_⟩
    rcases List.mem_cons.mp hp with rfl | hp
    · exact ⟨List.mem_cons_self .., h⟩
    · exact ⟨List.mem_cons_of_mem _ (c p hp).1, (c p hp).2⟩
theorem comp_das {g : Sto → Prop} {tg : WG} {el : WE} {ρ : Ro} {F : List W → Sto → Prop} {S : Sto} {us : List W} {ds : List PyData} (t : Das us ds) (h : PyData → W) (hl : ds.length ≤ 100000) (hg : g S)
    (step : ∀ w d, d ∈ ds → Da w d → ∀ Kt : WK, Kt (h d) S → tg w ρ fun ρ2 => el ρ2 S Kt (fun _ _ => False)) (fin : F (ds.map h) S) : compW g tg mYes el ρ F us [] S := by
  obtain ⟨a, b, c⟩ := t.zip1
  have key := comp_m (g := g) (tg := tg) (el := el) (ρ := ρ) (F := F) (S := S) (us.zip ds) Prod.fst (fun p => h p.2) (by rw [List.length_zip]; omega) hg (fun p hp Kt k => step p.1 p.2 (c p hp).1 (c p hp).2 Kt k) (by
    have : (us.zip ds).map (fun p => h p.2) = ds.map h := by rw [← b, List.map_map]; rw [b]; rfl
    rw [this]; exact fin)
  rw [a] at key; exact key
/-- those that pass stay as they are -/
theorem comp_dasf {g : Sto → Prop} {tg : WG} {cd : WT} {el : WE} {ρ : Ro} {F : List W → Sto → Prop} {S : Sto} {us : List W} {ds : List PyData} (t : Das us ds) (q : PyData → Bool) (hl : ds.length ≤ 100000) (hg : g S)
    (step : ∀ w d, d ∈ ds → Da w d → ∀ (KT : WK) (KF : Sto → Prop), (q d = true → KT w S) → (q d = false → KF S) → tg w ρ fun ρ2 => cd ρ2 S (fun b S1 => if b = true then el ρ2 S1 KT (fun _ _ => False) else KF S1) (fun _ _ => False))
    (fin : ∀ ws, Das ws (ds.filter q) → F ws S) : compW g tg cd el ρ F us [] S := by
  obtain ⟨a, b, c⟩ := t.zip1
  have key := comp_f (g := g) (tg := tg) (cd := cd) (el := el) (ρ := ρ) (F := F) (S := S) (us.zip ds) Prod.fst Prod.fst (fun p => q p.2) (by rw [List.length_zip]; omega) hg (fun p hp KT KF k1 k2 => step p.1 p.2 (c p hp).1 (c p hp).2 KT KF k1 k2) (fin _ (by
    have e : ∀ l : List (W × PyData), (∀ p ∈ l, Da p.1 p.2) → Das ((l.filter fun p => q p.2).map Prod.fst) ((l.map Prod.snd).filter q) := by
      intro l
      induction l with
      | nil => intro _; exact .nil
      | cons p l ih =>
        intro h
        have ih := ih fun x hx => h x (List.mem_cons_of_mem _ hx)
        rw [List.map_cons, List.filter_cons, List.filter_cons]
        split
        · exact .cons (h p (List.mem_cons_self ..)) ih
        · exact ih
    have := e _ fun p hp => (c p hp).2
    rw [b] at this; exact this))
  rw [a] at key; exact key
theorem len_w {B : Nat} {ds : List PyData} (h : (PyData.tuple ds).weight ≤ B) : ds.length ≤ B := by
  have h : PyData.weightAll ds ≤ B := by have e : (PyData.tuple ds).weight = PyData.weightAll ds := by simp only [PyData.weight]
                                         omega
  exact Nat.le_trans (len_weight ds) h
theorem wt_tup {B : Nat} {ds : List PyData} (h : (PyData.tuple ds).weight ≤ B) : ∀ d ∈ ds, d.weight ≤ B := fun d m => by
  have e : (PyData.tuple ds).weight = PyData.weightAll ds := by simp only [PyData.weight]
  have := wt_mem m
  omega
/-! refusals -/
/-- NoPaper(word, number) -/
abbrev npX (w : Str) (k : Int) : Xn := ⟨1, ["number", "word"], [.int k, .str w]⟩
/-- a class with the field word alone -/
abbrev wdX (n : Nat) (w : W) : Xn := ⟨n, ["word"], [w]⟩
/-- need(truth, word, number) -/
def pNeed : Pm := fun ws S Kk Ek => ∃ b w k, ws = [.bl b, .str w, .int k] ∧ (b = true → Kk .non S) ∧ (b = false → Ek (npX w k) S)
theorem kNeedA (p : Nat → Pm) (G : Nat → W) : Keeps p G 3 3 (.cons (.ite (.not (.var 0)) (.cons (.rse 1 (.cons (.var 1) (.cons (.var 2) .nil))) .nil) .nil) .nil) pNeed := by
  rintro ws S Kk Ek ⟨b, w, k, rfl, h1, h2⟩
  refine ⟨rfl, ?_⟩
  conv => whnf
  refine step_ ?_
  conv => whnf
  cases b with
  | true =>
    conv => whnf
    refine fgt_id ?_
    conv => whnf
    refine fgt_id ?_
    exact fgt_id (h1 rfl)
  | false =>
    conv => whnf
    refine step_ ?_
    conv => whnf
    exact ⟨rfl, fgt_id (h2 rfl)⟩
/-- what a refusal or an answer comes to, as law texts tell it -/
def resW (r : Except (Str × Int) Int) : W := match r with
  | .ok m => .tup [.str "told", .int m]
  | .error (w, i) => .tup [.str "no", .str w, .int i]
def resD (r : Except (Str × Int) Int) : PyData := match r with
  | .ok m => .tuple [.str "told", .int m]
  | .error (w, i) => .tuple [.str "no", .str w, .int i]
theorem da_res (r : Except (Str × Int) Int) : Da (resW r) (resD r) := by
  cases r with
  | ok m => exact .tup (.cons (.str _) (.cons (.int _) .nil))
  | error e => exact .tup (.cons (.str _) (.cons (.str _) (.cons (.int _) .nil)))
end Dp
/-! more toolkit: walks with places, first things of tuples -/
namespace Dp
open PySem PySem.Spec L2
open PyProof.Rows hiding St

/-! ### walks -/
theorem for_ed {us : List W} {ds : List PyData} {g : Sto → Prop} {tg : WG} {b : WS} {E : Ew} {ρ : Ro} {S : Sto} (t : Das us ds) (I : Nat → Ro → Sto → Prop) (h0 : I 0 ρ S) (hg : ∀ i ρ S, I i ρ S → g S)
    (step : ∀ (i : Nat) w d ρ S (nx : Ro → Sto → Prop), i < ds.length → ds.getD i .none = d → d ∈ ds → Da w d → I i ρ S → (∀ ρ' S', I (i + 1) ρ' S' → nx ρ' S') → tg (.tup [.int (i : Nat), w]) ρ fun ρ2 => b { E with nx := nx, ct := nx, bk := E.nx } ρ2 S)
    (fin : ∀ ρ S, I ds.length ρ S → E.nx ρ S) : forW g tg b E (enuW 0 us) ρ S := by
  have e : enuW 0 us = (us.zipIdx 0).map fun p => .tup [.int (p.2 : Nat), p.1] := by
    have := enu_map id us 0
    rw [List.map_id] at this; exact this
  rw [e]
  refine for_t (us.zipIdx 0) _ I h0 hg (fun i a ρ S nx ha hi hn => ?_) fun ρ S h => fin ρ S (by rw [List.length_zipIdx, t.length] at h; exact h)
  rw [List.getElem?_zipIdx] at ha
  cases q : us[i]? with
  | none => rw [q] at ha; cases ha
  | some w =>
    rw [q] at ha
    have ha : (w, 0 + i) = a := Option.some.inj ha
    subst ha
    obtain ⟨d, hd, hw⟩ := t.get q
    have hl := (List.getElem?_eq_some_iff.mp hd).1
    have := step i w d ρ S nx hl (by rw [List.getD_eq_getElem?_getD, hd]; rfl) (List.mem_of_getElem? hd) hw hi hn
    rw [Nat.zero_add]; exact this
/-- over told things that are alike, with their places -/
theorem for_e {α : Type} (d0 : α) {g : Sto → Prop} {tg : WG} {b : WS} {E : Ew} {ρ : Ro} {S : Sto} (as : List α) (e : α → W) (I : Nat → Ro → Sto → Prop) (h0 : I 0 ρ S) (hg : ∀ i ρ S, I i ρ S → g S)
    (step : ∀ (i : Nat) ρ S (nx : Ro → Sto → Prop), i < as.length → I i ρ S → (∀ ρ' S', I (i + 1) ρ' S' → nx ρ' S') → tg (.tup [.int (i : Nat), e (as.getD i d0)]) ρ fun ρ2 => b { E with nx := nx, ct := nx, bk := E.nx } ρ2 S)
    (fin : ∀ ρ S, I as.length ρ S → E.nx ρ S) : forW g tg b E (enuW 0 (as.map e)) ρ S := by
  rw [enu_map]
  refine for_t (as.zipIdx 0) _ I h0 hg (fun i a ρ S nx ha hi hn => ?_) fun ρ S h => fin ρ S (by rw [List.length_zipIdx] at h; exact h)
  rw [List.getElem?_zipIdx] at ha
  cases q : as[i]? with
  | none => rw [q] at ha; cases ha
  | some w =>
    rw [q] at ha
    have ha : (w, 0 + i) = a := Option.some.inj ha
    subst ha
    have hl := (List.getElem?_eq_some_iff.mp q).1
    have := step i ρ S nx hl hi hn
    have ew : as.getD i d0 = w := by rw [List.getD_eq_getElem?_getD, q]; rfl
    rw [ew] at this
    rw [Nat.zero_add]; exact this
theorem enu_ri (l : List Int) : enuW 0 (l.map W.int) = (List.range l.length).map fun i => .tup [.int (i : Nat), .int (l.getD i 0)] := by
  have e : l.zipIdx 0 = (List.range l.length).map fun i => (l.getD i 0, i) := by
    apply List.ext_getElem
    · simp
    · intro i h1 h2
      have hi : i < l.length := by simpa using h1
      simp only [List.getElem_map, List.getElem_zipIdx, List.getElem_range]
      rw [List.getD_eq_getElem?_getD, List.getElem?_eq_getElem hi]; simp
  rw [enu_map, e, List.map_map]; rfl
theorem fine_all {ds : List PyData} : PyData.canLayAll0 ds = true → PyData.intsShortAll 210 ds = true → PyData.showableAll ds = true → ∀ d ∈ ds, d.canLay0 = true ∧ d.intsShort 210 = true ∧ d.showable = true ∧ d.depth ≤ PyData.depthAll ds := by
  induction ds with
  | nil => intro _ _ _ d hd; cases hd
  | cons a ds ih =>
    intro h1 h2 h3 d hd
    simp only [PyData.canLayAll0, PyData.intsShortAll, PyData.showableAll, Bool.and_eq_true] at h1 h2 h3
    rcases List.mem_cons.mp hd with rfl | hd
    · exact ⟨h1.1, h2.1, h3.1, Nat.le_max_left ..⟩
    · obtain ⟨a1, a2, a3, a4⟩ := ih h1.2 h2.2 h3.2 d hd
      exact ⟨a1, a2, a3, Nat.le_trans a4 (Nat.le_max_right ..)⟩
theorem fine_mem {ds : List PyData} (h : Fine (.tuple ds)) : ∀ d ∈ ds, Fine d := fun d hd => by
  have dp : PyData.depthAll ds + 1 ≤ 8 := h.deep
  obtain ⟨a1, a2, a3, a4⟩ := fine_all h.lay h.shorts h.show_ d hd
  exact ⟨a1, a2, a3, by omega, wt_tup h.light d hd⟩
theorem filt_nil {α : Type} (q : α → Bool) (xs : List α) : (xs.filter q).isEmpty = xs.all fun x => !q x := by
  induction xs with
  | nil => rfl
  | cons x xs ih =>
    rw [List.filter_cons, List.all_cons, ← ih]
    cases q x <;> simp
theorem at0 {α : Type} (u : α) (us : List α) : atI (u :: us) 0 = some u := atI_pos (by decide) rfl
theorem at1' {α : Type} (u v : α) (us : List α) : atI (u :: v :: us) 1 = some v := atI_pos (by decide) rfl
theorem at2' {α : Type} (u v w : α) (us : List α) : atI (u :: v :: w :: us) 2 = some w := atI_pos (by decide) rfl
theorem at3' {α : Type} (u v w x : α) (us : List α) : atI (u :: v :: w :: x :: us) 3 = some x := atI_pos (by decide) rfl
/-! ### bounds of made things -/
def FinL (k B : Nat) (ds : List PyData) : Prop := ∀ d ∈ ds, FinD k B d
theorem FinL.nil {k B : Nat} : FinL k B [] := fun _ h => by cases h
theorem FinL.cons {k B : Nat} {d : PyData} {ds : List PyData} (h : FinD k B d) (t : FinL k B ds) : FinL k B (d :: ds) := fun e he => by
  rcases List.mem_cons.mp he with rfl | he
  · exact h
  · exact t e he
theorem FinL.append {k B : Nat} {a b : List PyData} (h : FinL k B a) (t : FinL k B b) : FinL k B (a ++ b) := fun e he => by
  rcases List.mem_append.mp he with he | he
  · exact h e he
  · exact t e he
theorem FinL.take {k B : Nat} {a : List PyData} (n : Nat) (h : FinL k B a) : FinL k B (a.take n) := fun e he => h e (List.mem_of_mem_take he)
theorem FinL.drop {k B : Nat} {a : List PyData} (n : Nat) (h : FinL k B a) : FinL k B (a.drop n) := fun e he => h e (List.mem_of_mem_drop he)
theorem FinL.rev {k B : Nat} {a : List PyData} (h : FinL k B a) : FinL k B a.reverse := fun e he => h e (List.mem_reverse.mp he)
theorem FinL.set {k B : Nat} {a : List PyData} {d : PyData} (n : Nat) (h : FinL k B a) (hd : FinD k B d) : FinL k B (a.set n d) := fun e he => by
  rcases List.mem_or_eq_of_mem_set he with he | rfl
  · exact h e he
  · exact hd
theorem FinL.erase {k B : Nat} {a : List PyData} (n : Nat) (h : FinL k B a) : FinL k B (a.eraseIdx n) := fun e he => h e (mem_erase he)
theorem FinL.mono {k B k' B' : Nat} {a : List PyData} (h : FinL k B a) (x : k ≤ k') (y : B ≤ B') : FinL k' B' a := fun e he => (h e he).mono x y
theorem f_non {k B : Nat} : FinD k B .none := fd_non.mono (Nat.zero_le _) (Nat.zero_le _)
theorem f_bl {k B : Nat} (b : Bool) : FinD k B (.bool b) := (fd_bl b).mono (Nat.zero_le _) (Nat.zero_le _)
theorem f_int {k B : Nat} (b : Nat) {i : Int} (h : i.natAbs < 2 ^ b) (h0 : 0 < b) (hb : b ≤ 600) (hB : b ≤ B) : FinD k B (.int i) := (fd_int h h0 hb).mono (Nat.zero_le _) hB
theorem f_lit {k B : Nat} (k0 B0 : Nat) {d : PyData} (h : (fineB d && decide (d.depth ≤ k0) && decide (d.weight ≤ B0)) = true) (hk : k0 ≤ k) (hB : B0 ≤ B) : FinD k B d := (fd_by h).mono hk hB
theorem f_tup {k B C : Nat} (n : Nat) {ds : List PyData} (h : FinL k B ds) (hk : k ≤ 7) (l : ds.length ≤ n) (hC : (B + 1) * n ≤ C) (hC2 : (B + 1) * n ≤ 40000) : FinD (k + 1) C (.tuple ds) := by
  have := Nat.mul_le_mul_left (B + 1) l
  exact (fd_tup h hk (by omega)).mono (Nat.le_refl _) (by omega)
theorem f_lst {k B C : Nat} (n : Nat) {ds : List PyData} (h : FinL k B ds) (hk : k ≤ 7) (l : ds.length ≤ n) (hC : (B + 1) * n ≤ C) (hC2 : (B + 1) * n ≤ 40000) : FinD (k + 1) C (.list ds) := by
  have := Nat.mul_le_mul_left (B + 1) l
  exact (fd_lst h hk (by omega)).mono (Nat.le_refl _) (by omega)
theorem fl_ints {k B : Nat} (b : Nat) {xs : List Int} (h : ∀ x ∈ xs, x.natAbs < 2 ^ b) (h0 : 0 < b) (hb : b ≤ 600) (hB : b ≤ B) : FinL k B (xs.map PyData.int) := fun d hd => (fd_ints h h0 hb d hd).mono (Nat.zero_le _) hB
/-- things told, with their bounds -/
structure DF (k B : Nat) (ws : List W) (ds : List PyData) : Prop where
  das : Das ws ds
  fin : FinL k B ds
theorem DF.nil {k B : Nat} : DF k B [] [] := ⟨.nil, .nil⟩
theorem DF.cons {k B : Nat} {w : W} {d : PyData} {ws : List W} {ds : List PyData} (h : Da w d) (f : FinD k B d) (t : DF k B ws ds) : DF k B (w :: ws) (d :: ds) := ⟨.cons h t.das, .cons f t.fin⟩
theorem pick_f {k B : Nat} {S : Sto} {ws : List W} {ds : List PyData} {c : Int} {K : WK} (h : DF k B ws ds) (c0 : 0 ≤ c) (c1 : c < (ws.length : Int)) (hK : ∀ w d, Da w d → FinD k B d → K w S) : ixK (.lst ws) (.int c) S K := pick_v h.das c0 c1 fun w d hm hw => hK w d hw (h.fin d hm)
theorem fd_pair2 {k B C : Nat} {x y : PyData} (h1 : FinD k B x) (h2 : FinD k C y) (hk : k ≤ 7) (hB : B + C + 2 ≤ 40000) : FinD (k + 1) (B + C + 2) (.tuple [x, y]) := by
  obtain ⟨⟨a1, a2, a3, a4, a5⟩, a6, a7⟩ := h1
  obtain ⟨⟨b1, b2, b3, b4, b5⟩, b6, b7⟩ := h2
  have w : (PyData.tuple [x, y]).weight = x.weight + 1 + (y.weight + 1 + 0) := by simp only [PyData.weight, PyData.weightAll]
  have dd : (PyData.tuple [x, y]).depth ≤ k + 1 := by
    show max x.depth (max y.depth 0) + 1 ≤ k + 1
    omega
  refine ⟨⟨?_, ?_, ?_, by omega, by omega⟩, dd, by omega⟩
  · simp only [PyData.canLay0, PyData.canLayAll0, a1, b1]; rfl
  · simp only [PyData.intsShort, PyData.intsShortAll, a2, b2]; rfl
  · simp only [PyData.showable, PyData.showableAll, a3, b3]; rfl
/-- a draw, met -/
theorem Das.at_ {us : List W} {ds : List PyData} (t : Das us ds) {i : Int} (h0 : 0 ≤ i) (h : i < ds.length) : ∃ w, atI us i = some w ∧ Da w (ds.getD i.toNat .none) ∧ ds.getD i.toNat .none ∈ ds := by
  obtain ⟨w, ew, hw⟩ := t.get' (get_some (d := PyData.none) (show i.toNat < ds.length by omega))
  exact ⟨w, atI_pos h0 ew, hw, getD_mem (by omega)⟩
theorem cut_len {α : Type} (xs : List α) (lo hi : Option Int) : (cutW xs lo hi).length ≤ xs.length := by
  unfold cutW
  rw [List.length_take, List.length_drop]
  omega
theorem cut_one {α : Type} (xs : List α) {j : Int} (h : 0 ≤ j) : (cutW xs (some j) (some (j + 1))).length ≤ 1 := by
  unfold cutW
  rw [List.length_take, List.length_drop]
  show min ((if j + 1 < 0 then (j + 1 + (xs.length : Int)).toNat else min (j + 1).toNat xs.length) - (if j < 0 then (j + (xs.length : Int)).toNat else min j.toNat xs.length)) _ ≤ 1
  rw [if_neg (by omega), if_neg (by omega)]
  omega
theorem Das.cut {a : List W} {x : List PyData} (lo hi : Option Int) (h : Das a x) : Das (cutW a lo hi) (cutW x lo hi) := by
  unfold cutW
  rw [h.length]
  exact (h.drop _).take _
theorem FinL.cut {k B : Nat} {a : List PyData} (lo hi : Option Int) (h : FinL k B a) : FinL k B (cutW a lo hi) := (h.drop _).take _
/-! by their sum -/
structure FW (k W : Nat) (ds : List PyData) : Prop where
  fin : ∀ d ∈ ds, Fine d ∧ d.depth ≤ k
  wt : PyData.weightAll ds ≤ W
theorem wtA_append : ∀ (a b : List PyData), PyData.weightAll (a ++ b) = PyData.weightAll a + PyData.weightAll b
  | [], b => by simp [PyData.weightAll]
  | x :: a, b => by simp only [List.cons_append, PyData.weightAll, wtA_append a b]; omega
theorem FW.nil {k : Nat} : FW k 0 [] := ⟨none_in, Nat.le_refl _⟩
theorem FW.cons {k B W : Nat} {d : PyData} {ds : List PyData} (h : FinD k B d) (t : FW k W ds) : FW k (B + 1 + W) (d :: ds) := ⟨fun e he => by
  rcases List.mem_cons.mp he with rfl | he
  · exact ⟨h.fine, h.deep⟩
  · exact t.fin e he, by
  have := h.light
  have := t.wt
  simp only [PyData.weightAll]; omega⟩
theorem FW.append {k V W : Nat} {a b : List PyData} (h : FW k V a) (t : FW k W b) : FW k (V + W) (a ++ b) := ⟨fun e he => by
  rcases List.mem_append.mp he with he | he
  · exact h.fin e he
  · exact t.fin e he, by rw [wtA_append]; have := h.wt; have := t.wt; omega⟩
theorem FW.mono {k V k' V' : Nat} {a : List PyData} (h : FW k V a) (x : k ≤ k') (y : V ≤ V') : FW k' V' a := ⟨fun e he => ⟨(h.fin e he).1, Nat.le_trans (h.fin e he).2 x⟩, Nat.le_trans h.wt y⟩
/-- what lies ahead, what lies behind, together no more -/
theorem FW.two {k V : Nat} {a : List PyData} (h : FW k V a) {m n : Nat} (mn : m ≤ n) : ∃ p q, p + q ≤ V ∧ FW k p (a.take m) ∧ FW k q (a.drop n) := by
  refine ⟨PyData.weightAll (a.take m), PyData.weightAll (a.drop n), ?_, ⟨fun e he => h.fin e (List.mem_of_mem_take he), Nat.le_refl _⟩, ⟨fun e he => h.fin e (List.mem_of_mem_drop he), Nat.le_refl _⟩⟩
  have e1 : PyData.weightAll a = PyData.weightAll (a.take m) + PyData.weightAll (a.drop m) := by rw [← wtA_append, List.take_append_drop]
  have e2 : PyData.weightAll (a.drop m) = PyData.weightAll ((a.drop m).take (n - m)) + PyData.weightAll (a.drop n) := by
    rw [← wtA_append]
    congr 1
    have : a.drop n = (a.drop m).drop (n - m) := by rw [List.drop_drop]; congr 1; omega
    rw [this, List.take_append_drop]
  have := h.wt
  omega
theorem FW.of {k B n : Nat} {ds : List PyData} (h : FinL k B ds) (l : ds.length ≤ n) : FW k ((B + 1) * n) ds := by
  obtain ⟨_, _, _, _, a5⟩ := find_all h
  have := Nat.mul_le_mul_left (B + 1) l
  exact ⟨fun d hd => ⟨(h d hd).fine, (h d hd).deep⟩, by omega⟩
theorem FW.all {k W : Nat} {ds : List PyData} (h : FW k W ds) (hk : k ≤ 7) (hW : W ≤ 40000) : PyData.canLayAll0 ds = true ∧ PyData.intsShortAll 210 ds = true ∧ PyData.showableAll ds = true ∧ PyData.depthAll ds ≤ k := by
  have f : FinL k 40000 ds := fun d hd => by
    obtain ⟨a, b⟩ := h.fin d hd
    exact ⟨a, b, a.light⟩
  obtain ⟨a1, a2, a3, a4, _⟩ := find_all f
  exact ⟨a1, a2, a3, a4⟩
theorem FW.tup {k W : Nat} {ds : List PyData} (h : FW k W ds) (hk : k ≤ 7) (hW : W ≤ 40000) : FinD (k + 1) W (.tuple ds) := by
  obtain ⟨a1, a2, a3, a4⟩ := h.all hk hW
  have := h.wt
  exact ⟨⟨a1, a2, a3, by show PyData.depthAll ds + 1 ≤ 8; omega, by show PyData.weightAll ds ≤ _; omega⟩, by show PyData.depthAll ds + 1 ≤ _; omega, by show PyData.weightAll ds ≤ _; omega⟩
theorem FW.lst {k W : Nat} {ds : List PyData} (h : FW k W ds) (hk : k ≤ 7) (hW : W ≤ 40000) : FinD (k + 1) W (.list ds) := by
  obtain ⟨a1, a2, a3, a4⟩ := h.all hk hW
  have := h.wt
  exact ⟨⟨a1, a2, a3, by show PyData.depthAll ds + 1 ≤ 8; omega, by show PyData.weightAll ds ≤ _; omega⟩, by show PyData.depthAll ds + 1 ≤ _; omega, by show PyData.weightAll ds ≤ _; omega⟩
/-! rows of things, each so many times -/
def spread (g : Int → Nat) : Nat → List Int → List Int
  | _, [] => []
  | m, r :: rs => List.replicate (g r) (m : Int) ++ spread g (m + 1) rs
theorem spread_snoc (g : Int → Nat) : ∀ (rs : List Int) (m : Nat) (r : Int), spread g m (rs ++ [r]) = spread g m rs ++ List.replicate (g r) ((m + rs.length : Nat) : Int)
  | [], m, r => by simp [spread]
  | a :: rs, m, r => by
    show List.replicate (g a) (m : Int) ++ spread g (m + 1) (rs ++ [r]) = _
    rw [spread_snoc g rs (m + 1) r]
    show _ = (List.replicate (g a) (m : Int) ++ spread g (m + 1) rs) ++ _
    rw [List.append_assoc, List.length_cons, show m + 1 + rs.length = m + (rs.length + 1) by omega]
theorem spread_ge (g : Int → Nat) : ∀ (rs : List Int) (m : Nat), ∀ x ∈ spread g m rs, (m : Int) ≤ x ∧ x < (m + rs.length : Nat)
  | [], m, x, h => by simp [spread] at h
  | a :: rs, m, x, h => by
    rcases List.mem_append.mp (show x ∈ List.replicate (g a) (m : Int) ++ spread g (m + 1) rs from h) with h | h
    · rw [(List.mem_replicate.mp h).2, List.length_cons]; omega
    · have := spread_ge g rs (m + 1) x h
      rw [List.length_cons]; omega
theorem spread_len (g : Int → Nat) : ∀ (rs : List Int) (m : Nat), (spread g m rs).length = (rs.map g).sum
  | [], m => rfl
  | a :: rs, m => by
    show (List.replicate (g a) (m : Int) ++ spread g (m + 1) rs).length = (g a :: rs.map g).sum
    rw [List.length_append, List.length_replicate, List.sum_cons, spread_len g rs (m + 1)]
structure DP (P : PyData → Prop) (ws : List W) (ds : List PyData) : Prop where
  das : Das ws ds
  all : ∀ d ∈ ds, P d
theorem DP.nil {P : PyData → Prop} : DP P [] [] := ⟨.nil, none_in⟩
theorem DP.cons {P : PyData → Prop} {w : W} {d : PyData} {ws : List W} {ds : List PyData} (h : Da w d) (f : P d) (t : DP P ws ds) : DP P (w :: ws) (d :: ds) := ⟨.cons h t.das, fun e he => by
  rcases List.mem_cons.mp he with rfl | he
  · exact f
  · exact t.all e he⟩
theorem pick_p {P : PyData → Prop} {S : Sto} {ws : List W} {ds : List PyData} {c : Int} {K : WK} (h : DP P ws ds) (c0 : 0 ≤ c) (c1 : c < (ws.length : Int)) (hK : ∀ w d, Da w d → P d → K w S) : ixK (.lst ws) (.int c) S K := pick_v h.das c0 c1 fun w d hm hw => hK w d hw (h.all d hm)
end Dp
/-! things that are bent: their numbers, depth and weight -/
namespace Dp
open PySem PySem.Spec L2
open PyProof.Rows hiding St
mutual
def lowI (b : Nat) : PyData → Bool
  | .none | .bool _ | .str _ => true
  | .dict _ => false
  | .int i => decide (i.natAbs < 2 ^ b)
  | .list xs | .tuple xs => lowIA b xs
def lowIA (b : Nat) : List PyData → Bool
  | [] => true
  | x :: xs => lowI b x && lowIA b xs
end
structure Bd (b k W : Nat) (d : PyData) : Prop where
  low : lowI b d = true
  lay : d.canLay0 = true
  deep : d.depth ≤ k
  light : d.weight ≤ W
structure BL (b k W : Nat) (ds : List PyData) : Prop where
  low : lowIA b ds = true
  lay : PyData.canLayAll0 ds = true
  deep : PyData.depthAll ds ≤ k
  light : PyData.weightAll ds ≤ W
theorem two_le {b b' : Nat} (h : b ≤ b') : 2 ^ b ≤ 2 ^ b' := Nat.pow_le_pow_right (by decide) h
mutual
theorem lowI_mono {b b' : Nat} (h : b ≤ b') : ∀ d : PyData, lowI b d = true → lowI b' d = true
  | .none, _ => rfl
  | .bool _, _ => rfl
  | .str _, _ => rfl
  | .dict _, e => by cases e
  | .int i, e => decide_eq_true (Nat.lt_of_lt_of_le (of_decide_eq_true e) (two_le h))
  | .list xs, e => lowIA_mono h xs e
  | .tuple xs, e => lowIA_mono h xs e
theorem lowIA_mono {b b' : Nat} (h : b ≤ b') : ∀ ds : List PyData, lowIA b ds = true → lowIA b' ds = true
  | [], _ => rfl
  | x :: xs, e => by
    have e : (lowI b x && lowIA b xs) = true := e
    rw [Bool.and_eq_true] at e
    show (lowI b' x && lowIA b' xs) = true
    rw [lowI_mono h x e.1, lowIA_mono h xs e.2]; rfl
end
mutual
theorem low_short {b : Nat} (h : b ≤ 680) : ∀ d : PyData, lowI b d = true → d.intsShort 210 = true ∧ d.showable = true
  | .none, _ => ⟨rfl, rfl⟩
  | .bool _, _ => ⟨rfl, rfl⟩
  | .str _, _ => ⟨rfl, rfl⟩
  | .dict _, e => by cases e
  | .int i, e => by
    have n := nice_int (i := i) (Nat.lt_of_lt_of_le (of_decide_eq_true e) (Nat.le_trans (two_le h) (by decide +kernel)))
    exact ⟨n.shorts, n.show_⟩
  | .list xs, e => low_shortA h xs e
  | .tuple xs, e => low_shortA h xs e
theorem low_shortA {b : Nat} (h : b ≤ 680) : ∀ ds : List PyData, lowIA b ds = true → PyData.intsShortAll 210 ds = true ∧ PyData.showableAll ds = true
  | [], _ => ⟨rfl, rfl⟩
  | x :: xs, e => by
    have e : (lowI b x && lowIA b xs) = true := e
    rw [Bool.and_eq_true] at e
    obtain ⟨a1, a2⟩ := low_short h x e.1
    obtain ⟨b1, b2⟩ := low_shortA h xs e.2
    exact ⟨by show (x.intsShort 210 && _) = true; rw [a1, b1]; rfl, by show (x.showable && _) = true; rw [a2, b2]; rfl⟩
end
section
variable {b k W b' k' W' : Nat}
theorem Bd.mono {d : PyData} (h : Bd b k W d) (x : b ≤ b') (y : k ≤ k') (z : W ≤ W') : Bd b' k' W' d := ⟨lowI_mono x d h.low, h.lay, Nat.le_trans h.deep y, Nat.le_trans h.light z⟩
theorem BL.mono {ds : List PyData} (h : BL b k W ds) (x : b ≤ b') (y : k ≤ k') (z : W ≤ W') : BL b' k' W' ds := ⟨lowIA_mono x ds h.low, h.lay, Nat.le_trans h.deep y, Nat.le_trans h.light z⟩
theorem Bd.fin {d : PyData} (h : Bd b k W d) (x : b ≤ 680) (y : k ≤ 8) (z : W ≤ 40000) : FinD k W d := by
  obtain ⟨a1, a2⟩ := low_short x d h.low
  exact ⟨⟨h.lay, a1, a2, Nat.le_trans h.deep y, Nat.le_trans h.light z⟩, h.deep, h.light⟩
theorem BL.nil : BL b k 0 [] := ⟨rfl, rfl, Nat.zero_le _, Nat.le_refl _⟩
theorem BL.cons {d : PyData} {ds : List PyData} (h : Bd b k W d) (t : BL b k W' ds) : BL b k (W + 1 + W') (d :: ds) :=
  ⟨by show (lowI b d && lowIA b ds) = true; rw [h.low, t.low]; rfl, by show (d.canLay0 && _) = true; rw [h.lay, t.lay]; rfl, Nat.max_le.mpr ⟨h.deep, t.deep⟩, by have := h.light; have := t.light; simp only [PyData.weightAll]; omega⟩
theorem BL.head {d : PyData} {ds : List PyData} (h : BL b k W (d :: ds)) : Bd b k d.weight d := by
  have a1 : (lowI b d && lowIA b ds) = true := h.low
  have a2 : (d.canLay0 && PyData.canLayAll0 ds) = true := h.lay
  rw [Bool.and_eq_true] at a1 a2
  exact ⟨a1.1, a2.1, (Nat.max_le.mp h.deep).1, Nat.le_refl _⟩
theorem BL.tail {d : PyData} {ds : List PyData} (h : BL b k W (d :: ds)) : BL b k (PyData.weightAll ds) ds := by
  have a1 : (lowI b d && lowIA b ds) = true := h.low
  have a2 : (d.canLay0 && PyData.canLayAll0 ds) = true := h.lay
  rw [Bool.and_eq_true] at a1 a2
  exact ⟨a1.2, a2.2, (Nat.max_le.mp h.deep).2, Nat.le_refl _⟩
theorem BL.append : ∀ {W : Nat} {x y : List PyData}, BL b k W x → BL b k W' y → BL b k (W + W') (x ++ y)
  | _, [], _, _, t => t.mono (Nat.le_refl _) (Nat.le_refl _) (Nat.le_add_left ..)
  | _, d :: x, _, h, t => (BL.cons h.head (h.tail.append t)).mono (Nat.le_refl _) (Nat.le_refl _) (by have := h.light; simp only [PyData.weightAll] at this; omega)
theorem BL.take : ∀ {W : Nat} {ds : List PyData} {n : Nat}, BL b k W ds → BL b k (PyData.weightAll (ds.take n)) (ds.take n)
  | _, ds, 0, h => by rw [List.take_zero]; exact ⟨rfl, rfl, Nat.zero_le _, Nat.le_refl _⟩
  | _, [], n + 1, h => by rw [List.take_nil]; exact ⟨rfl, rfl, Nat.zero_le _, Nat.le_refl _⟩
  | _, d :: ds, n + 1, h => by
    rw [List.take_succ_cons]
    have := BL.cons h.head (BL.take (n := n) h.tail)
    exact this.mono (Nat.le_refl _) (Nat.le_refl _) (by simp only [PyData.weightAll]; omega)
theorem BL.drop : ∀ {W : Nat} {ds : List PyData} {n : Nat}, BL b k W ds → BL b k (PyData.weightAll (ds.drop n)) (ds.drop n)
  | _, ds, 0, h => ⟨h.low, h.lay, h.deep, Nat.le_refl _⟩
  | _, [], n + 1, h => by rw [List.drop_nil]; exact ⟨rfl, rfl, Nat.zero_le _, Nat.le_refl _⟩
  | _, d :: ds, n + 1, h => by rw [List.drop_succ_cons]; exact BL.drop h.tail
theorem BL.mem : ∀ {W : Nat} {ds : List PyData}, BL b k W ds → ∀ d ∈ ds, Bd b k W d
  | W, d :: ds, h, e, he => by
    have hw : d.weight + 1 + PyData.weightAll ds ≤ W := h.light
    rcases List.mem_cons.mp he with rfl | he
    · exact h.head.mono (Nat.le_refl _) (Nat.le_refl _) (by omega)
    · exact (h.tail.mem e he).mono (Nat.le_refl _) (Nat.le_refl _) (by omega)
theorem wt_split (ds : List PyData) (n : Nat) : PyData.weightAll (ds.take n) + PyData.weightAll (ds.drop n) = PyData.weightAll ds := by
  rw [← wtA_append, List.take_append_drop]
theorem wt_at {ds : List PyData} {n : Nat} (h : n < ds.length) : PyData.weightAll (ds.take n) + (ds.getD n .none).weight + 1 + PyData.weightAll (ds.drop (n + 1)) = PyData.weightAll ds := by
  have e := wt_split ds n
  rw [List.drop_eq_getElem_cons h] at e
  have g : ds.getD n .none = ds[n] := by rw [List.getD_eq_getElem?_getD, List.getElem?_eq_getElem h]; rfl
  simp only [PyData.weightAll] at e
  rw [g]
  omega
theorem BL.at_ {ds : List PyData} {n : Nat} (h : BL b k W ds) (hn : n < ds.length) : Bd b k (ds.getD n .none).weight (ds.getD n .none) := by
  have := h.mem _ (getD_mem (d := .none) hn)
  exact ⟨this.low, this.lay, this.deep, Nat.le_refl _⟩
theorem BL.tup {ds : List PyData} (h : BL b k W ds) : Bd b (k + 1) W (.tuple ds) := ⟨h.low, h.lay, Nat.succ_le_succ h.deep, h.light⟩
theorem BL.lst {ds : List PyData} (h : BL b k W ds) : Bd b (k + 1) W (.list ds) := ⟨h.low, h.lay, Nat.succ_le_succ h.deep, h.light⟩
theorem Bd.un {ds : List PyData} (h : Bd b k W (.tuple ds)) : 1 ≤ k ∧ BL b (k - 1) W ds := by
  have hd : PyData.depthAll ds + 1 ≤ k := h.deep
  exact ⟨by omega, h.low, h.lay, by omega, h.light⟩
theorem BL.one {d : PyData} (h : Bd b k W d) : BL b k (W + 1) [d] := (BL.cons h .nil).mono (Nat.le_refl _) (Nat.le_refl _) (by omega)
theorem Bd.int {i : Int} (h : i.natAbs < 2 ^ b) (hb : 0 < b) : Bd b k b (.int i) := by
  refine ⟨decide_eq_true h, rfl, Nat.zero_le _, ?_⟩
  show (if (i == 0) = true then 0 else i.natAbs.log2 + 1) ≤ b
  have := log2_lt h hb
  split <;> omega
theorem int_wt {i : Int} {W : Nat} (h : (PyData.int i).weight ≤ W) : i.natAbs < 2 ^ W := by
  have h : (if (i == 0) = true then 0 else i.natAbs.log2 + 1) ≤ W := h
  by_cases z : i = 0
  · subst z; exact Nat.two_pow_pos W
  · rw [if_neg (by simpa using z)] at h
    exact Nat.lt_of_lt_of_le Nat.lt_log2_self (two_le h)
/-- a number near one -/
theorem Bd.near {i j : Int} (h : Bd b k W (.int i)) (e : j.natAbs ≤ i.natAbs + 1) : Bd (b + 1) k (W + 1) (.int j) := by
  have h1 : i.natAbs < 2 ^ b := of_decide_eq_true h.low
  have h2 := int_wt h.light
  have p1 : 2 ^ (b + 1) = 2 ^ b * 2 := Nat.pow_succ ..
  have p2 : 2 ^ (W + 1) = 2 ^ W * 2 := Nat.pow_succ ..
  have := Nat.two_pow_pos b
  have := Nat.two_pow_pos W
  refine ⟨decide_eq_true (by omega), rfl, h.deep, ?_⟩
  show (if (j == 0) = true then 0 else j.natAbs.log2 + 1) ≤ W + 1
  have := log2_lt (n := j.natAbs) (b := W + 1) (by omega) (by omega)
  split <;> omega
theorem Bd.non : Bd b k 0 .none := ⟨rfl, rfl, Nat.zero_le _, Nat.le_refl _⟩
theorem Bd.bl (x : Bool) : Bd b k 0 (.bool x) := ⟨rfl, rfl, Nat.zero_le _, Nat.le_refl _⟩
theorem Bd.lit {d : PyData} (k0 W0 : Nat) (h : (lowI b d && d.canLay0 && decide (d.depth ≤ k0) && decide (d.weight ≤ W0)) = true) (hk : k0 ≤ k) (hW : W0 ≤ W) : Bd b k W d := by
  simp only [Bool.and_eq_true, decide_eq_true_eq] at h
  exact ⟨h.1.1.1, h.1.1.2, Nat.le_trans h.1.2 hk, Nat.le_trans h.2 hW⟩
theorem bd_str_a {x : Str} (h : Bd b k W (.str x)) (hk : k ≤ k') (hW : W + 1 ≤ W') : Bd (b + 1) k' W' (.str (x ++ "a")) := by
  have ok := strOk_iff.mp (show PyData.strOk x = true from h.lay)
  have lx : x.cps.size ≤ W := h.light
  have e : (x ++ ("a" : Str)).cps = x.cps ++ ("a" : Str).cps := rfl
  refine ⟨rfl, ?_, Nat.le_trans h.deep hk, ?_⟩
  · show PyData.strOk (x ++ ("a" : Str)) = true
    refine strOk_iff.mpr fun c hc => ?_
    rw [e, Array.toList_append] at hc
    rcases List.mem_append.mp hc with hc | hc
    · exact ok c hc
    · exact (by decide : ∀ c ∈ ("a" : Str).cps.toList, c < 0x110000) c hc
  · show (x ++ ("a" : Str)).cps.size ≤ W'
    rw [e, Array.size_append, show ("a" : Str).cps.size = 1 from rfl]
    omega
theorem bd_str_cut {x : Str} {lo hi : Option Int} (h : Bd b k W (.str x)) (hk : k ≤ k') (hW : W ≤ W') : Bd (b + 1) k' W' (.str ⟨(cutW x.cps.toList lo hi).toArray⟩) := by
  have ok := strOk_iff.mp (show PyData.strOk x = true from h.lay)
  have lx : x.cps.size ≤ W := h.light
  refine ⟨rfl, ?_, Nat.le_trans h.deep hk, ?_⟩
  · show PyData.strOk _ = true
    exact strOk_iff.mpr fun c hc => ok c (cut_mem hc)
  · show (cutW x.cps.toList lo hi).toArray.size ≤ W'
    have h1 := cut_len x.cps.toList lo hi
    have h2 : x.cps.toList.length = x.cps.size := Array.length_toList
    rw [List.size_toArray]
    omega
end
theorem for_d {us : List W} {ds : List PyData} {g : Sto → Prop} {tg : WG} {b : WS} {E : Ew} {ρ : Ro} {S : Sto} (t : Das us ds) (I : Nat → Ro → Sto → Prop) (h0 : I 0 ρ S) (hg : ∀ i ρ S, I i ρ S → g S)
    (step : ∀ (i : Nat) w d ρ S (nx : Ro → Sto → Prop), i < ds.length → ds.getD i .none = d → d ∈ ds → Da w d → I i ρ S → (∀ ρ' S', I (i + 1) ρ' S' → nx ρ' S') → tg w ρ fun ρ2 => b { E with nx := nx, ct := nx, bk := E.nx } ρ2 S)
    (fin : ∀ ρ S, I ds.length ρ S → E.nx ρ S) : forW g tg b E us ρ S := by
  refine for_inv I us h0 hg (fun i w ρ S nx ha hi hn => ?_) fun ρ S h => fin ρ S (by rw [t.length] at h; exact h)
  obtain ⟨d, hd, hw⟩ := t.get ha
  have hl := (List.getElem?_eq_some_iff.mp hd).1
  exact step i w d ρ S nx hl (by rw [List.getD_eq_getElem?_getD, hd]; rfl) (List.mem_of_getElem? hd) hw hi hn
end Dp
/-! stores read and let go by rote -/
namespace Dp
open PySem PySem.Spec L2
open PyProof.Rows hiding St
theorem put_new {S : Sto} {p a : Addr} {c d : Ce} (n : S p = none) (e : S a = some d) : (S.put p c) a = some d := (put_ne (new_ne n e)).trans e
/-- a cell that came later lies beside one that was there -/
theorem put_o1 {X Y : Sto} {q f : Addr} {c c' d : Ce} (n : X q = none) (e : X f = some c) (h : Y q = some d) : (Y.put f c') q = some d := (put_ne (Ne.symm (new_ne n e))).trans h
theorem put_o2 {Y : Sto} {q f : Addr} {c' d : Ce} (n : q ≠ f) (h : Y q = some d) : (Y.put f c') q = some d := (put_ne n).trans h
theorem put_o3 {Y : Sto} {q f : Addr} {c' d : Ce} (n : f ≠ q) (h : Y q = some d) : (Y.put f c') q = some d := (put_ne (Ne.symm n)).trans h
/-- two cells of other kinds -/
theorem put_o4 {Y : Sto} {q f : Addr} {c c' d : Ce} (h : Y q = some d) (e : Y f = some c) (n : c ≠ d) : (Y.put f c') q = some d := (put_ne fun z => by subst z; rw [e] at h; exact n (Option.some.inj h)).trans h
theorem le_fin {S T : Sto} {f : Addr} {k : Fk} {n m : Nat} (h : ∀ a d, a ≠ f → S a = some d → T a = some d) (e : T f = some (.fd k m)) (l : m ≤ n) : Le (S.put f (.fd k n)) T := fun a c q => by
  by_cases z : a = f
  · subst z; rw [put_same] at q; cases q; exact ⟨_, e, .more l⟩
  · rw [put_ne z] at q; exact ⟨_, h a c z q, .same _⟩
theorem le_all {S T : Sto} (h : ∀ a d, S a = some d → T a = some d) : Le S T := fun a c q => ⟨_, h a c q, .same _⟩
/-- new where it was not -/
theorem none_of {S T : Sto} {p : Addr} (h : ∀ a d, S a = some d → ∃ c, T a = some c) (n : T p = none) : S p = none := by
  cases e : S p with
  | none => rfl
  | some d => obtain ⟨c, hc⟩ := h p d e; rw [n] at hc; cases hc
theorem das_rep {xs : List W} {ds : List PyData} (h : Das xs ds) : ∀ n : Nat, Das (List.replicate n xs).flatten (List.replicate n ds).flatten
  | 0 => .nil
  | n + 1 => by
    rw [List.replicate_succ, List.flatten_cons, List.replicate_succ, List.flatten_cons]
    exact h.append (das_rep h n)
/-- all that was there stays -/
def Kp (S S' : Sto) : Prop := ∀ a d, S a = some d → S' a = some d
theorem Kp.refl {S : Sto} : Kp S S := fun _ _ h => h
theorem Kp.trans {A B C : Sto} (h : Kp A B) (k : Kp B C) : Kp A C := fun a d e => k a d (h a d e)
theorem Kp.put {S T : Sto} {p : Addr} {c : Ce} (k : Kp S T) (n : T p = none) : Kp S (T.put p c) := fun a d e => put_new n (k a d e)
theorem Kp.le {S T : Sto} (k : Kp S T) : Le S T := le_all k
theorem Kp.non {S T : Sto} {p : Addr} (k : Kp S T) (n : T p = none) : S p = none := none_of (fun a d e => ⟨_, k a d e⟩) n
/-- a cell that was not there is written -/
theorem Kp.own {S T : Sto} {p : Addr} {c : Ce} (k : Kp S T) (n : S p = none) : Kp S (T.put p c) := fun a d e => (put_ne (new_ne n e)).trans (k a d e)
theorem Kp.del {S T : Sto} {p : Addr} (k : Kp S T) (n : S p = none) : Kp S (T.del p) := fun a d e => (sdel_ne (new_ne n e)).trans (k a d e)
/-- all that was there stays, but the feed -/
def Kf (f : Addr) (S S' : Sto) : Prop := ∀ a d, a ≠ f → S a = some d → S' a = some d
theorem Kf.refl {f : Addr} {S : Sto} : Kf f S S := fun _ _ _ h => h
theorem Kf.trans {f : Addr} {A B C : Sto} (h : Kf f A B) (k : Kf f B C) : Kf f A C := fun a d n e => k a d n (h a d n e)
theorem Kf.feed {f : Addr} {S T : Sto} {c : Ce} (k : Kf f S T) : Kf f S (T.put f c) := fun a d n e => (put_ne n).trans (k a d n e)
theorem Kf.put {f : Addr} {S T : Sto} {p : Addr} {c : Ce} (k : Kf f S T) (n : T p = none) : Kf f S (T.put p c) := fun a d z e => put_new n (k a d z e)
theorem Kf.own {f : Addr} {S T : Sto} {p : Addr} {c : Ce} (k : Kf f S T) (n : S p = none) : Kf f S (T.put p c) := fun a d z e => (put_ne (new_ne n e)).trans (k a d z e)
theorem Kf.del {f : Addr} {S T : Sto} {p : Addr} (k : Kf f S T) (n : S p = none) : Kf f S (T.del p) := fun a d z e => (sdel_ne (new_ne n e)).trans (k a d z e)
theorem Kf.le {f : Addr} {S T : Sto} {kk : Fk} {n m : Nat} (k : Kf f S T) (e : T f = some (.fd kk m)) (l : m ≤ n) : Le (S.put f (.fd kk n)) T := le_fin k e l
theorem Kf.non {f : Addr} {S T : Sto} {p : Addr} {c d : Ce} (k : Kf f S T) (e : S f = some c) (e' : T f = some d) (n : T p = none) : S p = none := none_of (fun a x h => by
  by_cases z : a = f
  · subst z; exact ⟨_, e'⟩
  · exact ⟨_, k a x z h⟩) n
theorem rg_nt (n : Nat) : rgList 0 1 n = (List.range n).map fun (i : Nat) => W.int (i : Int) := by
  rw [rg_ints, List.map_map]; rfl
/-! dicts -/
theorem val_app (k' : Key) (w : W) (k : Key) : ∀ kvs : List (Key × W), (∀ p ∈ kvs, p.1 ≠ k') → valW (kvs ++ [(k', w)]) k = if k' = k then some w else valW kvs k
  | [], _ => rfl
  | (a, v) :: kvs, h => by
    have h1 := h _ (List.mem_cons_self ..)
    have ih := val_app k' w k kvs fun p hp => h p (List.mem_cons_of_mem _ hp)
    show (if a = k then some v else valW (kvs ++ [(k', w)]) k) = if k' = k then some w else (if a = k then some v else valW kvs k)
    rw [ih]
    by_cases e : a = k
    · subst e
      rw [if_pos rfl, if_pos rfl, if_neg (Ne.symm h1)]
    · rw [if_neg e, if_neg e]
theorem val_upd (k' : Key) (w : W) (k : Key) : ∀ kvs : List (Key × W), (∃ p ∈ kvs, p.1 = k') → valW (kvs.map fun kv => if kv.1 = k' then (kv.1, w) else kv) k = if k' = k then some w else valW kvs k
  | [], h => by obtain ⟨p, hp, _⟩ := h; cases hp
  | (a, v) :: kvs, h => by
    show valW ((if a = k' then (a, w) else (a, v)) :: kvs.map fun kv => if kv.1 = k' then (kv.1, w) else kv) k = if k' = k then some w else (if a = k then some v else valW kvs k)
    by_cases e : a = k'
    · subst e
      rw [if_pos rfl]
      show (if a = k then some w else valW (kvs.map fun kv => if kv.1 = a then (kv.1, w) else kv) k) = _
      by_cases q : a = k
      · rw [if_pos q, if_pos q]
      · rw [if_neg q, if_neg q, if_neg q]
        by_cases z : ∃ p ∈ kvs, p.1 = a
        · rw [val_upd a w k kvs z, if_neg q]
        · congr 1
          conv => rhs; rw [← List.map_id kvs]
          refine List.map_congr_left fun p hp => ?_
          rw [if_neg fun y => z ⟨p, hp, y⟩]; rfl
    · rw [if_neg e]
      have h' : ∃ p ∈ kvs, p.1 = k' := by
        obtain ⟨p, hp, hk⟩ := h
        rcases List.mem_cons.mp hp with rfl | hp
        · exact absurd hk e
        · exact ⟨p, hp, hk⟩
      show (if a = k then some v else valW (kvs.map fun kv => if kv.1 = k' then (kv.1, w) else kv) k) = _
      rw [val_upd k' w k kvs h']
      by_cases q : a = k
      · subst q; rw [if_pos rfl, if_pos rfl, if_neg (Ne.symm e)]
      · rw [if_neg q, if_neg q]
theorem val_put (kvs : List (Key × W)) (k' : Key) (w : W) (k : Key) : valW (putW kvs k' w) k = if k' = k then some w else valW kvs k := by
  unfold putW
  split
  · rename_i h
    obtain ⟨p, hp, hk⟩ := List.any_eq_true.mp h
    exact val_upd k' w k kvs ⟨p, hp, of_decide_eq_true hk⟩
  · rename_i h
    refine val_app k' w k kvs fun p hp z => h (List.any_eq_true.mpr ⟨p, hp, decide_eq_true z⟩)
theorem put_len (kvs : List (Key × W)) (k : Key) (w : W) : (putW kvs k w).length ≤ kvs.length + 1 := by
  unfold putW
  split
  · rw [List.length_map]; omega
  · rw [List.length_append]; exact Nat.le_refl _
/-! walks whose surroundings are held by a name: nested ones stay small -/
theorem for_invE {g : Sto → Prop} {tg : WG} {b : WS} {E : Ew} (I : Nat → Ro → Sto → Prop) (xs : List W) {ρ : Ro} {S : Sto} (h0 : I 0 ρ S) (hg : ∀ i ρ S, I i ρ S → g S)
    (step : ∀ i x ρ S (E2 : Ew), xs[i]? = some x → I i ρ S → (∀ ρ' S', I (i + 1) ρ' S' → E2.nx ρ' S') → E2.ct = E2.nx → E2.bk = E.nx → E2.rt = E.rt → E2.ex = E.ex → tg x ρ fun ρ2 => b E2 ρ2 S)
    (fin : ∀ ρ S, I xs.length ρ S → E.nx ρ S) : forW g tg b E xs ρ S :=
  for_inv I xs h0 hg (fun i x ρ S nx hx hi hn => step i x ρ S { E with nx := nx, ct := nx, bk := E.nx } hx hi hn rfl rfl rfl rfl) fin
theorem for_rE {g : Sto → Prop} {tg : WG} {b : WS} {E : Ew} {ρ : Ro} {S : Sto} {n : Nat} (I : Nat → Ro → Sto → Prop) (h0 : I 0 ρ S) (hg : ∀ i ρ S, I i ρ S → g S)
    (step : ∀ (i : Nat) ρ S (E2 : Ew), i < n → I i ρ S → (∀ ρ' S', I (i + 1) ρ' S' → E2.nx ρ' S') → E2.ct = E2.nx → E2.bk = E.nx → E2.rt = E.rt → E2.ex = E.ex → tg (.int (i : Nat)) ρ fun ρ2 => b E2 ρ2 S)
    (fin : ∀ ρ S, I n ρ S → E.nx ρ S) : forW g tg b E (rgList 0 1 n) ρ S :=
  for_r I h0 hg (fun i ρ S nx hi h hn => step i ρ S { E with nx := nx, ct := nx, bk := E.nx } hi h hn rfl rfl rfl rfl) fin
theorem for_pE {α : Type} {g : Sto → Prop} {tg : WG} {b : WS} {E : Ew} {ρ : Ro} {S : Sto} (as : List α) (e : α → W) (I : List α → Ro → Sto → Prop) (h0 : I [] ρ S) (hg : ∀ l ρ S, I l ρ S → g S)
    (step : ∀ l a r ρ S (E2 : Ew), as = l ++ a :: r → I l ρ S → (∀ ρ' S', I (l ++ [a]) ρ' S' → E2.nx ρ' S') → E2.ct = E2.nx → E2.bk = E.nx → E2.rt = E.rt → E2.ex = E.ex → tg (e a) ρ fun ρ2 => b E2 ρ2 S)
    (fin : ∀ ρ S, I as ρ S → E.nx ρ S) : forW g tg b E (as.map e) ρ S :=
  for_p as e I h0 hg (fun l a r ρ S nx ea hi hn => step l a r ρ S { E with nx := nx, ct := nx, bk := E.nx } ea hi hn rfl rfl rfl rfl) fin
theorem for_tE {α : Type} {g : Sto → Prop} {tg : WG} {b : WS} {E : Ew} {ρ : Ro} {S : Sto} (as : List α) (e : α → W) (I : Nat → Ro → Sto → Prop) (h0 : I 0 ρ S) (hg : ∀ i ρ S, I i ρ S → g S)
    (step : ∀ i a ρ S (E2 : Ew), as[i]? = some a → I i ρ S → (∀ ρ' S', I (i + 1) ρ' S' → E2.nx ρ' S') → E2.ct = E2.nx → E2.bk = E.nx → E2.rt = E.rt → E2.ex = E.ex → tg (e a) ρ fun ρ2 => b E2 ρ2 S)
    (fin : ∀ ρ S, I as.length ρ S → E.nx ρ S) : forW g tg b E (as.map e) ρ S :=
  for_t as e I h0 hg (fun i a ρ S nx ea hi hn => step i a ρ S { E with nx := nx, ct := nx, bk := E.nx } ea hi hn rfl rfl rfl rfl) fin
theorem for_dE {us : List W} {ds : List PyData} {g : Sto → Prop} {tg : WG} {b : WS} {E : Ew} {ρ : Ro} {S : Sto} (t : Das us ds) (I : Nat → Ro → Sto → Prop) (h0 : I 0 ρ S) (hg : ∀ i ρ S, I i ρ S → g S)
    (step : ∀ (i : Nat) w d ρ S (E2 : Ew), i < ds.length → ds.getD i .none = d → d ∈ ds → Da w d → I i ρ S → (∀ ρ' S', I (i + 1) ρ' S' → E2.nx ρ' S') → E2.ct = E2.nx → E2.bk = E.nx → E2.rt = E.rt → E2.ex = E.ex → tg w ρ fun ρ2 => b E2 ρ2 S)
    (fin : ∀ ρ S, I ds.length ρ S → E.nx ρ S) : forW g tg b E us ρ S :=
  for_d t I h0 hg (fun i w d ρ S nx hi hd hm hw h hn => step i w d ρ S { E with nx := nx, ct := nx, bk := E.nx } hi hd hm hw h hn rfl rfl rfl rfl) fin
/-! steps that keep the rest folded -/
section
variable {p : Nat → Pm} {G : Nat → W} {ρ : Ro} {S : Sto} {Ek : Ro → EK}
theorem E_lst {es : Es} {Kk : WK} {Ek} (k : dEs p G es ρ S (fun xs S1 => xs.length ≤ sizeLine ∧ ∀ q, S1 q = none → Kk (.ref q) (S1.put q (.lst xs))) Ek) : dE p G (.lst es) ρ S Kk Ek := k
theorem E_tup {es : Es} {Kk : WK} {Ek} (k : dEs p G es ρ S (fun xs S1 => xs.length ≤ sizeLine ∧ Kk (.tup xs) S1) Ek) : dE p G (.tup es) ρ S Kk Ek := k
theorem Es_cons {a : E} {r : Es} {Kk} {Ek} (k : dE p G a ρ S (fun x S1 => dEs p G r ρ S1 (fun xs S2 => Kk (x :: xs) S2) Ek) Ek) : dEs p G (.cons a r) ρ S Kk Ek := k
theorem E_fz {a : E} {Kk : WK} {Ek} (k : dE p G a ρ S (fun x S1 => fzK x S1 Kk) Ek) : dE p G (.fz a) ρ S Kk Ek := k
theorem E_var {i : Nat} {w : W} {Kk : WK} {Ek} (h : rget ρ i = some w) (k : Kk w S) : dE p G (.var i) ρ S Kk Ek := by
  show mVar i ρ S Kk Ek
  unfold mVar
  rw [h]; exact k
theorem E_cst {c : Const} {Kk : WK} {Ek} (k : Kk (cW c) S) : dE p G (.cst c) ρ S Kk Ek := k
theorem E_cint {i : Int} {Kk : WK} {Ek} (k : Kk (.int i) S) : dE p G (.cst (.int i)) ρ S Kk Ek := k
theorem E_cstr {i : Str} {Kk : WK} {Ek} (k : Kk (.str i) S) : dE p G (.cst (.str i)) ρ S Kk Ek := k
theorem E_cbl {i : Bool} {Kk : WK} {Ek} (k : Kk (.bl i) S) : dE p G (.cst (.bool i)) ρ S Kk Ek := k
theorem E_cnon {Kk : WK} {Ek} (k : Kk .non S) : dE p G (.cst .none) ρ S Kk Ek := k
theorem E_ix {a i : E} {Kk : WK} {Ek} (k : dE p G a ρ S (fun x S1 => dE p G i ρ S1 (fun y S2 => ixK x y S2 Kk) Ek) Ek) : dE p G (.ix a i) ρ S Kk Ek := k
theorem E_bin {op : Operator} {a b : E} {Kk : WK} {Ek} (k : dE p G a ρ S (fun x S1 => dE p G b ρ S1 (fun y S2 => bopOf op x y S2 Kk) Ek) Ek) : dE p G (.bin op a b) ρ S Kk Ek := k
theorem E_blt {b : Blt} {as : Es} {Kk : WK} {Ek} (k : dEs p G as ρ S (fun ws S1 => nopOf b ws S1 Kk) Ek) : dE p G (.blt b as) ρ S Kk Ek := k
theorem E_call {f : Nat} {as : Es} {Kk : WK} {Ek} (k : dEs p G as ρ S (fun ws S1 => p f ws S1 Kk Ek) Ek) : dE p G (.call f as) ρ S Kk Ek := k
theorem E_neg {a : E} {Kk : WK} {Ek} (k : dE p G a ρ S (fun x S1 => uNegB x S1 Kk) Ek) : dE p G (.neg a) ρ S Kk Ek := k
theorem E_sl {a : E} {lo hi : Eo} {Kk : WK} {Ek} (k : dE p G a ρ S (fun x S1 => dO p G lo ρ S1 (fun l S2 => dO p G hi ρ S2 (fun h S3 => slK x l h S3 Kk) Ek) Ek) Ek) : dE p G (.sl a lo hi) ρ S Kk Ek := k
theorem B_sub {i j : Int} {K : WK} (k : K (.int (i - j)) S) : bopOf .Sub (.int i) (.int j) S K := k
theorem B_neg {i : Int} {K : WK} (k : K (.int (-i)) S) : uNegB (.int i) S K := k
theorem B_min2 {i j : Int} {K : WK} (k : K (.int (if j < i then j else i)) S) : nopOf .min2 [.int i, .int j] S K := k
theorem B_max2 {i j : Int} {K : WK} (k : K (.int (if j > i then j else i)) S) : nopOf .max2 [.int i, .int j] S K := k
theorem B_add {i j : Int} {K : WK} (k : K (.int (i + j)) S) : bopOf .Add (.int i) (.int j) S K := k
theorem G_nm {i : Nat} {w : W} {K : Ro → Prop} (k : K (rset ρ i (some w))) : wgOf (.nm i) w ρ K := k
theorem Es_nil {Kk} {Ek} (k : Kk [] S) : dEs p G .nil ρ S Kk Ek := k
theorem S_ret {a : E} {Ew : Ew} (k : dE p G a ρ S Ew.rt (Ew.ex ρ)) : dS p G (.ret a) Ew ρ S := k
theorem S_exp {a : E} {Ew : Ew} (k : dE p G a ρ S (fun _ S1 => Ew.nx ρ S1) (Ew.ex ρ)) : dS p G (.exp a) Ew ρ S := k
theorem S_asg {tg : Tg} {a : E} {Ew : Ew} (k : dE p G a ρ S (fun w S1 => wgOf tg w ρ fun ρ2 => Ew.nx ρ2 S1) (Ew.ex ρ)) : dS p G (.asg tg a) Ew ρ S := k
theorem Ss_cons {a : Sm} {r : Sms} {Ew : Ew} (k : dS p G a { Ew with nx := fun ρ' S' => dSs p G r Ew ρ' S' } ρ S) : dSs p G (.cons a r) Ew ρ S := step_ k
end
end Dp
/-! part A: what its helpers keep -/
namespace Dp
open PySem PySem.Spec L2
open PyProof.Rows hiding St
def OddL (ds : List PyData) : Prop := ∀ d ∈ ds, Bd 662 2 662 d
def pOddA : Pm := fun ws S Kk Ek => ws = [] ∧ ∀ us ds, Das us ds → OddL ds → ds.length = 22 → Kk (.tup us) S
def pSame : Pm := fun ws S Kk Ek => ∃ a b : Bool, ws = [.bl a, .bl b] ∧ Kk (.bl (a == b)) S
def grow (W : Nat) : Nat := W + max W 700
def pBend (D : Nat) : Pm := fun ws S Kk Ek => ∃ (f : Addr) (n : Nat) (w : W) (d : PyData) (us : List W) (ds : List PyData) (b k V : Nat), ws = [.ref f, w, .tup us] ∧ S f = some (.fd .l4 n) ∧ n + 5 * (k + 1) < 900000 ∧ Da w d ∧ Bd b k V d ∧ 662 ≤ b ∧ b ≤ 670 ∧ k ≤ D ∧ k ≤ 6 ∧ V ≤ 10000 ∧ Das us ds ∧ OddL ds ∧ 1 ≤ ds.length ∧ ds.length ≤ 60 ∧ ∀ w' d', Da w' d' → Bd (b + 1) (k + 2) (grow V) d' → Kk w' (S.put f (.fd .l4 (n + 5 * (k + 1))))
theorem grow_ge (W : Nat) : W + 700 ≤ grow W ∧ W + W ≤ grow W := by unfold grow; omega
/-! ### sets of strips -/
def rowB2 : PyData → Bool
  | .tuple [.int a, .int c] => decide (1 ≤ a) && decide (0 ≤ c)
  | _ => false
def setB : PyData → Bool
  | .tuple ds => !ds.isEmpty && ds.all rowB2
  | _ => false
structure SOk (s : Int × Int) : Prop where
  w1 : 1 ≤ s.1
  w2 : s.1 ≤ 1000
  v1 : 0 ≤ s.2
  v2 : s.2 ≤ 1000
def pStripsA : Pm := fun ws S Kk Ek => ∃ (f : Addr) (n : Nat) (m : Int), ws = [.ref f, .int m] ∧ 0 ≤ m ∧ m ≤ 16 ∧ S f = some (.fd .l4 n) ∧ n < 900000 ∧ ∀ ss : List (Int × Int), ss.length = m.toNat → (∀ s ∈ ss, SOk s) → Kk (.tup (ss.map pairW)) (S.put f (.fd .l4 (n + 64)))
def pIsSet : Pm := fun ws S Kk Ek => ∃ w d, ws = [w] ∧ Da w d ∧ Fine d ∧ Kk (.bl (setB d)) S
def begN (ss : List (Int × Int)) (i : Nat) : Int := 4 * ((ss.take i).map (·.1)).sum
def beginsL (ss : List (Int × Int)) : List Int := (List.range (ss.length + 1)).map (begN ss)
def pBegins : Pm := fun ws S Kk Ek => ∃ ss : List (Int × Int), ws = [.tup (ss.map pairW)] ∧ ss.length ≤ 100 ∧ (∀ s ∈ ss, SOk s) ∧ Kk (.tup ((beginsL ss).map W.int)) S
def pWorths : Pm := fun ws S Kk Ek => ∃ ss : List (Int × Int), ws = [.tup (ss.map pairW)] ∧ ss.length ≤ 100 ∧ Kk (.int (ss.map (·.2)).sum) S
theorem begN_succ {ss : List (Int × Int)} {i : Nat} (h : i < ss.length) : begN ss (i + 1) = begN ss i + 4 * (ss.getD i (0, 0)).1 := by
  unfold begN
  rw [List.take_add_one, List.getElem?_eq_getElem h, Option.toList_some, List.map_append, List.sum_append, List.map_cons, List.map_nil, List.sum_cons, List.sum_nil, List.getD_eq_getElem?_getD, List.getElem?_eq_getElem h]
  show 4 * (_ + ((ss[i]).1 + 0)) = 4 * _ + 4 * (ss[i]).1
  omega
theorem beg_len (ss : List (Int × Int)) : (beginsL ss).length = ss.length + 1 := by simp [beginsL]
theorem beg_at {ss : List (Int × Int)} {i : Nat} (h : i ≤ ss.length) : (beginsL ss).getD i 0 = begN ss i := by
  unfold beginsL
  rw [List.getD_eq_getElem?_getD, List.getElem?_map, List.getElem?_range (by omega)]; rfl
theorem beg_snoc {ss : List (Int × Int)} {s : Int × Int} : beginsL (ss ++ [s]) = beginsL ss ++ [begN ss ss.length + 4 * s.1] := by
  unfold beginsL
  rw [List.length_append, show ss.length + [s].length + 1 = (ss.length + 1) + 1 from rfl, List.range_succ, List.map_append]
  have e1 : (List.range (ss.length + 1)).map (begN (ss ++ [s])) = (List.range (ss.length + 1)).map (begN ss) := List.map_congr_left fun i hi => by
    have := List.mem_range.mp hi
    unfold begN
    rw [List.take_append_of_le_length (by omega)]
  rw [e1, List.map_cons, List.map_nil]
  congr 2
  unfold begN
  rw [List.take_of_length_le (by rw [List.length_append]; show _ + 1 ≤ _ + 1; omega), List.map_append, List.sum_append, List.take_length, List.map_cons, List.map_nil, List.sum_cons, List.sum_nil]
  omega
theorem begN_add (ss : List (Int × Int)) (a j : Nat) : begN ss (a + j) = begN ss a + begN (ss.drop a) j := by
  unfold begN
  rw [List.take_add, List.map_append, List.sum_append, Int.mul_add]
theorem beg_split {ss : List (Int × Int)} {a : Nat} (h : a ≤ ss.length) : (beginsL ss).take a ++ (beginsL (ss.drop a)).map (fun y => begN ss a + y) = beginsL ss := by
  apply List.ext_getElem
  · rw [List.length_append, List.length_take, List.length_map, beg_len, beg_len, List.length_drop]; omega
  · intro i h1 h2
    rw [beg_len] at h2
    have e : ∀ (l : List Int) (h : i < l.length), l[i] = l.getD i 0 := fun l h => by rw [List.getD_eq_getElem?_getD, List.getElem?_eq_getElem h]; rfl
    rw [e, e, beg_at (by omega), List.getD_eq_getElem?_getD, List.getElem?_append]
    rw [List.length_take, beg_len]
    split
    · rename_i h3
      rw [List.getElem?_take, if_pos (by omega), ← List.getD_eq_getElem?_getD, beg_at (by omega)]
    · rename_i h3
      have em : min a (ss.length + 1) = a := by omega
      rw [em, List.getElem?_map, get_some (d := 0) (by rw [beg_len, List.length_drop]; omega), beg_at (by rw [List.length_drop]; omega)]
      show begN ss a + begN (ss.drop a) (i - a) = _
      rw [← begN_add]
      congr 1; omega
theorem worth_split (ss : List (Int × Int)) (a : Nat) : (ss.map (·.2)).sum = ((ss.take a).map (·.2)).sum + ((ss.drop a).map (·.2)).sum := by
  rw [← List.sum_append, ← List.map_append, List.take_append_drop]
theorem pairs_set {ss : List (Int × Int)} (h : ∀ s ∈ ss, SOk s) (l : 1 ≤ ss.length) : setB (.tuple (ss.map pairD)) = true := by
  show (!(ss.map pairD).isEmpty && (ss.map pairD).all rowB2) = true
  have e1 : (ss.map pairD).isEmpty = false := by
    cases ss with
    | nil => simp at l
    | cons _ _ => rfl
  have e2 : (ss.map pairD).all rowB2 = true := List.all_eq_true.mpr fun d hd => by
    obtain ⟨s, hs, rfl⟩ := List.mem_map.mp hd
    have ok := h s hs
    show (decide (1 ≤ s.1) && decide (0 ≤ s.2)) = true
    rw [decide_eq_true ok.w1, decide_eq_true ok.v1]; rfl
  rw [e1, e2]; rfl
end Dp
/-! words: one that is not among at most 49 others is met within 50 steps of after -/
namespace Dp
/-- little end first: one more, the last letter turning over -/
def incR : List Nat → List Nat
  | [] => []
  | [d] => [(d + 1) % 26]
  | d :: e :: r => if d = 25 then 0 :: incR (e :: r) else (d + 1) :: e :: r
def numR : List Nat → Nat
  | [] => 0
  | d :: r => d + 26 * numR r
def LowL (l : List Nat) : Prop := ∀ d ∈ l, d < 26
theorem numR_low : ∀ {l : List Nat}, LowL l → numR l < 26 ^ l.length
  | [], _ => by decide
  | d :: r, h => by
    have h1 := h d (List.mem_cons_self ..)
    have ih := numR_low (l := r) fun x hx => h x (List.mem_cons_of_mem _ hx)
    show d + 26 * numR r < 26 ^ (r.length + 1)
    rw [Nat.pow_succ]
    omega
theorem inc_len : ∀ l : List Nat, (incR l).length = l.length
  | [] => rfl
  | [d] => rfl
  | d :: e :: r => by
    have ih := inc_len (e :: r)
    unfold incR
    split
    · rw [List.length_cons, ih]; rfl
    · rfl
theorem inc_low : ∀ {l : List Nat}, LowL l → LowL (incR l)
  | [], h => h
  | [d], h => fun x hx => by rw [List.mem_singleton.mp hx]; omega
  | d :: e :: r, h => by
    have ih := inc_low (l := e :: r) fun x hx => h x (List.mem_cons_of_mem _ hx)
    have h1 := h d (List.mem_cons_self ..)
    unfold incR
    split
    · intro x hx
      rcases List.mem_cons.mp hx with rfl | hx
      · omega
      · exact ih x hx
    · intro x hx
      rcases List.mem_cons.mp hx with rfl | hx
      · omega
      · exact h x (List.mem_cons_of_mem _ hx)
theorem inc_num : ∀ {l : List Nat}, LowL l → l ≠ [] → numR (incR l) = (numR l + 1) % 26 ^ l.length
  | [], _, h => absurd rfl h
  | [d], h, _ => by
    show (d + 1) % 26 + 26 * 0 = (d + 26 * 0 + 1) % 26 ^ 1
    omega
  | d :: e :: r, h, _ => by
    have h' : LowL (e :: r) := fun x hx => h x (List.mem_cons_of_mem _ hx)
    have ih := inc_num (l := e :: r) h' (by intro z; cases z)
    have h1 := h d (List.mem_cons_self ..)
    have lo := numR_low h
    have e1 : (26 : Nat) ^ (d :: e :: r).length = 26 * 26 ^ (e :: r).length := by rw [List.length_cons, Nat.pow_succ, Nat.mul_comm]
    have e0 : numR (d :: e :: r) = d + 26 * numR (e :: r) := rfl
    rw [e1] at lo ⊢
    rw [e0] at lo ⊢
    unfold incR
    split
    · rename_i hd
      subst hd
      show 0 + 26 * numR (incR (e :: r)) = _
      rw [ih, show 25 + 26 * numR (e :: r) + 1 = 26 * (numR (e :: r) + 1) by omega, Nat.mul_mod_mul_left, Nat.zero_add]
    · rename_i hd
      show d + 1 + 26 * numR (e :: r) = _
      rw [Nat.mod_eq_of_lt]
      · omega
      · have lo2 := numR_low h'
        omega
/-- the next word, of eight letters at most -/
def aft (l : List Nat) : List Nat := if l.length < 8 then l ++ [0] else (incR l.reverse).reverse
def aftN : Nat → List Nat → List Nat
  | 0, l => l
  | n + 1, l => aft (aftN n l)
structure Wdl (l : List Nat) : Prop where
  l1 : 1 ≤ l.length
  l8 : l.length ≤ 8
  low : LowL l
theorem aft_ok {l : List Nat} (h : Wdl l) : Wdl (aft l) := by
  unfold aft
  split
  · refine ⟨by rw [List.length_append]; have := h.l1; omega, by rw [List.length_append]; show _ + 1 ≤ 8; omega, fun x hx => ?_⟩
    rcases List.mem_append.mp hx with hx | hx
    · exact h.low x hx
    · rw [List.mem_singleton.mp hx]; decide
  · refine ⟨by rw [List.length_reverse, inc_len, List.length_reverse]; exact h.l1, by rw [List.length_reverse, inc_len, List.length_reverse]; exact h.l8, fun x hx => ?_⟩
    exact inc_low (l := l.reverse) (fun y hy => h.low y (List.mem_reverse.mp hy)) x (List.mem_reverse.mp hx)
theorem aftN_ok {l : List Nat} (h : Wdl l) : ∀ n, Wdl (aftN n l)
  | 0 => h
  | n + 1 => aft_ok (aftN_ok h n)
theorem aftN_len {l : List Nat} (h : Wdl l) : ∀ n, (aftN n l).length = min 8 (l.length + n)
  | 0 => by have := h.l8; show l.length = _; omega
  | n + 1 => by
    have ih := aftN_len h n
    have := (aftN_ok h n).l8
    show (aft (aftN n l)).length = _
    unfold aft
    split
    · rw [List.length_append]; show _ + 1 = _; omega
    · rw [List.length_reverse, inc_len, List.length_reverse]; omega
theorem aftN_num {l : List Nat} (h : Wdl l) (i : Nat) (hi : (aftN i l).length = 8) : ∀ k, (aftN (i + k) l).length = 8 ∧ numR (aftN (i + k) l).reverse = (numR (aftN i l).reverse + k) % 26 ^ 8
  | 0 => by
    refine ⟨hi, ?_⟩
    have lo := numR_low (l := (aftN i l).reverse) fun x hx => (aftN_ok h i).low x (List.mem_reverse.mp hx)
    rw [List.length_reverse, hi] at lo
    rw [Nat.add_zero, Nat.add_zero, Nat.mod_eq_of_lt lo]
  | k + 1 => by
    obtain ⟨h8, hn⟩ := aftN_num h i hi k
    have e : aftN (i + (k + 1)) l = (incR (aftN (i + k) l).reverse).reverse := by
      show aft (aftN (i + k) l) = _
      unfold aft
      rw [if_neg (by omega)]
    rw [e]
    refine ⟨by rw [List.length_reverse, inc_len, List.length_reverse]; exact h8, ?_⟩
    rw [List.reverse_reverse, inc_num (fun x hx => (aftN_ok h (i + k)).low x (List.mem_reverse.mp hx)) (fun z => by
      have := congrArg List.length z
      rw [List.length_reverse, h8] at this
      cases this), List.length_reverse, h8, hn]
    omega
theorem aftN_ne {l : List Nat} (h : Wdl l) {i j : Nat} (ij : i < j) (hj : j ≤ 1000) : aftN i l ≠ aftN j l := fun e => by
  have e1 := congrArg List.length e
  rw [aftN_len h, aftN_len h] at e1
  have hi : (aftN i l).length = 8 := by rw [aftN_len h]; omega
  obtain ⟨_, hn⟩ := aftN_num h i hi (j - i)
  rw [show i + (j - i) = j by omega, ← e] at hn
  have lo := numR_low (l := (aftN i l).reverse) fun x hx => (aftN_ok h i).low x (List.mem_reverse.mp hx)
  rw [List.length_reverse, hi] at lo
  generalize numR (aftN i l).reverse = v at hn lo
  have p : (26 : Nat) ^ 8 = 208827064576 := by decide
  rw [p] at hn lo
  omega
/-- a list without twins, all of it among others, is no longer -/
theorem nodup_le {α : Type} [DecidableEq α] : ∀ {l m : List α}, l.Nodup → (∀ x ∈ l, x ∈ m) → l.length ≤ m.length
  | [], _, _, _ => Nat.zero_le _
  | x :: l, m, h, s => by
    have hx := s x (List.mem_cons_self ..)
    have hn := (List.nodup_cons.mp h)
    have ih := nodup_le (l := l) (m := m.erase x) hn.2 fun y hy => (List.mem_erase_of_ne (fun z => by subst z; exact hn.1 hy)).mpr (s y (List.mem_cons_of_mem _ hy))
    have := List.length_erase_of_mem hx
    have := List.length_pos_of_mem hx
    rw [List.length_cons]; omega
theorem aftN_nodup {l : List Nat} (h : Wdl l) (n : Nat) (hn : n ≤ 1000) : ((List.range n).map fun i => aftN i l).Nodup := by
  refine List.pairwise_map.mpr (List.Pairwise.imp_of_mem (R := (· < ·)) (fun {a b} ha hb hab => aftN_ne h hab (by have := List.mem_range.mp hb; omega)) List.pairwise_lt_range)
/-- among at most m words one of the first m + 1 that follow is new -/
theorem aft_new {l : List Nat} (h : Wdl l) {ws : List (List Nat)} (hw : ws.length ≤ 900) : ∃ i, i ≤ ws.length ∧ aftN i l ∉ ws := by
  apply Classical.byContradiction
  intro no
  have all : ∀ x ∈ (List.range (ws.length + 1)).map fun i => aftN i l, x ∈ ws := fun x hx => by
    obtain ⟨i, hi, rfl⟩ := List.mem_map.mp hx
    apply Classical.byContradiction
    intro z
    exact no ⟨i, by have := List.mem_range.mp hi; omega, z⟩
  have := nodup_le (aftN_nodup h (ws.length + 1) (by omega)) all
  rw [List.length_map, List.length_range] at this
  omega
/-- how the program turns the last letters: at the place from which on all are 25 -/
theorem inc_at (z d : Nat) (r : List Nat) (hd : d ≠ 25 ∨ r = []) : incR (List.replicate z 25 ++ d :: r) = List.replicate z 0 ++ ((d + 1) % 26 :: r) ∨ 26 ≤ d := by
  by_cases lo : 26 ≤ d
  · exact .inr lo
  refine .inl ?_
  induction z with
  | zero =>
    show incR (d :: r) = (d + 1) % 26 :: r
    cases r with
    | nil => rfl
    | cons e r =>
      have hd : d ≠ 25 := hd.resolve_right (by intro q; cases q)
      unfold incR
      rw [if_neg hd, Nat.mod_eq_of_lt (by omega)]
  | succ z ih =>
    rw [List.replicate_succ, List.replicate_succ, List.cons_append, List.cons_append, ← ih]
    generalize hq : List.replicate z 25 ++ d :: r = q
    cases q with
    | nil => cases z <;> cases hq
    | cons e q => show (if 25 = 25 then 0 :: incR (e :: q) else _) = _; rw [if_pos rfl]
end Dp
/-! words as texts -/
namespace Dp
open PySem PySem.Spec L2
open PyProof.Rows hiding St
def wS (l : List Nat) : Str := ⟨(l.map (· + 97)).toArray⟩
theorem wS_len (l : List Nat) : (wS l).length = l.length := by
  show (l.map (· + 97)).toArray.size = _
  rw [List.size_toArray, List.length_map]
theorem wS_list (l : List Nat) : (wS l).cps.toList = l.map (· + 97) := rfl
theorem wS_app (l m : List Nat) : wS l ++ wS m = wS (l ++ m) := by
  show (⟨(l.map (· + 97)).toArray ++ (m.map (· + 97)).toArray⟩ : Str) = ⟨((l ++ m).map (· + 97)).toArray⟩
  rw [List.map_append, List.append_toArray]
theorem wS_inj {l m : List Nat} (h : wS l = wS m) : l = m := by
  have h1 : (wS l).cps.toList = (wS m).cps.toList := by rw [h]
  rw [wS_list, wS_list] at h1
  exact (List.map_inj_right (fun _ _ e => Nat.add_right_cancel e)).mp h1
theorem wS_az : (Str.ofString "abcdefghijklmnopqrstuvwxyz") = wS (List.range 26) := by decide +kernel
theorem wS_a : (Str.ofString "a") = wS [0] := by decide +kernel
theorem wS_z : (Str.ofString "z") = wS [25] := by decide +kernel
theorem wS_one (d : Nat) : (⟨#[d + 97]⟩ : Str) = wS [d] := rfl
theorem wS_cut (l : List Nat) (lo hi : Option Int) : (⟨(cutW (wS l).cps.toList lo hi).toArray⟩ : Str) = wS (cutW l lo hi) := by
  rw [wS_list, cut_map]; rfl
theorem wS_rep (n : Nat) : (⟨((List.replicate n (wS [0]).cps.toList).flatten).toArray⟩ : Str) = wS (List.replicate n 0) := by
  show (⟨((List.replicate n [97]).flatten).toArray⟩ : Str) = ⟨((List.replicate n 0).map (· + 97)).toArray⟩
  rw [List.map_replicate, rep_one]
theorem wS_strOk {l : List Nat} (h : LowL l) : PyData.strOk (wS l) = true := by
  rw [strOk_iff]
  intro c hc
  rw [wS_list] at hc
  obtain ⟨d, hd, rfl⟩ := List.mem_map.mp hc
  have := h d hd
  omega
theorem wS_big {l : List Nat} (h : l.length ≤ 100000) : (wS l).length ≤ sizeLine := by rw [wS_len]; exact bigE h
theorem ix_w {S : Sto} {l : List Nat} {i : Int} {K : WK} (hl : l.length ≤ 100000) (h0 : 0 ≤ i) (h : i < l.length) (k : K (.str (wS [l.getD i.toNat 0])) S) : ixK (.str (wS l)) (.int i) S K := by
  unfold ixK
  refine ⟨wS_big hl, l.getD i.toNat 0 + 97, ?_, k⟩
  rw [wS_list]
  refine atI_pos h0 ?_
  rw [List.getElem?_map, List.getD_eq_getElem?_getD, List.getElem?_eq_getElem (by omega)]; rfl
theorem mul_w {S : Sto} {n : Int} {K : WK} (h0 : 0 ≤ n) (h1 : n < 1000) (k : K (.str (wS (List.replicate n.toNat 0))) S) : bMul2 (.str (wS [0])) (.int n) S K := by
  unfold bMul2 bMul
  refine ⟨by omega, ?_, by omega, ?_⟩
  · rw [wS_len]; exact bigE (by show 1 * n.toNat ≤ _; omega)
  · rw [wS_rep]; exact k
theorem occ_az : ∀ d : Nat, d < 26 → Builtin.Str.occurrences (wS (List.range 26)) (wS [d]) 0 (wS (List.range 26)).length 1 = [d] := by decide +kernel
theorem wS_eqz (d : Nat) : decide (wS [d] = wS [25]) = decide (d = 25) := by
  by_cases h : d = 25
  · subst h; rw [decide_eq_true rfl, decide_eq_true rfl]
  · rw [decide_eq_false h, decide_eq_false fun z => h (List.head_eq_of_cons_eq (wS_inj z))]
theorem aft_at {l : List Nat} (ok : Wdl l) (h8 : ¬ l.length < 8) {a : Nat} (ha : a ≤ 7) (hd : l.drop (a + 1) = List.replicate (7 - a) 25) (hz : l.getD a 0 ≠ 25 ∨ a = 0) : aft l = l.take a ++ [(l.getD a 0 + 1) % 26] ++ List.replicate (7 - a) 0 := by
  have la : a < l.length := by omega
  have e : l = l.take a ++ l.getD a 0 :: List.replicate (7 - a) 25 := by
    have h1 : l.drop a = l.getD a 0 :: List.replicate (7 - a) 25 := by
      rw [List.drop_eq_getElem_cons la, hd, List.getD_eq_getElem?_getD, List.getElem?_eq_getElem la]; rfl
    rw [← h1, List.take_append_drop]
  have er : l.reverse = List.replicate (7 - a) 25 ++ l.getD a 0 :: (l.take a).reverse := by
    have h2 := congrArg List.reverse e
    rw [List.reverse_append, List.reverse_cons, List.reverse_replicate, List.append_assoc] at h2
    exact h2
  unfold aft
  rw [if_neg h8, er]
  have low : l.getD a 0 < 26 := ok.low _ (getD_mem la)
  rcases inc_at (7 - a) (l.getD a 0) (l.take a).reverse (hz.imp id fun q => by rw [q]; rfl) with h | h
  · rw [h, List.reverse_append, List.reverse_cons, List.reverse_reverse, List.reverse_replicate]
  · omega
end Dp
namespace Dp
open PySem PySem.Spec L2
open PyProof.Rows hiding St
/-! the judgement, told -/
def tupOf : PyData → Option (List PyData)
  | .tuple ds => some ds
  | _ => none
def rowB (n : Nat) (d : PyData) : Bool := match tupOf d with
  | some ds => decide (ds.length = n)
  | none => false
def ballJ (acc : List Int) (ps ls : List PyData) (b : Nat) : Option (Str × Int) :=
  if numB (ps.getD b .none) = false then some ("payment", (b : Int))
  else if numB (ls.getD b .none) = false ∨ ¬ valI (ls.getD b .none) = acc.getD b 0 - acc.length * valI (ps.getD b .none) then some ("left", (b : Int))
  else if ¬ (valI (ls.getD b .none)).natAbs < acc.length then some ("much", (b : Int)) else none
def rowsJ (acc : List Int) (ps ls : List PyData) : Except (Str × Int) Int :=
  match (List.range acc.length).findSome? (ballJ acc ps ls) with
  | some e => .error e
  | none => if ¬ (ps.map valI).sum = 0 then .error ("sum", -1) else .ok ((ls.map fun d => ((valI d).natAbs : Int)).foldr max 0)
def paidJ (acc : List Int) (d : PyData) : Except (Str × Int) Int :=
  match tupOf d with
  | some [x, y] => if rowB acc.length x = true ∧ rowB acc.length y = true then rowsJ acc ((tupOf x).getD []) ((tupOf y).getD []) else .error ("shape", -1)
  | _ => .error ("shape", -1)
theorem paid_no {acc : List Int} {d : PyData} (h : tupOf d = none) : paidJ acc d = .error ("shape", -1) := by unfold paidJ; rw [h]
theorem paid_two {acc : List Int} {x y : PyData} : paidJ acc (.tuple [x, y]) = if rowB acc.length x = true ∧ rowB acc.length y = true then rowsJ acc ((tupOf x).getD []) ((tupOf y).getD []) else .error ("shape", -1) := rfl
theorem paid_len {acc : List Int} {ds : List PyData} (h : ds.length ≠ 2) : paidJ acc (.tuple ds) = .error ("shape", -1) := by
  match ds, h with
  | [], _ => rfl
  | [_], _ => rfl
  | [_, _], h => exact absurd rfl h
  | _ :: _ :: _ :: _, _ => rfl
theorem row_some {n : Nat} {d : PyData} (h : rowB n d = true) : ∃ ds, d = .tuple ds ∧ ds.length = n := by
  cases d with
  | tuple ds => exact ⟨ds, rfl, of_decide_eq_true h⟩
  | _ => exact absurd h Bool.false_ne_true
theorem da_tup {w : W} {ds : List PyData} (h : Da w (.tuple ds)) : ∃ ws, w = .tup ws ∧ Das ws ds := by
  cases h with | tup t => exact ⟨_, rfl, t⟩
theorem num_val {d : PyData} (h : numB d = true) : d = .int (valI d) := by
  cases d with
  | int i => rfl
  | _ => exact absurd h Bool.false_ne_true
theorem da_int {w : W} {i : Int} (h : Da w (.int i)) : w = .int i := by cases h; rfl
theorem ball_num {acc : List Int} {ps ls : List PyData} {b : Nat} (h : ballJ acc ps ls b = none) : numB (ps.getD b .none) = true ∧ numB (ls.getD b .none) = true := by
  unfold ballJ at h
  split at h
  · cases h
  · split at h
    · cases h
    · rename_i a b
      exact ⟨by simpa using a, by simpa using (not_or.mp b).1⟩
theorem all_num {n : Nat} {ds : List PyData} (l : ds.length = n) (h : ∀ b, b < n → numB (ds.getD b .none) = true) : ds.all numB = true := by
  rw [List.all_eq_true]
  intro d hd
  obtain ⟨i, hi, e⟩ := List.getElem_of_mem hd
  have := h i (by omega)
  rw [List.getD_eq_getElem?_getD, List.getElem?_eq_getElem hi] at this
  rw [← e]; exact this
theorem max_low {N : Int} (h0 : 0 < N) : ∀ l : List Int, (∀ x ∈ l, x < N) → l.foldr max 0 < N ∧ 0 ≤ l.foldr max 0
  | [], _ => ⟨h0, Int.le_refl _⟩
  | a :: l, h => by
    obtain ⟨i1, i2⟩ := max_low h0 l fun x hx => h x (List.mem_cons_of_mem _ hx)
    have := h a (List.mem_cons_self ..)
    show max a (l.foldr max 0) < N ∧ 0 ≤ max a (l.foldr max 0)
    omega
def wordsL : List Str := ["shape", "payment", "left", "much", "sum"]
theorem paid_word {acc : List Int} {d : PyData} (l1 : 1 ≤ acc.length) : (∀ w i, paidJ acc d = .error (w, i) → w ∈ wordsL ∧ -1 ≤ i ∧ i < acc.length) ∧ ∀ m, paidJ acc d = .ok m → 0 ≤ m ∧ m < acc.length := by
  have sh : ∀ w i, (Except.error ((Str.ofString "shape"), (-1 : Int)) : Except (Str × Int) Int) = .error (w, i) → w ∈ wordsL ∧ -1 ≤ i ∧ i < acc.length := fun w i h => by
    cases h
    exact ⟨by simp [wordsL], by omega, by omega⟩
  unfold paidJ
  split
  · split
    · rename_i x y _ hr
      unfold rowsJ
      cases e : (List.range acc.length).findSome? (ballJ acc ((tupOf x).getD []) ((tupOf y).getD [])) with
      | some p =>
        refine ⟨fun w i h => ?_, fun m h => by cases h⟩
        cases h
        obtain ⟨b, hb, hx⟩ := List.exists_of_findSome?_eq_some e
        have hb := List.mem_range.mp hb
        unfold ballJ at hx
        split at hx
        · cases hx; exact ⟨by simp [wordsL], by omega, by omega⟩
        · split at hx
          · cases hx; exact ⟨by simp [wordsL], by omega, by omega⟩
          · split at hx
            · cases hx; exact ⟨by simp [wordsL], by omega, by omega⟩
            · cases hx
      | none =>
        refine ⟨fun w i h => ?_, fun m h => ?_⟩
        · by_cases z : (((tupOf x).getD []).map valI).sum = 0
          · have h : (if ¬ _ then _ else _) = _ := h
            rw [if_neg (fun y => y z)] at h; cases h
          · have h : (if ¬ _ then _ else _) = _ := h
            rw [if_pos z] at h; cases h; exact ⟨by simp [wordsL], by omega, by omega⟩
        · by_cases z : (((tupOf x).getD []).map valI).sum = 0
          · have h : (if ¬ _ then _ else _) = _ := h
            rw [if_neg (fun y => y z)] at h; cases h
            have := max_low (N := acc.length) (by omega) (((tupOf y).getD []).map fun d => ((valI d).natAbs : Int)) fun v hv => by
              obtain ⟨c, hc, rfl⟩ := List.mem_map.mp hv
              obtain ⟨i, hi, e2⟩ := List.getElem_of_mem hc
              obtain ⟨ls, rfl, ll⟩ := row_some hr.2
              have hi : i < ls.length := hi
              have h0 := List.findSome?_eq_none_iff.mp e i (List.mem_range.mpr (by omega))
              unfold ballJ at h0
              split at h0
              · cases h0
              · split at h0
                · cases h0
                · split at h0
                  · cases h0
                  · rename_i h3
                    have e3 : ((tupOf (PyData.tuple ls)).getD []).getD i PyData.none = c := by
                      show ls.getD i .none = c
                      rw [List.getD_eq_getElem?_getD, List.getElem?_eq_getElem hi]; exact e2
                    rw [e3] at h3
                    omega
            omega
          · have h : (if ¬ _ then _ else _) = _ := h
            rw [if_pos z] at h; cases h
    · exact ⟨sh, fun m h => by cases h⟩
  · exact ⟨sh, fun m h => by cases h⟩
structure AccS (acc : List Int) : Prop where
  l1 : 1 ≤ acc.length
  l2 : acc.length ≤ 16
def pLets : Pm := fun ws S Kk Ek => ∃ acc w d, ws = [.tup (acc.map W.int), w] ∧ Da w d ∧ d.weight ≤ 40000 ∧ AccS acc ∧ (∀ m, paidJ acc d = .ok m → Kk (.int m) S) ∧ ∀ z i, paidJ acc d = .error (z, i) → Ek (npX z i) S
/-- a paper that is right -/
theorem paid_right {acc ps ls : List Int} (lp : ps.length = acc.length) (ll : ls.length = acc.length) (hl : ∀ b, b < acc.length → ls.getD b 0 = acc.getD b 0 - acc.length * ps.getD b 0) (hs : ∀ x ∈ ls, x.natAbs < acc.length) (h0 : ps.sum = 0) :
    paidJ acc (.tuple [.tuple (ps.map PyData.int), .tuple (ls.map PyData.int)]) = .ok ((ls.map fun x => (x.natAbs : Int)).foldr max 0) := by
  rw [paid_two, if_pos ⟨decide_eq_true (by rw [List.length_map, lp]), decide_eq_true (by rw [List.length_map, ll])⟩]
  show rowsJ acc (ps.map PyData.int) (ls.map PyData.int) = _
  unfold rowsJ
  have gi : ∀ (xs : List Int) (b : Nat), b < xs.length → (xs.map PyData.int).getD b .none = .int (xs.getD b 0) := fun xs b h => mapD h
  rw [find_none fun b hb => by
    unfold ballJ
    rw [gi ps b (by omega), gi ls b (by omega)]
    rw [if_neg (show ¬ numB (.int (ps.getD b 0)) = false from Bool.noConfusion)]
    rw [if_neg (not_or.mpr ⟨show ¬ numB (.int (ls.getD b 0)) = false from Bool.noConfusion, fun z => z (hl b hb)⟩)]
    rw [if_neg (fun z => z (hs _ (getD_mem (by omega))))]]
  rw [(ints_num ps).2]
  show (if ¬ _ then _ else _) = _
  rw [if_neg (fun z => z h0), List.map_map]; rfl
end Dp
/-! rooms, places, year rows, tables -/
namespace Dp
open PySem PySem.Spec L2
open PyProof.Rows hiding St

structure RoomsOk (rs : List Int) : Prop where
  one : 1 ≤ rs.length
  six : rs.length ≤ 6
  pos : ∀ r ∈ rs, 0 ≤ r
  low : 1 ≤ rs.sum
  top : rs.sum ≤ 12
abbrev intsT (rs : List Int) : W := .tup (rs.map W.int)
abbrev intsD (rs : List Int) : PyData := .tuple (rs.map PyData.int)
theorem RoomsOk.r12 {rs : List Int} (ok : RoomsOk rs) : ∀ r ∈ rs, 0 ≤ r ∧ r ≤ 12 := fun r hr => ⟨ok.pos r hr, by have := (le_sum ok.pos).2 r hr; have := ok.top; omega⟩
/-- all meadows by their rooms -/
def placesFrom : Nat → List Int → List Int
  | _, [] => []
  | m, r :: rs => List.replicate r.toNat (m : Int) ++ placesFrom (m + 1) rs
def placesL (rs : List Int) : List Int := placesFrom 0 rs
theorem places_snoc : ∀ (rs : List Int) (m : Nat) (r : Int), placesFrom m (rs ++ [r]) = placesFrom m rs ++ List.replicate r.toNat ((m + rs.length : Nat) : Int)
  | [], m, r => by simp [placesFrom]
  | a :: rs, m, r => by
    show List.replicate a.toNat (m : Int) ++ placesFrom (m + 1) (rs ++ [r]) = _
    rw [places_snoc rs (m + 1) r]
    show _ = (List.replicate a.toNat (m : Int) ++ placesFrom (m + 1) rs) ++ _
    rw [List.append_assoc, List.length_cons, show m + 1 + rs.length = m + (rs.length + 1) by omega]
theorem places_ge : ∀ (rs : List Int) (m : Nat), ∀ x ∈ placesFrom m rs, (m : Int) ≤ x ∧ x < (m + rs.length : Nat)
  | [], m, x, h => by simp [placesFrom] at h
  | a :: rs, m, x, h => by
    rcases List.mem_append.mp (show x ∈ List.replicate a.toNat (m : Int) ++ placesFrom (m + 1) rs from h) with h | h
    · rw [(List.mem_replicate.mp h).2, List.length_cons]; omega
    · have := places_ge rs (m + 1) x h
      rw [List.length_cons]; omega
theorem places_sorted : ∀ (rs : List Int) (m : Nat), (placesFrom m rs).Pairwise (· ≤ ·)
  | [], m => .nil
  | a :: rs, m => by
    refine List.pairwise_append.mpr ⟨?_, places_sorted rs (m + 1), fun x hx y hy => ?_⟩
    · rw [List.pairwise_replicate]; exact .inr (Int.le_refl _)
    · rw [(List.mem_replicate.mp hx).2]
      have := places_ge rs (m + 1) y hy
      omega
theorem places_count : ∀ (rs : List Int) (m j : Nat), (∀ r ∈ rs, 0 ≤ r) → j < rs.length → ((placesFrom m rs).count ((m + j : Nat) : Int) : Int) = rs.getD j 0
  | [], m, j, _, h => by simp at h
  | a :: rs, m, 0, hp, h => by
    have h0 := hp a (List.mem_cons_self ..)
    show ((List.replicate a.toNat (m : Int) ++ placesFrom (m + 1) rs).count ((m + 0 : Nat) : Int) : Int) = a
    rw [List.count_append, Nat.add_zero, List.count_replicate_self]
    have : (placesFrom (m + 1) rs).count (m : Int) = 0 := by
      rw [List.count_eq_zero]
      intro hm
      have := places_ge rs (m + 1) _ hm
      omega
    rw [this]; omega
  | a :: rs, m, j + 1, hp, h => by
    show ((List.replicate a.toNat (m : Int) ++ placesFrom (m + 1) rs).count ((m + (j + 1) : Nat) : Int) : Int) = rs.getD j 0
    rw [List.count_append]
    have : (List.replicate a.toNat (m : Int)).count ((m + (j + 1) : Nat) : Int) = 0 := by
      rw [List.count_eq_zero]
      intro hm
      have := (List.mem_replicate.mp hm).2
      omega
    rw [this, Nat.zero_add, show m + (j + 1) = m + 1 + j by omega]
    exact places_count rs (m + 1) j (fun r hr => hp r (List.mem_cons_of_mem _ hr)) (by simpa using h)
theorem places_len : ∀ (rs : List Int) (m : Nat), (∀ r ∈ rs, 0 ≤ r) → ((placesFrom m rs).length : Int) = rs.sum
  | [], m, _ => rfl
  | a :: rs, m, hp => by
    have h0 := hp a (List.mem_cons_self ..)
    show ((List.replicate a.toNat (m : Int) ++ placesFrom (m + 1) rs).length : Int) = (a :: rs).sum
    rw [List.length_append, List.length_replicate, List.sum_cons]
    have := places_len rs (m + 1) fun r hr => hp r (List.mem_cons_of_mem _ hr)
    push_cast; omega
theorem perm_erase : ∀ {xs : List Int} {i : Nat}, i < xs.length → (xs.getD i 0 :: xs.eraseIdx i).Perm xs
  | [], _, h => absurd h (Nat.not_lt_zero _)
  | _ :: _, 0, _ => List.Perm.refl _
  | x :: xs, i + 1, h => (List.Perm.swap x (xs.getD i 0) (xs.eraseIdx i)).trans (List.Perm.cons x (perm_erase (xs := xs) (i := i) (by simpa using h)))
/-! year rows -/
def yearB (rs : List Int) : PyData → Bool
  | .tuple ds => ds.all numB && (ds.map valI).isPerm (placesL rs)
  | _ => false
def inB (n : Nat) : PyData → Bool
  | .int v => decide (0 ≤ v) && decide (v < n)
  | _ => false
theorem count_int (m : Int) : ∀ vs : List Int, (List.map W.int vs).countP (fun w => eqF w (.int m)) = vs.count m
  | [] => rfl
  | v :: vs => by
    rw [List.map_cons, List.countP_cons, List.count_cons, count_int m vs]
    rfl
theorem eqv_ints : ∀ a b : List Int, PyData.eqv (.list (a.map PyData.int)) (.list (b.map PyData.int)) = decide (a = b)
  | [], [] => rfl
  | [], _ :: _ => rfl
  | _ :: _, [] => rfl
  | x :: a, y :: b => by
    have ih := eqv_ints a b
    have ih : PyData.eqvAll (a.map PyData.int) (b.map PyData.int) = decide (a = b) := ih
    show (x == y && PyData.eqvAll (a.map PyData.int) (b.map PyData.int)) = _
    rw [ih]
    by_cases e : x = y
    · subst e; simp
    · have : (x == y) = false := by simpa using e
      rw [this]; simp [e]
theorem eqv_intsT (a b : List Int) : PyData.eqv (.tuple (a.map PyData.int)) (.tuple (b.map PyData.int)) = decide (a = b) := eqv_ints a b
/-- sorted ones of the same things are the same -/
theorem sorted_eq : ∀ {a b : List Int}, a.Pairwise (· ≤ ·) → b.Pairwise (· ≤ ·) → a.Perm b → a = b := by
  intro a b ha hb h
  exact h.eq_of_pairwise (fun x y _ _ h1 h2 => Int.le_antisymm h1 h2) ha hb
theorem perm_iff {rs vs : List Int} (ok : RoomsOk rs) (hin : ∀ v ∈ vs, 0 ≤ v ∧ v < rs.length) : vs.Perm (placesL rs) ↔ ∀ m, m < rs.length → (vs.count (m : Int) : Int) = rs.getD m 0 := by
  have pc : ∀ m, m < rs.length → ((placesL rs).count (m : Int) : Int) = rs.getD m 0 := fun m hm => by
    have := places_count rs 0 m ok.pos hm
    rw [Nat.zero_add] at this; exact this
  constructor
  · intro h m hm
    rw [h.count_eq]; exact pc m hm
  · intro h
    rw [List.perm_iff_count]
    intro x
    by_cases hx : 0 ≤ x ∧ x < rs.length
    · have h1 := h x.toNat (by omega)
      have h2 := pc x.toNat (by omega)
      have e : ((x.toNat : Nat) : Int) = x := by omega
      rw [e] at h1 h2
      omega
    · rw [List.count_eq_zero.mpr fun hm => hx (hin x hm), List.count_eq_zero.mpr fun hm => by
        have := places_ge rs 0 x hm
        exact hx (by omega)]
theorem not_in {rs : List Int} {ds : List PyData} (h : ds.all (inB rs.length) = false) : yearB rs (.tuple ds) = false := by
  show (ds.all numB && (ds.map valI).isPerm (placesL rs)) = false
  by_cases hn : ds.all numB = true
  · rw [hn, Bool.true_and]
    rw [Bool.eq_false_iff]
    intro hp
    rw [List.isPerm_iff] at hp
    rw [List.all_eq_false] at h
    obtain ⟨d, hd, h⟩ := h
    have := List.all_eq_true.mp hn d hd
    cases d with
    | int v =>
      have hm : v ∈ ds.map valI := List.mem_map.mpr ⟨_, hd, rfl⟩
      have := places_ge rs 0 v (hp.mem_iff.mp hm)
      refine h ?_
      show (decide (0 ≤ v) && decide (v < (rs.length : Int))) = true
      rw [decide_eq_true (by omega), decide_eq_true (by omega)]; rfl
    | _ => exact (Bool.false_ne_true this).elim
  · rw [Bool.eq_false_iff.mpr hn]; rfl
theorem all_in {n : Nat} {ds : List PyData} (h : ds.all (inB n) = true) : ds.all numB = true ∧ ∀ v ∈ ds.map valI, 0 ≤ v ∧ v < n := by
  rw [List.all_eq_true] at h
  refine ⟨List.all_eq_true.mpr fun d hd => ?_, fun v hv => ?_⟩
  · have := h d hd
    cases d <;> first | rfl | (exact (Bool.false_ne_true this).elim)
  · obtain ⟨d, hd, rfl⟩ := List.mem_map.mp hv
    have := h d hd
    cases d with
    | int v =>
      have : (decide (0 ≤ v) && decide (v < (n : Int))) = true := this
      rw [Bool.and_eq_true, decide_eq_true_eq, decide_eq_true_eq] at this
      exact this
    | _ => exact (Bool.false_ne_true this).elim
/-- a year row, by counts -/
theorem year_counts {rs : List Int} {ds : List PyData} (ok : RoomsOk rs) (h : ds.all (inB rs.length) = true) : yearB rs (.tuple ds) = (List.range rs.length).all fun (i : Nat) => decide (((ds.map valI).count (i : Int) : Int) = rs.getD i 0) := by
  obtain ⟨hnum, hin⟩ := all_in h
  show (ds.all numB && (ds.map valI).isPerm (placesL rs)) = _
  rw [hnum, Bool.true_and, Bool.eq_iff_iff, List.isPerm_iff, perm_iff ok hin, List.all_eq_true]
  constructor
  · intro h m hm
    exact decide_eq_true (h m (List.mem_range.mp hm))
  · intro h m hm
    exact of_decide_eq_true (h m (List.mem_range.mpr hm))
/-- by sorting -/
theorem year_sort {rs ns : List Int} {ds : List PyData} (h1 : ds.all numB = true) (hp : ns.Perm (ds.map valI)) (hs : ns.Pairwise (· ≤ ·)) : yearB rs (.tuple ds) = PyData.eqv (.list (ns.map PyData.int)) (.list ((placesL rs).map PyData.int)) := by
  rw [eqv_ints]
  show (ds.all numB && (ds.map valI).isPerm (placesL rs)) = _
  rw [h1, Bool.true_and, Bool.eq_iff_iff, List.isPerm_iff, decide_eq_true_eq]
  constructor
  · intro h
    exact sorted_eq hs (places_sorted rs 0) (hp.trans h)
  · intro h
    rw [← h]; exact hp.symm
def rowI : PyData → List Int
  | .tuple ds => ds.map valI
  | _ => []
theorem year_row {rs : List Int} {d : PyData} (h : yearB rs d = true) : d = intsD (rowI d) ∧ (rowI d).Perm (placesL rs) := by
  cases d with
  | tuple ds =>
    have h : (ds.all numB && (ds.map valI).isPerm (placesL rs)) = true := h
    rw [Bool.and_eq_true, List.isPerm_iff] at h
    exact ⟨congrArg PyData.tuple (num_intsD h.1), h.2⟩
  | _ => exact (Bool.false_ne_true h).elim
theorem perm_len {rs row : List Int} (ok : RoomsOk rs) (h : row.Perm (placesL rs)) : (row.length : Int) = rs.sum := by
  rw [h.length_eq]; exact places_len rs 0 ok.pos
theorem perm_low {rs row : List Int} (h : row.Perm (placesL rs)) : ∀ x ∈ row, 0 ≤ x ∧ x < rs.length := fun x hx => by
  have := places_ge rs 0 x (h.mem_iff.mp hx)
  omega
theorem da_intsT {w : W} {vs : List Int} (h : Da w (intsD vs)) : w = intsT vs := by
  obtain ⟨ws, rfl, t⟩ := da_tup h
  have n := (ints_num vs).1
  have e := num_ints t n
  rw [(ints_num vs).2] at e
  rw [e]
/-- what is told of a table of year rows: how often a group had a meadow -/
def hadL (rows : List (List Int)) (g : Nat) (m : Int) : Nat := rows.countP fun row => decide (row.getD g 0 = m)
def evenAt (rs : List Int) (y : Int) (rows : List (List Int)) (g : Nat) : Bool := (List.range rs.length).all fun (m : Nat) => decide ((hadL rows g m : Int) * rs.sum = y * rs.getD m 0)
def unevenG (rs : List Int) (y : Int) (rows : List (List Int)) : Option Nat := (List.range rs.sum.toNat).findSome? fun g => if evenAt rs y rows g = true then none else some g
def faultRow (rs : List Int) (ds : List PyData) (k : Nat) : Option (Str × Int) := if yearB rs (ds.getD k .none) = true then none else some ("row", (k : Int))
abbrev rowsT (rows : List (List Int)) : W := .tup (rows.map intsT)
abbrev rowsD (rows : List (List Int)) : PyData := .tuple (rows.map intsD)
theorem das_rowsT (rows : List (List Int)) : Das (rows.map intsT) (rows.map intsD) := das_map rows fun r _ => da_ints r
theorem had_le (rows : List (List Int)) (g : Nat) (m : Int) : hadL rows g m ≤ rows.length := List.countP_le_length
theorem hadL_col (rows : List (List Int)) (g : Nat) (m : Int) : hadL rows g m = (rows.map fun row => row.getD g 0).count m := by
  unfold hadL List.count
  rw [List.countP_map]
  refine List.countP_congr fun row _ => ?_
  simp
/-- rows that were looked at -/
theorem rows_ok {rs : List Int} {us : List W} {ds : List PyData} (t : Das us ds) (h : ∀ k, k < ds.length → faultRow rs ds k = none) : us = (ds.map rowI).map intsT ∧ ds = (ds.map rowI).map intsD ∧ ∀ row ∈ ds.map rowI, row.Perm (placesL rs) := by
  have hy : ∀ d ∈ ds, yearB rs d = true := fun d hd => by
    obtain ⟨i, hi, e⟩ := List.getElem_of_mem hd
    have := h i hi
    unfold faultRow at this
    rw [List.getD_eq_getElem?_getD, List.getElem?_eq_getElem hi] at this
    have this : (if yearB rs ds[i] = true then none else some (("row" : Str), (i : Int))) = none := this
    rw [← e]
    by_cases q : yearB rs ds[i] = true
    · exact q
    · rw [if_neg q] at this; cases this
  have key : ∀ (us : List W) (ds : List PyData), Das us ds → (∀ d ∈ ds, yearB rs d = true) → us = (ds.map rowI).map intsT ∧ ds = (ds.map rowI).map intsD := by
    intro us
    induction us with
    | nil => intro ds t _; cases t; exact ⟨rfl, rfl⟩
    | cons u us ih =>
      intro ds t h
      cases t with
      | cons a t =>
        obtain ⟨i1, i2⟩ := ih _ t fun d hd => h d (List.mem_cons_of_mem _ hd)
        have e := (year_row (h _ (List.mem_cons_self ..))).1
        rw [e] at a
        have a := da_intsT a
        refine ⟨?_, ?_⟩
        · rw [List.map_cons, List.map_cons, ← i1, a]
        · rw [List.map_cons, List.map_cons, ← i2, ← e]
  obtain ⟨k1, k2⟩ := key us ds t hy
  refine ⟨k1, k2, fun row hr => ?_⟩
  obtain ⟨d, hd, rfl⟩ := List.mem_map.mp hr
  exact (year_row (hy d hd)).2
def evenJ (rs : List Int) (d : PyData) : Except (Str × Int) Int :=
  match tupOf d with
  | none => .error ("shape", -1)
  | some ds => if ds.length = 0 then .error ("shape", -1) else match (List.range ds.length).findSome? (faultRow rs ds) with
    | some e => .error e
    | none => match unevenG rs ds.length (ds.map rowI) with
      | some g => .error ("even", (g : Int))
      | none => .ok ds.length
/-! ### promises -/
def pHad : Pm := fun ws S Kk Ek => ∃ (rows : List (List Int)) (g : Nat) (m : Int), ws = [rowsT rows, .int (g : Nat), .int m] ∧ rows.length ≤ 100 ∧ (∀ row ∈ rows, g < row.length) ∧ Kk (.int (hadL rows g m : Nat)) S
def pYear : Pm := fun ws S Kk Ek => ∃ rs w d, ws = [intsT rs, w] ∧ RoomsOk rs ∧ Da w d ∧ Fine d ∧ Kk (.bl (yearB rs d)) S
def pPlaces : Pm := fun ws S Kk Ek => ∃ rs, ws = [intsT rs] ∧ RoomsOk rs ∧ Kk (.lst ((placesL rs).map W.int)) S
def optW : Option Nat → W
  | none => .non
  | some g => .int (g : Nat)
structure RowsOk2 (rs : List Int) (rows : List (List Int)) : Prop where
  few : rows.length ≤ 100
  lens : ∀ row ∈ rows, (row.length : Int) = rs.sum
def pUneven : Pm := fun ws S Kk Ek => ∃ rs rows, ws = [intsT rs, rowsT rows] ∧ RoomsOk rs ∧ RowsOk2 rs rows ∧ Kk (optW (unevenG rs rows.length rows)) S
/-- need, the number perhaps none where nothing is refused -/
def pNeed2 : Pm := fun ws S Kk Ek => ∃ b w v, ws = [.bl b, .str w, v] ∧ (b = true → Kk .non S) ∧ (b = false → ∃ k, v = .int k ∧ Ek (npX w k) S)
def pNeedRows : Pm := fun ws S Kk Ek => ∃ (rs : List Int) (us : List W) (ds : List PyData), ws = [intsT rs, .tup us] ∧ RoomsOk rs ∧ Das us ds ∧ (∀ d ∈ ds, Fine d) ∧ ds.length ≤ 40000 ∧ ((List.range ds.length).findSome? (faultRow rs ds) = none → Kk .non S) ∧ ∀ z i, (List.range ds.length).findSome? (faultRow rs ds) = some (z, i) → Ek (npX z i) S
def pNeedEven : Pm := fun ws S Kk Ek => ∃ rs rows, ws = [intsT rs, rowsT rows] ∧ RoomsOk rs ∧ RowsOk2 rs rows ∧ (unevenG rs rows.length rows = none → Kk .non S) ∧ ∀ g, unevenG rs rows.length rows = some g → Ek (npX "even" (g : Nat)) S
def pRooms : Pm := fun ws S Kk Ek => ∃ (f : Addr) (n : Nat), ws = [.ref f] ∧ S f = some (.fd .d4 n) ∧ n < 900000 ∧ ∀ rs S' k, RoomsOk rs → S' f = some (.fd .d4 k) → k ≤ n + 20 → Kk (intsT rs) S'
def wholeB (rs : List Int) (y : Int) : Bool := decide (0 < y) && rs.all fun r => decide (y * r % rs.sum = 0)
def pWhole : Pm := fun ws S Kk Ek => ∃ rs y, ws = [intsT rs, .int y] ∧ RoomsOk rs ∧ y.natAbs ≤ 100 ∧ Kk (.bl (wholeB rs y)) S
/-- any things of a list in a drawn order -/
def pOrderI : Pm := fun ws S Kk Ek => ∃ (xs : List Int) (f : Addr) (n : Nat), ws = [.ref f, .lst (xs.map W.int)] ∧ S f = some (.fd .d4 n) ∧ n < 900000 ∧ xs.length ≤ 100 ∧ ∀ ys : List Int, ys.Perm xs → Kk (.lst (ys.map W.int)) (S.put f (.fd .d4 (n + xs.length)))
def pOrder2 : Pm := fun ws S Kk Ek => ∃ (α : Type) (as : List α) (e : α → W) (d : α) (f : Addr) (n : Nat), ws = [.ref f, .lst (as.map e)] ∧ S f = some (.fd .d4 n) ∧ n < 900000 ∧ as.length ≤ 100 ∧ ∀ bs : List α, bs.Perm as → Kk (.lst (bs.map e)) (S.put f (.fd .d4 (n + 100)))
theorem erase_perm2 {α : Type} : ∀ (us : List α) (k : Nat) (h : k < us.length), (us[k] :: us.eraseIdx k).Perm us
  | [], _, h => absurd h (Nat.not_lt_zero _)
  | _ :: _, 0, _ => List.Perm.refl _
  | x :: xs, i + 1, h => (List.Perm.swap x _ (xs.eraseIdx i)).trans (List.Perm.cons x (erase_perm2 xs i (by simpa using h)))
theorem even_at {rs : List Int} {y : Int} {rows : List (List Int)} {g m : Nat} (h : evenAt rs y rows g = true) (hm : m < rs.length) : (hadL rows g m : Int) * rs.sum = y * rs.getD m 0 := of_decide_eq_true (List.all_eq_true.mp h m (List.mem_range.mpr hm))
theorem even_of {rs : List Int} {y : Int} {rows : List (List Int)} {g : Nat} (h : ∀ m, m < rs.length → (hadL rows g m : Int) * rs.sum = y * rs.getD m 0) : evenAt rs y rows g = true := List.all_eq_true.mpr fun m hm => decide_eq_true (h m (List.mem_range.mp hm))
theorem even_no {rs : List Int} {y : Int} {rows : List (List Int)} {g m : Nat} (hm : m < rs.length) (h : ¬ (hadL rows g m : Int) * rs.sum = y * rs.getD m 0) : ¬ evenAt rs y rows g = true := fun z => h (even_at z hm)
theorem fd_ints6 {xs : List Int} (h : ∀ x ∈ xs, 0 ≤ x ∧ x < 64) (l : xs.length ≤ 16) : FinD 1 112 (intsD xs) := by
  have := Nat.mul_le_mul_left (6 + 1) l
  exact (fd_tup (fd_ints (b := 6) (fun x hx => by have := h x hx; omega) (by decide) (by decide)) (by decide) (by rw [List.length_map]; omega)).mono (Nat.le_refl _) (by rw [List.length_map]; omega)
end Dp
/-! rows filled one by one: ways on which one more can be put, and why one is always there -/
namespace Dp
abbrev Rw := List (Option Nat)
def ra (row : Rw) (g : Nat) : Option Nat := row.getD g none
def cnt (row : Rw) (x : Nat) : Nat := row.count (some x)
def lk (L : List (List Int)) (g m : Nat) : Int := (L.getD g []).getD m 0
structure Vld (L : List (List Int)) (rs : List Int) (row : Rw) : Prop where
  pos : ∀ g x, ra row g = some x → x < rs.length ∧ 0 < lk L g x
  low : ∀ x, x < rs.length → (cnt row x : Int) ≤ rs.getD x 0
def Way (L : List (List Int)) (rs : List Int) (row : Rw) : Nat → List (Nat × Nat) → Prop
  | m, [] => (cnt row m : Int) < rs.getD m 0
  | m, (g, o) :: w => g < row.length ∧ ra row g = some m ∧ o < rs.length ∧ 0 < lk L g o ∧ m ≠ o ∧ (∀ p ∈ w, m ≠ p.2) ∧ Way L rs row o w
def putW1 (row : Rw) (w : List (Nat × Nat)) : Rw := w.foldl (fun r p => r.set p.1 (some p.2)) row
theorem ra_set {row : Rw} {h g : Nat} {v : Option Nat} (hl : h < row.length) : ra (row.set h v) g = if g = h then v else ra row g := by
  unfold ra
  rw [List.getD_eq_getElem?_getD, List.getElem?_set]
  by_cases e : h = g
  · subst e; rw [if_pos rfl, if_pos rfl, if_pos hl]; rfl
  · rw [if_neg e, if_neg (Ne.symm e), List.getD_eq_getElem?_getD]
theorem ra_get {row : Rw} {h : Nat} (hl : h < row.length) : row[h] = ra row h := by
  unfold ra
  rw [List.getD_eq_getElem?_getD, List.getElem?_eq_getElem hl]; rfl
theorem cnt_set {row : Rw} {h : Nat} {v : Option Nat} {x : Nat} (hl : h < row.length) : (cnt (row.set h v) x : Int) = cnt row x - (if ra row h = some x then 1 else 0) + (if v = some x then 1 else 0) := by
  have key : ∀ (l : Rw) (h : Nat) (hl : h < l.length), (((l.set h v).count (some x) : Nat) : Int) = (l.count (some x) : Nat) - (if l[h] = some x then 1 else 0) + (if v = some x then 1 else 0) := by
    intro l
    induction l with
    | nil => intro h hl; exact absurd hl (Nat.not_lt_zero _)
    | cons a l ih =>
      intro h hl
      cases h with
      | zero =>
        rw [List.set_cons_zero, List.count_cons, List.count_cons]
        simp only [List.getElem_cons_zero, beq_iff_eq]
        split <;> split <;> omega
      | succ h =>
        rw [List.set_cons_succ, List.count_cons, List.count_cons]
        have := ih h (by simpa using hl)
        simp only [List.getElem_cons_succ]
        omega
  have := key row h hl
  rw [ra_get hl] at this
  exact this
theorem way_move {L : List (List Int)} {rs : List Int} {row : Rw} {h g m : Nat} (hl : h < row.length) (gl : g < row.length) (e1 : ra row h = none) (e2 : ra row g = some m) :
    (∀ x, cnt ((row.set h (some m)).set g none) x = cnt row x) ∧ (∀ k, ra ((row.set h (some m)).set g none) k = if k = g then none else if k = h then some m else ra row k) ∧
    ∀ (w : List (Nat × Nat)) (o : Nat), m ≠ o → (∀ p ∈ w, m ≠ p.2) → Way L rs row o w → Way L rs ((row.set h (some m)).set g none) o w := by
  have gh : g ≠ h := fun z => by subst z; rw [e1] at e2; cases e2
  have gl' : g < (row.set h (some m)).length := by rw [List.length_set]; exact gl
  have c : ∀ x, cnt ((row.set h (some m)).set g none) x = cnt row x := fun x => by
    have h1 := cnt_set (row := row.set h (some m)) (h := g) (v := none) (x := x) gl'
    have h2 := cnt_set (row := row) (h := h) (v := some m) (x := x) hl
    rw [ra_set hl, if_neg gh, e2] at h1
    rw [e1] at h2
    have n1 : ¬ ((none : Option Nat) = some x) := fun z => by cases z
    rw [if_neg n1] at h1 h2
    omega
  have r : ∀ k, ra ((row.set h (some m)).set g none) k = if k = g then none else if k = h then some m else ra row k := fun k => by
    rw [ra_set gl', ra_set hl]
  refine ⟨c, r, ?_⟩
  intro w
  induction w with
  | nil =>
    intro o _ _ hw
    show (cnt _ o : Int) < _
    rw [c]; exact hw
  | cons p w ih =>
    intro o ho hp hw
    obtain ⟨a1, a2, a3, a4, a5, a6, a7⟩ := hw
    refine ⟨by rw [List.length_set, List.length_set]; exact a1, ?_, a3, a4, a5, a6, ih _ (hp _ (List.mem_cons_self ..)) (fun q hq => hp q (List.mem_cons_of_mem _ hq)) a7⟩
    rw [r, if_neg (fun z => by rw [z, e2] at a2; exact ho (Option.some.inj a2)), if_neg (fun z => by rw [z, e1] at a2; cases a2)]
    exact a2
theorem way_put {L : List (List Int)} {rs : List Int} : ∀ (w : List (Nat × Nat)) (row : Rw) (h m : Nat), Vld L rs row → h < row.length → ra row h = none → m < rs.length → 0 < lk L h m → Way L rs row m w →
    Vld L rs (putW1 row ((h, m) :: w)) ∧ (putW1 row ((h, m) :: w)).length = row.length ∧ ∀ g, (ra (putW1 row ((h, m) :: w)) g = none ↔ ra row g = none ∧ g ≠ h)
  | [], row, h, m, v, hl, e, hm, hk, hw => by
    have hw : (cnt row m : Int) < rs.getD m 0 := hw
    show Vld L rs (row.set h (some m)) ∧ (row.set h (some m)).length = row.length ∧ _
    refine ⟨⟨fun g x hx => ?_, fun x hx => ?_⟩, by rw [List.length_set], fun g => ?_⟩
    · rw [ra_set hl] at hx
      split at hx
      · rename_i z; cases hx; subst z; exact ⟨hm, hk⟩
      · exact v.pos g x hx
    · rw [cnt_set hl, e, if_neg (by intro z; cases z)]
      have := v.low x hx
      split
      · rename_i z; cases z; omega
      · omega
    · show ra (row.set h (some m)) g = none ↔ _
      rw [ra_set hl]
      split
      · rename_i z; simp [z]
      · rename_i z; simp [z]
  | (g, o) :: w, row, h, m, v, hl, e, hm, hk, hw => by
    obtain ⟨a1, a2, a3, a4, a5, a6, a7⟩ := hw
    obtain ⟨c, r, mv⟩ := way_move (L := L) (rs := rs) hl a1 e a2
    have v' : Vld L rs ((row.set h (some m)).set g none) := ⟨fun k x hx => by
      rw [r] at hx
      split at hx
      · cases hx
      · split at hx
        · rename_i z; cases hx; subst z; exact ⟨hm, hk⟩
        · exact v.pos k x hx, fun x hx => by rw [c]; exact v.low x hx⟩
    have ih := way_put w _ g o v' (by rw [List.length_set, List.length_set]; exact a1) (by rw [r, if_pos rfl]) a3 a4 (mv w o a5 a6 a7)
    have eq : putW1 ((row.set h (some m)).set g none) ((g, o) :: w) = putW1 row ((h, m) :: (g, o) :: w) := by
      show putW1 (((row.set h (some m)).set g none).set g (some o)) w = putW1 ((row.set h (some m)).set g (some o)) w
      rw [List.set_set]
    rw [eq] at ih
    refine ⟨ih.1, by rw [ih.2.1, List.length_set, List.length_set], fun k => ?_⟩
    rw [ih.2.2 k, r]
    by_cases kg : k = g
    · subst kg
      rw [a2]; simp
    · rw [if_neg kg]
      by_cases kh : k = h
      · subst kh; simp
      · rw [if_neg kh]; simp [kg, kh]
/-! sums -/
theorem sm_add {α : Type} (f g : α → Int) : ∀ l : List α, (l.map fun x => f x + g x).sum = (l.map f).sum + (l.map g).sum
  | [] => rfl
  | a :: l => by simp only [List.map_cons, List.sum_cons, sm_add f g l]; omega
theorem sm_mul {α : Type} (c : Int) (f : α → Int) : ∀ l : List α, (l.map fun x => c * f x).sum = c * (l.map f).sum
  | [] => by simp
  | a :: l => by simp only [List.map_cons, List.sum_cons, sm_mul c f l, Int.mul_add]
theorem sm_zero {α : Type} : ∀ l : List α, (l.map fun _ => (0 : Int)).sum = 0
  | [] => rfl
  | a :: l => by simp only [List.map_cons, List.sum_cons, sm_zero l]; rfl
theorem sm_swap {α β : Type} (F : α → β → Int) (ks : List β) : ∀ rows : List α, (rows.map fun r => (ks.map fun k => F r k).sum).sum = (ks.map fun k => (rows.map fun r => F r k).sum).sum
  | [] => by simp only [List.map_nil, List.sum_nil]; exact (sm_zero ks).symm
  | a :: rows => by
    simp only [List.map_cons, List.sum_cons]
    rw [sm_swap F ks rows, ← sm_add]
theorem sm_le {α : Type} {f g : α → Int} : ∀ {l : List α}, (∀ x ∈ l, f x ≤ g x) → (l.map f).sum ≤ (l.map g).sum
  | [], _ => Int.le_refl _
  | a :: l, h => by
    have h1 := h a (List.mem_cons_self ..)
    have h2 := sm_le (l := l) fun x hx => h x (List.mem_cons_of_mem _ hx)
    simp only [List.map_cons, List.sum_cons]; omega
theorem sm_eq {α : Type} {f g : α → Int} {l : List α} (h : ∀ x ∈ l, f x = g x) : (l.map f).sum = (l.map g).sum := by rw [List.map_congr_left h]
/-- one alone -/
theorem sm_one {a : Nat} {c : Int} : ∀ {s : List Nat}, s.Nodup → (s.map fun x => if a = x then c else 0).sum = if a ∈ s then c else 0
  | [], _ => rfl
  | b :: s, h => by
    have hn := List.nodup_cons.mp h
    rw [List.map_cons, List.sum_cons, sm_one hn.2]
    by_cases e : a = b
    · subst e
      rw [if_pos rfl, if_neg hn.1, if_pos (List.mem_cons_self ..)]; omega
    · rw [if_neg e]
      by_cases q : a ∈ s
      · rw [if_pos q, if_pos (List.mem_cons_of_mem _ q)]; omega
      · rw [if_neg q, if_neg (fun z => by rcases List.mem_cons.mp z with z | z; exact e z; exact q z)]; omega
/-- those within, where the others are nought -/
theorem sm_in {n : Nat} {f : Nat → Int} {s : List Nat} (hs : s.Nodup) (hl : ∀ x ∈ s, x < n) (h0 : ∀ x, x < n → x ∉ s → f x = 0) : ((List.range n).map f).sum = (s.map f).sum := by
  have e1 : ((List.range n).map f).sum = ((List.range n).map fun x => (s.map fun y => if x = y then f x else 0).sum).sum := sm_eq fun x hx => by
    rw [sm_one hs]
    split
    · rfl
    · rename_i q; exact h0 x (List.mem_range.mp hx) q
  rw [e1, sm_swap]
  refine sm_eq fun y hy => ?_
  have e2 : ((List.range n).map fun x => if x = y then f x else 0).sum = ((List.range n).map fun x => if y = x then f y else 0).sum := sm_eq fun x _ => by
    by_cases e : x = y
    · subst e; rw [if_pos rfl]
    · rw [if_neg e, if_neg (Ne.symm e)]
  rw [e2, sm_one List.nodup_range, if_pos (List.mem_range.mpr (hl y hy))]
theorem range_ra (row : Rw) : (List.range row.length).map (ra row) = row := by
  apply List.ext_getElem
  · simp
  · intro i h1 h2
    rw [List.getElem_map, List.getElem_range]
    exact (ra_get h2).symm
theorem sm_cnt (row : Rw) (x : Nat) (c : Int) : ((List.range row.length).map fun g => if ra row g = some x then c else 0).sum = c * cnt row x := by
  have key : ∀ l : Rw, (l.map fun o => if o = some x then c else 0).sum = c * (l.count (some x) : Nat) := by
    intro l
    induction l with
    | nil => simp
    | cons a l ih =>
      rw [List.map_cons, List.sum_cons, ih, List.count_cons]
      by_cases e : a = some x
      · subst e; simp [Int.mul_add]; omega
      · have : (a == some x) = false := by simpa using e
        rw [if_neg e, this]; simp
  have := key row
  conv at this => lhs; rw [← range_ra row, List.map_map]
  exact this
/-! closed ones -/
structure Clo (L : List (List Int)) (rs : List Int) (row : Rw) (s : List Nat) (x : Nat) : Prop where
  full : rs.getD x 0 ≤ (cnt row x : Int)
  clo : ∀ g, ra row g = some x → ∀ o, o < rs.length → 0 < lk L g o → o ∈ s
theorem Clo.mono {L : List (List Int)} {rs : List Int} {row : Rw} {s t : List Nat} {x : Nat} (c : Clo L rs row s x) (h : ∀ o ∈ s, o ∈ t) : Clo L rs row t x := ⟨c.full, fun g hg o ho hk => h o (c.clo g hg o ho hk)⟩
/-- what is lacked comes out even -/
structure Lck (L : List (List Int)) (rs : List Int) (T : Int) (G : Nat) : Prop where
  nn : ∀ g m, g < G → m < rs.length → 0 ≤ lk L g m
  rows : ∀ g, g < G → ((List.range rs.length).map fun m => lk L g m).sum = T
  cols : ∀ m, m < rs.length → ((List.range G).map fun g => lk L g m).sum = T * rs.getD m 0
theorem no_stuck {L : List (List Int)} {rs : List Int} {T : Int} {row : Rw} {s : List Nat} {h : Nat} (lc : Lck L rs T row.length) (T1 : 1 ≤ T) (hs : s.Nodup) (hl : ∀ x ∈ s, x < rs.length) (hc : ∀ x ∈ s, Clo L rs row s x)
    (hh : h < row.length) (e : ra row h = none) (ho : ∀ o, o < rs.length → 0 < lk L h o → o ∈ s) : False := by
  let F : Nat → Int := fun g => (s.map fun m => lk L g m).sum
  have fullF : ∀ g, g < row.length → (∀ o, o < rs.length → 0 < lk L g o → o ∈ s) → F g = T := fun g hg ha => by
    rw [← lc.rows g hg]
    exact (sm_in hs hl fun x hx hn => by
      have := lc.nn g x hg hx
      have : ¬ 0 < lk L g x := fun z => hn (ha x hx z)
      omega).symm
  have nnF : ∀ g, g < row.length → 0 ≤ F g := fun g hg => by
    have := sm_le (l := s) (f := fun _ => (0 : Int)) (g := fun m => lk L g m) fun x hx => lc.nn g x hg (hl x hx)
    rw [sm_zero] at this
    exact this
  have low : ∀ g ∈ List.range row.length, (if h = g then T else 0) + (s.map fun x => if ra row g = some x then T else 0).sum ≤ F g := fun g hg => by
    have hg := List.mem_range.mp hg
    cases q : ra row g with
    | none =>
      have z : (s.map fun x => if (none : Option Nat) = some x then T else 0).sum = 0 := by
        rw [sm_eq (g := fun _ => (0 : Int)) fun x _ => by rw [if_neg (by intro z; cases z)]]
        exact sm_zero s
      rw [z]
      by_cases eh : h = g
      · subst eh; rw [if_pos rfl, fullF h hh ho]; omega
      · rw [if_neg eh]; have := nnF g hg; omega
    | some a =>
      have nh : h ≠ g := fun z => by rw [← z, e] at q; cases q
      have z : (s.map fun x => if some a = some x then T else 0).sum = if a ∈ s then T else 0 := by
        rw [← sm_one hs]
        exact sm_eq fun x _ => by by_cases w : a = x <;> simp [w]
      rw [z, if_neg nh]
      by_cases w : a ∈ s
      · rw [if_pos w, fullF g hg ((hc a w).clo g q)]; omega
      · rw [if_neg w]; have := nnF g hg; omega
  have tot := sm_le low
  have l1 : ((List.range row.length).map F).sum = (s.map fun m => T * rs.getD m 0).sum := by
    show ((List.range row.length).map fun g => (s.map fun m => lk L g m).sum).sum = _
    rw [sm_swap]
    exact sm_eq fun m hm => lc.cols m (hl m hm)
  have l2 : ((List.range row.length).map fun g => (if h = g then T else 0) + (s.map fun x => if ra row g = some x then T else 0).sum).sum = T + (s.map fun x => T * (cnt row x : Int)).sum := by
    rw [sm_add, sm_one List.nodup_range, if_pos (List.mem_range.mpr hh), sm_swap]
    congr 1
    exact sm_eq fun x _ => sm_cnt row x T
  have l3 : (s.map fun m => T * rs.getD m 0).sum ≤ (s.map fun x => T * (cnt row x : Int)).sum := sm_le fun x hx => Int.mul_le_mul_of_nonneg_left (hc x hx).full (by omega)
  rw [l1, l2] at tot
  omega
/-- where all are put, each as often as it may -/
theorem all_put {L : List (List Int)} {rs : List Int} {row : Rw} (v : Vld L rs row) (hr : (row.length : Int) = rs.sum) (ha : ∀ g, g < row.length → ra row g ≠ none) : ∀ x, x < rs.length → (cnt row x : Int) = rs.getD x 0 := by
  have e1 : ((List.range rs.length).map fun x => (cnt row x : Int)).sum = row.length := by
    have : ((List.range rs.length).map fun x => (cnt row x : Int)).sum = ((List.range rs.length).map fun x => ((List.range row.length).map fun g => if ra row g = some x then (1 : Int) else 0).sum).sum := sm_eq fun x _ => by rw [sm_cnt]; omega
    rw [this, ← sm_swap]
    have : ((List.range row.length).map fun g => ((List.range rs.length).map fun x => if ra row g = some x then (1 : Int) else 0).sum).sum = ((List.range row.length).map fun _ => (1 : Int)).sum := sm_eq fun g hg => by
      have hg := List.mem_range.mp hg
      cases q : ra row g with
      | none => exact absurd q (ha g hg)
      | some a =>
        have h1 := (v.pos g a q).1
        have : ((List.range rs.length).map fun x => if some a = some x then (1 : Int) else 0).sum = if a ∈ List.range rs.length then 1 else 0 := by
          rw [← sm_one List.nodup_range]
          exact sm_eq fun x _ => by by_cases w : a = x <;> simp [w]
        rw [this, if_pos (List.mem_range.mpr h1)]
    rw [this]
    have k : ∀ n : Nat, ((List.range n).map fun _ => (1 : Int)).sum = n := by
      intro n
      induction n with
      | zero => rfl
      | succ n ih => rw [List.range_succ, List.map_append, List.sum_append, ih]; simp
    exact k _
  have e2 : ((List.range rs.length).map fun x => rs.getD x 0).sum = rs.sum := by
    congr 1
    apply List.ext_getElem
    · simp
    · intro i h1 h2
      rw [List.getElem_map, List.getElem_range, List.getD_eq_getElem?_getD, List.getElem?_eq_getElem h2]; rfl
  have key : ∀ n : Nat, n ≤ rs.length → ((List.range n).map fun x => rs.getD x 0 - (cnt row x : Int)).sum ≤ 0 → (∀ x, x < n → (cnt row x : Int) ≤ rs.getD x 0) → ∀ x, x < n → (cnt row x : Int) = rs.getD x 0 := by
    intro n
    induction n with
    | zero => intro _ _ _ x hx; exact absurd hx (Nat.not_lt_zero _)
    | succ n ih =>
      intro hn hs hle x hx
      rw [List.range_succ, List.map_append, List.sum_append, List.map_cons, List.map_nil, List.sum_cons, List.sum_nil] at hs
      have h1 := hle n (by omega)
      have h0 : 0 ≤ ((List.range n).map fun x => rs.getD x 0 - (cnt row x : Int)).sum := by
        have := sm_le (l := List.range n) (f := fun _ => (0 : Int)) (g := fun x => rs.getD x 0 - (cnt row x : Int)) fun x hx => by
          have := hle x (by have := List.mem_range.mp hx; omega)
          omega
        rw [sm_zero] at this; exact this
      by_cases q : x = n
      · subst q; omega
      · exact ih (by omega) (by omega) (fun z hz => hle z (by omega)) x (by omega)
  refine key rs.length (Nat.le_refl _) ?_ fun x hx => v.low x hx
  have : ((List.range rs.length).map fun x => rs.getD x 0 - (cnt row x : Int)).sum + ((List.range rs.length).map fun x => (cnt row x : Int)).sum = ((List.range rs.length).map fun x => rs.getD x 0).sum := by
    rw [← sm_add]
    exact sm_eq fun x _ => by omega
  omega
end Dp
/-! rounds that are begun: what lacks, and that it comes out -/
namespace Dp
open PySem PySem.Spec L2
open PyProof.Rows hiding St
def qta (rs : List Int) (y : Int) (m : Nat) : Int := y * rs.getD m 0 / rs.sum
def lackM (rs : List Int) (y : Int) (found : List (List Int)) : List (List Int) := (List.range rs.sum.toNat).map fun g => (List.range rs.length).map fun (m : Nat) => qta rs y m - (hadL found g m : Int)
section
variable {rs : List Int} {y : Int} {found : List (List Int)}
theorem lack_len : (lackM rs y found).length = rs.sum.toNat := by simp [lackM]
theorem lack_row {g : Nat} (hg : g < rs.sum.toNat) : (lackM rs y found).getD g [] = (List.range rs.length).map fun (m : Nat) => qta rs y m - (hadL found g m : Int) := by
  unfold lackM
  rw [List.getD_eq_getElem?_getD, List.getElem?_map, List.getElem?_range hg]; rfl
theorem lk_lack {g m : Nat} (hg : g < rs.sum.toNat) (hm : m < rs.length) : lk (lackM rs y found) g m = qta rs y m - (hadL found g m : Int) := by
  unfold lk
  rw [lack_row hg, List.getD_eq_getElem?_getD, List.getElem?_map, List.getElem?_range hm]; rfl
def RowsP (rs : List Int) (rows : List (List Int)) : Prop := ∀ row ∈ rows, row.Perm (placesL rs)
theorem had_cons (row : List Int) (rows : List (List Int)) (g : Nat) (m : Int) : (hadL (row :: rows) g m : Int) = hadL rows g m + if row.getD g 0 = m then 1 else 0 := by
  unfold hadL
  rw [List.countP_cons]
  by_cases e : row.getD g 0 = m
  · rw [if_pos e, if_pos (decide_eq_true e)]; push_cast; rfl
  · rw [if_neg e, if_neg (by rw [decide_eq_false e]; decide)]; push_cast; rfl
theorem had_snoc (row : List Int) (rows : List (List Int)) (g : Nat) (m : Int) : (hadL (rows ++ [row]) g m : Int) = hadL rows g m + if row.getD g 0 = m then 1 else 0 := by
  unfold hadL
  rw [List.countP_append, List.countP_cons, List.countP_nil]
  by_cases e : row.getD g 0 = m
  · rw [if_pos e, if_pos (decide_eq_true e)]; push_cast; rfl
  · rw [if_neg e, if_neg (by rw [decide_eq_false e]; decide)]; push_cast; omega
theorem perm_at (ok : RoomsOk rs) {row : List Int} (h : row.Perm (placesL rs)) {g : Nat} (hg : g < rs.sum.toNat) : 0 ≤ row.getD g 0 ∧ row.getD g 0 < rs.length := perm_low h _ (getD_mem (by have := perm_len ok h; omega))
theorem had_rows (ok : RoomsOk rs) {g : Nat} (hg : g < rs.sum.toNat) : ∀ rows : List (List Int), RowsP rs rows → ((List.range rs.length).map fun (m : Nat) => (hadL rows g m : Int)).sum = rows.length
  | [], _ => sm_zero _
  | row :: rows, h => by
    have h1 := h row (List.mem_cons_self ..)
    have ih := had_rows ok hg rows fun r hr => h r (List.mem_cons_of_mem _ hr)
    obtain ⟨a, b⟩ := perm_at ok h1 hg
    have e : ((List.range rs.length).map fun (m : Nat) => (hadL (row :: rows) g m : Int)).sum = ((List.range rs.length).map fun (m : Nat) => (hadL rows g m : Int) + if (row.getD g 0).toNat = m then 1 else 0).sum := sm_eq fun m _ => by
      rw [had_cons]
      congr 1
      by_cases q : row.getD g 0 = (m : Int)
      · rw [if_pos q, if_pos (by omega)]
      · rw [if_neg q, if_neg (by omega)]
    rw [e, sm_add, ih, sm_one List.nodup_range, if_pos (List.mem_range.mpr (by omega)), List.length_cons]
    push_cast; rfl
theorem sm_count (v : Int) (l : List Int) : ((List.range l.length).map fun g => if l.getD g 0 = v then (1 : Int) else 0).sum = l.count v := by
  rw [range_map 0 (fun x => if x = v then (1 : Int) else 0) l]
  induction l with
  | nil => rfl
  | cons a l ih =>
    rw [List.map_cons, List.sum_cons, ih, List.count_cons]
    by_cases e : a = v
    · subst e; simp; omega
    · have : (a == v) = false := by simpa using e
      rw [if_neg e, this]; simp
theorem had_cols (ok : RoomsOk rs) {m : Nat} (hm : m < rs.length) : ∀ rows : List (List Int), RowsP rs rows → ((List.range rs.sum.toNat).map fun (g : Nat) => (hadL rows g m : Int)).sum = rows.length * rs.getD m 0
  | [], _ => by rw [show ((List.range rs.sum.toNat).map fun (g : Nat) => (hadL [] g m : Int)).sum = 0 from sm_zero _]; simp
  | row :: rows, h => by
    have h1 := h row (List.mem_cons_self ..)
    have ih := had_cols ok hm rows fun r hr => h r (List.mem_cons_of_mem _ hr)
    have ln := perm_len ok h1
    have e : ((List.range rs.sum.toNat).map fun (g : Nat) => (hadL (row :: rows) g m : Int)).sum = ((List.range rs.sum.toNat).map fun (g : Nat) => (hadL rows g m : Int) + if row.getD g 0 = (m : Int) then 1 else 0).sum := sm_eq fun g _ => had_cons ..
    have e2 : rs.sum.toNat = row.length := by omega
    rw [e, sm_add, ih, e2, sm_count, (perm_iff ok (perm_low h1)).mp h1 m hm, List.length_cons]
    push_cast
    rw [Int.add_mul, Int.one_mul]
theorem qta_mul (ok : RoomsOk rs) (hw : wholeB rs y = true) {m : Nat} (hm : m < rs.length) : qta rs y m * rs.sum = y * rs.getD m 0 := by
  unfold wholeB at hw
  rw [Bool.and_eq_true] at hw
  have := of_decide_eq_true (List.all_eq_true.mp hw.2 _ (getD_mem (d := 0) hm))
  exact Int.ediv_mul_cancel (Int.dvd_of_emod_eq_zero this)
theorem range_sum (rs : List Int) : ((List.range rs.length).map fun m => rs.getD m 0).sum = rs.sum := by rw [range_get]
theorem qta_sum (ok : RoomsOk rs) (hw : wholeB rs y = true) : ((List.range rs.length).map fun m => qta rs y m).sum = y := by
  have e : ((List.range rs.length).map fun m => rs.sum * qta rs y m).sum = ((List.range rs.length).map fun m => y * rs.getD m 0).sum := sm_eq fun m hm => by
    rw [Int.mul_comm]; exact qta_mul ok hw (List.mem_range.mp hm)
  rw [sm_mul, sm_mul, range_sum, Int.mul_comm y] at e
  exact Int.eq_of_mul_eq_mul_left (by have := ok.low; omega) e
theorem whole_pos (hw : wholeB rs y = true) : 0 < y := by
  unfold wholeB at hw
  rw [Bool.and_eq_true] at hw
  exact of_decide_eq_true hw.1
/-- nobody had a meadow too often -/
def NoMore (rs : List Int) (y : Int) (found : List (List Int)) : Prop := ∀ g m, g < rs.sum.toNat → m < rs.length → (hadL found g (m : Int) : Int) ≤ qta rs y m
theorem lck_of (ok : RoomsOk rs) (hw : wholeB rs y = true) (h : RowsP rs found) (hle : NoMore rs y found) : Lck (lackM rs y found) rs (y - found.length) rs.sum.toNat := by
  refine ⟨fun g m hg hm => ?_, fun g hg => ?_, fun m hm => ?_⟩
  · rw [lk_lack hg hm]; have := hle g m hg hm; omega
  · have e : ((List.range rs.length).map fun m => lk (lackM rs y found) g m).sum = ((List.range rs.length).map fun m => qta rs y m + (-1) * (hadL found g m : Int)).sum := sm_eq fun m hm => by
      rw [lk_lack hg (List.mem_range.mp hm)]; omega
    rw [e, sm_add, sm_mul, qta_sum ok hw, had_rows ok hg found h]; omega
  · have e : ((List.range rs.sum.toNat).map fun g => lk (lackM rs y found) g m).sum = ((List.range rs.sum.toNat).map fun g => qta rs y m + (-1) * (hadL found g m : Int)).sum := sm_eq fun g hg => by
      rw [lk_lack (List.mem_range.mp hg) hm]; omega
    rw [e, sm_add, sm_mul, had_cols ok hm found h]
    have c : ∀ (k : Nat) (c : Int), ((List.range k).map fun _ => c).sum = k * c := by
      intro k c
      induction k with
      | zero => simp
      | succ k ih => rw [List.range_succ, List.map_append, List.sum_append, ih]; push_cast; rw [Int.add_mul]; simp
    rw [c, Int.sub_mul]
    have := qta_mul ok hw hm
    have p := ok.low
    rw [show ((rs.sum.toNat : Nat) : Int) = rs.sum by omega, Int.mul_comm, this]
    omega
/-- a row that fits what lacks -/
structure FitR (rs : List Int) (L : List (List Int)) (row : List Int) : Prop where
  perm : row.Perm (placesL rs)
  pos : ∀ g, g < rs.sum.toNat → 0 < lk L g (row.getD g 0).toNat
theorem fit_more (ok : RoomsOk rs) {row : List Int} (hle : NoMore rs y found) (f : FitR rs (lackM rs y found) row) : NoMore rs y (found ++ [row]) := fun g m hg hm => by
  rw [had_snoc]
  have h1 := hle g m hg hm
  split
  · rename_i e
    have := f.pos g hg
    rw [e, Int.toNat_natCast, lk_lack hg hm] at this
    omega
  · omega
theorem RowsP.snoc {row : List Int} (h : RowsP rs found) (p : row.Perm (placesL rs)) : RowsP rs (found ++ [row]) := fun r hr => by
  rcases List.mem_append.mp hr with hr | hr
  · exact h r hr
  · rw [List.mem_singleton.mp hr]; exact p
/-- the row of what lacks behind -/
theorem lack_set (ok : RoomsOk rs) {row : List Int} (p : row.Perm (placesL rs)) {g : Nat} (hg : g < rs.sum.toNat) : ((lackM rs y found).getD g []).set (row.getD g 0).toNat (lk (lackM rs y found) g (row.getD g 0).toNat - 1) = (lackM rs y (found ++ [row])).getD g [] := by
  obtain ⟨a, b⟩ := perm_at ok p hg
  rw [lk_lack hg (show (row.getD g 0).toNat < rs.length by omega), lack_row hg, lack_row hg]
  apply List.ext_getElem
  · simp
  · intro i h1 h2
    have hi : i < rs.length := by simpa using h2
    rw [List.getElem_set, List.getElem_map, List.getElem_map, List.getElem_range, had_snoc]
    by_cases e : (row.getD g 0).toNat = i
    · subst e
      rw [if_pos rfl, if_pos (by omega)]; omega
    · rw [if_neg e, if_neg (by omega)]; omega
/-- all done, all is even -/
theorem all_even (ok : RoomsOk rs) (hw : wholeB rs y = true) (h : RowsP rs found) (hle : NoMore rs y found) (hy : (found.length : Int) = y) : ∀ g m, g < rs.sum.toNat → m < rs.length → (hadL found g (m : Int) : Int) = qta rs y m := fun g m hg hm => by
  have lc := lck_of ok hw h hle
  have r := lc.rows g hg
  have z : ∀ n, n ≤ rs.length → ((List.range n).map fun m => lk (lackM rs y found) g m).sum ≤ 0 → ∀ m, m < n → lk (lackM rs y found) g m = 0 := by
    intro n
    induction n with
    | zero => intro _ _ m hm; exact absurd hm (Nat.not_lt_zero _)
    | succ n ih =>
      intro hn hs m hm
      rw [List.range_succ, List.map_append, List.sum_append, List.map_cons, List.map_nil, List.sum_cons, List.sum_nil] at hs
      have h1 := lc.nn g n hg (by omega)
      have h0 : 0 ≤ ((List.range n).map fun m => lk (lackM rs y found) g m).sum := by
        have := sm_le (l := List.range n) (f := fun _ => (0 : Int)) (g := fun m => lk (lackM rs y found) g m) fun x hx => lc.nn g x hg (by have := List.mem_range.mp hx; omega)
        rw [sm_zero] at this; exact this
      by_cases q : m = n
      · subst q; omega
      · exact ih (by omega) (by omega) m (by omega)
  have := z rs.length (Nat.le_refl _) (by omega) m hm
  rw [lk_lack hg hm] at this
  omega
theorem even_none (ok : RoomsOk rs) (hw : wholeB rs y = true) (h : ∀ g m, g < rs.sum.toNat → m < rs.length → (hadL found g (m : Int) : Int) = qta rs y m) : unevenG rs y found = none := by
  unfold unevenG
  refine find_none fun g hg => ?_
  rw [if_pos (even_of fun m hm => by rw [h g m hg hm]; exact qta_mul ok hw hm)]
/-- a row of some as numbers -/
def rowN (row : Rw) : List Int := row.map fun o => ((o.getD 0 : Nat) : Int)
theorem rowN_at {row : Rw} {g : Nat} (hg : g < row.length) : (rowN row).getD g 0 = (((ra row g).getD 0 : Nat) : Int) := by
  unfold rowN ra
  rw [List.getD_eq_getElem?_getD, List.getElem?_map, List.getD_eq_getElem?_getD, List.getElem?_eq_getElem hg]; rfl
theorem rowN_opt : ∀ {row : Rw}, none ∉ row → row.map optW = (rowN row).map W.int
  | [], _ => rfl
  | none :: _, h => absurd (List.mem_cons_self ..) h
  | some a :: row, h => by
    show W.int (a : Nat) :: row.map optW = W.int _ :: (rowN row).map W.int
    rw [rowN_opt fun z => h (List.mem_cons_of_mem _ z)]; rfl
theorem rowN_count : ∀ {row : Rw} (m : Nat), none ∉ row → (rowN row).count (m : Int) = cnt row m
  | [], _, _ => rfl
  | none :: _, _, h => absurd (List.mem_cons_self ..) h
  | some a :: row, m, h => by
    have ih := rowN_count (row := row) m fun z => h (List.mem_cons_of_mem _ z)
    show ((a : Int) :: rowN row).count (m : Int) = (some a :: row).count (some m)
    rw [List.count_cons, List.count_cons]
    rw [show (rowN row).count (m : Int) = row.count (some m) from ih]
    by_cases e : a = m
    · subst e; simp
    · have e1 : ((a : Int) == (m : Int)) = false := by rw [beq_eq_false_iff_ne]; omega
      have e2 : ((some a : Option Nat) == some m) = false := by rw [beq_eq_false_iff_ne]; intro z; cases z; exact e rfl
      rw [e1, e2]
theorem fit_of (ok : RoomsOk rs) {L : List (List Int)} {row : Rw} (v : Vld L rs row) (hr : (row.length : Int) = rs.sum) (ha : ∀ g, g < row.length → ra row g ≠ none) : none ∉ row ∧ FitR rs L (rowN row) := by
  have nn : none ∉ row := fun h => by
    obtain ⟨g, hg, e⟩ := List.getElem_of_mem h
    exact ha g hg (by rw [← ra_get hg]; exact e)
  have lo := ok.low
  refine ⟨nn, ?_, fun g hg => ?_⟩
  · refine (perm_iff ok fun v' hv => ?_).mpr fun m hm => ?_
    · obtain ⟨o, ho, rfl⟩ := List.mem_map.mp hv
      obtain ⟨g, hg, e⟩ := List.getElem_of_mem ho
      cases o with
      | none => exact absurd ho nn
      | some a =>
        have := (v.pos g a (by rw [← ra_get hg]; exact e)).1
        show 0 ≤ (a : Int) ∧ (a : Int) < _
        omega
    · rw [rowN_count m nn]; exact all_put v hr ha m hm
  · have hg2 : g < row.length := by omega
    rw [rowN_at hg2, Int.toNat_natCast]
    cases q : ra row g with
    | none => exact absurd q (ha g hg2)
    | some a => exact (v.pos g a q).2
end
/-! ### what a round comes to -/
/-- who had what too often, told first -/
def oftenG (rs : List Int) (y : Int) (bg : List (List Int)) : Option (Nat × Nat) :=
  (List.range rs.sum.toNat).findSome? fun g => (List.range rs.length).findSome? fun (m : Nat) => if (hadL bg g (m : Int) : Int) > qta rs y m then some (g, m) else none
theorem often_none {rs : List Int} {y : Int} {bg : List (List Int)} : oftenG rs y bg = none ↔ NoMore rs y bg := by
  unfold oftenG NoMore
  simp only [List.findSome?_eq_none_iff, List.mem_range]
  constructor
  · intro h g m hg hm
    have := h g hg m hm
    by_cases q : (hadL bg g (m : Int) : Int) > qta rs y m
    · rw [if_pos q] at this; cases this
    · omega
  · intro h g hg m hm
    rw [if_neg (by have := h g m hg hm; omega)]
theorem often_some {rs : List Int} {y : Int} {bg : List (List Int)} {g m : Nat} (h : oftenG rs y bg = some (g, m)) : g < rs.sum.toNat ∧ m < rs.length ∧ (hadL bg g (m : Int) : Int) > qta rs y m := by
  unfold oftenG at h
  obtain ⟨g', hg, h⟩ := List.exists_of_findSome?_eq_some h
  obtain ⟨m', hm, h⟩ := List.exists_of_findSome?_eq_some h
  have hg := List.mem_range.mp hg
  have hm := List.mem_range.mp hm
  split at h
  · rename_i q; cases h; exact ⟨hg, hm, q⟩
  · cases h
/-- an even table of so many years -/
structure EvenT (rs : List Int) (y : Int) (tb : List (List Int)) : Prop where
  len : (tb.length : Int) = y
  rows : RowsP rs tb
  even : ∀ g m, g < rs.sum.toNat → m < rs.length → (hadL tb g (m : Int) : Int) = qta rs y m
/-- rows begun, each of all meadows -/
structure BgR (rs : List Int) (bg : List (List Int)) : Prop where
  few : bg.length ≤ 25
  rows : RowsP rs bg
end Dp
/-! judgements of rounds that are begun (as k24 has them) -/
namespace Dp
open PySem PySem.Spec L2
open PyProof.Rows hiding St
inductive Cres where
  | told (w : Str) | tab (w : Str) | pap (w : Str) (n : Int)
def cresW : Cres → W
  | .told w => .tup [.str "told", .str w]
  | .tab w => .tup [.str "table", .str w]
  | .pap w n => .tup [.str "paper", .str w, .int n]
def cresD : Cres → PyData
  | .told w => .tuple [.str "told", .str w]
  | .tab w => .tuple [.str "table", .str w]
  | .pap w n => .tuple [.str "paper", .str w, .int n]
theorem da_cres (r : Cres) : Da (cresW r) (cresD r) := by
  cases r with
  | told w => exact .tup (.cons (.str _) (.cons (.str _) .nil))
  | tab w => exact .tup (.cons (.str _) (.cons (.str _) .nil))
  | pap w n => exact .tup (.cons (.str _) (.cons (.str _) (.cons (.int _) .nil)))
def begunF (tb bg : List (List Int)) (k : Nat) : Option (Str × Int) := if tb.getD k [] = bg.getD k [] then none else some ("begun", (k : Int))
def tableJ (rs : List Int) (y : Int) (bg : List (List Int)) (ds : List PyData) : Cres :=
  match (List.range ds.length).findSome? (faultRow rs ds) with
  | some e => .pap e.1 e.2
  | none => if (ds.length : Int) = y then match (List.range bg.length).findSome? (begunF (ds.map rowI) bg) with
      | some e => .pap e.1 e.2
      | none => match unevenG rs ds.length (ds.map rowI) with
        | some g => .pap "even" (g : Int)
        | none => .told "table"
    else .pap "years" (-1)
def belowB (d : PyData) (n : Int) : Bool := match d with
  | .int i => decide (0 ≤ i) && decide (i < n)
  | _ => false
def oftenJ (rs : List Int) (y : Int) (bg : List (List Int)) (g m : PyData) : Cres :=
  if belowB g rs.sum = true then if belowB m rs.length = true then
    if (hadL bg (valI g).toNat (valI m) : Int) * rs.sum > y * rs.getD (valI m).toNat 0 then .told "often" else .pap "often" (-1)
  else .pap "meadow" (-1) else .pap "group" (-1)
inductive Wd where
  | non | tab (ds : List PyData) | oft (g m : PyData)
def wordOf : PyData → Wd
  | .tuple [.str w, .tuple ds] => if w = ("table" : Str) then .tab ds else .non
  | .tuple [.str w, g, m] => if w = ("often" : Str) then .oft g m else .non
  | _ => .non
def compJ (rs : List Int) (y : Int) (bg : List (List Int)) (d : PyData) : Cres :=
  if wholeB rs y = true then if (bg.length : Int) > y then .tab "begun" else match wordOf d with
    | .non => .pap "shape" (-1)
    | .tab ds => tableJ rs y bg ds
    | .oft g m => oftenJ rs y bg g m
  else .tab "years"
/-- what was begun: rows of numbers -/
structure BgOk (rs : List Int) (bg : List (List Int)) : Prop where
  few : bg.length ≤ 25
  lens : ∀ row ∈ bg, (row.length : Int) = rs.sum
  low : ∀ row ∈ bg, ∀ x ∈ row, 0 ≤ x ∧ x < 64
def pNeedYears : Pm := fun ws S Kk Ek => ∃ rs y bg, ws = [intsT rs, .int y, rowsT bg] ∧ RoomsOk rs ∧ y.natAbs ≤ 100 ∧ BgOk rs bg ∧ (wholeB rs y = true → ¬ (bg.length : Int) > y → Kk .non S) ∧ (wholeB rs y = false → Ek (wdX 4 (.str "years")) S) ∧ (wholeB rs y = true → (bg.length : Int) > y → Ek (wdX 4 (.str "begun")) S)
def wdW : Wd → W
  | .non => .non
  | .tab _ => .str "table"
  | .oft _ _ => .str "often"
def pWord : Pm := fun ws S Kk Ek => ∃ w d, ws = [w] ∧ Da w d ∧ Fine d ∧ Kk (wdW (wordOf d)) S
def pNeedTable : Pm := fun ws S Kk Ek => ∃ rs y bg us ds, ws = [intsT rs, .int y, rowsT bg, .tup us] ∧ RoomsOk rs ∧ y.natAbs ≤ 100 ∧ BgOk rs bg ∧ (bg.length : Int) ≤ y ∧ Das us ds ∧ (∀ d ∈ ds, Fine d) ∧ ds.length ≤ 40000 ∧ (∀ w, tableJ rs y bg ds = .told w → Kk .non S) ∧ ∀ z i, tableJ rs y bg ds = .pap z i → Ek (npX z i) S
def pNeedOften : Pm := fun ws S Kk Ek => ∃ rs y bg wg wm g m, ws = [intsT rs, .int y, rowsT bg, wg, wm] ∧ RoomsOk rs ∧ y.natAbs ≤ 100 ∧ BgOk rs bg ∧ Da wg g ∧ Da wm m ∧ (∀ w, oftenJ rs y bg g m = .told w → Kk .non S) ∧ ∀ z i, oftenJ rs y bg g m = .pap z i → Ek (npX z i) S
def pLetsC : Pm := fun ws S Kk Ek => ∃ rs y bg w d, ws = [intsT rs, .int y, rowsT bg, w] ∧ RoomsOk rs ∧ y.natAbs ≤ 100 ∧ BgOk rs bg ∧ Da w d ∧ Fine d ∧ (∀ w, compJ rs y bg d = .told w → Kk (.str w) S) ∧ (∀ w, compJ rs y bg d = .tab w → Ek (wdX 4 (.str w)) S) ∧ ∀ z i, compJ rs y bg d = .pap z i → Ek (npX z i) S
def pTabDue : Pm := fun ws S Kk Ek => ∃ rs y bg us ds, ws = [intsT rs, .int y, rowsT bg, .tup us] ∧ RoomsOk rs ∧ y.natAbs ≤ 100 ∧ BgOk rs bg ∧ (bg.length : Int) ≤ y ∧ Das us ds ∧ (∀ d ∈ ds, Fine d) ∧ ds.length ≤ 40000 ∧ Kk (cresW (tableJ rs y bg ds)) S
def pBelow : Pm := fun ws S Kk Ek => ∃ w d n, ws = [w, .int n] ∧ Da w d ∧ 0 ≤ n ∧ n ≤ 1000 ∧ Kk (.bl (belowB d n)) S
def pDueC : Pm := fun ws S Kk Ek => ∃ rs y bg w d, ws = [intsT rs, .int y, rowsT bg, w] ∧ RoomsOk rs ∧ y.natAbs ≤ 100 ∧ BgOk rs bg ∧ Da w d ∧ Fine d ∧ Kk (cresW (compJ rs y bg d)) S
/-- a row that the law made -/
structure RwOk (rs row : List Int) : Prop where
  len : (row.length : Int) = rs.sum
  low : ∀ x ∈ row, 0 ≤ x ∧ x < 64
def pEven : Pm := fun ws S Kk Ek => ∃ (f : Addr) (n : Nat) (rs : List Int) (y : Int), ws = [.ref f, intsT rs, .int y] ∧ S f = some (.fd .d4 n) ∧ n < 800000 ∧ RoomsOk rs ∧ wholeB rs y = true ∧ y ≤ 24 ∧ ∀ (rows : List (List Int)) (k : Nat), 1 ≤ rows.length → rows.length ≤ 24 → (∀ row ∈ rows, RwOk rs row) → k ≤ n + 200 → Kk (rowsT rows) (S.put f (.fd .d4 k))
def pOdd : Pm := fun ws S Kk Ek => ∃ (f : Addr) (n : Nat) (xs : List W) (ds : List PyData) (k B m : Nat), ws = [.ref f, .tup xs] ∧ S f = some (.fd .d4 n) ∧ n < 900000 ∧ Das xs ds ∧ k ≤ 5 ∧ (∀ d ∈ ds, FinD k B d) ∧ ds.length ≤ m ∧ (B + 1) * (m + 1) + 210 ≤ 40000 ∧
  ∀ w d, Da w d → FinD (k + 1) ((B + 1) * (m + 1) + 210) d → Kk w (S.put f (.fd .d4 (n + 1)))
def pStep : Pm := fun ws S Kk Ek => ∃ (f : Addr) (n : Nat) (rs : List Int) (rows : List (List Int)), ws = [.ref f, intsT rs, rowsT rows] ∧ S f = some (.fd .d4 n) ∧ n < 800000 ∧ RoomsOk rs ∧ 1 ≤ rows.length ∧ rows.length ≤ 24 ∧ (∀ row ∈ rows, RwOk rs row) ∧
  ∀ xs ds k, Das xs ds → (∀ d ∈ ds, FinD 3 600 d) → ds.length ≤ 26 → k ≤ n + 10 → Kk (.tup xs) (S.put f (.fd .d4 k))
def pThing1 : Pm := fun ws S Kk Ek => ∃ (f : Addr) (n : Nat) (rs : List Int) (bg : List (List Int)), ws = [.ref f, intsT rs, rowsT bg] ∧ S f = some (.fd .d4 n) ∧ n < 800000 ∧ RoomsOk rs ∧ BgOk rs bg ∧ ∀ w d k, Da w d → FinD 5 32000 d → k ≤ n + 10 → Kk w (S.put f (.fd .d4 k))
def pThing : Pm := fun ws S Kk Ek => ∃ (f : Addr) (n : Nat) (rs : List Int) (bg : List (List Int)) (tbs : List (List (List Int))), ws = [.ref f, intsT rs, rowsT bg, .lst (tbs.map rowsT)] ∧ S f = some (.fd .d4 n) ∧ n < 700000 ∧ RoomsOk rs ∧ BgOk rs bg ∧ tbs.length ≤ 2 ∧
  (∀ tb ∈ tbs, 1 ≤ tb.length ∧ tb.length ≤ 24 ∧ ∀ row ∈ tb, RwOk rs row) ∧ ∀ w d k, Da w d → FinD 5 32000 d → k ≤ n + 30 → Kk w (S.put f (.fd .d4 k))
end Dp
/-! rounds: what the functions keep -/
namespace Dp
open PySem PySem.Spec L2
open PyProof.Rows hiding St
abbrev ntW (i : Nat) : W := .int (i : Nat)
abbrev wpW (p : Nat × Nat) : W := .tup [.int (p.1 : Nat), .int (p.2 : Nat)]
def wayW : Option (List (Nat × Nat)) → W
  | none => .non
  | some w => .lst (w.map wpW)
structure LackAt (S : Sto) (as : List Addr) (L : List (List Int)) : Prop where
  len : as.length = L.length
  nd : as.Nodup
  at_ : ∀ (i : Nat) (a : Addr), as[i]? = some a → S a = some (.lst ((L.getD i []).map W.int))
theorem LackAt.put {S : Sto} {as : List Addr} {L : List (List Int)} {p : Addr} {c : Ce} (l : LackAt S as L) (h : p ∉ as) : LackAt (S.put p c) as L := ⟨l.len, l.nd, fun i a e => by
  rw [put_ne (fun z => h (by rw [← z]; exact List.mem_of_getElem? e))]; exact l.at_ i a e⟩
theorem LackAt.new {S : Sto} {as : List Addr} {L : List (List Int)} {p : Addr} (l : LackAt S as L) (n : S p = none) : p ∉ as := fun h => by
  obtain ⟨i, hi, e⟩ := List.getElem_of_mem h
  have := l.at_ i p (by rw [List.getElem?_eq_getElem hi, e])
  rw [n] at this; cases this
theorem LackAt.snoc {S : Sto} {as : List Addr} {M : List (List Int)} {p : Addr} {i : Nat} (l : LackAt S as (M.take i)) (la : as.length = i) (hi : i < M.length) (n : S p = none) : LackAt (S.put p (.lst ((M.getD i []).map W.int))) (as ++ [p]) (M.take (i + 1)) := by
  have pn := l.new n
  refine ⟨by rw [List.length_append, List.length_take, la, List.length_singleton]; omega, ?_, fun j a e => ?_⟩
  · rw [List.nodup_append]
    refine ⟨l.nd, by simp, fun a ha b hb => ?_⟩
    rw [List.mem_singleton.mp hb]
    exact fun z => pn (z ▸ ha)
  · have g : ∀ k, k < M.length → ∀ m, j < m → (M.take m).getD j [] = M.getD j [] := fun k _ m h => by
      rw [List.getD_eq_getElem?_getD, List.getElem?_take, if_pos h, List.getD_eq_getElem?_getD]
    rw [List.getElem?_append] at e
    split at e
    · rename_i h
      have h1 := l.at_ j a e
      rw [put_ne (fun z => pn (by rw [← z]; exact List.mem_of_getElem? e)), h1, g i hi i (by omega), g i hi (i + 1) (by omega)]
    · rename_i h
      have hj : j - as.length = 0 := by
        have := (List.getElem?_eq_some_iff.mp e).1
        rw [List.length_singleton] at this; omega
      rw [hj] at e
      have e : p = a := by simpa using e
      subst e
      rw [put_same, g i hi (i + 1) (by omega), show j = i by omega]
/-- so many groups, so many meadows -/
structure MatOk (rs : List Int) (L : List (List Int)) : Prop where
  len : L.length = rs.sum.toNat
  row : ∀ g, g < L.length → (L.getD g []).length = rs.length
theorem mat_lack {rs : List Int} {y : Int} {found : List (List Int)} : MatOk rs (lackM rs y found) := ⟨lack_len, fun g hg => by rw [lack_row (by rw [lack_len] at hg; exact hg)]; simp⟩
theorem cnt_len (row : Rw) (m : Nat) : ((List.range row.length).filter fun g => decide (ra row g = some m)).length = cnt row m := by
  rw [← List.countP_eq_length_filter]
  unfold cnt
  conv => rhs; rw [← range_ra row]
  rw [List.count_eq_countP, List.countP_map]
  refine List.countP_congr fun g _ => ?_
  by_cases e : ra row g = some m <;> simp [e]
theorem ra_lt {row : Rw} {g m : Nat} (h : ra row g = some m) : g < row.length := by
  unfold ra at h
  rw [List.getD_eq_getElem?_getD] at h
  by_cases q : g < row.length
  · exact q
  · rw [List.getElem?_eq_none (by omega)] at h; cases h
theorem any_nt (xs : List Nat) (x : Nat) : ((xs.map ntW).any fun w => eqF w (.int (x : Nat))) = decide (x ∈ xs) := by
  have := any_int (xs.map fun (i : Nat) => (i : Int)) (x : Int)
  rw [List.map_map] at this
  refine Eq.trans this ?_
  rw [decide_eq_decide]
  constructor
  · intro h
    obtain ⟨a, ha, e⟩ := List.mem_map.mp h
    have : a = x := by omega
    exact this ▸ ha
  · intro h; exact List.mem_map.mpr ⟨x, h, rfl⟩
theorem flat_nt (xs : List Nat) : (xs.map ntW).all flat = true := by rw [List.all_map]; exact List.all_eq_true.mpr fun _ _ => rfl
theorem at_ref {as : List Addr} {g : Nat} (h : g < as.length) : ∃ a, as[g]? = some a ∧ atI (as.map W.ref) (g : Nat) = some (.ref a) :=
  ⟨as[g], List.getElem?_eq_getElem h, atI_pos (by omega) (by rw [List.getElem?_map, Int.toNat_natCast, List.getElem?_eq_getElem h]; rfl)⟩
theorem way_nd {L : List (List Int)} {rs : List Int} {row : Rw} : ∀ {w : List (Nat × Nat)} {m : Nat}, Way L rs row m w → (w.map (·.2)).Nodup ∧ ∀ x ∈ w.map (·.2), x < rs.length
  | [], _, _ => ⟨.nil, none_in⟩
  | (g, o) :: w, m, h => by
    obtain ⟨a1, a2, a3, a4, a5, a6, a7⟩ := h
    obtain ⟨i1, i2⟩ := way_nd a7
    refine ⟨List.nodup_cons.mpr ⟨fun z => ?_, i1⟩, fun x hx => ?_⟩
    · obtain ⟨p, hp, e⟩ := List.mem_map.mp z
      cases w with
      | nil => cases hp
      | cons q w =>
        obtain ⟨_, _, _, _, b5, b6, _⟩ := a7
        rcases List.mem_cons.mp hp with rfl | hp
        · exact b5 e.symm
        · exact b6 p hp e.symm
    · rcases List.mem_cons.mp hx with rfl | hx
      · exact a3
      · exact i2 x hx
def pRooms2 : Pm := fun ws S Kk Ek => ∃ (f : Addr) (n : Nat), ws = [.ref f] ∧ S f = some (.fd .d4 n) ∧ n < 900000 ∧ ∀ rs k, RoomsOk rs → k ≤ n + 20 → Kk (intsT rs) (S.put f (.fd .d4 k))
def FreedO (L : List (List Int)) (rs : List Int) (row : Rw) (m : Nat) (seen seen' : List Nat) : Option (List (Nat × Nat)) → Prop
  | none => ∀ x ∈ seen', x ∉ seen ∨ x = m → Clo L rs row seen' x
  | some w => Way L rs row m w ∧ ∀ p ∈ w, p.2 ∉ seen
structure SeenOk (rs : List Int) (seen : List Nat) : Prop where
  nd : seen.Nodup
  low : ∀ x ∈ seen, x < rs.length
theorem SeenOk.len {rs : List Int} {seen : List Nat} (h : SeenOk rs seen) : seen.length ≤ rs.length := by
  have := (List.nodup_range (n := rs.length)).length_le_of_subset (l₂ := seen)
  have h2 := h.nd.length_le_of_subset (l₂ := List.range rs.length) fun x hx => List.mem_range.mpr (h.low x hx)
  rw [List.length_range] at h2; exact h2
theorem SeenOk.snoc {rs : List Int} {seen : List Nat} {x : Nat} (h : SeenOk rs seen) (hx : x < rs.length) (n : x ∉ seen) : SeenOk rs (seen ++ [x]) := ⟨by
  rw [List.nodup_append]
  refine ⟨h.nd, by simp, fun a ha b hb => ?_⟩
  rw [List.mem_singleton.mp hb]
  exact fun z => n (z ▸ ha), fun a ha => by
  rcases List.mem_append.mp ha with ha | ha
  · exact h.low a ha
  · rw [List.mem_singleton.mp ha]; exact hx⟩
def pFreed (j : Nat) : Pm := fun ws S Kk Ek => ∃ (rs : List Int) (as : List Addr) (L : List (List Int)) (row : Rw) (r s : Addr) (m : Nat) (seen : List Nat), ws = [.lst (as.map W.ref), intsT rs, .ref r, ntW m, .ref s] ∧ RoomsOk rs ∧ LackAt S as L ∧ MatOk rs L ∧ row.length = rs.sum.toNat ∧ S r = some (.lst (row.map optW)) ∧ S s = some (.lst (seen.map ntW)) ∧ m < rs.length ∧ m ∈ seen ∧ SeenOk rs seen ∧ rs.length ≤ seen.length + j ∧ s ≠ r ∧ s ∉ as ∧
  ∀ o seen', (∀ x ∈ seen, x ∈ seen') → SeenOk rs seen' → FreedO L rs row m seen seen' o → Kk (wayW o) (S.put s (.lst (seen'.map ntW)))
def pNextRow : Pm := fun ws S Kk Ek => ∃ (rs : List Int) (as : List Addr) (L : List (List Int)) (T : Int), ws = [intsT rs, .lst (as.map W.ref)] ∧ RoomsOk rs ∧ LackAt S as L ∧ MatOk rs L ∧ Lck L rs T rs.sum.toNat ∧ 1 ≤ T ∧ ∀ row, FitR rs L row → Kk (intsT row) S
def pLacking : Pm := fun ws S Kk Ek => ∃ (rs : List Int) (y : Int) (bg : List (List Int)), ws = [intsT rs, .int y, rowsT bg] ∧ RoomsOk rs ∧ y.natAbs ≤ 100 ∧ BgR rs bg ∧ ∀ as S', LackAt S' as (lackM rs y bg) → (∀ a d, S a = some d → S' a = some d) → (∀ a ∈ as, S a = none) → Kk (.lst (as.map W.ref)) S'
def pCompleted : Pm := fun ws S Kk Ek => ∃ (rs : List Int) (y : Int) (bg : List (List Int)), ws = [intsT rs, .int y, rowsT bg] ∧ RoomsOk rs ∧ y.natAbs ≤ 100 ∧ BgR rs bg ∧
  (wholeB rs y = false → Ek (wdX 4 (.str "years")) S) ∧ (wholeB rs y = true → (bg.length : Int) > y → Ek (wdX 4 (.str "begun")) S) ∧
  (wholeB rs y = true → ¬ (bg.length : Int) > y → (∀ g m, oftenG rs y bg = some (g, m) → Kk (.tup [.str "often", ntW g, ntW m]) S) ∧ (oftenG rs y bg = none → ∀ tb, EvenT rs y tb → tb.take bg.length = bg → Kk (.tup [.str "table", rowsT tb]) S))
def pEvenTable : Pm := fun ws S Kk Ek => ∃ (rs : List Int) (y : Int), ws = [intsT rs, .int y] ∧ RoomsOk rs ∧ y.natAbs ≤ 100 ∧ (wholeB rs y = false → Ek (wdX 4 (.str "years")) S) ∧ (wholeB rs y = true → ∀ tb, EvenT rs y tb → Kk (rowsT tb) S)
end Dp
namespace Dp
open PySem PySem.Spec L2
open PyProof.Rows hiding St

/-! ### the plain law -/
def ltb (p q : Int × Int) : Bool := decide (p.1 < q.1 ∨ (p.1 = q.1 ∧ p.2 < q.2))
theorem place : ∀ {qs : List (Int × Int)} {t : Nat} {q : Int × Int}, qs.Pairwise leP → qs.Nodup → qs[t]? = some q → qs.countP (fun p => ltb p q) = t
  | [], t, q, _, _, h => by simp at h
  | a :: r, 0, q, hp, hn, h => by
    have h : a = q := by simpa using h
    subst h
    rw [List.countP_eq_zero]
    intro b hb
    rcases List.mem_cons.mp hb with rfl | hb
    · unfold ltb; rw [decide_eq_true_eq]; omega
    · have := (List.pairwise_cons.mp hp).1 b hb
      unfold leP at this
      unfold ltb; rw [decide_eq_true_eq]; omega
  | a :: r, t + 1, q, hp, hn, h => by
    have h : r[t]? = some q := by simpa using h
    have hm := List.mem_of_getElem? h
    have hne : a ≠ q := fun e => (List.nodup_cons.mp hn).1 (by rw [e]; exact hm)
    have hl := (List.pairwise_cons.mp hp).1 q hm
    rw [List.countP_cons, place (List.pairwise_cons.mp hp).2 (List.nodup_cons.mp hn).2 h, if_pos]
    unfold leP at hl
    unfold ltb
    rw [decide_eq_true_eq]
    rcases hl with hl | ⟨h1, h2⟩
    · exact .inl hl
    · refine .inr ⟨h1, ?_⟩
      rcases Int.lt_or_eq_of_le h2 with h2 | h2
      · exact h2
      · exact absurd (Prod.ext h1 h2) hne
/-- one more at each ball -/
def paidL (ps : List Int) : List (Int × Int) → List Int
  | [] => ps
  | q :: r => paidL (ps.set q.2.toNat (ps.getD q.2.toNat 0 + 1)) r
theorem paidL_len : ∀ (qs : List (Int × Int)) (ps : List Int), (paidL ps qs).length = ps.length
  | [], _ => rfl
  | q :: r, ps => by show (paidL _ r).length = _; rw [paidL_len r, List.length_set]
theorem paidL_snoc : ∀ (qs : List (Int × Int)) (ps : List Int) (q : Int × Int), paidL ps (qs ++ [q]) = (paidL ps qs).set q.2.toNat ((paidL ps qs).getD q.2.toNat 0 + 1)
  | [], _, _ => rfl
  | a :: r, ps, q => paidL_snoc r _ q
theorem paidL_at : ∀ (qs : List (Int × Int)) (ps : List Int) (j : Nat), j < ps.length → (∀ q ∈ qs, 0 ≤ q.2) → (paidL ps qs).getD j 0 = ps.getD j 0 + ((qs.map (·.2)).count (j : Int) : Nat)
  | [], ps, j, _, _ => by simp [paidL]
  | q :: r, ps, j, hj, h0 => by
    have hq := h0 q (List.mem_cons_self ..)
    show (paidL _ r).getD j 0 = _
    rw [paidL_at r _ j (by rw [List.length_set]; exact hj) fun x hx => h0 x (List.mem_cons_of_mem _ hx), List.map_cons, List.count_cons]
    by_cases e : q.2 = (j : Int)
    · have e2 : q.2.toNat = j := by omega
      rw [e2, List.getD_eq_getElem?_getD, List.getElem?_set_self hj, e]
      simp; omega
    · have e2 : q.2.toNat ≠ j := by omega
      have e3 : (q.2 == (j : Int)) = false := by simpa using e
      rw [List.getD_eq_getElem?_getD, List.getElem?_set_ne e2, e3, ← List.getD_eq_getElem?_getD]
      simp
theorem paidL_sum : ∀ (qs : List (Int × Int)) (ps : List Int), (∀ q ∈ qs, 0 ≤ q.2 ∧ q.2 < ps.length) → (paidL ps qs).sum = ps.sum + qs.length
  | [], ps, _ => by simp [paidL]
  | q :: r, ps, h => by
    have hq := h q (List.mem_cons_self ..)
    have hl : q.2.toNat < ps.length := by omega
    show (paidL _ r).sum = _
    rw [paidL_sum r _ fun x hx => by rw [List.length_set]; exact h x (List.mem_cons_of_mem _ hx), sum_set ps _ _ (ps.getD q.2.toNat 0) (by rw [List.getD_eq_getElem?_getD, List.getElem?_eq_getElem hl]; rfl), List.length_cons]
    push_cast; omega
theorem count_take {L : List Int} {t k : Nat} {j : Int} (hn : L.Nodup) (h : L[t]? = some j) : (L.take k).count j = if t < k then 1 else 0 := by
  have hl := (List.getElem?_eq_some_iff.mp h)
  split
  · rename_i hk
    have hm : j ∈ L.take k := List.mem_of_getElem? (i := t) (by rw [List.getElem?_take_of_lt hk]; exact h)
    have hn' : (L.take k).Nodup := hn.sublist (List.take_sublist ..)
    rw [hn'.count, if_pos hm]
  · rename_i hk
    rw [List.count_eq_zero]
    intro hm
    obtain ⟨i, hi⟩ := List.getElem?_of_mem hm
    rw [List.getElem?_take] at hi
    split at hi
    · have hi2 := (List.getElem?_eq_some_iff.mp hi)
      have pw := List.nodup_iff_pairwise_ne.mp hn
      have e : i = t := by
        rcases Nat.lt_trichotomy i t with z | z | z
        · exact absurd (hi2.2.trans hl.2.symm) (List.pairwise_iff_getElem.mp pw i t hi2.1 hl.1 z)
        · exact z
        · exact absurd (hl.2.trans hi2.2.symm) (List.pairwise_iff_getElem.mp pw t i hl.1 hi2.1 z)
      omega
    · cases hi
def pairsOf (n : Int) (xs : List Int) : List (Int × Int) := (List.range xs.length).map fun i => (0 - xs.getD i 0 % n, (i : Int))
def aheadN (n : Int) (xs : List Int) (i : Nat) : Nat := (List.range xs.length).countP fun o => decide (xs.getD o 0 % n > xs.getD i 0 % n) || (decide (xs.getD o 0 % n = xs.getD i 0 % n) && decide (o < i))
def lackOf (xs : List Int) : Int := 0 - (xs.map (· / (xs.length : Int))).sum
def payL (xs : List Int) : List Int := (List.range xs.length).map fun i => xs.getD i 0 / (xs.length : Int) + (if (aheadN xs.length xs i : Int) < lackOf xs then 1 else 0)
theorem snd_pairs (n : Int) (xs : List Int) : (pairsOf n xs).map (·.2) = (List.range xs.length).map fun (i : Nat) => (i : Int) := by
  unfold pairsOf
  rw [List.map_map]; rfl
theorem nodup_ints (n : Nat) : ((List.range n).map fun (i : Nat) => (i : Int)).Nodup := by
  rw [List.nodup_iff_pairwise_ne, List.pairwise_map]
  exact List.Pairwise.imp (fun h e => h (by omega)) (List.nodup_iff_pairwise_ne.mp List.nodup_range)
theorem sum_parts (n : Int) : ∀ xs : List Int, n * (xs.map (· / n)).sum + (xs.map (· % n)).sum = xs.sum
  | [] => by simp
  | x :: xs => by
    have h1 := sum_parts n xs
    have h2 := Int.mul_ediv_add_emod x n
    simp only [List.map_cons, List.sum_cons, Int.mul_add]
    omega
theorem sum_mods {n : Int} (h : 0 < n) : ∀ xs : List Int, 0 ≤ (xs.map (· % n)).sum ∧ (xs.map (· % n)).sum ≤ (n - 1) * xs.length
  | [] => by simp
  | x :: xs => by
    obtain ⟨h1, h2⟩ := sum_mods h xs
    have h3 := Int.emod_nonneg x (show n ≠ 0 by omega)
    have h4 := Int.emod_lt_of_pos x h
    simp only [List.map_cons, List.sum_cons, List.length_cons]
    refine ⟨by omega, ?_⟩
    push_cast
    rw [Int.mul_add, Int.mul_one]; omega
theorem lack_ok {xs : List Int} (h0 : 0 < xs.length) (hs : xs.sum = 0) : 0 ≤ lackOf xs ∧ lackOf xs < xs.length := by
  have hn : (0 : Int) < xs.length := by omega
  have h1 := sum_parts xs.length xs
  obtain ⟨h2, h3⟩ := sum_mods hn xs
  unfold lackOf
  generalize (xs.map (· / (xs.length : Int))).sum = D at h1 ⊢
  generalize (xs.map (· % (xs.length : Int))).sum = M at h1 h2 h3
  rw [hs] at h1
  constructor
  · rcases Int.lt_or_le 0 D with h | h
    · have := Int.mul_pos hn h; omega
    · omega
  · rcases Int.lt_or_le (0 - D) xs.length with h | h
    · exact h
    · have : (xs.length : Int) * xs.length ≤ xs.length * (0 - D) := Int.mul_le_mul_of_nonneg_left h (by omega)
      rw [Int.sub_mul, Int.one_mul] at h3
      rw [Int.mul_sub, Int.mul_zero] at this
      omega
theorem paid_eq {xs : List Int} {qs : List (Int × Int)} (h0 : 0 < xs.length) (hs : xs.sum = 0) (hp : qs.Perm (pairsOf xs.length xs)) (hw : qs.Pairwise leP) :
    paidL (xs.map (· / (xs.length : Int))) (qs.take (lackOf xs).toNat) = payL xs ∧ (payL xs).sum = 0 := by
  obtain ⟨l0, l1⟩ := lack_ok h0 hs
  have hn2 : (qs.map (·.2)).Nodup := by
    refine (hp.map (·.2)).nodup_iff.mpr ?_
    rw [snd_pairs]; exact nodup_ints _
  have hn : qs.Nodup := by
    rw [List.nodup_iff_pairwise_ne] at hn2 ⊢
    rw [List.pairwise_map] at hn2
    exact hn2.imp fun h e => h (by rw [e])
  have hm2 : ∀ q ∈ qs, 0 ≤ q.2 ∧ q.2 < xs.length := fun q hq => by
    have := hp.mem_iff.mp hq
    unfold pairsOf at this
    obtain ⟨i, hi, rfl⟩ := List.mem_map.mp this
    have := List.mem_range.mp hi
    show (0 : Int) ≤ (i : Int) ∧ (i : Int) < _
    omega
  have hlen : qs.length = xs.length := by rw [hp.length_eq]; unfold pairsOf; simp
  have key : paidL (xs.map (· / (xs.length : Int))) (qs.take (lackOf xs).toNat) = payL xs := by
    apply List.ext_getElem
    · rw [paidL_len]; unfold payL; simp
    · intro j h1 h2
      have hj : j < xs.length := by rw [paidL_len, List.length_map] at h1; exact h1
      have e1 : (paidL (xs.map (· / (xs.length : Int))) (qs.take (lackOf xs).toNat))[j] = (paidL (xs.map (· / (xs.length : Int))) (qs.take (lackOf xs).toNat)).getD j 0 := by
        rw [List.getD_eq_getElem?_getD, List.getElem?_eq_getElem h1]; rfl
      rw [e1, paidL_at _ _ _ (by rw [List.length_map]; exact hj) fun q hq => (hm2 q (List.mem_of_mem_take hq)).1]
      have hmem : (0 - xs.getD j 0 % (xs.length : Int), (j : Int)) ∈ qs := hp.mem_iff.mpr (by unfold pairsOf; exact List.mem_map.mpr ⟨j, List.mem_range.mpr hj, rfl⟩)
      obtain ⟨t, ht⟩ := List.getElem?_of_mem hmem
      have hpl := place hw hn ht
      rw [hp.countP_eq] at hpl
      have ha : aheadN xs.length xs j = t := by
        rw [← hpl]
        unfold pairsOf aheadN
        rw [List.countP_map]
        refine List.countP_congr fun o _ => ?_
        show _ ↔ ltb (0 - xs.getD o 0 % (xs.length : Int), (o : Int)) (0 - xs.getD j 0 % (xs.length : Int), (j : Int)) = true
        unfold ltb
        simp only [Bool.or_eq_true, Bool.and_eq_true, decide_eq_true_eq]
        omega
      have ht2 : (qs.map (·.2))[t]? = some (j : Int) := by rw [List.getElem?_map, ht]; rfl
      rw [List.map_take, count_take hn2 ht2]
      have e3 : (payL xs)[j]'h2 = xs.getD j 0 / (xs.length : Int) + (if (aheadN xs.length xs j : Int) < lackOf xs then 1 else 0) := by simp [payL]
      rw [e3, ha]
      have e2 : (xs.map (· / (xs.length : Int))).getD j 0 = xs.getD j 0 / (xs.length : Int) := by
        rw [List.getD_eq_getElem?_getD, List.getD_eq_getElem?_getD, List.getElem?_map, List.getElem?_eq_getElem hj]; rfl
      rw [e2]
      by_cases hc : t < (lackOf xs).toNat
      · rw [if_pos hc, if_pos (by omega)]; rfl
      · rw [if_neg hc, if_neg (by omega)]; rfl
  refine ⟨key, ?_⟩
  rw [← key, paidL_sum _ _ fun q hq => by rw [List.length_map]; exact hm2 q (List.mem_of_mem_take hq), List.length_take, hlen]
  have e : (xs.map (· / (xs.length : Int))).sum = 0 - lackOf xs := by unfold lackOf; omega
  rw [e]; omega
structure AccOk (xs : List Int) : Prop where
  one : 0 < xs.length
  few : xs.length ≤ 16
  nul : xs.sum = 0
  low : ∀ x ∈ xs, x.natAbs < 2 ^ 31
def leftL (xs : List Int) : List Int := (List.range xs.length).map fun i => xs.getD i 0 - (xs.length : Int) * (payL xs).getD i 0
theorem acc_b {xs : List Int} (ok : AccOk xs) (i : Nat) : (xs.getD i 0).natAbs < 2 ^ 31 := by
  by_cases h : i < xs.length
  · exact ok.low _ (getD_mem h)
  · rw [List.getD_eq_getElem?_getD, List.getElem?_eq_none (by omega)]; decide
theorem div_b {x n : Int} (hx : x.natAbs < 2 ^ 31) (hn : 0 < n) : (x / n).natAbs < 2 ^ 32 := by
  have h1 := Int.mul_ediv_add_emod x n
  have h2 := Int.emod_nonneg x (show n ≠ 0 by omega)
  have h3 := Int.emod_lt_of_pos x hn
  generalize x / n = q at *
  rcases Int.lt_or_le q 0 with h | h
  · have : n * q ≤ 1 * q := Int.mul_le_mul_of_nonpos_right (by omega) (by omega)
    by_cases z : q ≤ -(2 ^ 32)
    · have : n * q ≤ n * (-(2 ^ 32)) := Int.mul_le_mul_of_nonneg_left z (by omega)
      have : n * (2 ^ 32) ≥ n + 2 ^ 32 - 1 := by omega
      rw [Int.mul_neg] at *
      omega
    · omega
  · have : 1 * q ≤ n * q := Int.mul_le_mul_of_nonneg_right (by omega) h
    omega
theorem pay_b {xs : List Int} (ok : AccOk xs) (i : Nat) : ((payL xs).getD i 0).natAbs < 2 ^ 33 := by
  have one := ok.one
  by_cases h : i < (payL xs).length
  · have hi : i < xs.length := by simpa [payL] using h
    have e : (payL xs).getD i 0 = xs.getD i 0 / (xs.length : Int) + (if (aheadN xs.length xs i : Int) < lackOf xs then 1 else 0) := by
      rw [List.getD_eq_getElem?_getD, List.getElem?_eq_getElem h]; simp [payL]
    have b := div_b (n := (xs.length : Int)) (acc_b ok i) (by omega)
    rw [e]
    split <;> omega
  · rw [List.getD_eq_getElem?_getD, List.getElem?_eq_none (by omega)]; decide
theorem pay_len (xs : List Int) : (payL xs).length = xs.length := by simp [payL]
theorem mods_few {n : Int} (h : 0 < n) : ∀ xs : List Int, (xs.map (· % n)).sum ≤ (n - 1) * (xs.countP fun x => decide (x % n > 0) : Nat)
  | [] => by simp
  | x :: xs => by
    have ih := mods_few h xs
    have h2 := Int.emod_nonneg x (show n ≠ 0 by omega)
    have h3 := Int.emod_lt_of_pos x h
    rw [List.map_cons, List.sum_cons, List.countP_cons]
    by_cases z : x % n > 0
    · rw [if_pos (decide_eq_true z)]
      push_cast
      rw [Int.mul_add, Int.mul_one]; omega
    · rw [if_neg (by rw [decide_eq_false z]; decide)]
      have : x % n = 0 := by omega
      rw [this]; simpa using ih
/-- what divides gets nothing more -/
theorem none_more {xs : List Int} (ok : AccOk xs) {i : Nat} (hi : i < xs.length) (z : xs.getD i 0 % (xs.length : Int) = 0) : lackOf xs ≤ (aheadN xs.length xs i : Int) := by
  have one := ok.one
  have n0 : (0 : Int) < xs.length := by omega
  have h1 := sum_parts xs.length xs
  have h2 := mods_few n0 xs
  have h3 : (xs.countP fun x => decide (x % (xs.length : Int) > 0)) ≤ aheadN xs.length xs i := by
    have e : (xs.countP fun x => decide (x % (xs.length : Int) > 0)) = (List.range xs.length).countP fun o => decide (xs.getD o 0 % (xs.length : Int) > 0) := by
      conv => lhs; rw [← range_get (0 : Int) xs]
      rw [List.countP_map, range_get (0 : Int) xs]; rfl
    rw [e]
    unfold aheadN
    refine List.countP_mono_left fun o _ h => ?_
    rw [z]
    rw [decide_eq_true_eq] at h
    rw [decide_eq_true h]; rfl
  rcases Int.lt_or_le (aheadN xs.length xs i : Int) (lackOf xs) with h | h
  · exfalso
    have e : (xs.map (· / (xs.length : Int))).sum = 0 - lackOf xs := by unfold lackOf; omega
    rw [e, ok.nul] at h1
    generalize (xs.map (· % (xs.length : Int))).sum = M at h1 h2
    generalize (xs.countP fun x => decide (x % (xs.length : Int) > 0)) = c at h2 h3
    generalize lackOf xs = L at h h1
    have h4 : ((xs.length : Int) - 1) * (c : Int) ≤ (xs.length - 1) * (L - 1) := Int.mul_le_mul_of_nonneg_left (by omega) (by omega)
    rw [Int.mul_sub, Int.sub_mul, Int.sub_mul] at h4
    rw [Int.sub_mul] at h2
    rw [Int.mul_sub] at h1
    omega
  · exact h
/-- what is left: each below the number of balls, together nought -/
theorem left_ok {xs : List Int} (ok : AccOk xs) (hs : (payL xs).sum = 0) : (leftL xs).sum = 0 ∧ (∀ x ∈ leftL xs, x.natAbs < xs.length) ∧ (leftL xs).length = xs.length := by
  have one := ok.one
  have hl : (leftL xs).length = xs.length := by simp [leftL]
  have n0 : (0 : Int) < xs.length := by omega
  refine ⟨?_, fun x hx => ?_, hl⟩
  · have key : ∀ (n : Int) (a b : List Int), a.length = b.length → ((List.range a.length).map fun i => a.getD i 0 - n * b.getD i 0).sum = a.sum - n * b.sum := by
      intro n a
      induction a with
      | nil => intro b h; cases b with
        | nil => simp
        | cons _ _ => simp at h
      | cons x a ih =>
        intro b h
        cases b with
        | nil => simp at h
        | cons y b =>
          have h : a.length = b.length := by simpa using h
          rw [List.length_cons, List.range_succ_eq_map, List.map_cons, List.map_map, List.sum_cons, List.sum_cons, List.sum_cons]
          have := ih b h
          have e : ((fun i => (x :: a).getD i 0 - n * (y :: b).getD i 0) ∘ Nat.succ) = fun i => a.getD i 0 - n * b.getD i 0 := by funext i; rfl
          rw [e, this, Int.mul_add]
          show x - n * y + _ = _
          omega
    unfold leftL
    rw [key _ xs (payL xs) (pay_len xs).symm, ok.nul, hs]; simp
  · unfold leftL at hx
    obtain ⟨i, hi, rfl⟩ := List.mem_map.mp hx
    have hi := List.mem_range.mp hi
    have e : (payL xs).getD i 0 = xs.getD i 0 / (xs.length : Int) + (if (aheadN xs.length xs i : Int) < lackOf xs then 1 else 0) := by
      rw [List.getD_eq_getElem?_getD, List.getElem?_eq_getElem (by rw [pay_len]; exact hi)]; simp [payL]
    have h1 := Int.mul_ediv_add_emod (xs.getD i 0) xs.length
    have h2 := Int.emod_nonneg (xs.getD i 0) (show (xs.length : Int) ≠ 0 by omega)
    have h3 := Int.emod_lt_of_pos (xs.getD i 0) n0
    rw [e, Int.mul_add]
    split
    · rename_i hlt
      have hz : xs.getD i 0 % (xs.length : Int) ≠ 0 := fun z => by have := none_more ok hi z; omega
      omega
    · omega
theorem acc_left {xs : List Int} (ok : AccOk xs) (hs : (payL xs).sum = 0) : AccOk (leftL xs) := by
  obtain ⟨h1, h2, h3⟩ := left_ok ok hs
  have one := ok.one
  have few := ok.few
  exact ⟨by omega, by omega, h1, fun x hx => by have := h2 x hx; omega⟩
theorem pay_sum {xs : List Int} (ok : AccOk xs) : (payL xs).sum = 0 := by
  have h : ∃ qs : List (Int × Int), qs.Perm (pairsOf xs.length xs) ∧ qs.Pairwise leP := by
    refine ⟨(pairsOf xs.length xs).mergeSort fun p q => decide (p.1 < q.1 ∨ (p.1 = q.1 ∧ p.2 ≤ q.2)), List.mergeSort_perm _ _, ?_⟩
    have := List.pairwise_mergeSort (le := fun p q : Int × Int => decide (p.1 < q.1 ∨ (p.1 = q.1 ∧ p.2 ≤ q.2))) (fun a b c h1 h2 => by
      rw [decide_eq_true_eq] at *
      omega) (fun a b => by
      rw [Bool.or_eq_true, decide_eq_true_eq, decide_eq_true_eq]
      omega) (pairsOf xs.length xs)
    exact this.imp fun h => of_decide_eq_true h
  obtain ⟨qs, h1, h2⟩ := h
  exact (paid_eq ok.one ok.nul h1 h2).2
structure DrwOk (m : Int) (ss : List (Int × Int)) (ds : List Int) : Prop where
  len : ss.length = ds.length
  few : ds.length ≤ 16
  lo : ∀ s ∈ ss, 0 ≤ s.1 ∧ s.1 ≤ 1000 ∧ 0 ≤ s.2 ∧ s.2 ≤ 1000
  ball : ∀ d ∈ ds, 0 ≤ d ∧ d < m
def getsL (n : Int) (L : List (Int × Int)) (j : Int) : Int := (L.map fun p => if p.1 = j then n * p.2 else 0).sum
def addL (n : Int) (xs : List Int) : List (Int × Int) → List Int
  | [] => xs
  | p :: L => addL n (xs.set p.1.toNat (xs.getD p.1.toNat 0 + n * p.2)) L
theorem addL_len (n : Int) : ∀ (L : List (Int × Int)) (xs : List Int), (addL n xs L).length = xs.length
  | [], _ => rfl
  | p :: L, xs => by show (addL n _ L).length = _; rw [addL_len n L, List.length_set]
theorem addL_snoc (n : Int) : ∀ (L : List (Int × Int)) (xs : List Int) (p : Int × Int), addL n xs (L ++ [p]) = (addL n xs L).set p.1.toNat ((addL n xs L).getD p.1.toNat 0 + n * p.2)
  | [], _, _ => rfl
  | a :: L, xs, p => addL_snoc n L _ p
theorem addL_at (n : Int) : ∀ (L : List (Int × Int)) (xs : List Int) (j : Nat), j < xs.length → (∀ p ∈ L, 0 ≤ p.1) → (addL n xs L).getD j 0 = xs.getD j 0 + getsL n L j
  | [], xs, j, _, _ => by simp [addL, getsL]
  | p :: L, xs, j, hj, h0 => by
    have hp := h0 p (List.mem_cons_self ..)
    show (addL n _ L).getD j 0 = _
    rw [addL_at n L _ j (by rw [List.length_set]; exact hj) fun x hx => h0 x (List.mem_cons_of_mem _ hx)]
    show _ = xs.getD j 0 + ((List.map (fun p => if p.1 = (j : Int) then n * p.2 else 0) (p :: L)).sum)
    rw [List.map_cons, List.sum_cons]
    by_cases e : p.1 = (j : Int)
    · have e2 : p.1.toNat = j := by omega
      rw [e2, List.getD_eq_getElem?_getD, List.getElem?_set_self hj, if_pos e]
      show xs.getD j 0 + n * p.2 + getsL n L j = xs.getD j 0 + (n * p.2 + getsL n L j)
      omega
    · have e2 : p.1.toNat ≠ j := by omega
      rw [List.getD_eq_getElem?_getD, List.getElem?_set_ne e2, if_neg e, ← List.getD_eq_getElem?_getD]
      show xs.getD j 0 + getsL n L j = xs.getD j 0 + (0 + getsL n L j)
      omega
theorem addL_sum (n : Int) : ∀ (L : List (Int × Int)) (xs : List Int), (∀ p ∈ L, 0 ≤ p.1 ∧ p.1 < xs.length) → (addL n xs L).sum = xs.sum + n * (L.map (·.2)).sum
  | [], xs, _ => by simp [addL]
  | p :: L, xs, h => by
    have hp := h p (List.mem_cons_self ..)
    have hl : p.1.toNat < xs.length := by omega
    show (addL n _ L).sum = _
    rw [addL_sum n L _ fun x hx => by rw [List.length_set]; exact h x (List.mem_cons_of_mem _ hx), sum_set xs _ _ (xs.getD p.1.toNat 0) (get_some hl), List.map_cons, List.sum_cons, Int.mul_add]
    omega
/-- what the law reckons for a ball -/
def dueAt (n : Int) (L : List (Int × Int)) (x : Int) (j : Int) : Int := x + (L.map fun p => ((if p.1 = j then n else 0) - 1) * p.2).sum
theorem due_eq (n : Int) (x j : Int) : ∀ L : List (Int × Int), dueAt n L x j = x - (L.map (·.2)).sum + getsL n L j
  | [] => by simp [dueAt, getsL]
  | p :: L => by
    have ih := due_eq n x j L
    unfold dueAt getsL at *
    simp only [List.map_cons, List.sum_cons]
    by_cases e : p.1 = j
    · rw [if_pos e, if_pos e, Int.sub_mul, Int.one_mul]; omega
    · rw [if_neg e, if_neg e, Int.sub_mul, Int.one_mul, Int.zero_mul]; omega
def prsL (ss : List (Int × Int)) (ds : List Int) : List (Int × Int) := ds.zip (ss.map (·.2))
def drawnL (ss : List (Int × Int)) (ds acc : List Int) : List Int := (List.range acc.length).map fun j => dueAt acc.length (prsL ss ds) (acc.getD j 0) (j : Int)
theorem prs_len {m : Int} {ss : List (Int × Int)} {ds : List Int} (ok : DrwOk m ss ds) : (prsL ss ds).length = ds.length := by unfold prsL; rw [List.length_zip, List.length_map, ok.len, Nat.min_self]
theorem prs_at {ss : List (Int × Int)} {ds : List Int} {i : Nat} (h : i < ds.length) (h' : i < ss.length) : (prsL ss ds)[i]? = some (ds.getD i 0, (ss.getD i (0, 0)).2) := by
  unfold prsL
  rw [List.getElem?_zip_eq_some]
  exact ⟨get_some h, by rw [List.getElem?_map, get_some (d := (0, 0)) h']; rfl⟩
theorem prs_ball {m : Int} {ss : List (Int × Int)} {ds : List Int} (ok : DrwOk m ss ds) : ∀ p ∈ prsL ss ds, 0 ≤ p.1 ∧ p.1 < m ∧ 0 ≤ p.2 ∧ p.2 ≤ 1000 := fun p hp => by
  have hp : (p.1, p.2) ∈ ds.zip (ss.map (·.2)) := hp
  have h1 := List.of_mem_zip hp
  have := ok.ball _ h1.1
  obtain ⟨s, hs, e⟩ := List.mem_map.mp h1.2
  have h2 := ok.lo s hs
  rw [e] at h2
  omega
theorem prs_snd {m : Int} {ss : List (Int × Int)} {ds : List Int} (ok : DrwOk m ss ds) : (prsL ss ds).map (·.2) = ss.map (·.2) := by
  unfold prsL
  rw [List.map_snd_zip (by rw [List.length_map, ok.len]; exact Nat.le_refl _)]
theorem drawn_eq {ss : List (Int × Int)} {ds acc : List Int} (ok : DrwOk acc.length ss ds) : addL acc.length (acc.map fun x => x - (ss.map (·.2)).sum) (prsL ss ds) = drawnL ss ds acc := by
  apply List.ext_getElem
  · rw [addL_len, List.length_map]; simp [drawnL]
  · intro j h1 h2
    have hj : j < acc.length := by rw [addL_len, List.length_map] at h1; exact h1
    have e1 : (addL acc.length (acc.map fun x => x - (ss.map (·.2)).sum) (prsL ss ds))[j] = (addL acc.length (acc.map fun x => x - (ss.map (·.2)).sum) (prsL ss ds)).getD j 0 := by
      rw [List.getD_eq_getElem?_getD, List.getElem?_eq_getElem h1]; rfl
    rw [e1, addL_at _ _ _ _ (by rw [List.length_map]; exact hj) fun p hp => (prs_ball ok p hp).1, mapD (d := 0) hj]
    have e2 : (drawnL ss ds acc)[j]'h2 = dueAt acc.length (prsL ss ds) (acc.getD j 0) (j : Int) := by simp [drawnL]
    rw [e2, due_eq, prs_snd ok]
theorem sum_minus (c : Int) : ∀ xs : List Int, (xs.map fun x => x - c).sum = xs.sum - xs.length * c
  | [] => by simp
  | x :: xs => by
    rw [List.map_cons, List.sum_cons, List.sum_cons, List.length_cons, sum_minus c xs]
    push_cast
    rw [Int.add_mul, Int.one_mul]; omega
theorem drawn_sum {ss : List (Int × Int)} {ds acc : List Int} (ok : DrwOk acc.length ss ds) (h : acc.sum = 0) : (drawnL ss ds acc).sum = 0 := by
  rw [← drawn_eq ok, addL_sum _ _ _ fun p hp => by have := prs_ball ok p hp; rw [List.length_map]; omega, sum_minus, prs_snd ok, h]
  omega
theorem worth_b {m : Int} {ss : List (Int × Int)} {ds : List Int} (ok : DrwOk m ss ds) : 0 ≤ (ss.map (·.2)).sum ∧ (ss.map (·.2)).sum ≤ 16000 := by
  have key : ∀ ss : List (Int × Int), (∀ s ∈ ss, 0 ≤ s.2 ∧ s.2 ≤ 1000) → 0 ≤ (ss.map (·.2)).sum ∧ (ss.map (·.2)).sum ≤ 1000 * ss.length := by
    intro ss
    induction ss with
    | nil => intro _; simp
    | cons s ss ih =>
      intro h
      have h1 := h s (List.mem_cons_self ..)
      have h2 := ih fun x hx => h x (List.mem_cons_of_mem _ hx)
      rw [List.map_cons, List.sum_cons, List.length_cons]
      push_cast; omega
  have := key ss fun s hs => (ok.lo s hs).2.2
  have h1 := ok.len
  have h2 := ok.few
  omega
theorem gets_b {n j : Int} (hn : 0 ≤ n) (hn2 : n ≤ 16) : ∀ L : List (Int × Int), (∀ p ∈ L, 0 ≤ p.2 ∧ p.2 ≤ 1000) → 0 ≤ getsL n L j ∧ getsL n L j ≤ 16000 * L.length
  | [], _ => by simp [getsL]
  | p :: L, h => by
    have h1 := h p (List.mem_cons_self ..)
    have h2 := gets_b (j := j) hn hn2 L fun x hx => h x (List.mem_cons_of_mem _ hx)
    have h3 : 0 ≤ n * p.2 := Int.mul_nonneg hn h1.1
    have h4 : n * p.2 ≤ 16 * 1000 := Int.mul_le_mul hn2 h1.2 h1.1 (by decide)
    unfold getsL at *
    rw [List.map_cons, List.sum_cons, List.length_cons]
    push_cast
    split <;> omega
theorem drawn_b {ss : List (Int × Int)} {ds acc : List Int} (ok : DrwOk acc.length ss ds) (oa : AccOk acc) : ∀ x ∈ drawnL ss ds acc, x.natAbs < 2 ^ 40 := fun x hx => by
  unfold drawnL at hx
  obtain ⟨j, hj, rfl⟩ := List.mem_map.mp hx
  have hj := List.mem_range.mp hj
  have h1 := oa.low _ (getD_mem (d := 0) hj)
  have h2 := worth_b ok
  have few := oa.few
  have h3 := gets_b (n := acc.length) (j := (j : Int)) (by omega) (by omega) (prsL ss ds) fun p hp => (prs_ball ok p hp).2.2
  rw [prs_len ok] at h3
  have h4 := ok.few
  rw [due_eq, prs_snd ok]
  omega
abbrev Drw := List (Int × Int) × List Int
def pW (p : Drw) : W := .tup [.tup (p.1.map pairW), .tup (List.map W.int p.2)]
def dueOne (n : Int) (p : Drw) (b : Int) : Int := getsL n (prsL p.1 p.2) b - (p.1.map (·.2)).sum
def duesOf (n : Int) (pp : List Drw) (b : Int) : Int := (pp.map fun p => dueOne n p b).sum
theorem dues_snoc (n : Int) (pp : List Drw) (p : Drw) (b : Int) : duesOf n (pp ++ [p]) b = duesOf n pp b + dueOne n p b := by
  unfold duesOf
  rw [List.map_append, List.sum_append, List.map_cons, List.map_nil, List.sum_cons, List.sum_nil, Int.add_zero]
theorem gets_snoc (n : Int) (L : List (Int × Int)) (p : Int × Int) (b : Int) : getsL n (L ++ [p]) b = getsL n L b + (if p.1 = b then n * p.2 else 0) := by
  unfold getsL
  rw [List.map_append, List.sum_append, List.map_cons, List.map_nil, List.sum_cons, List.sum_nil, Int.add_zero]
end Dp
/-! draws, accounts, payments: more plain laws; the promises -/
namespace Dp
open PySem PySem.Spec L2
open PyProof.Rows hiding St

def pIsAcc : Pm := fun ws S Kk Ek => ∃ xs : List Int, ws = [.tup (xs.map W.int)] ∧ 1 ≤ xs.length ∧ xs.length ≤ 16 ∧ xs.sum = 0 ∧ Kk (.bl true) S
def pDrawn : Pm := fun ws S Kk Ek => ∃ (ss : List (Int × Int)) (ds acc : List Int), ws = [.tup (ss.map pairW), .tup (ds.map W.int), .tup (acc.map W.int)] ∧ AccOk acc ∧ DrwOk acc.length ss ds ∧ Kk (.tup ((drawnL ss ds acc).map W.int)) S
abbrev toldW (xs : List Int) : W := .tup [.tup ((payL xs).map W.int), .tup ((leftL xs).map W.int)]
def pPaid : Pm := fun ws S Kk Ek => ∃ xs : List Int, ws = [.tup (xs.map W.int)] ∧ AccOk xs ∧ Kk (toldW xs) S
def pDues : Pm := fun ws S Kk Ek => ∃ (n : Int) (pp : List Drw) (b : Int), ws = [.int n, .tup (pp.map pW), .int b] ∧ 0 ≤ n ∧ n ≤ 16 ∧ pp.length ≤ 1000 ∧ (∀ p ∈ pp, DrwOk n p.1 p.2) ∧ Kk (.int (duesOf n pp b)) S
def pOrder : Pm := fun ws S Kk Ek => ∃ (α : Type) (as : List α) (e : α → W) (d : α) (f : Addr) (n : Nat), ws = [.ref f, .lst (as.map e)] ∧ S f = some (.fd .d4 n) ∧ n < 900000 ∧ as.length ≤ 24 ∧ ∀ bs : List α, bs.Perm as → Kk (.lst (bs.map e)) (S.put f (.fd .d4 (n + 24)))
def pDrawing : Pm := fun ws S Kk Ek => ∃ (f : Addr) (n : Nat) (m : Int), ws = [.ref f, .int m] ∧ 1 ≤ m ∧ m ≤ 16 ∧ S f = some (.fd .d4 n) ∧ n < 800000 ∧ ∀ p : Drw, DrwOk m p.1 p.2 → Kk (pW p) (S.put f (.fd .d4 (n + 60)))
def pLaw : Pm := fun ws S Kk Ek => ∃ (z : W) (ns : List Int), ws = [z] ∧ (z = .lst (ns.map W.int) ∨ z = .kls (ns.map W.int)) ∧ ns.length ≤ 63 ∧ ∀ S', Kk (.bl true) S'
theorem drawn_len (ss : List (Int × Int)) (ds acc : List Int) : (drawnL ss ds acc).length = acc.length := by simp [drawnL]
theorem drawn_at {ss : List (Int × Int)} {ds acc : List Int} {m : Int} (ok : DrwOk m ss ds) {b : Nat} (hb : b < acc.length) : (drawnL ss ds acc).getD b 0 = acc.getD b 0 + dueOne acc.length (ss, ds) b := by
  have e : (drawnL ss ds acc).getD b 0 = dueAt acc.length (prsL ss ds) (acc.getD b 0) (b : Int) := by
    rw [List.getD_eq_getElem?_getD, List.getElem?_eq_getElem (by rw [drawn_len]; exact hb)]; simp [drawnL]
  rw [e, due_eq, prs_snd ok]
  show _ = acc.getD b 0 + (getsL acc.length (prsL ss ds) b - (ss.map (·.2)).sum)
  omega
theorem dueOne_b {n : Int} (hn : 0 ≤ n) (hn2 : n ≤ 16) {p : Drw} (ok : DrwOk n p.1 p.2) (b : Int) : (dueOne n p b).natAbs ≤ 272000 := by
  have h2 := worth_b ok
  have h3 := gets_b (n := n) (j := b) hn hn2 (prsL p.1 p.2) fun q hq => (prs_ball ok q hq).2.2
  rw [prs_len ok] at h3
  have h4 := ok.few
  unfold dueOne
  omega
theorem dues_b {n : Int} (hn : 0 ≤ n) (hn2 : n ≤ 16) (b : Int) : ∀ pp : List Drw, (∀ p ∈ pp, DrwOk n p.1 p.2) → (duesOf n pp b).natAbs ≤ 272000 * pp.length
  | [], _ => by simp [duesOf]
  | p :: pp, h => by
    have h1 := dueOne_b hn hn2 (h p (List.mem_cons_self ..)) b
    have h2 := dues_b hn hn2 b pp fun x hx => h x (List.mem_cons_of_mem _ hx)
    unfold duesOf at *
    rw [List.map_cons, List.sum_cons, List.length_cons]
    omega
theorem dues_perm {n : Int} {pp qq : List Drw} (h : pp.Perm qq) (b : Int) : duesOf n pp b = duesOf n qq b := perm_sum (h.map _)
theorem left_len (xs : List Int) : (leftL xs).length = xs.length := by simp [leftL]
theorem left_at {xs : List Int} {b : Nat} (h : b < xs.length) : (leftL xs).getD b 0 = xs.getD b 0 - (xs.length : Int) * (payL xs).getD b 0 := by
  rw [List.getD_eq_getElem?_getD, List.getElem?_eq_getElem (by rw [left_len]; exact h)]; simp [leftL]
theorem paid_told {xs : List Int} (ok : AccOk xs) : paidJ xs (.tuple [.tuple ((payL xs).map PyData.int), .tuple ((leftL xs).map PyData.int)]) = .ok (((leftL xs).map fun x => (x.natAbs : Int)).foldr max 0) :=
  paid_right (pay_len xs) (left_len xs) (fun b h => left_at h) (left_ok ok (pay_sum ok)).2.1 (pay_sum ok)
theorem erase_perm {α : Type} : ∀ (us : List α) (k : Nat) (h : k < us.length), (us[k] :: us.eraseIdx k).Perm us
  | [], _, h => absurd h (Nat.not_lt_zero _)
  | _ :: _, 0, _ => .refl _
  | u :: us, k + 1, h => by
    have ih := erase_perm us k (by simpa using h)
    show (us[k]'(by simpa using h) :: u :: us.eraseIdx k).Perm (u :: us)
    exact (List.Perm.swap ..).trans (ih.cons u)
theorem drawn_ok {ss : List (Int × Int)} {ds acc : List Int} {B : Nat} (ok : DrwOk acc.length ss ds) (oa : AccOk acc) (hb : ∀ x ∈ acc, x.natAbs ≤ B) (hB : B ≤ 2000000000) : AccOk (drawnL ss ds acc) ∧ ∀ x ∈ drawnL ss ds acc, x.natAbs ≤ B + 272000 := by
  have one := oa.one
  have few := oa.few
  have key : ∀ x ∈ drawnL ss ds acc, x.natAbs ≤ B + 272000 := fun x hx => by
    obtain ⟨i, hi, e⟩ := List.getElem_of_mem hx
    have hi2 : i < acc.length := by rw [drawn_len] at hi; exact hi
    have e2 : (drawnL ss ds acc).getD i 0 = x := by rw [List.getD_eq_getElem?_getD, List.getElem?_eq_getElem hi]; exact e
    have h1 := hb _ (getD_mem (d := 0) hi2)
    have h2 := dueOne_b (n := acc.length) (p := (ss, ds)) (by omega) (by omega) ok (i : Int)
    rw [← e2, drawn_at ok hi2]
    omega
  exact ⟨⟨by rw [drawn_len]; exact one, by rw [drawn_len]; exact few, drawn_sum ok oa.nul, fun x hx => by have := key x hx; omega⟩, key⟩
theorem pay_mem {xs : List Int} (ok : AccOk xs) : ∀ x ∈ payL xs, x.natAbs < 2 ^ 33 := fun x hx => by
  obtain ⟨i, hi, e⟩ := List.getElem_of_mem hx
  have := pay_b ok i
  rw [List.getD_eq_getElem?_getD, List.getElem?_eq_getElem hi] at this
  have this : ((payL xs)[i]).natAbs < 2 ^ 33 := this
  rw [e] at this; exact this
abbrev toldD (xs : List Int) : PyData := .tuple [.tuple ((payL xs).map PyData.int), .tuple ((leftL xs).map PyData.int)]
theorem da_told (xs : List Int) : Da (toldW xs) (toldD xs) := .tup (.cons (da_ints _) (.cons (da_ints _) .nil))
theorem fd_told {xs : List Int} (ok : AccOk xs) : FinD 2 2000 (toldD xs) := by
  have few := ok.few
  have l1 := pay_len xs
  have l2 := left_len xs
  have hl : ∀ x ∈ leftL xs, x.natAbs < 2 ^ 33 := fun x hx => by have := (left_ok ok (pay_sum ok)).2.1 x hx; omega
  have row : ∀ ys : List Int, ys.length = xs.length → (∀ y ∈ ys, y.natAbs < 2 ^ 33) → FinD 1 544 (.tuple (ys.map PyData.int)) := fun ys l h => by
    have := Nat.mul_le_mul_left (33 + 1) (show ys.length ≤ 16 by omega)
    exact (fd_tup (fd_ints h (by decide) (by decide)) (by decide) (by rw [List.length_map]; omega)).mono (by decide) (by rw [List.length_map]; omega)
  exact (fd_tup (k := 1) (B := 544) (ds := [.tuple ((payL xs).map PyData.int), .tuple ((leftL xs).map PyData.int)]) (fun d hd => by
    simp only [List.mem_cons, List.not_mem_nil, or_false] at hd
    rcases hd with rfl | rfl
    · exact row _ l1 (pay_mem ok)
    · exact row _ l2 hl) (by decide) (Nat.le_of_ble_eq_true rfl)).mono (by decide) (Nat.le_of_ble_eq_true rfl)
/-- the greatest rest -/
theorem left_top {xs : List Int} (ok : AccOk xs) : FinD 0 20 (.int (((leftL xs).map fun x => (x.natAbs : Int)).foldr max 0)) := by
  have few := ok.few
  have one := ok.one
  have := max_low (N := 20) (by decide) ((leftL xs).map fun x => (x.natAbs : Int)) fun v hv => by
    obtain ⟨x, hx, rfl⟩ := List.mem_map.mp hv
    have := (left_ok ok (pay_sum ok)).2.1 x hx
    omega
  exact (fd_int (b := 10) (by omega) (by decide) (by decide)).mono (by decide) (by decide)
end Dp
namespace Dp
open PySem PySem.Spec L2
open PyProof.Rows hiding St

/-! rows of payments -/
abbrev Rw3 := Nat × Nat × Int
def moveL (l : List Int) : List Rw3 → List Int
  | [] => l
  | (p, g, x) :: r => moveL ((l.set p (l.getD p 0 - x)).set g ((l.set p (l.getD p 0 - x)).getD g 0 + x)) r
theorem moveL_len : ∀ (r : List Rw3) (l : List Int), (moveL l r).length = l.length
  | [], _ => rfl
  | (p, g, x) :: r, l => by show (moveL _ r).length = _; rw [moveL_len r, List.length_set, List.length_set]
theorem moveL_snoc : ∀ (r : List Rw3) (l : List Int) (p g : Nat) (x : Int), moveL l (r ++ [(p, g, x)]) = ((moveL l r).set p ((moveL l r).getD p 0 - x)).set g (((moveL l r).set p ((moveL l r).getD p 0 - x)).getD g 0 + x)
  | [], _, _, _, _ => rfl
  | (_, _, _) :: r, _, p, g, x => moveL_snoc r _ p g x
theorem set_getD {l : List Int} {i b : Nat} {v : Int} (h : i < l.length) : (l.set i v).getD b 0 = if b = i then v else l.getD b 0 := by
  rw [List.getD_eq_getElem?_getD]
  by_cases e : b = i
  · subst e; rw [List.getElem?_set_self h, if_pos rfl]; rfl
  · rw [List.getElem?_set_ne (fun z => e z.symm), if_neg e, ← List.getD_eq_getElem?_getD]
structure RowOk (ps : List Int) (r : Rw3) : Prop where
  p : r.1 < ps.length
  g : r.2.1 < ps.length
  pp : 0 < ps.getD r.1 0
  gg : ps.getD r.2.1 0 < 0
  x : 0 < r.2.2
def nzN (ps : List Int) : Nat := (ps.filter fun x => !decide (x = 0)).length
structure RowsOk (ps : List Int) (rs : List Rw3) : Prop where
  ok : ∀ r ∈ rs, RowOk ps r
  end_ : ∀ b, b < ps.length → (moveL ps rs).getD b 0 = 0
  few : rs = [] ∨ rs.length + 1 ≤ nzN ps
def upN (l : List Int) : List Nat := (List.range l.length).filter fun b => decide (0 < l.getD b 0)
def dnN (l : List Int) : List Nat := (List.range l.length).filter fun b => decide (l.getD b 0 < 0)
theorem mem_up {l : List Int} {b : Nat} : b ∈ upN l ↔ b < l.length ∧ 0 < l.getD b 0 := by simp [upN]
theorem mem_dn {l : List Int} {b : Nat} : b ∈ dnN l ↔ b < l.length ∧ l.getD b 0 < 0 := by simp [dnN]
theorem filter_rangeB (q : Int → Bool) (l : List Int) : ((List.range l.length).filter fun i => q (l.getD i 0)).length = (l.filter q).length := by
  have h := congrArg (fun m => (m.filter q).length) (range_get 0 l)
  simp only [List.filter_map, List.length_map] at h
  exact h
theorem up_dn_len (l : List Int) : (upN l).length + (dnN l).length = nzN l := by
  unfold upN dnN nzN
  rw [filter_rangeB (fun x => decide (0 < x)) l, filter_rangeB (fun x => decide (x < 0)) l]
  induction l with
  | nil => rfl
  | cons a l ih =>
    rw [List.filter_cons, List.filter_cons, List.filter_cons]
    rcases Int.lt_trichotomy a 0 with h | h | h
    · rw [if_neg (by simp; omega), if_pos (decide_eq_true h), if_pos (by simp; omega), List.length_cons, List.length_cons]; omega
    · rw [if_neg (by simp; omega), if_neg (by simp; omega), if_neg (by simp; omega)]; exact ih
    · rw [if_pos (decide_eq_true h), if_neg (by simp; omega), if_pos (by simp; omega), List.length_cons, List.length_cons]; omega
theorem neg_sum (l : List Int) : (l.map fun x => -x).sum = - l.sum := by
  induction l with
  | nil => rfl
  | cons a l ih => rw [List.map_cons, List.sum_cons, List.sum_cons, ih]; omega
theorem all_le (l : List Int) (h : ∀ b, b < l.length → 0 ≤ l.getD b 0) (s : l.sum = 0) : ∀ b, b < l.length → l.getD b 0 = 0 := fun b hb => by
  have h' : ∀ r ∈ l, 0 ≤ r := fun r hr => by
    obtain ⟨i, hi, e⟩ := List.getElem_of_mem hr
    have := h i hi
    rw [List.getD_eq_getElem?_getD, List.getElem?_eq_getElem hi] at this
    rw [← e]; exact this
  have h1 := (le_sum h').2 _ (getD_mem (d := 0) hb)
  have h2 := h b hb
  omega
/-- no payer: no getter; a payer: a getter -/
theorem up_nil {l : List Int} (s : l.sum = 0) (h : upN l = []) : ∀ b, b < l.length → l.getD b 0 = 0 := fun b hb => by
  have k := all_le (l.map fun x => -x) (fun c hc => by
    rw [List.length_map] at hc
    rw [mapD (d := 0) hc]
    rcases Int.lt_or_le 0 (l.getD c 0) with z | z
    · have : c ∈ upN l := mem_up.mpr ⟨hc, z⟩
      rw [h] at this; cases this
    · omega) (by rw [neg_sum]; omega) b (by rw [List.length_map]; exact hb)
  rw [mapD (d := 0) hb] at k
  omega
theorem dn_nil {l : List Int} (s : l.sum = 0) (h : dnN l = []) : upN l = [] := by
  have k := all_le l (fun c hc => by
    rcases Int.lt_or_le (l.getD c 0) 0 with z | z
    · have : c ∈ dnN l := mem_dn.mpr ⟨hc, z⟩
      rw [h] at this; cases this
    · exact z) s
  rw [List.eq_nil_iff_forall_not_mem]
  intro b hb
  obtain ⟨h1, h2⟩ := mem_up.mp hb
  have := k b h1
  omega
/-- one step -/
structure Pst (ps l : List Int) (rs : List Rw3) (P G : List Nat) : Prop where
  len : l.length = ps.length
  sum : l.sum = 0
  mv : moveL ps rs = l
  ok : ∀ r ∈ rs, RowOk ps r
  up : ∀ b, b < l.length → 0 < l.getD b 0 → 0 < ps.getD b 0
  dn : ∀ b, b < l.length → l.getD b 0 < 0 → ps.getD b 0 < 0
  mp : ∀ b, b ∈ P ↔ b < l.length ∧ 0 < l.getD b 0
  mg : ∀ b, b ∈ G ↔ b < l.length ∧ l.getD b 0 < 0
  few : rs.length + (P.length + G.length) ≤ nzN ps
  last : P = [] → rs = [] ∨ rs.length + 1 ≤ nzN ps
theorem pst_start {ps : List Int} (s : ps.sum = 0) : Pst ps ps [] (upN ps) (dnN ps) :=
  ⟨rfl, s, rfl, none_in, fun _ _ h => h, fun _ _ h => h, fun _ => mem_up, fun _ => mem_dn, by rw [up_dn_len]; simp, fun _ => .inl rfl⟩
theorem pst_nil {l : List Int} {P : List Nat} (s : l.sum = 0) (mp : ∀ b, b ∈ P ↔ b < l.length ∧ 0 < l.getD b 0) (h : P = []) : ∀ b, b < l.length → l.getD b 0 = 0 :=
  up_nil s (List.eq_nil_iff_forall_not_mem.mpr fun b hb => by have := (mp b).mpr (mem_up.mp hb); rw [h] at this; cases this)
theorem pst_get {ps l : List Int} {rs : List Rw3} {P G : List Nat} (st : Pst ps l rs P G) (h : P ≠ []) : G ≠ [] := fun e => by
  have : dnN l = [] := List.eq_nil_iff_forall_not_mem.mpr fun b hb => by have := (st.mg b).mpr (mem_dn.mp hb); rw [e] at this; cases this
  have h2 := dn_nil st.sum this
  apply h
  rw [List.eq_nil_iff_forall_not_mem]
  intro b hb
  have := mem_up.mpr ((st.mp b).mp hb)
  rw [h2] at this; cases this
theorem filter_less {α : Type} {q : α → Bool} {l : List α} {a : α} (h : a ∈ l) (hq : q a = false) : (l.filter q).length < l.length := by
  induction l with
  | nil => cases h
  | cons b l ih =>
    rw [List.filter_cons]
    rcases List.mem_cons.mp h with rfl | h
    · rw [if_neg (by rw [hq]; decide), List.length_cons]
      have := List.length_filter_le q l
      omega
    · split
      · rw [List.length_cons, List.length_cons]; have := ih h; omega
      · rw [List.length_cons]; have := ih h; omega
theorem pst_step {ps l : List Int} {rs : List Rw3} {p g : Nat} {P G : List Nat} {x : Int} (st : Pst ps l rs (p :: P) (g :: G)) (hx : x = min (l.getD p 0) (0 - l.getD g 0)) {l' : List Int} (hl' : l' = (l.set p (l.getD p 0 - x)).set g ((l.set p (l.getD p 0 - x)).getD g 0 + x)) :
    Pst ps l' (rs ++ [(p, g, x)]) ((p :: P).filter fun b => decide (0 < l'.getD b 0)) ((g :: G).filter fun b => decide (l'.getD b 0 < 0)) ∧ ((p :: P).filter fun b => decide (0 < l'.getD b 0)).length + ((g :: G).filter fun b => decide (l'.getD b 0 < 0)).length < (p :: P).length + (g :: G).length := by
  obtain ⟨p1, p2⟩ := (st.mp p).mp (List.mem_cons_self ..)
  obtain ⟨g1, g2⟩ := (st.mg g).mp (List.mem_cons_self ..)
  have pg : g ≠ p := fun e => by rw [e] at g2; omega
  have x0 : 0 < x := by omega
  have at_ : ∀ b, l'.getD b 0 = if b = g then l.getD g 0 + x else if b = p then l.getD p 0 - x else l.getD b 0 := fun b => by
    rw [hl', set_getD (by rw [List.length_set]; exact g1)]
    by_cases e : b = g
    · rw [if_pos e, if_pos e, set_getD p1, if_neg pg]
    · rw [if_neg e, if_neg e, set_getD p1]
  have len' : l'.length = l.length := by rw [hl', List.length_set, List.length_set]
  have sum' : l'.sum = 0 := by
    rw [hl', sum_set _ g _ _ (get_some (d := 0) (by rw [List.length_set]; exact g1)), sum_set l p _ _ (get_some (d := 0) p1), st.sum]
    omega
  have mp' : ∀ b, b ∈ ((p :: P).filter fun b => decide (0 < l'.getD b 0)) ↔ b < l'.length ∧ 0 < l'.getD b 0 := fun b => by
    rw [List.mem_filter, decide_eq_true_eq, st.mp b, len']
    constructor
    · rintro ⟨⟨h1, _⟩, h2⟩; exact ⟨h1, h2⟩
    · rintro ⟨h1, h2⟩
      refine ⟨⟨h1, ?_⟩, h2⟩
      rw [at_] at h2
      split at h2
      · omega
      · split at h2
        · rename_i e; rw [e]; exact p2
        · exact h2
  have mg' : ∀ b, b ∈ ((g :: G).filter fun b => decide (l'.getD b 0 < 0)) ↔ b < l'.length ∧ l'.getD b 0 < 0 := fun b => by
    rw [List.mem_filter, decide_eq_true_eq, st.mg b, len']
    constructor
    · rintro ⟨⟨h1, _⟩, h2⟩; exact ⟨h1, h2⟩
    · rintro ⟨h1, h2⟩
      refine ⟨⟨h1, ?_⟩, h2⟩
      rw [at_] at h2
      split at h2
      · rename_i e; rw [e]; exact g2
      · split at h2
        · omega
        · exact h2
  have less : ((p :: P).filter fun b => decide (0 < l'.getD b 0)).length + ((g :: G).filter fun b => decide (l'.getD b 0 < 0)).length < (p :: P).length + (g :: G).length := by
    have a1 := List.length_filter_le (fun b => decide (0 < l'.getD b 0)) (p :: P)
    have a2 := List.length_filter_le (fun b => decide (l'.getD b 0 < 0)) (g :: G)
    rcases Int.lt_or_le (l.getD p 0) (0 - l.getD g 0) with h | h
    · have := filter_less (q := fun b => decide (0 < l'.getD b 0)) (List.mem_cons_self (a := p) (l := P)) (by rw [at_, if_neg (Ne.symm pg), if_pos rfl]; exact decide_eq_false (by omega))
      omega
    · have := filter_less (q := fun b => decide (l'.getD b 0 < 0)) (List.mem_cons_self (a := g) (l := G)) (by rw [at_, if_pos rfl]; exact decide_eq_false (by omega))
      omega
  have few := st.few
  refine ⟨⟨by rw [len', st.len], sum', by rw [moveL_snoc, st.mv, hl'], fun r hr => ?_, fun b hb h => ?_, fun b hb h => ?_, mp', mg', ?_, fun h => .inr ?_⟩, less⟩
  · rcases List.mem_append.mp hr with hr | hr
    · exact st.ok r hr
    · rw [List.mem_singleton.mp hr]
      exact ⟨by rw [← st.len]; exact p1, by rw [← st.len]; exact g1, st.up p p1 p2, st.dn g g1 g2, x0⟩
  · rw [len'] at hb
    rw [at_] at h
    split at h
    · omega
    · split at h
      · rename_i e; rw [e]; exact st.up p p1 p2
      · exact st.up b hb h
  · rw [len'] at hb
    rw [at_] at h
    split at h
    · rename_i e; rw [e]; exact st.dn g g1 g2
    · split at h
      · omega
      · exact st.dn b hb h
  · rw [List.length_append, List.length_singleton]; omega
  · have z := pst_nil sum' mp' h
    have e : ((g :: G).filter fun b => decide (l'.getD b 0 < 0)) = [] := List.eq_nil_iff_forall_not_mem.mpr fun b hb => by
      obtain ⟨h1, h2⟩ := (mg' b).mp hb
      have := z b h1
      omega
    rw [List.length_append, List.length_singleton]
    rw [List.length_cons, List.length_cons] at few
    omega
theorem pst_end {ps l : List Int} {rs : List Rw3} {G : List Nat} (st : Pst ps l rs [] G) : RowsOk ps rs :=
  ⟨st.ok, fun b hb => by rw [st.mv]; exact pst_nil st.sum st.mp rfl b (by rw [st.len]; exact hb), st.last rfl⟩
theorem enu_range (l : List Int) : l.zipIdx 0 = (List.range l.length).map fun i => (l.getD i 0, i) := by
  apply List.ext_getElem
  · simp
  · intro i h1 h2
    have hi : i < l.length := by simpa using h1
    simp only [List.getElem_map, List.getElem_zipIdx, List.getElem_range]
    rw [List.getD_eq_getElem?_getD, List.getElem?_eq_getElem hi]; simp
theorem enu_r (l : List Int) : enuW 0 (l.map W.int) = (List.range l.length).map fun i => .tup [.int (i : Nat), .int (l.getD i 0)] := by
  rw [enu_map, enu_range, List.map_map]; rfl
abbrev natW (b : Nat) : W := .int (b : Nat)
abbrev rowW (r : Rw3) : W := .tup [.int (r.1 : Nat), .int (r.2.1 : Nat), .int r.2.2]
def pPayRows : Pm := fun ws S Kk Ek => ∃ ps : List Int, ws = [.tup (ps.map W.int)] ∧ ps.sum = 0 ∧ ps.length ≤ 16 ∧ ∀ rs, RowsOk ps rs → rs.length ≤ 16 → Kk (.tup (rs.map rowW)) S
def pIsRow : Pm := fun ws S Kk Ek => ∃ (n : Nat) (r : Rw3), ws = [.int (n : Nat), rowW r] ∧ r.1 < n ∧ r.2.1 < n ∧ 0 < r.2.2 ∧ Kk (.bl true) S
def pLetsRows : Pm := fun ws S Kk Ek => ∃ (ps : List Int) (rs : List Rw3), ws = [.tup (ps.map W.int), .tup (rs.map rowW)] ∧ ps.length ≤ 16 ∧ rs.length ≤ 16 ∧ RowsOk ps rs ∧ Kk (.int (rs.length : Nat)) S
end Dp
namespace Dp
open PySem PySem.Spec L2
open PyProof.Rows hiding St

/-! papers that are right -/
structure PapOk (acc ps ls : List Int) : Prop where
  lp : ps.length = acc.length
  ll : ls.length = acc.length
  at_ : ∀ b, b < acc.length → ls.getD b 0 = acc.getD b 0 - acc.length * ps.getD b 0
  low : ∀ x ∈ ls, x.natAbs < acc.length
  s0 : ps.sum = 0
  ls0 : ls.sum = 0
  big : ∀ x ∈ ps, x.natAbs < 2 ^ 34
theorem pap_paid {xs : List Int} (ok : AccOk xs) : PapOk xs (payL xs) (leftL xs) :=
  ⟨pay_len xs, left_len xs, fun b h => left_at h, (left_ok ok (pay_sum ok)).2.1, pay_sum ok, (left_ok ok (pay_sum ok)).1, fun x hx => Nat.lt_trans (pay_mem ok x hx) (by decide)⟩
theorem PapOk.acc {acc ps ls : List Int} (ok : AccOk acc) (h : PapOk acc ps ls) : AccOk ls := by
  have one := ok.one
  have few := ok.few
  have ll := h.ll
  exact ⟨by omega, by omega, h.ls0, fun x hx => by have := h.low x hx; omega⟩
abbrev papW (ps ls : List Int) : W := .tup [.tup (ps.map W.int), .tup (ls.map W.int)]
abbrev papD (ps ls : List Int) : PyData := .tuple [.tuple (ps.map PyData.int), .tuple (ls.map PyData.int)]
theorem da_pap (ps ls : List Int) : Da (papW ps ls) (papD ps ls) := .tup (.cons (da_ints _) (.cons (da_ints _) .nil))
theorem fd_rowI {xs : List Int} (l : xs.length ≤ 16) (h : ∀ y ∈ xs, y.natAbs < 2 ^ 40) : FinD 1 656 (.tuple (xs.map PyData.int)) := by
  have := Nat.mul_le_mul_left (40 + 1) l
  exact (fd_tup (fd_ints h (by decide) (by decide)) (by decide) (by rw [List.length_map]; omega)).mono (by decide) (by rw [List.length_map]; omega)
theorem fd_pap {acc ps ls : List Int} (ok : AccOk acc) (h : PapOk acc ps ls) : FinD 2 2000 (papD ps ls) := by
  have few := ok.few
  have l1 := h.lp
  have l2 := h.ll
  exact (fd_tup (k := 1) (B := 656) (ds := [.tuple (ps.map PyData.int), .tuple (ls.map PyData.int)]) (fun d hd => by
    simp only [List.mem_cons, List.not_mem_nil, or_false] at hd
    rcases hd with rfl | rfl
    · exact fd_rowI (by omega) fun y hy => Nat.lt_trans (h.big y hy) (by decide)
    · exact fd_rowI (by omega) fun y hy => by have := h.low y hy; omega) (by decide) (Nat.le_of_ble_eq_true rfl)).mono (by decide) (Nat.le_of_ble_eq_true rfl)
abbrev topI (ls : List Int) : Int := (ls.map fun x => (x.natAbs : Int)).foldr max 0
theorem pap_top {acc ps ls : List Int} (ok : AccOk acc) (h : PapOk acc ps ls) : FinD 0 20 (.int (topI ls)) := by
  have few := ok.few
  have one := ok.one
  have := max_low (N := 20) (by decide) (ls.map fun x => (x.natAbs : Int)) fun v hv => by
    obtain ⟨x, hx, rfl⟩ := List.mem_map.mp hv
    have := h.low x hx
    omega
  have this : topI ls < 20 ∧ 0 ≤ topI ls := this
  exact (fd_int (b := 10) (by omega) (by decide) (by decide)).mono (by decide) (by decide)
theorem pap_told {acc ps ls : List Int} (h : PapOk acc ps ls) : paidJ acc (papD ps ls) = .ok (topI ls) := paid_right h.lp h.ll h.at_ h.low h.s0
def someB (m : Int) (x : Int) : Bool := decide (0 < x % m)
theorem few_some {m : Int} (m1 : 1 ≤ m) : ∀ acc : List Int, acc.sum = m * (acc.map fun x => x / m).sum + (acc.map fun x => x % m).sum ∧ (acc.map fun x => x % m).sum ≤ (m - 1) * (acc.filter (someB m)).length
  | [] => ⟨by simp, by simp⟩
  | a :: acc => by
    obtain ⟨h1, h2⟩ := few_some m1 acc
    have e := Int.mul_ediv_add_emod a m
    have lt := Int.emod_lt_of_pos a (show 0 < m by omega)
    have ge := Int.emod_nonneg a (show m ≠ 0 by omega)
    refine ⟨by rw [List.sum_cons, List.map_cons, List.sum_cons, List.map_cons, List.sum_cons, Int.mul_add]; omega, ?_⟩
    rw [List.map_cons, List.sum_cons, List.filter_cons]
    by_cases hp : someB m a = true
    · rw [if_pos hp, List.length_cons]; push_cast; rw [Int.mul_add, Int.mul_one]; omega
    · rw [if_neg hp]
      have : ¬ 0 < a % m := fun z => hp (decide_eq_true z)
      omega
theorem few_times {acc : List Int} (ok : AccOk acc) : (0 - (acc.map fun x => x / (acc.length : Int)).sum).toNat ≤ (acc.filter (someB acc.length)).length := by
  have h1 := ok.one
  obtain ⟨a, b⟩ := few_some (m := acc.length) (by omega) acc
  rw [ok.nul] at a
  have m1 : 1 ≤ (acc.length : Int) := by omega
  generalize (acc.map fun x => x / (acc.length : Int)).sum = t at *
  generalize (acc.filter (someB acc.length)).length = u at *
  generalize (acc.length : Int) = m at *
  rcases Int.lt_or_le (u : Int) (-t) with h | h
  · exfalso
    have h2 : m * (u + 1) ≤ m * (-t) := Int.mul_le_mul_of_nonneg_left (by omega) (by omega)
    rw [Int.mul_neg, Int.mul_add, Int.mul_one] at h2
    rw [Int.sub_mul, Int.one_mul] at b
    omega
  · omega
theorem zip_at {a b : List Int} {n : Int} {i : Nat} (h : i < a.length) (h' : i < b.length) : ((a.zip b).map fun p : Int × Int => p.1 - n * p.2).getD i 0 = a.getD i 0 - n * b.getD i 0 := by
  rw [List.getD_eq_getElem?_getD, List.getElem?_map, List.getElem?_eq_getElem (by rw [List.length_zip]; omega), List.getElem_zip, List.getD_eq_getElem?_getD, List.getD_eq_getElem?_getD, List.getElem?_eq_getElem h, List.getElem?_eq_getElem h']; rfl
theorem zip_sum {n : Int} : ∀ {a b : List Int}, a.length = b.length → ((a.zip b).map fun p : Int × Int => p.1 - n * p.2).sum = a.sum - n * b.sum
  | [], [], _ => by simp
  | [], _ :: _, h => by simp at h
  | _ :: _, [], h => by simp at h
  | x :: a, y :: b, h => by
    have ih := zip_sum (n := n) (a := a) (b := b) (by simpa using h)
    rw [List.zip_cons_cons, List.map_cons, List.sum_cons, List.sum_cons, List.sum_cons, ih, Int.mul_add]
    show x - n * y + _ = _
    omega
/-- a paper being made -/
structure Own (acc ps : List Int) (us : List Nat) (i N : Nat) : Prop where
  lp : ps.length = acc.length
  un : ∀ b, b ∈ us → ps.getD b 0 = acc.getD b 0 / acc.length
  or_ : ∀ b, b < acc.length → ps.getD b 0 = acc.getD b 0 / acc.length ∨ (ps.getD b 0 = acc.getD b 0 / acc.length + 1 ∧ 0 < acc.getD b 0 % acc.length)
  nd : us.Nodup
  usm : ∀ u ∈ us, u < acc.length ∧ 0 < acc.getD u 0 % acc.length
  sum : ps.sum = (acc.map fun x => x / (acc.length : Int)).sum + i
  few : us.length + i = N
theorem own_start (acc : List Int) : Own acc (acc.map fun x => x / (acc.length : Int)) ((List.range acc.length).filter fun i => someB acc.length (acc.getD i 0)) 0 ((List.range acc.length).filter fun i => someB acc.length (acc.getD i 0)).length := by
  have at_ : ∀ b, b < acc.length → (acc.map fun x => x / (acc.length : Int)).getD b 0 = acc.getD b 0 / acc.length := fun b h => mapD h
  have us : ∀ u ∈ (List.range acc.length).filter fun i => someB acc.length (acc.getD i 0), u < acc.length ∧ 0 < acc.getD u 0 % acc.length := fun u hu => by
    obtain ⟨h1, h2⟩ := List.mem_filter.mp hu
    exact ⟨List.mem_range.mp h1, of_decide_eq_true h2⟩
  exact ⟨List.length_map .., fun b hb => at_ b (us b hb).1, fun b hb => .inl (at_ b hb), List.nodup_range.filter _, us, by simp, rfl⟩
theorem own_step {acc ps : List Int} {us : List Nat} {i N k : Nat} (o : Own acc ps us i N) (hk : k < us.length) : Own acc (ps.set (us.getD k 0) (ps.getD (us.getD k 0) 0 + 1)) (us.eraseIdx k) (i + 1) N := by
  have eu : us.getD k 0 = us[k] := by rw [List.getD_eq_getElem?_getD, List.getElem?_eq_getElem hk]; rfl
  have hm : us.getD k 0 ∈ us := getD_mem hk
  obtain ⟨u1, u2⟩ := o.usm _ hm
  have nd : (us[k] :: us.eraseIdx k).Nodup := (erase_perm us k hk).nodup_iff.mpr o.nd
  rw [← eu] at nd
  have lp := o.lp
  have un := o.un _ hm
  generalize us.getD k 0 = u at *
  have ne : ∀ b ∈ us.eraseIdx k, b ≠ u := fun b hb e => by rw [e] at hb; exact (List.nodup_cons.mp nd).1 hb
  refine ⟨by rw [List.length_set]; exact lp, fun b hb => ?_, fun b hb => ?_, (List.nodup_cons.mp nd).2, fun b hb => o.usm b (mem_erase hb), ?_, ?_⟩
  · rw [set_getD (by omega), if_neg (ne b hb)]; exact o.un b (mem_erase hb)
  · rw [set_getD (by omega)]
    by_cases e : b = u
    · rw [if_pos e, e, un]; exact .inr ⟨rfl, u2⟩
    · rw [if_neg e]; exact o.or_ b hb
  · rw [sum_set ps u _ _ (get_some (d := 0) (by omega)), o.sum]; push_cast; omega
  · have := o.few
    rw [List.length_eraseIdx, if_pos hk]; omega
theorem own_end {acc ps : List Int} {us : List Nat} {i N : Nat} (ok : AccOk acc) (o : Own acc ps us i N) (hi : i = (0 - (acc.map fun x => x / (acc.length : Int)).sum).toNat) : PapOk acc ps ((acc.zip ps).map fun p => p.1 - (acc.length : Int) * p.2) := by
  have one := ok.one
  have few := ok.few
  have lp := o.lp
  have n0 : (0 : Int) < acc.length := by omega
  have s0 : ps.sum = 0 := by
    have := (lack_ok ok.one ok.nul).1
    unfold lackOf at this
    have e := o.sum
    have h2 : (acc.map (· / (acc.length : Int))).sum = (acc.map fun x => x / (acc.length : Int)).sum := rfl
    omega
  have lz : ((acc.zip ps).map fun p : Int × Int => p.1 - (acc.length : Int) * p.2).length = acc.length := by rw [List.length_map, List.length_zip]; omega
  have lo : ∀ b, b < acc.length → (ps.getD b 0).natAbs < 2 ^ 34 ∧ (acc.getD b 0 - (acc.length : Int) * ps.getD b 0).natAbs < acc.length := fun b hb => by
    have h1 := Int.mul_ediv_add_emod (acc.getD b 0) acc.length
    have h2 := Int.emod_nonneg (acc.getD b 0) (show (acc.length : Int) ≠ 0 by omega)
    have h3 := Int.emod_lt_of_pos (acc.getD b 0) n0
    have h4 := div_b (n := (acc.length : Int)) (acc_b ok b) n0
    rcases o.or_ b hb with e | ⟨e, h⟩
    · rw [e]; omega
    · rw [e, Int.mul_add, Int.mul_one]; omega
  have bp : ∀ x ∈ ps, x.natAbs < 2 ^ 34 := fun x hx => by
    obtain ⟨i, hi, e⟩ := List.getElem_of_mem hx
    have := (lo i (by omega)).1
    rw [List.getD_eq_getElem?_getD, List.getElem?_eq_getElem hi] at this
    have this : (ps[i]).natAbs < 2 ^ 34 := this
    rw [e] at this; exact this
  refine ⟨lp, lz, fun b hb => zip_at hb (by omega), fun x hx => ?_, s0, by rw [zip_sum lp.symm, ok.nul, s0]; omega, bp⟩
  obtain ⟨b, hb, e⟩ := List.getElem_of_mem hx
  have hb2 : b < acc.length := by rw [lz] at hb; exact hb
  have h1 := zip_at (a := acc) (b := ps) (n := acc.length) hb2 (by omega)
  rw [List.getD_eq_getElem?_getD, List.getElem?_eq_getElem hb] at h1
  have h1 : ((acc.zip ps).map fun p : Int × Int => p.1 - (acc.length : Int) * p.2)[b] = _ := h1
  rw [e] at h1
  rw [h1]; exact (lo b hb2).2
def pOwn : Pm := fun ws S Kk Ek => ∃ (f : Addr) (n : Nat) (acc : List Int), ws = [.ref f, .tup (acc.map W.int)] ∧ S f = some (.fd .d4 n) ∧ n < 900000 ∧ AccOk acc ∧ ∀ ps ls, PapOk acc ps ls → Kk (papW ps ls) (S.put f (.fd .d4 (n + 16)))
/-- the rows tell what was paid -/
def pRight : Pm := fun ws S Kk Ek => ∃ ps : List Int, ws = [.tup (ps.map W.int)] ∧ ps.sum = 0 ∧ ps.length ≤ 16 ∧ (∀ x ∈ ps, x.natAbs < 2 ^ 40) ∧ Kk (.bl true) S
end Dp
namespace Dp
open PySem PySem.Spec L2
open PyProof.Rows hiding St
theorem eq_ss {S : Sto} {s : Str} {K : Bool → Prop} (q : K true) : eqK S (.str s) (.str s) K := eq_s (by rw [decide_eq_true rfl]; exact q)
/-! ### fair draws -/
abbrev rowT (r : List Int) : W := .tup (r.map W.int)
def colL (rows : List (List Int)) (k : Nat) : List Int := rows.map fun row => row.getD k 0
def fairAt (n : Nat) (rows : List (List Int)) (k : Nat) : Bool := (List.range n).all fun b => decide ((colL rows k).count (b : Int) = (colL rows k).count 0)
def fairB (n few : Nat) (rows : List (List Int)) : Bool := (List.range few).all fun k => fairAt n rows k
def pAre : Pm := fun ws S Kk Ek => ∃ (n : Nat) (ss : List (Int × Int)) (rows : List (List Int)), ws = [.int n, .tup (ss.map pairW), .tup (rows.map rowT)] ∧ n ≤ 16 ∧ ss.length ≤ 16 ∧ rows.length ≤ 60 ∧ (∀ row ∈ rows, row.length = ss.length) ∧ Kk (.bl (fairB n ss.length rows)) S
def rotL (os : List Int) (t : Nat) : List Int := os.drop t ++ os.take t
theorem rot_len {os : List Int} {t : Nat} (h : t ≤ os.length) : (rotL os t).length = os.length := by
  unfold rotL
  rw [List.length_append, List.length_drop, List.length_take]; omega
theorem rot_perm (os : List Int) (t : Nat) : (rotL os t).Perm os := by
  have h := List.perm_append_comm (l₁ := os.drop t) (l₂ := os.take t)
  rw [List.take_append_drop] at h
  exact h
theorem rot_at {os : List Int} {t k : Nat} (ht : t < os.length) (hk : k < os.length) : (rotL os t).getD k 0 = os.getD (if t + k < os.length then t + k else t + k - os.length) 0 := by
  unfold rotL
  rw [List.getD_eq_getElem?_getD, List.getD_eq_getElem?_getD, List.getElem?_append]
  split
  · rename_i h
    rw [List.length_drop] at h
    rw [List.getElem?_drop, if_pos (by omega)]
  · rename_i h
    rw [List.length_drop] at h
    rw [if_neg (by omega), List.length_drop, List.getElem?_take, if_pos (by omega)]
    congr 2; omega
theorem rot_sym {os : List Int} {t k : Nat} (ht : t < os.length) (hk : k < os.length) : (rotL os t).getD k 0 = (rotL os k).getD t 0 := by
  rw [rot_at ht hk, rot_at hk ht, Nat.add_comm t k]
theorem rot_col {os : List Int} {k : Nat} (hk : k < os.length) : colL ((List.range os.length).map (rotL os)) k = rotL os k := by
  unfold colL
  rw [List.map_map]
  apply List.ext_getElem
  · rw [List.length_map, List.length_range, rot_len (by omega)]
  · intro i h1 h2
    rw [List.length_map, List.length_range] at h1
    rw [List.getElem_map, List.getElem_range]
    show (rotL os i).getD k 0 = _
    rw [rot_sym h1 hk, List.getD_eq_getElem?_getD, List.getElem?_eq_getElem h2]; rfl
theorem col_perm {xs ys : List (List Int)} (h : xs.Perm ys) (k : Nat) : (colL xs k).Perm (colL ys k) := h.map _
structure Latin (M : Nat) (rows : List (List Int)) : Prop where
  len : rows.length = M
  row : ∀ r ∈ rows, r.length = M ∧ ∀ d ∈ r, 0 ≤ d ∧ d < M
  one : ∀ k, k < M → ∀ b : Nat, b < M → (colL rows k).count (b : Int) = 1
theorem nat_count (M b : Nat) (h : b < M) : ((List.range M).map fun (i : Nat) => (i : Int)).count (b : Int) = 1 := by
  exact (nodup_ints M).count.trans (if_pos (List.mem_map.mpr ⟨b, List.mem_range.mpr h, rfl⟩))
theorem latin_of {M : Nat} {os : List Int} {ts : List Nat} (ho : os.Perm ((List.range M).map fun (i : Nat) => (i : Int))) (ht : ts.Perm (List.range M)) : Latin M (ts.map (rotL os)) := by
  have lo : os.length = M := by rw [ho.length_eq, List.length_map, List.length_range]
  refine ⟨by rw [List.length_map, ht.length_eq, List.length_range], fun r hr => ?_, fun k hk b hb => ?_⟩
  · obtain ⟨t, htm, rfl⟩ := List.mem_map.mp hr
    have h1 := List.mem_range.mp (ht.mem_iff.mp htm)
    refine ⟨by rw [rot_len (by omega), lo], fun d hd => ?_⟩
    obtain ⟨i, hi, rfl⟩ := List.mem_map.mp (ho.mem_iff.mp ((rot_perm os t).mem_iff.mp hd))
    have := List.mem_range.mp hi
    omega
  · have h1 := col_perm (ht.map (rotL os)) k
    rw [h1.count_eq, ← lo, rot_col (by omega), (rot_perm os k).count_eq, ho.count_eq]
    exact nat_count M b (by omega)
theorem fair_yes {M few : Nat} {rows : List (List Int)} (h : Latin M rows) (hf : few ≤ M) : fairB M few rows = true := by
  unfold fairB
  refine List.all_eq_true.mpr fun k hk => ?_
  have hk := List.mem_range.mp hk
  unfold fairAt
  refine List.all_eq_true.mpr fun b hb => ?_
  have hb := List.mem_range.mp hb
  have h0 := h.one k (by omega) 0 (by omega)
  exact decide_eq_true ((h.one k (by omega) b hb).trans h0.symm)
theorem fair_no {M few : Nat} {rows : List (List Int)} (h : Latin M rows) (hf : 0 < few) (hM : 2 ≤ M) : fairB M few (rows.drop 1) = false := by
  cases rows with
  | nil => have := h.len; simp at this; omega
  | cons r rest =>
    show fairB M few rest = false
    have hc : ∀ b : Nat, b < M → (colL rest 0).count (b : Int) + (if r.getD 0 0 = (b : Int) then 1 else 0) = 1 := fun b hb => by
      have := h.one 0 (by omega) b hb
      have e : colL (r :: rest) 0 = r.getD 0 0 :: colL rest 0 := rfl
      rw [e, List.count_cons] at this
      by_cases q : r.getD 0 0 = (b : Int)
      · rw [if_pos (by rw [q]; exact beq_self_eq_true _)] at this
        rw [if_pos q]; exact this
      · rw [if_neg (by intro z; exact q (eq_of_beq z))] at this
        rw [if_neg q]; exact this
    obtain ⟨l0, hr⟩ := h.row r (List.mem_cons_self ..)
    have hx := hr (r.getD 0 0) (getD_mem (by omega))
    refine Bool.eq_false_iff.mpr fun z => ?_
    have z1 := List.all_eq_true.mp z 0 (List.mem_range.mpr hf)
    have zz : ∀ b : Nat, b < M → (colL rest 0).count (b : Int) = (colL rest 0).count 0 := fun b hb => of_decide_eq_true (List.all_eq_true.mp z1 b (List.mem_range.mpr hb))
    have c0 := hc 0 (by omega)
    have c1 := hc 1 (by omega)
    have z2 := zz 1 (by omega)
    have cx := hc (r.getD 0 0).toNat (by omega)
    have zx := zz (r.getD 0 0).toNat (by omega)
    rw [if_pos (by omega)] at cx
    rw [z2] at c1
    rw [zx] at cx
    have cc : ((0 : Nat) : Int) = 0 := rfl
    rw [cc] at c0
    split at c0 <;> split at c1 <;> omega
theorem sum_add2 {α : Type} (f g : α → Int) : ∀ l : List α, (l.map fun x => f x + g x).sum = (l.map f).sum + (l.map g).sum
  | [] => rfl
  | x :: l => by rw [List.map_cons, List.sum_cons, sum_add2 f g l, List.map_cons, List.sum_cons, List.map_cons, List.sum_cons]; omega
theorem sum_swap {α β : Type} (F : α → β → Int) (ks : List β) : ∀ rows : List α, (rows.map fun r => (ks.map fun k => F r k).sum).sum = (ks.map fun k => (rows.map fun r => F r k).sum).sum
  | [] => by
    show (0 : Int) = (ks.map fun _ => 0).sum
    induction ks with
    | nil => rfl
    | cons k ks ih => rw [List.map_cons, List.sum_cons, ← ih]; rfl
  | r :: rows => by
    rw [List.map_cons, List.sum_cons, sum_swap F ks rows, ← sum_add2]
    rfl
theorem sum_count (c b : Int) : ∀ l : List Int, (l.map fun x => if x = b then c else 0).sum = c * (l.count b : Nat)
  | [] => by simp
  | x :: l => by
    rw [List.map_cons, List.sum_cons, sum_count c b l, List.count_cons]
    by_cases h : x = b
    · rw [if_pos h, if_pos (by rw [h]; exact beq_self_eq_true _)]
      rw [Int.natCast_add, Int.mul_add]
      omega
    · rw [if_neg h, if_neg (by intro z; exact h (eq_of_beq z)), Int.zero_add, Nat.add_zero]
theorem gets_range (n b : Int) : ∀ (row ws : List Int), row.length = ws.length → getsL n (row.zip ws) b = ((List.range ws.length).map fun k => if row.getD k 0 = b then n * ws.getD k 0 else 0).sum
  | [], [], _ => rfl
  | [], w :: ws, h => by simp at h
  | x :: row, [], h => by simp at h
  | x :: row, w :: ws, h => by
    have ih := gets_range n b row ws (by simpa using h)
    rw [List.length_cons, List.range_succ_eq_map, List.map_cons, List.sum_cons, List.map_map]
    unfold getsL at ih ⊢
    rw [List.zip_cons_cons, List.map_cons, List.sum_cons, ih]
    rfl
theorem worth_range : ∀ ws : List Int, ((List.range ws.length).map fun k => ws.getD k 0).sum = ws.sum
  | [] => rfl
  | w :: ws => by
    rw [List.length_cons, List.range_succ_eq_map, List.map_cons, List.sum_cons, List.map_map]
    have := worth_range ws
    rw [List.sum_cons, ← this]
    rfl
theorem mul_sum (c : Int) : ∀ l : List Int, (l.map fun x => c * x).sum = c * l.sum
  | [] => by simp
  | x :: l => by rw [List.map_cons, List.sum_cons, List.sum_cons, mul_sum c l, Int.mul_add]
/-- where each ball has each strip once all dues are nought -/
theorem latin_dues {M : Nat} {rows : List (List Int)} {ss : List (Int × Int)} (h : Latin M rows) (ls : ss.length = M) {b : Nat} (hb : b < M) : duesOf M (rows.map fun r => (ss, r)) b = 0 := by
  unfold duesOf
  rw [List.map_map]
  have e1 : rows.map ((fun p : Drw => dueOne M p b) ∘ fun r => (ss, r)) = rows.map fun r => ((List.range (ss.map (·.2)).length).map fun k => if r.getD k 0 = (b : Int) then (M : Int) * (ss.map (·.2)).getD k 0 else 0).sum + -(ss.map (·.2)).sum := by
    refine List.map_congr_left fun r hr => ?_
    show getsL M (prsL ss r) b - _ = _
    unfold prsL
    rw [gets_range M b r (ss.map (·.2)) (by rw [List.length_map, ls]; exact (h.row r hr).1)]
    rfl
  rw [e1, sum_add2, sum_swap (fun (r : List Int) (k : Nat) => if r.getD k 0 = (b : Int) then (M : Int) * (ss.map (·.2)).getD k 0 else 0)]
  have e2 : (List.range (ss.map (·.2)).length).map (fun k => (rows.map fun r => if r.getD k 0 = (b : Int) then (M : Int) * (ss.map (·.2)).getD k 0 else 0).sum) = ((List.range (ss.map (·.2)).length).map fun k => (ss.map (·.2)).getD k 0).map fun x => (M : Int) * x := by
    rw [List.map_map]
    refine List.map_congr_left fun k hk => ?_
    have hk := List.mem_range.mp hk
    rw [List.length_map, ls] at hk
    have h1 := sum_count ((M : Int) * (ss.map (·.2)).getD k 0) (b : Int) (colL rows k)
    rw [h.one k hk b hb] at h1
    unfold colL at h1
    rw [List.map_map] at h1
    refine Eq.trans h1 ?_
    show _ = (M : Int) * (ss.map (·.2)).getD k 0
    omega
  rw [e2, mul_sum, worth_range]
  have e3 : ∀ (l : List (List Int)) (c : Int), (l.map fun _ => -c).sum = -(l.length * c) := fun l c => by
    induction l with
    | nil => simp
    | cons x l ih => rw [List.map_cons, List.sum_cons, ih, List.length_cons, Int.natCast_add, Int.add_mul]; omega
  rw [e3, h.len]
  omega
end Dp
/-! part A: RIGHTS, BALLS, SETS, DRAWS of a year -/
namespace Dp
open PySem PySem.Spec L2
open PyProof.Rows hiding St
def wW (l : List Nat) : W := .str (wS l)
def wDt (l : List Nat) : PyData := .str (wS l)
def siQ (p : List Nat × Int) : W := .tup [.str (wS p.1), .int p.2]
def siD (p : List Nat × Int) : PyData := .tuple [.str (wS p.1), .int p.2]
def ballW (b : List (List Nat)) : W := .tup (b.map wW)
def ballD (b : List (List Nat)) : PyData := .tuple (b.map wDt)
def intsWt (z : List Int) : W := .tup (z.map W.int)
def menu : List (List Int) := [[4], [2, 2], [1, 1, 2], [2, 1, 1], [1, 2, 1], [1, 1, 1, 1]]
theorem menu_len : ∀ z ∈ menu, 1 ≤ z.length ∧ z.length ≤ 4 := by decide
theorem menu_sum : ∀ z ∈ menu, z.sum = 4 := by decide
theorem menu_sz : ∀ z ∈ menu, ∀ x ∈ z, 1 ≤ x ∧ x ≤ 4 := by decide
/-- balls dealt, with the sizes of their words -/
structure DealOk (m : Nat) (bps : List (List (List Nat × Int))) : Prop where
  len : bps.length = m
  men : ∀ b ∈ bps, b.map (·.2) ∈ menu
  nd : (bps.flatten.map (·.1)).Nodup
  wd : ∀ p ∈ bps.flatten, Wdl p.1
  l48 : bps.flatten.length ≤ 48
def wordsOf (bps : List (List (List Nat × Int))) : List (List (List Nat)) := bps.map fun b => b.map (·.1)
/-- the size of a word: the first one that is told -/
def szOf (rs : List (List Nat × Int)) (w : List Nat) : Int := ((rs.filter fun p => decide (p.1 = w)).map (·.2)).headD 0
structure YearOk (rs : List (List Nat × Int)) (bs : List (List (List Nat))) (ss : List (Int × Int)) (dr : List Nat) : Prop where
  nd : (rs.map (·.1)).Nodup
  wd : ∀ p ∈ rs, Wdl p.1
  sz : ∀ p ∈ rs, 1 ≤ p.2 ∧ p.2 ≤ 4
  rl : rs.length ≤ 48
  bl : bs.length ≤ 16
  sum : ∀ b ∈ bs, (b.map (szOf rs)).sum = 4
  mem : ∀ b ∈ bs, ∀ w ∈ b, w ∈ rs.map (·.1)
  b4 : ∀ b ∈ bs, b.length ≤ 4
  sl : ss.length ≤ 16
  so : ∀ s ∈ ss, SOk s
  dl : dr.length = ss.length
  dm : ∀ k ∈ dr, k < bs.length
theorem szOf_cons (p : List Nat × Int) (rs : List (List Nat × Int)) (w : List Nat) : szOf (p :: rs) w = if p.1 = w then p.2 else szOf rs w := by
  unfold szOf
  rw [List.filter_cons]
  by_cases h : p.1 = w
  · rw [if_pos (decide_eq_true h), if_pos h]; rfl
  · rw [if_neg (by rw [decide_eq_false h]; decide), if_neg h]
theorem szOf_mem {rs : List (List Nat × Int)} (nd : (rs.map (·.1)).Nodup) {p : List Nat × Int} (h : p ∈ rs) : szOf rs p.1 = p.2 := by
  induction rs with
  | nil => cases h
  | cons q rs ih =>
    rw [List.map_cons, List.nodup_cons] at nd
    rw [szOf_cons]
    rcases List.mem_cons.mp h with rfl | h
    · rw [if_pos rfl]
    · rw [if_neg fun e => nd.1 (by rw [e]; exact List.mem_map_of_mem h), ih nd.2 h]
theorem szOf_none {rs : List (List Nat × Int)} {w : List Nat} (h : w ∉ rs.map (·.1)) : szOf rs w = 0 := by
  induction rs with
  | nil => rfl
  | cons q rs ih =>
    rw [List.map_cons, List.mem_cons, not_or] at h
    rw [szOf_cons, if_neg (Ne.symm h.1), ih h.2]
theorem szOf_bd {rs : List (List Nat × Int)} (h : ∀ p ∈ rs, 1 ≤ p.2 ∧ p.2 ≤ 4) (w : List Nat) : 0 ≤ szOf rs w ∧ szOf rs w ≤ 4 := by
  induction rs with
  | nil => exact ⟨Int.le_refl 0, (by decide : (0 : Int) ≤ 4)⟩
  | cons q rs ih =>
    rw [szOf_cons]
    have h1 := h q (List.mem_cons_self ..)
    have h2 := ih fun p hp => h p (List.mem_cons_of_mem _ hp)
    split
    · omega
    · exact h2
theorem yearOk {m : Nat} {bps : List (List (List Nat × Int))} {rs : List (List Nat × Int)} {ss : List (Int × Int)} {dr : List Nat} (h : DealOk m bps) (m16 : m ≤ 16) (hp : rs.Perm bps.flatten) (sl : ss.length ≤ 16) (so : ∀ s ∈ ss, SOk s) (dl : dr.length = ss.length) (dm : ∀ k ∈ dr, k < m) : YearOk rs (wordsOf bps) ss dr := by
  have nd : (rs.map (·.1)).Nodup := (hp.map (·.1)).nodup_iff.mpr h.nd
  have inr : ∀ b ∈ bps, ∀ p ∈ b, p ∈ rs := fun b hb p hp' => hp.mem_iff.mpr (List.mem_flatten.mpr ⟨b, hb, hp'⟩)
  refine ⟨nd, fun p hp' => h.wd p (hp.mem_iff.mp hp'), fun p hp' => ?_, by rw [hp.length_eq]; exact h.l48, by unfold wordsOf; rw [List.length_map, h.len]; exact m16, fun b hb => ?_, fun b hb w hw => ?_, fun b hb => ?_, sl, so, dl, fun k hk => by unfold wordsOf; rw [List.length_map, h.len]; exact dm k hk⟩
  · obtain ⟨b, hb, hpb⟩ := List.mem_flatten.mp (hp.mem_iff.mp hp')
    exact menu_sz _ (h.men b hb) _ (List.mem_map_of_mem hpb)
  · obtain ⟨b', hb', rfl⟩ := List.mem_map.mp hb
    rw [List.map_map, show b'.map ((szOf rs) ∘ (·.1)) = b'.map (·.2) from List.map_congr_left fun p hp' => szOf_mem nd (inr b' hb' p hp')]
    exact menu_sum _ (h.men b' hb')
  · obtain ⟨b', hb', rfl⟩ := List.mem_map.mp hb
    obtain ⟨p, hp', rfl⟩ := List.mem_map.mp hw
    exact List.mem_map_of_mem (inr b' hb' p hp')
  · obtain ⟨b', hb', rfl⟩ := List.mem_map.mp hb
    have := (menu_len _ (h.men b' hb')).2
    rw [List.length_map] at this ⊢
    exact this
theorem YearOk.revD {rs bs ss dr} (h : YearOk rs bs ss dr) : YearOk rs bs ss dr.reverse := { h with dl := by rw [List.length_reverse]; exact h.dl, dm := fun k hk => h.dm k (List.mem_reverse.mp hk) }
theorem YearOk.revB {rs bs ss dr} (h : YearOk rs bs ss dr) : YearOk rs (bs.map List.reverse) ss dr := { h with
  bl := by rw [List.length_map]; exact h.bl
  sum := fun b hb => by
    obtain ⟨b', hb', rfl⟩ := List.mem_map.mp hb
    rw [List.map_reverse, List.sum_reverse]; exact h.sum b' hb'
  mem := fun b hb w hw => by
    obtain ⟨b', hb', rfl⟩ := List.mem_map.mp hb
    exact h.mem b' hb' w (List.mem_reverse.mp hw)
  b4 := fun b hb => by
    obtain ⟨b', hb', rfl⟩ := List.mem_map.mp hb
    rw [List.length_reverse]; exact h.b4 b' hb'
  dm := fun k hk => by rw [List.length_map]; exact h.dm k hk }
theorem YearOk.strips {rs bs ss dr} (h : YearOk rs bs ss dr) {ss' : List (Int × Int)} (l : ss'.length = ss.length) (so : ∀ s ∈ ss', SOk s) : YearOk rs bs ss' dr := { h with sl := l ▸ h.sl, so := so, dl := h.dl.trans l.symm }
/-! ### the dict of the sizes -/
def kvsOf (rs : List (List Nat × Int)) : List (Key × W) := rs.map fun p => (Sum.inr (wS p.1), .int p.2)
theorem rights_kvs (rs : List (List Nat × Int)) : rs.map siQ = (kvsOf rs).map fun p => W.tp false [kW p.1, p.2] := by
  unfold kvsOf; rw [List.map_map]; rfl
theorem mergeD_nd : ∀ (more kvs : List (Key × W)), ((kvs ++ more).map (·.1)).Nodup → mergeD kvs more = kvs ++ more
  | [], kvs, _ => (List.append_nil _).symm
  | p :: more, kvs, h => by
    show mergeD (putW kvs p.1 p.2) more = _
    have hn : ∀ q ∈ kvs, q.1 ≠ p.1 := fun q hq e => by
      rw [List.map_append, List.nodup_append] at h
      exact h.2.2 _ (List.mem_map_of_mem hq) _ (List.mem_map_of_mem (List.mem_cons_self ..)) e
    have e : putW kvs p.1 p.2 = kvs ++ [p] := by
      unfold putW
      rw [if_neg]
      intro z
      obtain ⟨q, hq, e⟩ := List.any_eq_true.mp z
      exact hn q hq (of_decide_eq_true e)
    rw [e, mergeD_nd more (kvs ++ [p]) (by rw [List.append_assoc]; exact h), List.append_assoc]; rfl
theorem kvs_nd {rs : List (List Nat × Int)} (nd : (rs.map (·.1)).Nodup) : mergeD [] (kvsOf rs) = kvsOf rs := by
  rw [mergeD_nd, List.nil_append]
  rw [List.nil_append]
  unfold kvsOf
  rw [List.map_map]
  have : ((rs.map (·.1)).map fun w => (Sum.inr (wS w) : Key)).Nodup := List.nodup_iff_pairwise_ne.mpr (List.pairwise_map.mpr ((List.nodup_iff_pairwise_ne.mp nd).imp fun {a b} hab e => hab (wS_inj (Sum.inr.inj e))))
  rw [List.map_map] at this
  exact this
theorem zip_mapT {α β γ : Type} (f : α → β) (g : α → γ) : ∀ l : List α, (l.map f).zip (l.map g) = l.map fun x => (f x, g x)
  | [] => rfl
  | x :: l => by rw [List.map_cons, List.map_cons, List.zip_cons_cons, zip_mapT f g l]; rfl
theorem valW_kvs {rs : List (List Nat × Int)} {w : List Nat} (h : w ∈ rs.map (·.1)) : valW (kvsOf rs) (.inr (wS w)) = some (.int (szOf rs w)) := by
  induction rs with
  | nil => cases h
  | cons p rs ih =>
    unfold kvsOf
    rw [List.map_cons]
    show (if (Sum.inr (wS p.1) : Key) = .inr (wS w) then some (W.int p.2) else valW (kvsOf rs) (.inr (wS w))) = _
    rw [szOf_cons]
    by_cases e : p.1 = w
    · rw [if_pos (by rw [e]), if_pos e]
    · rw [if_neg fun z => e (wS_inj (Sum.inr.inj z)), if_neg e]
      rw [List.map_cons] at h
      exact ih ((List.mem_cons.mp h).resolve_left (Ne.symm e))
def sizesW (rs : List (List Nat × Int)) : W := .dct ((kvsOf rs).map (·.1)) ((kvsOf rs).map (·.2))
theorem ix_size {rs : List (List Nat × Int)} {w : List Nat} {S : Sto} {K : WK} (h : w ∈ rs.map (·.1)) (k : K (.int (szOf rs w)) S) : ixK (sizesW rs) (wW w) S K := by
  unfold ixK sizesW
  refine ⟨.inr (wS w), .int (szOf rs w), rfl, ?_, k⟩
  rw [zip_mapT, List.map_id'' fun x => rfl]
  exact valW_kvs h
theorem dict_rights {rs : List (List Nat × Int)} (nd : (rs.map (·.1)).Nodup) {S : Sto} {K : WK} (k : ∀ p, S p = none → K (.ref p) (S.put p (.dic (kvsOf rs)))) : fDict [.tup (rs.map siQ)] S K := by
  show ∃ kvs : List (Key × W), rs.map siQ = (kvs.map fun p => W.tp false [kW p.1, p.2]) ∧ _
  refine ⟨kvsOf rs, rights_kvs rs, fun p hp => ?_⟩
  rw [kvs_nd nd]; exact k p hp
/-! ### the rows -/
abbrev RowA := Nat × List Nat × Int × Int
def rowWA (r : RowA) : W := .tup [.int (r.1 : Int), .str (wS r.2.1), .int r.2.2.1, .int r.2.2.2]
def rowDA (r : RowA) : PyData := .tuple [.int (r.1 : Int), .str (wS r.2.1), .int r.2.2.1, .int r.2.2.2]
def widN (ss : List (Int × Int)) (k : Nat) : Int := ((ss.take k).map (·.1)).sum
def endN (sz : List Nat → Int) (b : List (List Nat)) (t : Nat) : Int := ((b.take t).map sz).sum
def rowA (rs : List (List Nat × Int)) (b : List (List Nat)) (ss : List (Int × Int)) (k t : Nat) : RowA :=
  (k, b.getD t [], 4 * widN ss k + (ss.getD k (0, 0)).1 * (endN (szOf rs) b (t + 1) - szOf rs (b.getD t [])), 4 * widN ss k + (ss.getD k (0, 0)).1 * endN (szOf rs) b (t + 1))
def ballAt (bs : List (List (List Nat))) (dr : List Nat) (k : Nat) : List (List Nat) := bs.getD (dr.getD k 0) []
def rowsB (rs : List (List Nat × Int)) (bs : List (List (List Nat))) (ss : List (Int × Int)) (dr : List Nat) (k n : Nat) : List RowA := (List.range n).map (rowA rs (ballAt bs dr k) ss k)
def rowsTo (rs : List (List Nat × Int)) (bs : List (List (List Nat))) (ss : List (Int × Int)) (dr : List Nat) (n : Nat) : List RowA := ((List.range n).map fun k => rowsB rs bs ss dr k (ballAt bs dr k).length).flatten
def rowsA (rs : List (List Nat × Int)) (bs : List (List (List Nat))) (ss : List (Int × Int)) (dr : List Nat) : List RowA := rowsTo rs bs ss dr ss.length
theorem endN_zero (sz : List Nat → Int) (b : List (List Nat)) : endN sz b 0 = 0 := rfl
theorem endN_succ {sz : List Nat → Int} {b : List (List Nat)} {t : Nat} (h : t < b.length) : endN sz b (t + 1) = endN sz b t + sz (b.getD t []) := by
  unfold endN
  rw [List.take_add_one, List.getElem?_eq_getElem h, Option.toList_some, List.map_append, List.sum_append, List.map_cons, List.map_nil, List.sum_cons, List.sum_nil, List.getD_eq_getElem?_getD, List.getElem?_eq_getElem h]
  show _ + (sz b[t] + 0) = _ + sz b[t]
  omega
theorem endN_all (sz : List Nat → Int) (b : List (List Nat)) : endN sz b b.length = (b.map sz).sum := by
  unfold endN; rw [List.take_length]
theorem endN_bd {sz : List Nat → Int} (hs : ∀ w, 0 ≤ sz w ∧ sz w ≤ 4) (b : List (List Nat)) : ∀ t, t ≤ b.length → 0 ≤ endN sz b t ∧ endN sz b t ≤ 4 * t
  | 0, _ => by rw [endN_zero]; omega
  | t + 1, h => by
    rw [endN_succ h]
    have := endN_bd hs b t (by omega)
    have := hs (b.getD t [])
    omega
theorem widN_succ {ss : List (Int × Int)} {k : Nat} (h : k < ss.length) : widN ss (k + 1) = widN ss k + (ss.getD k (0, 0)).1 := by
  unfold widN
  rw [List.take_add_one, List.getElem?_eq_getElem h, Option.toList_some, List.map_append, List.sum_append, List.map_cons, List.map_nil, List.sum_cons, List.sum_nil, List.getD_eq_getElem?_getD, List.getElem?_eq_getElem h]
  show _ + ((ss[k]).1 + 0) = _ + (ss[k]).1
  omega
theorem widN_bd {ss : List (Int × Int)} (hs : ∀ s ∈ ss, SOk s) : ∀ k, k ≤ ss.length → 0 ≤ widN ss k ∧ widN ss k ≤ 1000 * k
  | 0, _ => ⟨Int.le_refl 0, (by decide : (0 : Int) ≤ 1000 * (0 : Nat))⟩
  | k + 1, h => by
    rw [widN_succ h]
    have := widN_bd hs k (by omega)
    have ok := hs _ (getD_mem (d := (0, 0)) (show k < ss.length by omega))
    have := ok.w1
    have := ok.w2
    omega
theorem rowsB_succ (rs bs ss dr k n) : rowsB rs bs ss dr k (n + 1) = rowsB rs bs ss dr k n ++ [rowA rs (ballAt bs dr k) ss k n] := by
  unfold rowsB; rw [List.range_succ, List.map_append]; rfl
theorem rowsTo_succ (rs bs ss dr n) : rowsTo rs bs ss dr (n + 1) = rowsTo rs bs ss dr n ++ rowsB rs bs ss dr n (ballAt bs dr n).length := by
  unfold rowsTo; rw [List.range_succ, List.map_append, List.flatten_append]; simp
theorem YearOk.ball {rs bs ss dr} (h : YearOk rs bs ss dr) {k : Nat} (hk : k < ss.length) : ballAt bs dr k ∈ bs ∧ dr.getD k 0 < bs.length := by
  have h1 : dr.getD k 0 < bs.length := h.dm _ (getD_mem (by rw [h.dl]; exact hk))
  exact ⟨getD_mem h1, h1⟩
theorem YearOk.rowsLen {rs bs ss dr} (h : YearOk rs bs ss dr) : ∀ n, n ≤ ss.length → (rowsTo rs bs ss dr n).length ≤ 4 * n
  | 0, _ => Nat.le_refl 0
  | n + 1, hn => by
    rw [rowsTo_succ, List.length_append]
    have h1 := h.rowsLen n (by omega)
    have h2 := h.b4 _ (h.ball (k := n) (by omega)).1
    have h3 : (rowsB rs bs ss dr n (ballAt bs dr n).length).length = (ballAt bs dr n).length := by unfold rowsB; rw [List.length_map, List.length_range]
    omega
theorem rows_mem {rs bs ss dr} : ∀ {n : Nat} {r : RowA}, r ∈ rowsTo rs bs ss dr n → ∃ k t, k < n ∧ t < (ballAt bs dr k).length ∧ r = rowA rs (ballAt bs dr k) ss k t := by
  intro n r h
  unfold rowsTo at h
  obtain ⟨l, hl, hr⟩ := List.mem_flatten.mp h
  obtain ⟨k, hk, rfl⟩ := List.mem_map.mp hl
  obtain ⟨t, ht, rfl⟩ := List.mem_map.mp hr
  exact ⟨k, t, List.mem_range.mp hk, List.mem_range.mp ht, rfl⟩
structure RowOkA (r : RowA) : Prop where
  k : r.1 < 16
  w : Wdl r.2.1
  lo : 0 ≤ r.2.2.1 ∧ r.2.2.1 ≤ 100000
  hi : 0 ≤ r.2.2.2 ∧ r.2.2.2 ≤ 100000
theorem bd4 {x y : Int} (h0 : 0 ≤ x) (h1 : x ≤ 1000) (g0 : 0 ≤ y) (g1 : y ≤ 16) : 0 ≤ x * y ∧ x * y ≤ 16000 := by
  have a := Int.mul_nonneg h0 g0
  have b : x * y ≤ 1000 * 16 := Int.mul_le_mul h1 g1 g0 (by decide)
  omega
theorem YearOk.row {rs bs ss dr} (h : YearOk rs bs ss dr) {k t : Nat} (hk : k < ss.length) (ht : t < (ballAt bs dr k).length) : RowOkA (rowA rs (ballAt bs dr k) ss k t) := by
  have hb := (h.ball hk).1
  have b4 := h.b4 _ hb
  have sl := h.sl
  have hw := h.mem _ hb _ (getD_mem (d := []) ht)
  obtain ⟨p, hp, e⟩ := List.mem_map.mp hw
  have so := h.so _ (getD_mem (d := (0, 0)) hk)
  have w1 := so.w1
  have w2 := so.w2
  have wb := widN_bd h.so k (by omega)
  have e1 := endN_bd (szOf_bd h.sz) (ballAt bs dr k) t (by omega)
  have e2 := endN_bd (szOf_bd h.sz) (ballAt bs dr k) (t + 1) (by omega)
  have es := endN_succ (sz := szOf rs) ht
  have m2 := bd4 (x := (ss.getD k (0, 0)).1) (y := endN (szOf rs) (ballAt bs dr k) (t + 1)) (by omega) (by omega) (by omega) (by omega)
  have m1 := bd4 (x := (ss.getD k (0, 0)).1) (y := endN (szOf rs) (ballAt bs dr k) (t + 1) - szOf rs ((ballAt bs dr k).getD t [])) (by omega) (by omega) (by omega) (by omega)
  refine ⟨?_, ?_, ?_, ?_⟩
  · show k < 16; omega
  · show Wdl ((ballAt bs dr k).getD t []); rw [← e]; exact h.wd p hp
  · show 0 ≤ 4 * widN ss k + _ ∧ 4 * widN ss k + _ ≤ 100000
    omega
  · show 0 ≤ 4 * widN ss k + _ ∧ 4 * widN ss k + _ ≤ 100000
    omega
theorem YearOk.rows {rs bs ss dr} (h : YearOk rs bs ss dr) : ∀ r ∈ rowsA rs bs ss dr, RowOkA r := fun r hr => by
  obtain ⟨k, t, hk, ht, rfl⟩ := rows_mem hr
  exact h.row hk ht
theorem fd_rowA {r : RowA} (h : RowOkA r) : FinD 1 72 (rowDA r) := f_tup (k := 0) (B := 17) 4 (fun d hd => by
  have up : (100000 : Nat) < 2 ^ 17 := by decide
  have h1 := h.k
  have h2 := h.lo
  have h3 := h.hi
  rcases List.mem_cons.mp hd with rfl | hd
  · exact f_int 17 (by omega) (by decide) (by decide) (by decide)
  rcases List.mem_cons.mp hd with rfl | hd
  · exact (fd_str (wS_strOk h.w.low) (by rw [wS_len]; exact h.w.l8) (by decide)).mono (Nat.le_refl _) (by decide)
  rcases List.mem_cons.mp hd with rfl | hd
  · exact f_int 17 (by omega) (by decide) (by decide) (by decide)
  rw [List.mem_singleton.mp hd]
  exact f_int 17 (by omega) (by decide) (by decide) (by decide)) (by decide) (Nat.le_refl _) (by decide) (by decide)
theorem das_rows8 (l : List RowA) : Das (l.map rowWA) (l.map rowDA) := das_map l fun r _ => .tup (.cons (.int _) (.cons (.str _) (.cons (.int _) (.cons (.int _) .nil))))
theorem YearOk.fd {rs bs ss dr} (h : YearOk rs bs ss dr) : FinD 2 4672 (.tuple ((rowsA rs bs ss dr).map rowDA)) := f_tup 64 (fun d hd => by
  obtain ⟨r, hr, rfl⟩ := List.mem_map.mp hd
  exact fd_rowA (h.rows r hr)) (by decide) (by rw [List.length_map]; have := h.rowsLen ss.length (Nat.le_refl _); have := h.sl; unfold rowsA; omega) (by decide) (by decide)
/-! ### promises -/
def pAfter : Pm := fun ws S Kk Ek => ∃ l, ws = [.str (wS l)] ∧ Wdl l ∧ Kk (.str (wS (aft l))) S
/-- a word that is not among those found -/
def pWord8 : Pm := fun ws S Kk Ek => ∃ (f : Addr) (n : Nat) (ls : List (List Nat)), ws = [.ref f, .lst (ls.map fun l => W.str (wS l))] ∧ S f = some (.fd .l4 n) ∧ n < 900000 ∧ (∀ l ∈ ls, Wdl l) ∧ ls.length ≤ 50 ∧ ∀ l k, Wdl l → l ∉ ls → k ≤ n + 12 → Kk (.str (wS l)) (S.put f (.fd .l4 k))
def pDeal : Pm := fun ws S Kk Ek => ∃ (f : Addr) (n m : Nat), ws = [.ref f, ntW m] ∧ S f = some (.fd .l4 n) ∧ n < 890000 ∧ 1 ≤ m ∧ m ≤ 16 ∧ ∀ (bps : List (List (List Nat × Int))) (rs : List (List Nat × Int)), DealOk m bps → rs.Perm bps.flatten → Kk (.tup [.tup (rs.map siQ), .tup ((wordsOf bps).map ballW)]) (S.put f (.fd .l4 (n + 900)))
def pPulled : Pm := fun ws S Kk Ek => ∃ (f : Addr) (n m c : Nat), ws = [.ref f, ntW m, ntW c] ∧ S f = some (.fd .l4 n) ∧ n < 890000 ∧ 1 ≤ m ∧ m ≤ 16 ∧ c ≤ m ∧ ∀ dr : List Nat, dr.length = c → dr.Nodup → (∀ x ∈ dr, x < m) → Kk (.tup (dr.map ntW)) (S.put f (.fd .l4 (n + c)))
/-- what a year is -/
structure YearIs (m : Nat) (bps : List (List (List Nat × Int))) (rs : List (List Nat × Int)) (ss : List (Int × Int)) (dr : List Nat) : Prop where
  m1 : 1 ≤ m
  m16 : m ≤ 16
  deal : DealOk m bps
  perm : rs.Perm bps.flatten
  s1 : 1 ≤ ss.length
  sm : ss.length ≤ m
  so : ∀ s ∈ ss, SOk s
  dl : dr.length = ss.length
  dn : dr.Nodup
  dm : ∀ x ∈ dr, x < m
theorem YearIs.ok {m bps rs ss dr} (h : YearIs m bps rs ss dr) : YearOk rs (wordsOf bps) ss dr := yearOk h.deal h.m16 h.perm (Nat.le_trans h.sm h.m16) h.so h.dl h.dm
def yearW (rs : List (List Nat × Int)) (bs : List (List (List Nat))) (ss : List (Int × Int)) (dr : List Nat) : W := .tup [.tup (rs.map siQ), .tup (bs.map ballW), .tup (ss.map pairW), .tup (dr.map ntW)]
def yearD (rs : List (List Nat × Int)) (bs : List (List (List Nat))) (ss : List (Int × Int)) (dr : List Nat) : PyData := .tuple [.tuple (rs.map siD), .tuple (bs.map ballD), .tuple (ss.map pairD), .tuple (dr.map fun (x : Nat) => PyData.int x)]
def pYear8 : Pm := fun ws S Kk Ek => ∃ (f : Addr) (n : Nat), ws = [.ref f] ∧ S f = some (.fd .l4 n) ∧ n < 880000 ∧ ∀ (m : Nat) (bps : List (List (List Nat × Int))) (rs : List (List Nat × Int)) (ss : List (Int × Int)) (dr : List Nat), YearIs m bps rs ss dr → Kk (yearW rs (wordsOf bps) ss dr) (S.put f (.fd .l4 (n + 1000)))
def pSize8 : Pm := fun ws S Kk Ek => ∃ (rs : List (List Nat × Int)) (w : List Nat), ws = [.tup (rs.map siQ), wW w] ∧ rs.length ≤ 100 ∧ w ∈ rs.map (·.1) ∧ Kk (.int (szOf rs w)) S
def pRows8 : Pm := fun ws S Kk Ek => ∃ (rs : List (List Nat × Int)) (bs : List (List (List Nat))) (ss : List (Int × Int)) (dr : List Nat), ws = [yearW rs bs ss dr] ∧ YearOk rs bs ss dr ∧ Kk (.lst ((rowsA rs bs ss dr).map rowWA)) S
def pMown : Pm := fun ws S Kk Ek => ∃ (rs : List (List Nat × Int)) (bs : List (List (List Nat))) (ss : List (Int × Int)) (dr : List Nat), ws = [.tup (rs.map siQ), .tup (bs.map ballW), .tup (ss.map pairW), .tup (dr.map ntW)] ∧ YearOk rs bs ss dr ∧ Kk (.tup ((rowsA rs bs ss dr).map rowWA)) S
def pRight8 : Pm := fun ws S Kk Ek => ∃ (rs : List (List Nat × Int)) (bs : List (List (List Nat))) (ss : List (Int × Int)) (dr : List Nat), ws = [yearW rs bs ss dr] ∧ YearOk rs bs ss dr ∧ Kk (.bl true) S
def pHand8 : Pm := fun ws S Kk Ek => ws = [] ∧ Kk (.bl true) S
/-! ### what may be shown -/
theorem repr_f {S : Sto} {x : W} {d : PyData} {k B : Nat} {K : WK} (h : Den S x d) (f : FinD k B d) (q : K (.str d.shown) S) : fRepr2 [x] S K := by
  obtain ⟨a, b, c⟩ := f.show_
  exact repr_a h a b c q
theorem da_year (rs : List (List Nat × Int)) (bs : List (List (List Nat))) (ss : List (Int × Int)) (dr : List Nat) : Da (yearW rs bs ss dr) (yearD rs bs ss dr) :=
  .tup (.cons (.tup (das_map rs fun p _ => .tup (.cons (.str _) (.cons (.int _) .nil)))) (.cons (.tup (das_map bs fun b _ => .tup (das_map b fun l _ => .str _))) (.cons (.tup (das_pairs ss)) (.cons (.tup (das_map dr fun x _ => .int _)) .nil))))
theorem fd_year {rs bs ss dr} (ok : YearOk rs bs ss dr) (wdb : ∀ b ∈ bs, ∀ l ∈ b, Wdl l) (d16 : ∀ k ∈ dr, k < 16) : FinD 3 3652 (yearD rs bs ss dr) := by
  have fw : ∀ l, Wdl l → FinD 0 8 (.str (wS l)) := fun l h => fd_str (wS_strOk h.low) (by rw [wS_len]; exact h.l8) (by decide)
  have dl := ok.dl
  refine f_tup (k := 2) (B := 912) 4 (fun d hd => ?_) (by decide) (Nat.le_refl _) (by decide) (by decide)
  rcases List.mem_cons.mp hd with rfl | hd
  · refine f_tup (k := 1) (B := 18) 48 (fun d hd => ?_) (by decide) (by rw [List.length_map]; exact ok.rl) (by decide) (by decide)
    obtain ⟨p, hp, rfl⟩ := List.mem_map.mp hd
    have := ok.sz p hp
    refine f_tup (k := 0) (B := 8) 2 (fun d hd => ?_) (by decide) (Nat.le_refl _) (by decide) (by decide)
    rcases List.mem_cons.mp hd with rfl | hd
    · exact fw _ (ok.wd p hp)
    rw [List.mem_singleton.mp hd]
    exact f_int 8 (by omega) (by decide) (by decide) (by decide)
  rcases List.mem_cons.mp hd with rfl | hd
  · refine f_tup (k := 1) (B := 36) 16 (fun d hd => ?_) (by decide) (by rw [List.length_map]; exact ok.bl) (by decide) (by decide)
    obtain ⟨b, hb, rfl⟩ := List.mem_map.mp hd
    refine f_tup (k := 0) (B := 8) 4 (fun d hd => ?_) (by decide) (by rw [List.length_map]; exact ok.b4 b hb) (by decide) (by decide)
    obtain ⟨l, hl, rfl⟩ := List.mem_map.mp hd
    exact fw _ (wdb b hb l hl)
  rcases List.mem_cons.mp hd with rfl | hd
  · refine f_tup (k := 1) (B := 22) 16 (fun d hd => ?_) (by decide) (by rw [List.length_map]; exact ok.sl) (by decide) (by decide)
    obtain ⟨s, hs, rfl⟩ := List.mem_map.mp hd
    have so := ok.so s hs
    have := so.w1
    have := so.w2
    have := so.v1
    have := so.v2
    refine f_tup (k := 0) (B := 10) 2 (fun d hd => ?_) (by decide) (Nat.le_refl _) (by decide) (by decide)
    rcases List.mem_cons.mp hd with rfl | hd
    · exact f_int 10 (by omega) (by decide) (by decide) (by decide)
    rw [List.mem_singleton.mp hd]
    exact f_int 10 (by omega) (by decide) (by decide) (by decide)
  rw [List.mem_singleton.mp hd]
  refine (f_tup (k := 0) (B := 5) 16 (fun d hd => ?_) (by decide) (by rw [List.length_map, dl]; exact ok.sl) (by decide) (by decide) : FinD 1 912 _).mono (by decide) (by decide)
  obtain ⟨x, hx, rfl⟩ := List.mem_map.mp hd
  have := d16 x hx
  exact f_int 5 (by omega) (by decide) (by decide) (by decide)
theorem YearOk.wdb {rs bs ss dr} (h : YearOk rs bs ss dr) : ∀ b ∈ bs, ∀ l ∈ b, Wdl l := fun b hb l hl => by
  obtain ⟨p, hp, rfl⟩ := List.mem_map.mp (h.mem b hb l hl)
  exact h.wd p hp
theorem YearOk.fdY {rs bs ss dr} (h : YearOk rs bs ss dr) : FinD 3 3652 (yearD rs bs ss dr) := fd_year h h.wdb fun k hk => Nat.lt_of_lt_of_le (h.dm k hk) h.bl
abbrev YearT := List (List Nat × Int) × List (List (List Nat)) × List (Int × Int) × List Nat
def ytW (y : YearT) : W := yearW y.1 y.2.1 y.2.2.1 y.2.2.2
def ytD (y : YearT) : PyData := yearD y.1 y.2.1 y.2.2.1 y.2.2.2
def YtOk (y : YearT) : Prop := YearOk y.1 y.2.1 y.2.2.1 y.2.2.2
end Dp
/-! draws by kind -/
namespace Dp
open PySem PySem.Spec L2
open PyProof.Rows hiding St
theorem for_eE {α : Type} (d0 : α) {g : Sto → Prop} {tg : WG} {b : WS} {E : Ew} {ρ : Ro} {S : Sto} (as : List α) (e : α → W) (I : Nat → Ro → Sto → Prop) (h0 : I 0 ρ S) (hg : ∀ i ρ S, I i ρ S → g S)
    (step : ∀ (i : Nat) ρ S (E2 : Ew), i < as.length → I i ρ S → (∀ ρ' S', I (i + 1) ρ' S' → E2.nx ρ' S') → E2.ct = E2.nx → E2.bk = E.nx → E2.rt = E.rt → E2.ex = E.ex → tg (.tup [.int (i : Nat), e (as.getD i d0)]) ρ fun ρ2 => b E2 ρ2 S)
    (fin : ∀ ρ S, I as.length ρ S → E.nx ρ S) : forW g tg b E (enuW 0 (as.map e)) ρ S :=
  for_e d0 as e I h0 hg (fun i ρ S nx hi h hn => step i ρ S { E with nx := nx, ct := nx, bk := E.nx } hi h hn rfl rfl rfl rfl) fin
theorem in_dic {n : Bool} {S : Sto} {a : Addr} {kvs : List (Key × W)} {k : Key} {K : Bool → Prop} (l : S a = some (.dic kvs)) (h : K (if n then !(valW kvs k).isSome else (valW kvs k).isSome)) : inK n (kW k) (.ref a) S K := by
  unfold inK; exact .inr (.inr ⟨kvs, k, l, rfl, h⟩)
def ballB (m : Int) (d : PyData) : Bool := numB d && decide (0 ≤ valI d) && decide (valI d < m)
def drawB (m : Int) : PyData → Bool
  | .tuple ds => ds.all (ballB m) && decide ((ds.map valI).Nodup)
  | _ => false
def pIsDraw : Pm := fun ws S Kk Ek => ∃ m w d, ws = [.int m, w] ∧ Da w d ∧ (∀ es, d = .tuple es → es.length ≤ 3000) ∧ Kk (.bl (drawB m d)) S
def pDue7 : Pm := fun ws S Kk Ek => ∃ m w d, ws = [.int m, w] ∧ Da w d ∧ Fine d ∧ (∀ es, d = .tuple es → es.length ≤ 3000) ∧ Kk (.bl (drawB m d)) S
/-- the place of a number, counted from k on -/
def posR (b : Int) : Nat → List Int → Option Nat
  | _, [] => none
  | k, x :: r => if x = b then some k else posR b (k + 1) r
def posW (o : Option Nat) : W := match o with
  | some k => .int (k : Nat)
  | none => .non
def posD (o : Option Nat) : PyData := match o with
  | some k => .int (k : Nat)
  | none => .none
theorem posR_lt {b : Int} : ∀ {ns : List Int} {k i : Nat}, posR b k ns = some i → i < k + ns.length
  | [], _, _, h => by cases h
  | x :: r, k, i, h => by
    unfold posR at h
    split at h
    · cases h; rw [List.length_cons]; omega
    · have := posR_lt h; rw [List.length_cons]; omega
theorem posR_none {b : Int} : ∀ {ns : List Int} {k : Nat}, b ∉ ns → posR b k ns = none
  | [], _, _ => rfl
  | x :: r, k, h => by
    unfold posR
    rw [if_neg fun e : x = b => h (by rw [e]; exact List.mem_cons_self ..)]
    exact posR_none fun hm => h (List.mem_cons_of_mem _ hm)
theorem posR_step {b : Int} {ns : List Int} {i : Nat} (h : i < ns.length) : posR b i (ns.drop i) = if ns.getD i 0 = b then some i else posR b (i + 1) (ns.drop (i + 1)) := by
  rw [List.drop_eq_getElem_cons h, List.getD_eq_getElem?_getD, List.getElem?_eq_getElem h]; rfl
theorem pos_filter (b : Int) : ∀ (ns : List Int) (k : Nat), ((ns.zipIdx k).filter (fun p => decide (p.1 = b))).head?.map (·.2) = posR b k ns
  | [], _ => rfl
  | x :: r, k => by
    rw [List.zipIdx_cons, List.filter_cons]
    unfold posR
    by_cases h : x = b
    · rw [if_pos (decide_eq_true h), if_pos h]; rfl
    · rw [if_neg (by rw [decide_eq_false h]; decide), if_neg h]
      exact pos_filter b r (k + 1)
theorem pos_head (b : Int) (ns : List Int) : atI ((((ns.zipIdx 0).filter (fun p => decide (p.1 = b))).map fun p => W.int (p.2 : Nat)) ++ [.non]) 0 = some (posW (posR b 0 ns)) := by
  have e := pos_filter b ns 0
  cases h : (ns.zipIdx 0).filter (fun p => decide (p.1 = b)) with
  | nil => rw [h] at e; rw [← e]; exact atI_pos (by decide) rfl
  | cons x r => rw [h] at e; rw [← e]; exact atI_pos (by decide) rfl
theorem da_pos (o : Option Nat) : Da (posW o) (posD o) := by
  cases o with
  | none => exact .non
  | some k => exact .int _
theorem fd_pos {b : Int} {ns : List Int} (l : ns.length ≤ 16) : FinD 0 5 (posD (posR b 0 ns)) := by
  cases h : posR b 0 ns with
  | none => exact (Bd.non : Bd 5 0 0 .none).fin (by decide) (by decide) (by decide) |>.mono (Nat.le_refl _) (by decide)
  | some k =>
    have := posR_lt h
    exact f_int 5 (by show ((k : Nat) : Int).natAbs < 2 ^ 5; omega) (by decide) (by decide) (Nat.le_refl _)
def pStripOf : Pm := fun ws S Kk Ek => ∃ (ns : List Int) (b : Int), ws = [.tup (ns.map W.int), .int b] ∧ Kk (posW (posR b 0 ns)) S
def pPlaced : Pm := fun ws S Kk Ek => ∃ (m : Int) (ns : List Int), ws = [.int m, .tup (ns.map W.int)] ∧ 0 ≤ m ∧ m ≤ 16 ∧ ns.length ≤ 16 ∧ (∀ x ∈ ns, x < 1000) ∧ Kk (.bl true) S
theorem ballB_int {m : Int} {d : PyData} (h : ballB m d = true) : ∃ v, d = .int v ∧ 0 ≤ v ∧ v < m := by
  unfold ballB at h
  rw [Bool.and_eq_true, Bool.and_eq_true, decide_eq_true_eq, decide_eq_true_eq] at h
  cases d with
  | int v => exact ⟨v, rfl, h.1.2, h.2⟩
  | _ => cases h.1.1
theorem drawB_no {m : Int} {ds : List PyData} {d : PyData} (hm : d ∈ ds) (h : ballB m d = false) : drawB m (.tuple ds) = false := by
  have e : ds.all (ballB m) = false := Bool.eq_false_iff.mpr fun z => by
    have := List.all_eq_true.mp z d hm
    rw [h] at this; cases this
  show (ds.all (ballB m) && _) = false
  rw [e]; rfl
theorem drawB_twice {m : Int} {ds : List PyData} {i : Nat} (hi : i < ds.length) (h : valI (ds.getD i .none) ∈ (ds.take i).map valI) : drawB m (.tuple ds) = false := by
  have e : decide ((ds.map valI).Nodup) = false := decide_eq_false fun nd => by
    have e1 : ds.map valI = (ds.take i).map valI ++ valI (ds.getD i .none) :: (ds.drop (i + 1)).map valI := by
      rw [← List.map_cons, ← List.map_append]
      congr 1
      rw [List.getD_eq_getElem?_getD, List.getElem?_eq_getElem hi]
      show ds = ds.take i ++ ds[i] :: ds.drop (i + 1)
      rw [← List.drop_eq_getElem_cons hi, List.take_append_drop]
    rw [e1, List.nodup_append] at nd
    exact nd.2.2 _ h _ (List.mem_cons_self ..) rfl
  show (_ && decide _) = false
  rw [e, Bool.and_false]
theorem nodup_take {ds : List PyData} {i : Nat} (hi : i < ds.length) (nd : ((ds.take i).map valI).Nodup) (h : valI (ds.getD i .none) ∉ (ds.take i).map valI) : ((ds.take (i + 1)).map valI).Nodup := by
  rw [List.take_add_one, List.getElem?_eq_getElem hi, Option.toList_some, List.map_append, List.nodup_append]
  refine ⟨nd, List.nodup_cons.mpr ⟨List.not_mem_nil, List.nodup_nil⟩, fun a ha b hb e => h ?_⟩
  have hb : b = valI ds[i] := List.mem_singleton.mp hb
  rw [List.getD_eq_getElem?_getD, List.getElem?_eq_getElem hi]
  show valI ds[i] ∈ _
  rw [← hb, ← e]; exact ha
theorem dup_lt : ∀ {ns out : List Int}, out.Nodup → (∀ k ∈ out, k ∈ ns) → ¬ ns.Nodup → out.length < ns.length
  | [], _, _, _, h => absurd List.nodup_nil h
  | x :: r, out, nd, hm, h => by
    by_cases hx : x ∈ r
    · have : out.length ≤ r.length := nodup_le nd fun k hk => by
        rcases List.mem_cons.mp (hm k hk) with rfl | h
        · exact hx
        · exact h
      rw [List.length_cons]; omega
    · have hr : ¬ r.Nodup := fun z => h (List.nodup_cons.mpr ⟨hx, z⟩)
      have := dup_lt (ns := r) (out := out.erase x) (nd.erase x) (fun k hk => by
        have hk' : k ≠ x ∧ k ∈ out := (List.Nodup.mem_erase_iff nd).mp hk
        exact (List.mem_cons.mp (hm k hk'.2)).resolve_left hk'.1) hr
      have e : out.length ≤ (out.erase x).length + 1 := by
        by_cases hm : x ∈ out
        · rw [List.length_erase_of_mem hm]; omega
        · rw [List.erase_of_not_mem hm]; omega
      rw [List.length_cons]; omega
/-- len(set(..)) says whether none is twice -/
theorem set_len {ns out : List Int} (nd : out.Nodup) (hm : ∀ k, k ∈ out ↔ k ∈ ns) : decide ((out.length : Int) = (ns.length : Int)) = decide (ns.Nodup) := by
  by_cases h : ns.Nodup
  · have := (List.perm_ext_iff_of_nodup nd h).mpr hm
    rw [decide_eq_true h, decide_eq_true (by rw [this.length_eq])]
  · rw [decide_eq_false h]
    have := dup_lt nd (fun k hk => (hm k).mp hk) h
    exact decide_eq_false (by omega)
theorem sset_len {S : Sto} {ns : List Int} {K : WK} (l : ns.length < 4001) (k : ∀ out : List Int, out.Nodup → (∀ k, k ∈ out ↔ k ∈ ns) → K (.int (out.length : Nat)) S) : ssetK true (.tup (ns.map W.int)) S K := by
  unfold ssetK intsW
  exact ⟨ns, rfl, by rw [if_pos rfl]; exact l, by rw [if_pos rfl]; exact k⟩
theorem valI_ints (ns : List Int) : (ns.map PyData.int).map valI = ns := by
  rw [List.map_map]; exact List.map_id _
theorem drawB_ints (m : Int) (ns : List Int) : drawB m (.tuple (ns.map .int)) = ((ns.filter fun v => decide (v < 0) || decide (v ≥ m)).isEmpty && decide ns.Nodup) := by
  show ((ns.map PyData.int).all (ballB m) && decide (((ns.map PyData.int).map valI).Nodup)) = _
  rw [valI_ints]
  congr 1
  rw [List.all_map, Bool.eq_iff_iff, List.isEmpty_iff, List.filter_eq_nil_iff, List.all_eq_true]
  refine forall_congr' fun v => forall_congr' fun _ => ?_
  show (true && decide (0 ≤ v) && decide (v < m)) = true ↔ ¬ ((decide (v < 0) || decide (v ≥ m)) = true)
  rw [Bool.true_and, Bool.and_eq_true, Bool.or_eq_true, decide_eq_true_eq, decide_eq_true_eq, decide_eq_true_eq, decide_eq_true_eq]
  omega
end Dp
namespace Dp.K07
open PySem PySem.Spec L2
open PyProof.Rows hiding St
def top (i : Nat) : Stmt := PySem.Challenge.pw_meadowballs_k07_draws_by_kind.main.body.getD i (.Pass ⟨0, 0, 0, 0⟩)
abbrev fns : List Str := ["is_number", "is_draw", "strip_of", "_law_feed", "_law_draw", "_law_pulled", "_law_bend", "_law_odd", "_law_same", "_law_number", "_law_due", "_law_fixed", "_law_wide", "_law_near", "_law_placed", "law"]
abbrev gls : List Str := []
abbrev cls : List Nat := []
abbrev N_is_number : List Str := ["thing"]
abbrev A_is_number : List Str := ["thing"]
def b_is_number : Sms :=
  .cons (.ret (.and (.isi .int (.var 0)) (.not (.isi .bool (.var 0)))))
  (.nil)
theorem k_is_number : chkSs b_is_number ⟨N_is_number, defScope (top 1), fun _ => true, fns, gls, cls⟩ (defBody (top 1)) = true := by decide +kernel
theorem sc_is_number : FnScope N_is_number A_is_number (defScope (top 1)) := ⟨rfl, rfl, rfl, by decide +kernel, rfl, by decide +kernel, by decide +kernel⟩
abbrev N_is_draw : List Str := ["many", "thing", "seen", "ball"]
abbrev A_is_draw : List Str := ["many", "thing"]
def b_is_draw : Sms :=
  .cons (.ite (.not (.isi .tup (.var 1)))
  (.cons (.ret (.cst (.bool false)))
  (.nil))
  (.nil))
  (.cons (.asg (.nm 2) .dic)
  (.cons (.for (.nm 3) (.seq (.var 1))
  (.cons (.ite (.or (.not (.call 0 (.cons (.var 3) .nil))) (.or (.cmp .Lt (.var 3) (.cst (.int 0))) (.or (.cmp .GtE (.var 3) (.var 0)) (.cmp .In (.var 3) (.var 2)))))
  (.cons (.ret (.cst (.bool false)))
  (.nil))
  (.nil))
  (.cons (.set (.var 2) (.var 3) (.cst (.bool true)))
  (.nil))))
  (.cons (.ret (.cst (.bool true)))
  (.nil))))
theorem k_is_draw : chkSs b_is_draw ⟨N_is_draw, defScope (top 3), fun _ => true, fns, gls, cls⟩ (defBody (top 3)) = true := by decide +kernel
theorem sc_is_draw : FnScope N_is_draw A_is_draw (defScope (top 3)) := ⟨rfl, rfl, rfl, by decide +kernel, rfl, by decide +kernel, by decide +kernel⟩
abbrev N_strip_of : List Str := ["draw", "ball", "k", "own"]
abbrev A_strip_of : List Str := ["draw", "ball"]
def b_strip_of : Sms :=
  .cons (.for (.tp [2, 3]) (.enu (.var 0))
  (.cons (.ite (.cmp .Eq (.var 3) (.var 1))
  (.cons (.ret (.var 2))
  (.nil))
  (.nil))
  (.nil)))
  (.cons (.ret (.cst .none))
  (.nil))
theorem k_strip_of : chkSs b_strip_of ⟨N_strip_of, defScope (top 4), fun _ => true, fns, gls, cls⟩ (defBody (top 4)) = true := by decide +kernel
theorem sc_strip_of : FnScope N_strip_of A_strip_of (defScope (top 4)) := ⟨rfl, rfl, rfl, by decide +kernel, rfl, by decide +kernel, by decide +kernel⟩
abbrev N_law_feed : List Str := ["_law_script"]
abbrev A_law_feed : List Str := ["_law_script"]
def b_law_feed : Sms :=
  .cons (.ret (.lst (.cons (.fz (.sl (.var 0) .none (.some (.cst (.int 63))))) (.cons (.cst (.int 0)) (.cons (.cst (.int 0)) (.cons (.cst (.int 0)) .nil))))))
  (.nil)
theorem k_law_feed : chkSs b_law_feed ⟨N_law_feed, defScope (top 6), fun _ => true, fns, gls, cls⟩ (defBody (top 6)) = true := by decide +kernel
theorem sc_law_feed : FnScope N_law_feed A_law_feed (defScope (top 6)) := ⟨rfl, rfl, rfl, by decide +kernel, rfl, by decide +kernel, by decide +kernel⟩
abbrev N_law_draw : List Str := ["_law_feed_here", "_law_many", "_law_told", "_law_cell", "_law_turn", "_law_mixed"]
abbrev A_law_draw : List Str := ["_law_feed_here", "_law_many"]
def b_law_draw : Sms :=
  .cons (.augS (.var 0) (.cst (.int 3)) .Add (.cst (.int 1)))
  (.cons (.ite (.cmp .Gt (.ix (.var 0) (.cst (.int 2))) (.cst (.int 0)))
  (.cons (.asg (.nm 2) (.bin .Mod (.ix (.var 0) (.cst (.int 2))) (.var 1)))
  (.cons (.set (.var 0) (.cst (.int 2)) (.bin .FloorDiv (.ix (.var 0) (.cst (.int 2))) (.var 1)))
  (.cons (.ret (.var 2))
  (.nil))))
  (.nil))
  (.cons (.asg (.nm 3) (.ite (.cmp .Eq (.ix (.var 0) (.cst (.int 0))) (.fz (.lst .nil))) (.cst (.int 7)) (.ix (.ix (.var 0) (.cst (.int 0))) (.bin .Mod (.ix (.var 0) (.cst (.int 1))) (.blt .len (.cons (.ix (.var 0) (.cst (.int 0))) .nil))))))
  (.cons (.augS (.var 0) (.cst (.int 1)) .Add (.cst (.int 1)))
  (.cons (.ite (.and (.cmp .GtE (.var 3) (.bin .Pow (.cst (.int 10)) (.cst (.int 18)))) (.cmp .LtE (.ix (.var 0) (.cst (.int 1))) (.blt .len (.cons (.ix (.var 0) (.cst (.int 0))) .nil))))
  (.cons (.set (.var 0) (.cst (.int 2)) (.bin .FloorDiv (.var 3) (.var 1)))
  (.cons (.ret (.bin .Mod (.var 3) (.var 1)))
  (.nil)))
  (.nil))
  (.cons (.asg (.nm 4) (.ix (.var 0) (.cst (.int 3))))
  (.cons (.asg (.nm 5) (.bin .Mod (.bin .Add (.bin .Add (.bin .Mod (.var 3) (.cst (.int 2147483629))) (.bin .Mult (.bin .Mult (.cst (.int 69621)) (.var 4)) (.var 4))) (.bin .Mult (.cst (.int 7)) (.var 4))) (.cst (.int 2147483629))))
  (.cons (.asg (.nm 5) (.bin .Mod (.bin .Add (.bin .Mult (.var 5) (.var 5)) (.bin .Mult (.cst (.int 48271)) (.var 4))) (.cst (.int 2147483647))))
  (.cons (.asg (.nm 5) (.bin .Mod (.bin .Add (.bin .Mult (.var 5) (.var 5)) (.bin .Mult (.cst (.int 16807)) (.var 4))) (.cst (.int 2147483587))))
  (.cons (.ret (.bin .Mod (.bin .FloorDiv (.bin .Mod (.bin .Add (.bin .Mult (.var 5) (.var 5)) (.var 4)) (.cst (.int 2147483629))) (.cst (.int 131))) (.var 1)))
  (.nil))))))))))
theorem k_law_draw : chkSs b_law_draw ⟨N_law_draw, defScope (top 7), fun _ => true, fns, gls, cls⟩ (defBody (top 7)) = true := by decide +kernel
theorem sc_law_draw : FnScope N_law_draw A_law_draw (defScope (top 7)) := ⟨rfl, rfl, rfl, by decide +kernel, rfl, by decide +kernel, by decide +kernel⟩
abbrev N_law_pulled : List Str := ["_law_feed_here", "_law_many", "_law_count", "_law_pool", "_law_found", "_law_k"]
abbrev A_law_pulled : List Str := ["_law_feed_here", "_law_many", "_law_count"]
def b_law_pulled : Sms :=
  .cons (.par [3, 4] (.cons (.lrg1 false (.var 1)) (.cons (.lst .nil) .nil)))
  (.cons (.for (.nm 5) (.rg1 (.var 2))
  (.cons (.exp (.mth .append (.var 4) (.cons (.mth .pop (.var 3) (.cons (.call 4 (.cons (.var 0) (.cons (.blt .len (.cons (.var 3) .nil)) .nil))) .nil)) .nil)))
  (.nil)))
  (.cons (.ret (.blt .tuple (.cons (.var 4) .nil)))
  (.nil)))
theorem k_law_pulled : chkSs b_law_pulled ⟨N_law_pulled, defScope (top 8), fun _ => true, fns, gls, cls⟩ (defBody (top 8)) = true := by decide +kernel
theorem sc_law_pulled : FnScope N_law_pulled A_law_pulled (defScope (top 8)) := ⟨rfl, rfl, rfl, by decide +kernel, rfl, by decide +kernel, by decide +kernel⟩
abbrev N_law_bend : List Str := ["_law_feed_here", "_law_thing", "_law_odd_here", "_law_at", "_law_way"]
abbrev A_law_bend : List Str := ["_law_feed_here", "_law_thing", "_law_odd_here"]
def b_law_bend : Sms :=
  .cons (.ite (.and (.isi .tup (.var 1)) (.and (.cmp .NotEq (.var 1) (.tup .nil)) (.cmp .Gt (.call 4 (.cons (.var 0) (.cons (.cst (.int 4)) .nil))) (.cst (.int 0)))))
  (.cons (.asg (.nm 3) (.call 4 (.cons (.var 0) (.cons (.blt .len (.cons (.var 1) .nil)) .nil))))
  (.cons (.ret (.bin .Add (.bin .Add (.sl (.var 1) .none (.some (.var 3))) (.tup (.cons (.call 6 (.cons (.var 0) (.cons (.ix (.var 1) (.var 3)) (.cons (.var 2) .nil)))) .nil))) (.sl (.var 1) (.some (.bin .Add (.var 3) (.cst (.int 1)))) .none)))
  (.nil)))
  (.nil))
  (.cons (.asg (.nm 4) (.call 4 (.cons (.var 0) (.cons (.cst (.int 6)) .nil))))
  (.cons (.ite (.and (.isi .tup (.var 1)) (.cmp .Lt (.var 4) (.cst (.int 4))))
  (.cons (.asg (.nm 3) (.call 4 (.cons (.var 0) (.cons (.bin .Add (.blt .len (.cons (.var 1) .nil)) (.cst (.int 1))) .nil))))
  (.cons (.ite (.cmp .Eq (.var 4) (.cst (.int 0)))
  (.cons (.ret (.bin .Add (.bin .Add (.sl (.var 1) .none (.some (.var 3))) (.tup (.cons (.ix (.var 2) (.call 4 (.cons (.var 0) (.cons (.blt .len (.cons (.var 2) .nil)) .nil)))) .nil))) (.sl (.var 1) (.some (.var 3)) .none)))
  (.nil))
  (.nil))
  (.cons (.ret (.ite (.cmp .Eq (.var 4) (.cst (.int 1))) (.bin .Add (.sl (.var 1) .none (.some (.var 3))) (.sl (.var 1) (.some (.bin .Add (.var 3) (.cst (.int 1)))) .none)) (.ite (.cmp .Eq (.var 4) (.cst (.int 2))) (.fz (.blt .list (.cons (.var 1) .nil))) (.bin .Add (.var 1) (.sl (.var 1) .none (.some (.var 3)))))))
  (.nil))))
  (.nil))
  (.cons (.ite (.and (.isi .int (.var 1)) (.cmp .Lt (.var 4) (.cst (.int 4))))
  (.cons (.ret (.ix (.tup (.cons (.bin .Add (.var 1) (.cst (.int 1))) (.cons (.bin .Sub (.var 1) (.cst (.int 1))) (.cons (.neg (.var 1)) (.cons (.tup (.cons (.var 1) .nil)) .nil))))) (.var 4)))
  (.nil))
  (.nil))
  (.cons (.ite (.and (.isi .str (.var 1)) (.cmp .Lt (.var 4) (.cst (.int 3))))
  (.cons (.ret (.ix (.tup (.cons (.bin .Add (.var 1) (.cst (.str "a"))) (.cons (.sl (.var 1) (.some (.cst (.int 1))) .none) (.cons (.fz (.lst (.cons (.var 1) .nil))) .nil)))) (.var 4)))
  (.nil))
  (.nil))
  (.cons (.ret (.ix (.var 2) (.call 4 (.cons (.var 0) (.cons (.blt .len (.cons (.var 2) .nil)) .nil)))))
  (.nil))))))
theorem k_law_bend : chkSs b_law_bend ⟨N_law_bend, defScope (top 9), fun _ => true, fns, gls, cls⟩ (defBody (top 9)) = true := by decide +kernel
theorem sc_law_bend : FnScope N_law_bend A_law_bend (defScope (top 9)) := ⟨rfl, rfl, rfl, by decide +kernel, rfl, by decide +kernel, by decide +kernel⟩
abbrev N_law_odd : List Str := ["_law_small"]
abbrev A_law_odd : List Str := []
def b_law_odd : Sms :=
  .cons (.asg (.nm 0) (.tup (.cons (.cst .none) (.cons (.cst (.bool true)) (.cons (.cst (.bool false)) (.cons (.cst (.str "")) (.cons (.cst (.str "a")) (.cons (.cst (.str "A")) (.cons (.cst (.int 0)) (.cons (.cst (.int 1)) (.cons (.cst (.int 2)) (.cons (.cst (.int 4)) (.cons (.neg (.cst (.int 1))) (.cons (.tup .nil) (.cons (.fz (.lst .nil)) (.cons (.tup (.cons (.fz (.lst (.cons (.cst (.int 1)) .nil))) (.cons (.cst (.str "a")) .nil))) (.cons (.tup (.cons (.cst (.str "a")) (.cons (.cst (.int 1)) .nil))) (.cons (.tup (.cons (.cst (.str "a")) .nil)) .nil))))))))))))))))))
  (.cons (.ret (.bin .Add (.var 0) (.tup (.cons (.bin .Mult (.bin .Mult (.bin .Mult (.bin .Pow (.cst (.int 10)) (.cst (.int 64))) (.bin .Pow (.cst (.int 10)) (.cst (.int 64)))) (.bin .Pow (.cst (.int 10)) (.cst (.int 64)))) (.bin .Pow (.cst (.int 10)) (.cst (.int 7)))) (.cons (.cst (.str "abcdefgh")) (.cons (.cst (.str "abcdefghi")) (.cons (.cst (.str "a b")) (.cons (.tup (.cons (.cst (.int 0)) .nil)) (.cons (.tup (.cons (.cst (.int 1)) (.cons (.cst (.int 1)) .nil))) .nil)))))))))
  (.nil))
theorem k_law_odd : chkSs b_law_odd ⟨N_law_odd, defScope (top 10), fun _ => true, fns, gls, cls⟩ (defBody (top 10)) = true := by decide +kernel
theorem sc_law_odd : FnScope N_law_odd A_law_odd (defScope (top 10)) := ⟨rfl, rfl, rfl, by decide +kernel, rfl, by decide +kernel, by decide +kernel⟩
abbrev N_law_same : List Str := ["_law_told", "_law_due_here"]
abbrev A_law_same : List Str := ["_law_told", "_law_due_here"]
def b_law_same : Sms :=
  .cons (.ret (.or (.and (.cmp .Is (.var 0) (.cst (.bool true))) (.var 1)) (.and (.cmp .Is (.var 0) (.cst (.bool false))) (.not (.var 1)))))
  (.nil)
theorem k_law_same : chkSs b_law_same ⟨N_law_same, defScope (top 11), fun _ => true, fns, gls, cls⟩ (defBody (top 11)) = true := by decide +kernel
theorem sc_law_same : FnScope N_law_same A_law_same (defScope (top 11)) := ⟨rfl, rfl, rfl, by decide +kernel, rfl, by decide +kernel, by decide +kernel⟩
abbrev N_law_number : List Str := ["_law_thing"]
abbrev A_law_number : List Str := ["_law_thing"]
def b_law_number : Sms :=
  .cons (.ret (.and (.isi .int (.var 0)) (.and (.cmp .IsNot (.var 0) (.cst (.bool true))) (.cmp .IsNot (.var 0) (.cst (.bool false))))))
  (.nil)
theorem k_law_number : chkSs b_law_number ⟨N_law_number, defScope (top 12), fun _ => true, fns, gls, cls⟩ (defBody (top 12)) = true := by decide +kernel
theorem sc_law_number : FnScope N_law_number A_law_number (defScope (top 12)) := ⟨rfl, rfl, rfl, by decide +kernel, rfl, by decide +kernel, by decide +kernel⟩
abbrev N_law_due : List Str := ["_law_many", "_law_thing", "_law_part"]
abbrev A_law_due : List Str := ["_law_many", "_law_thing"]
def b_law_due : Sms :=
  .cons (.ite (.or (.not (.isi .tup (.var 1))) (.cmp .NotEq (.fz (.comp (.var 2) (.nm 2) (.seq (.var 1)) (.some (.not (.call 9 (.cons (.var 2) .nil)))) [("_law_part", 2)])) (.fz (.lst .nil))))
  (.cons (.ret (.cst (.bool false)))
  (.nil))
  (.nil))
  (.cons (.ite (.cmp .NotEq (.fz (.comp (.var 2) (.nm 2) (.seq (.var 1)) (.some (.or (.cmp .Lt (.var 2) (.cst (.int 0))) (.cmp .GtE (.var 2) (.var 0)))) [("_law_part", 2)])) (.fz (.lst .nil)))
  (.cons (.ret (.cst (.bool false)))
  (.nil))
  (.nil))
  (.cons (.ret (.cmp .Eq (.sset true (.var 1)) (.blt .len (.cons (.var 1) .nil))))
  (.nil)))
theorem k_law_due : chkSs b_law_due ⟨N_law_due, defScope (top 13), fun _ => true, fns, gls, cls⟩ (defBody (top 13)) = true := by decide +kernel
theorem sc_law_due : FnScope N_law_due A_law_due (defScope (top 13)) := ⟨rfl, rfl, rfl, by decide +kernel, rfl, by decide +kernel, by decide +kernel⟩
abbrev N_law_fixed : List Str := ["_law_great", "_law_found"]
abbrev A_law_fixed : List Str := []
def b_law_fixed : Sms :=
  .cons (.asg (.nm 0) (.bin .Pow (.cst (.int 10)) (.cst (.int 60))))
  (.cons (.asg (.nm 1) (.lst (.cons (.tup .nil) (.cons (.tup (.cons (.cst (.int 0)) .nil)) (.cons (.tup (.cons (.cst (.int 1)) .nil)) (.cons (.tup (.cons (.cst (.int 0)) (.cons (.cst (.int 1)) .nil))) (.cons (.tup (.cons (.cst (.int 1)) (.cons (.cst (.int 0)) .nil))) (.cons (.tup (.cons (.cst (.int 0)) (.cons (.cst (.int 0)) .nil))) (.cons (.tup (.cons (.cst (.int 2)) (.cons (.cst (.int 0)) (.cons (.cst (.int 1)) .nil)))) (.cons (.tup (.cons (.cst (.int 0)) (.cons (.cst (.int 2)) .nil))) (.cons (.tup (.cons (.neg (.cst (.int 1))) .nil)) (.cons (.tup (.cons (.cst (.int 0)) (.cons (.neg (.cst (.int 1))) .nil))) (.cons (.tup (.cons (.cst (.bool true)) .nil)) (.cons (.tup (.cons (.cst (.int 0)) (.cons (.cst (.bool true)) .nil))) (.cons (.tup (.cons (.cst (.bool false)) .nil)) .nil)))))))))))))))
  (.cons (.exp (.mth .extend (.var 1) (.cons (.fz (.lst (.cons (.cst .none) (.cons (.cst (.int 0)) (.cons (.cst (.str "0")) (.cons (.tup (.cons (.cst (.str "0")) .nil)) (.cons (.tup (.cons (.tup (.cons (.cst (.int 0)) .nil)) .nil)) (.cons (.tup (.cons (.cst .none) .nil)) (.cons (.tup (.cons (.cst (.int 0)) (.cons (.cst .none) .nil))) (.cons (.tup (.cons (.fz (.lst (.cons (.cst (.int 0)) .nil))) .nil)) (.cons (.tup (.cons (.cst (.int 0)) (.cons (.fz (.lst (.cons (.cst (.int 1)) .nil))) .nil))) (.cons (.tup (.cons (.var 0) .nil)) (.cons (.lrg1 true (.cst (.int 40))) .nil))))))))))))) .nil)))
  (.cons (.exp (.mth .extend (.var 1) (.cons (.fz (.lst (.cons (.fz (.lst (.cons (.cst (.int 0)) .nil))) (.cons (.fz (.lst .nil)) (.cons (.tup (.cons (.cst (.int 15)) .nil)) .nil))))) .nil)))
  (.cons (.ret (.bin .Add (.var 1) (.fz (.lst (.cons (.tup (.cons (.cst (.int 16)) .nil)) (.cons (.lrg1 true (.cst (.int 16))) (.cons (.tup (.cons (.cst (.int 0)) (.cons (.cst (.int 1)) (.cons (.cst (.int 2)) (.cons (.cst (.int 1)) .nil))))) (.cons (.tup (.cons (.cst (.int 3)) (.cons (.cst (.int 2)) (.cons (.cst (.int 1)) (.cons (.cst (.int 0)) .nil))))) (.cons (.tup (.cons (.cst (.int 1)) (.cons (.cst (.bool true)) .nil))) (.cons (.tup (.cons (.cst (.int 0)) (.cons (.cst (.bool false)) .nil))) .nil))))))))))
  (.nil)))))
theorem k_law_fixed : chkSs b_law_fixed ⟨N_law_fixed, defScope (top 14), fun _ => true, fns, gls, cls⟩ (defBody (top 14)) = true := by decide +kernel
theorem sc_law_fixed : FnScope N_law_fixed A_law_fixed (defScope (top 14)) := ⟨rfl, rfl, rfl, by decide +kernel, rfl, by decide +kernel, by decide +kernel⟩
abbrev N_law_wide : List Str := ["_law_cases", "_law_long", "_law_many", "_law_thing", "_law_due_here"]
abbrev A_law_wide : List Str := []
def b_law_wide : Sms :=
  .cons (.asg (.nm 0) (.lst (.cons (.tup (.cons (.cst (.int 17)) (.cons (.tup (.cons (.cst (.int 16)) .nil)) (.cons (.cst (.bool true)) .nil)))) (.cons (.tup (.cons (.cst (.int 17)) (.cons (.tup (.cons (.cst (.int 17)) .nil)) (.cons (.cst (.bool false)) .nil)))) (.cons (.tup (.cons (.cst (.int 40)) (.cons (.lrg1 true (.cst (.int 40))) (.cons (.cst (.bool true)) .nil)))) (.cons (.tup (.cons (.cst (.int 40)) (.cons (.lrg1 true (.cst (.int 41))) (.cons (.cst (.bool false)) .nil)))) .nil))))))
  (.cons (.exp (.mth .extend (.var 0) (.cons (.fz (.lst (.cons (.tup (.cons (.cst (.int 1000)) (.cons (.tup (.cons (.cst (.int 999)) (.cons (.cst (.int 0)) .nil))) (.cons (.cst (.bool true)) .nil)))) (.cons (.tup (.cons (.cst (.int 1000)) (.cons (.tup (.cons (.cst (.int 1000)) .nil)) (.cons (.cst (.bool false)) .nil)))) (.cons (.tup (.cons (.cst (.int 1000)) (.cons (.bin .Add (.lrg1 true (.cst (.int 200))) (.tup (.cons (.cst (.int 0)) .nil))) (.cons (.cst (.bool false)) .nil)))) .nil))))) .nil)))
  (.cons (.asg (.nm 1) (.trg3 (.cst (.int 999)) (.neg (.cst (.int 1))) (.neg (.cst (.int 1)))))
  (.cons (.exp (.mth .append (.var 0) (.cons (.tup (.cons (.cst (.int 1000)) (.cons (.var 1) (.cons (.cst (.bool true)) .nil)))) .nil)))
  (.cons (.ite (.or (.cmp .NotEq (.call 2 (.cons (.var 1) (.cons (.cst (.int 0)) .nil))) (.cst (.int 999))) (.or (.cmp .NotEq (.call 2 (.cons (.var 1) (.cons (.cst (.int 17)) .nil))) (.cst (.int 982))) (.cmp .IsNot (.call 2 (.cons (.var 1) (.cons (.cst (.int 1000)) .nil))) (.cst .none))))
  (.cons (.ret (.cst (.bool false)))
  (.nil))
  (.nil))
  (.cons (.ret (.blt .all (.cons (.fz (.comp (.call 8 (.cons (.call 1 (.cons (.var 2) (.cons (.var 3) .nil))) (.cons (.var 4) .nil))) (.tp [2, 3, 4]) (.seq (.var 0)) .none [("_law_due_here", 4), ("_law_many", 2), ("_law_thing", 3)])) .nil)))
  (.nil))))))
theorem k_law_wide : chkSs b_law_wide ⟨N_law_wide, defScope (top 15), fun _ => true, fns, gls, cls⟩ (defBody (top 15)) = true := by decide +kernel
theorem sc_law_wide : FnScope N_law_wide A_law_wide (defScope (top 15)) := ⟨rfl, rfl, rfl, by decide +kernel, rfl, by decide +kernel, by decide +kernel⟩
abbrev N_law_near : List Str := ["_law_feed_here", "_law_many", "_law_pulled_here", "_law_bent", "_law_found", "_law_one", "_law_other", "_law_ball"]
abbrev A_law_near : List Str := ["_law_feed_here", "_law_many", "_law_pulled_here"]
def b_law_near : Sms :=
  .cons (.asg (.nm 3) (.call 6 (.cons (.var 0) (.cons (.var 2) (.cons (.call 7 .nil) .nil)))))
  (.cons (.asg (.nm 4) (.lst (.cons (.var 2) (.cons (.rev (.var 2)) (.cons (.var 3) (.cons (.call 6 (.cons (.var 0) (.cons (.var 3) (.cons (.call 7 .nil) .nil)))) (.cons (.bin .Add (.var 2) (.tup (.cons (.var 1) .nil))) (.cons (.fz (.blt .list (.cons (.var 2) .nil))) .nil))))))))
  (.cons (.ite (.cmp .NotEq (.var 2) (.tup .nil))
  (.cons (.par [5, 6] (.cons (.call 4 (.cons (.var 0) (.cons (.blt .len (.cons (.var 2) .nil)) .nil))) (.cons (.call 4 (.cons (.var 0) (.cons (.blt .len (.cons (.var 2) .nil)) .nil))) .nil)))
  (.cons (.exp (.mth .append (.var 4) (.cons (.bin .Add (.bin .Add (.sl (.var 2) .none (.some (.var 5))) (.tup (.cons (.ix (.var 2) (.var 6)) .nil))) (.sl (.var 2) (.some (.bin .Add (.var 5) (.cst (.int 1)))) .none)) .nil)))
  (.cons (.asg (.nm 7) (.ix (.var 2) (.var 6)))
  (.cons (.exp (.mth .append (.var 4) (.cons (.bin .Add (.bin .Add (.sl (.var 2) .none (.some (.var 5))) (.tup (.cons (.var 7) .nil))) (.sl (.var 2) (.some (.var 5)) .none)) .nil)))
  (.cons (.exp (.mth .append (.var 4) (.cons (.bin .Add (.bin .Add (.sl (.var 2) .none (.some (.var 5))) (.tup (.cons (.bin .Sub (.call 4 (.cons (.var 0) (.cons (.bin .Add (.var 1) (.cst (.int 2))) .nil))) (.cst (.int 1))) .nil))) (.sl (.var 2) (.some (.bin .Add (.var 5) (.cst (.int 1)))) .none)) .nil)))
  (.nil))))))
  (.nil))
  (.cons (.ret (.fz (.var 4)))
  (.nil))))
theorem k_law_near : chkSs b_law_near ⟨N_law_near, defScope (top 16), fun _ => true, fns, gls, cls⟩ (defBody (top 16)) = true := by decide +kernel
theorem sc_law_near : FnScope N_law_near A_law_near (defScope (top 16)) := ⟨rfl, rfl, rfl, by decide +kernel, rfl, by decide +kernel, by decide +kernel⟩
abbrev N_law_placed : List Str := ["_law_many", "_law_pulled_here", "_law_ball", "_law_told", "_law_due_here", "_law_k", "_law_own"]
abbrev A_law_placed : List Str := ["_law_many", "_law_pulled_here"]
def b_law_placed : Sms :=
  .cons (.for (.nm 2) (.rg3 (.bin .Add (.var 0) (.cst (.int 2))) (.neg (.cst (.int 3))) (.neg (.cst (.int 1))))
  (.cons (.asg (.nm 3) (.call 2 (.cons (.var 1) (.cons (.var 2) .nil))))
  (.cons (.asg (.nm 4) (.fz (.comp (.var 5) (.tp [5, 6]) (.enu (.var 1)) (.some (.cmp .Eq (.var 6) (.var 2))) [("_law_k", 5), ("_law_own", 6)])))
  (.cons (.ite (.cmp .NotEq (.blt .repr (.cons (.var 3) .nil)) (.blt .repr (.cons (.ix (.fz (.bin .Add (.var 4) (.fz (.lst (.cons (.cst .none) .nil))))) (.cst (.int 0))) .nil)))
  (.cons (.ret (.cst (.bool false)))
  (.nil))
  (.nil))
  (.nil)))))
  (.cons (.ret (.cmp .Is (.call 2 (.cons (.var 1) (.cons (.bin .Pow (.cst (.int 10)) (.cst (.int 60))) .nil))) (.cst .none)))
  (.nil))
theorem k_law_placed : chkSs b_law_placed ⟨N_law_placed, defScope (top 17), fun _ => true, fns, gls, cls⟩ (defBody (top 17)) = true := by decide +kernel
theorem sc_law_placed : FnScope N_law_placed A_law_placed (defScope (top 17)) := ⟨rfl, rfl, rfl, by decide +kernel, rfl, by decide +kernel, by decide +kernel⟩
abbrev N_law : List Str := ["_law_script", "_law_feed_here", "_law_some", "_law_things", "_law_k", "_law_many", "_law_pulled_here", "_law_kept", "_law_own", "_law_thing"]
abbrev A_law : List Str := ["_law_script"]
def b_law : Sms :=
  .cons (.asg (.nm 1) (.call 3 (.cons (.var 0) .nil)))
  (.cons (.par [2, 3] (.cons (.lst .nil) (.cons (.call 11 .nil) .nil)))
  (.cons (.for (.nm 4) (.rg1 (.cst (.int 6)))
  (.cons (.asg (.nm 5) (.bin .Add (.cst (.int 1)) (.call 4 (.cons (.var 1) (.cons (.ix (.tup (.cons (.cst (.int 4)) (.cons (.cst (.int 16)) .nil))) (.call 4 (.cons (.var 1) (.cons (.cst (.int 2)) .nil)))) .nil)))))
  (.cons (.asg (.nm 6) (.call 5 (.cons (.var 1) (.cons (.var 5) (.cons (.ite (.cmp .Eq (.call 4 (.cons (.var 1) (.cons (.cst (.int 2)) .nil))) (.cst (.int 0))) (.var 5) (.call 4 (.cons (.var 1) (.cons (.bin .Add (.var 5) (.cst (.int 1))) .nil)))) .nil)))))
  (.cons (.exp (.mth .append (.var 2) (.cons (.tup (.cons (.var 5) (.cons (.var 6) .nil))) .nil)))
  (.cons (.exp (.mth .extend (.var 3) (.cons (.call 13 (.cons (.var 1) (.cons (.var 5) (.cons (.var 6) .nil)))) .nil)))
  (.nil))))))
  (.cons (.asg (.nm 7) (.blt .repr (.cons (.tup (.cons (.var 2) (.cons (.var 3) .nil))) .nil)))
  (.cons (.for (.tp [5, 6]) (.seq (.fz (.bin .Add (.var 2) (.fz (.sl (.var 2) .none (.some (.cst (.int 1))))))))
  (.cons (.for (.nm 8) (.seq (.tup (.cons (.var 5) (.cons (.bin .Add (.cst (.int 1)) (.call 4 (.cons (.var 1) (.cons (.cst (.int 16)) .nil)))) (.cons (.cst (.int 1)) .nil)))))
  (.cons (.for (.nm 9) (.seq (.var 3))
  (.cons (.ite (.not (.call 8 (.cons (.call 1 (.cons (.var 8) (.cons (.var 9) .nil))) (.cons (.call 10 (.cons (.var 8) (.cons (.var 9) .nil))) .nil))))
  (.cons (.ret (.cst (.bool false)))
  (.nil))
  (.nil))
  (.nil)))
  (.nil)))
  (.cons (.ite (.cmp .IsNot (.call 1 (.cons (.var 5) (.cons (.var 6) .nil))) (.cst (.bool true)))
  (.cons (.ret (.cst (.bool false)))
  (.nil))
  (.nil))
  (.cons (.ite (.or (.not (.call 14 (.cons (.var 5) (.cons (.var 6) .nil)))) (.not (.call 14 (.cons (.var 5) (.cons (.rev (.var 6)) .nil)))))
  (.cons (.ret (.cst (.bool false)))
  (.nil))
  (.nil))
  (.nil)))))
  (.cons (.for (.nm 9) (.seq (.var 3))
  (.cons (.ite (.not (.call 8 (.cons (.call 1 (.cons (.cst (.int 16)) (.cons (.var 9) .nil))) (.cons (.call 10 (.cons (.cst (.int 16)) (.cons (.var 9) .nil))) .nil))))
  (.cons (.ret (.cst (.bool false)))
  (.nil))
  (.nil))
  (.nil)))
  (.cons (.ret (.and (.cmp .Eq (.blt .repr (.cons (.tup (.cons (.var 2) (.cons (.var 3) .nil))) .nil)) (.var 7)) (.call 12 .nil)))
  (.nil)))))))
theorem k_law : chkSs b_law ⟨N_law, defScope (top 18), fun _ => true, fns, gls, cls⟩ (defBody (top 18)) = true := by decide +kernel
theorem sc_law : FnScope N_law A_law (defScope (top 18)) := ⟨rfl, rfl, rfl, by decide +kernel, rfl, by decide +kernel, by decide +kernel⟩
end Dp.K07
namespace Dp.K07
open PySem PySem.Spec L2
open PyProof.Rows hiding St
local macro_rules | `(tactic| deriving_LawfulEq_tactic_step) => `(tactic| first | assumption | exact put_same | (refine put_new (by assumption) ?_; deriving_LawfulEq_tactic_step) | (refine put_o2 (by assumption) ?_; deriving_LawfulEq_tactic_step) | (refine put_o3 (by assumption) ?_; deriving_LawfulEq_tactic_step) | (refine put_o1 (by assumption) ?_ ?_ <;> deriving_LawfulEq_tactic_step) | (refine put_o4 ?_ ?_ (by intro z; cases z) <;> deriving_LawfulEq_tactic_step))
local macro_rules | `(tactic| deriving_ReflEq_tactic) => `(tactic| repeat (first | ((conv => whnf); refine ⟨small rfl, fun p hp => ?_⟩; (conv => whnf); refine fz_new hp ?_) | ((conv => whnf); refine ⟨small rfl, ?_⟩)))
local macro_rules | `(tactic| deriving_LawfulEq_tactic) => `(tactic| repeat (first | exact Da.int _ | exact Da.non | exact Da.bl _ | exact Da.str _ | assumption | apply Da.tup | apply Da.lst | exact Das.nil | apply Das.cons | apply Das.append | apply das_rep))
local macro_rules | `(tactic| bv_omega) => `(tactic| refine fgt_to (le_fin (fun a d na h => by deriving_LawfulEq_tactic_step) (by deriving_LawfulEq_tactic_step) (by omega)) ?_)
local macro_rules | `(tactic| ac_rfl) => `(tactic| repeat ((conv => whnf); first | refine step_ ?_ | (refine fgt_id ?_; (conv => whnf); refine step_ ?_) | refine len_tm ?_ | refine len_vm ?_ | refine len_t ?_ | refine len_v ?_ | refine len_lm (by deriving_LawfulEq_tactic_step) ?_ | refine len_l (by deriving_LawfulEq_tactic_step) ?_ | refine eq_i ?_ | refine ix_t (by rfl) ?_ | refine ix_v (by rfl) ?_ | refine fz_new (by assumption) ?_ | refine ⟨small rfl, ?_⟩))
local macro_rules | `(tactic| symm_saturate) => `(tactic| repeat (first | with_reducible refine E_fz ?_ | with_reducible refine E_lst ?_ | with_reducible refine E_tup ?_ | with_reducible refine Es_cons ?_ | with_reducible refine Es_nil ?_ | with_reducible refine E_cint ?_ | with_reducible refine E_cstr ?_ | with_reducible refine E_cbl ?_ | with_reducible refine E_cnon ?_ | with_reducible refine E_ix ?_ | with_reducible refine E_bin ?_ | with_reducible refine E_blt ?_ | with_reducible refine E_call ?_ | with_reducible refine E_neg ?_ | with_reducible refine E_sl ?_ | with_reducible refine S_ret ?_ | with_reducible refine S_exp ?_ | with_reducible refine S_asg ?_ | with_reducible refine Ss_cons ?_ | with_reducible refine B_sub ?_ | with_reducible refine B_add ?_ | with_reducible refine B_neg ?_ | with_reducible refine B_min2 ?_ | with_reducible refine B_max2 ?_ | with_reducible refine G_nm ?_ | ((with_reducible apply E_var); exact rfl) | (refine ⟨small rfl, fun pz hpz => ?_⟩; with_reducible refine fz_new hpz ?_) | refine ⟨small rfl, ?_⟩))
local macro_rules | `(tactic| suggestions) => `(tactic| repeat ((conv => whnf); first | refine step_ ?_ | refine eq_i ?_ | refine ⟨rfl, _, rfl, ?_⟩ | refine ⟨rfl, ?_⟩ | refine ⟨small rfl, ?_⟩ | refine fgt_id ?_))
local macro_rules | `(tactic| decide_cbv) => `(tactic| repeat ((conv => whnf); refine fgt_id ?_))

abbrev fdL (its : List Int) (i c t : Int) : List W := [.lst (its.map W.int), .int i, .int c, .int t]
section
variable {its : List Int} {i c t j : Int} {S : Sto} {f : Addr}
theorem lcells {K : WK} (k : K (.lst (its.map W.int)) (S.put f (.lst (fdL its i c t)))) : ixK (.ref f) (.int 0) (S.put f (.lst (fdL its i c t))) K := ix_l put_same rfl k
theorem lat {K : WK} (k : K (.int i) (S.put f (.lst (fdL its i c t)))) : ixK (.ref f) (.int 1) (S.put f (.lst (fdL its i c t))) K := ix_l put_same rfl k
theorem lleft {K : WK} (k : K (.int c) (S.put f (.lst (fdL its i c t)))) : ixK (.ref f) (.int 2) (S.put f (.lst (fdL its i c t))) K := ix_l put_same rfl k
theorem lturn {K : WK} (k : K (.int t) (S.put f (.lst (fdL its i c t)))) : ixK (.ref f) (.int 3) (S.put f (.lst (fdL its i c t))) K := ix_l put_same rfl k
theorem lturnG {K : WK} (k : K (.int t) (S.put f (.lst (fdL its i c t)))) : getK (.ref f) (.int 3) (S.put f (.lst (fdL its i c t))) K := by unfold getK; exact .inl ⟨_, _, _, rfl, put_same, rfl, k⟩
theorem latG {K : WK} (k : K (.int i) (S.put f (.lst (fdL its i c t)))) : getK (.ref f) (.int 1) (S.put f (.lst (fdL its i c t))) K := by unfold getK; exact .inl ⟨_, _, _, rfl, put_same, rfl, k⟩
theorem lsetAt {K : Sto → Prop} (k : K (S.put f (.lst (fdL its j c t)))) : setK (.ref f) (.int 1) (.int j) (S.put f (.lst (fdL its i c t))) K := set_l (j := 1) put_same rfl (by rw [put_put]; exact k)
theorem lsetLeft {K : Sto → Prop} (k : K (S.put f (.lst (fdL its i j t)))) : setK (.ref f) (.int 2) (.int j) (S.put f (.lst (fdL its i c t))) K := set_l (j := 2) put_same rfl (by rw [put_put]; exact k)
theorem lsetTurn {K : Sto → Prop} (k : K (S.put f (.lst (fdL its i c j)))) : setK (.ref f) (.int 3) (.int j) (S.put f (.lst (fdL its i c t))) K := set_l (j := 3) put_same rfl (by rw [put_put]; exact k)
end
theorem kFeed (p : Nat → Pm) (G : Nat → W) : Keeps p G 1 1 b_law_feed (pFeed .l4) := by
  rintro ws S Kk Ek ⟨z, ns, rfl, hz, hl, post⟩
  refine ⟨rfl, ?_⟩
  unfold b_law_feed
  have e63 : cutW (ns.map W.int) none (some 63) = (ns.take 63).map W.int := by rw [cut_to (by decide), List.map_take]; rfl
  have fin : ∀ f, S f = none → fgt (S.put f (.lst (fdL (ns.take 63) 0 0 0))) (Kk (.ref f)) := fun f hf =>
    fgt_to (le_shut (kk := .l4) (n := 0) (by rw [List.length_take]; omega) (by omega) (by omega) (by omega) (by omega)) (post f hf)
  rcases hz with rfl | rfl
  · ((conv => whnf); (first | refine step_ ?_ | (refine fgt_id ?_; (conv => whnf); refine step_ ?_)); (conv => whnf)); refine sl_v fun p hp => ?_
    (conv => whnf); refine fz_new hp ?_
    rw [e63]
    (conv => whnf); refine ⟨small rfl, fun f hf => ?_⟩
    exact fin f hf
  · ((conv => whnf); (first | refine step_ ?_ | (refine fgt_id ?_; (conv => whnf); refine step_ ?_)); (conv => whnf)); refine sl_k fun p hp => ?_
    (conv => whnf); refine fz_new hp ?_
    rw [e63]
    (conv => whnf); refine ⟨small rfl, fun f hf => ?_⟩
    exact fin f hf
theorem kDraw (p : Nat → Pm) (G : Nat → W) : Keeps p G 6 2 b_law_draw (opn (pDraw .l4)) := by
  rintro ws S Kk Ek ⟨f, kk, n, its, i, c, t, S0, e1, e2, rfl, l, x0, x1, t0, t1, f', m, n', rfl, m0, m1, h1, hn, post⟩
  cases e1
  rw [e2] at h1
  cases h1
  have m9 := log_small m0 m1
  have md : ∀ x : Int, 0 ≤ x % m ∧ x % m < m := fun x => ⟨Int.emod_nonneg _ (by omega), Int.emod_lt_of_pos _ m0⟩
  have fin : ∀ (i' c' t' k : Int), 0 ≤ i' → i' ≤ n + 1 → 0 ≤ t' → t' ≤ n + 1 → 0 ≤ k → k < m → fgt (S0.put f (.lst (fdL its i' c' t'))) (Kk (.int k)) := fun i' c' t' k h1 h2 h3 h4 h5 h6 => fgt_to (le_shut (kk := .l4) (n := n + 1) l h1 (by omega) h3 (by omega)) (post k h5 h6)
  refine ⟨rfl, ?_⟩
  unfold b_law_draw
  ((conv => whnf); (first | refine step_ ?_ | (refine fgt_id ?_; (conv => whnf); refine step_ ?_)); (conv => whnf)); refine lturnG ?_
  (conv => whnf); refine lsetTurn ?_
  ((conv => whnf); (first | refine step_ ?_ | (refine fgt_id ?_; (conv => whnf); refine step_ ?_)); (conv => whnf)); refine lleft ?_
  (conv => whnf); refine ite_d (fun h => ?_) fun h => ?_
  · ((conv => whnf); (first | refine step_ ?_ | (refine fgt_id ?_; (conv => whnf); refine step_ ?_)); (conv => whnf)); refine lleft ?_
    (conv => whnf); refine ⟨m0, ?_⟩
    ((conv => whnf); (first | refine step_ ?_ | (refine fgt_id ?_; (conv => whnf); refine step_ ?_)); (conv => whnf)); refine lleft ?_
    (conv => whnf); refine ⟨⟨m0, m9⟩, ?_⟩
    (conv => whnf); refine lsetLeft ?_
    ((conv => whnf); (first | refine step_ ?_ | (refine fgt_id ?_; (conv => whnf); refine step_ ?_)); (conv => whnf)); exact fin _ _ _ _ x0 (by omega) (by omega) (by omega) (md _).1 (md _).2
  · (conv => whnf); refine fgt_id ?_
    (conv => whnf)
    refine then_join (fun ρ' S' => ∃ cell : Int, ρ' = [some (.ref f), some (.int m), none, some (.int cell), none, none] ∧ S' = S0.put f (.lst (fdL its i c (t + 1)))) (fun nx hnx => ?_) ?_
    · (conv => whnf); refine lcells ?_
      (conv => whnf); refine ⟨small rfl, fun p hp => ?_⟩
      (conv => whnf); refine fz_new hp ?_
      (conv => whnf); refine eq_d (.lst (das_ints its).den) (.lst .nil) (shaped_ints its) (by decide) ?_
      rw [eqv_nil]
      cases its with
      | nil => (conv => whnf); exact hnx _ _ ⟨_, rfl, rfl⟩
      | cons v vs =>
        (conv => whnf); refine lcells ?_
        (conv => whnf); refine lat ?_
        (conv => whnf); refine lcells ?_
        (conv => whnf); refine len_vm ?_
        (conv => whnf); refine ⟨by rw [List.length_cons]; omega, ?_⟩
        (conv => whnf); refine ix_vm 0 (Int.emod_nonneg _ (by rw [List.length_cons]; omega)) (Int.emod_lt_of_pos _ (by rw [List.length_cons]; omega)) ?_
        (conv => whnf); exact hnx _ _ ⟨_, rfl, rfl⟩
    · rintro ρ' S2 ⟨cell, rfl, rfl⟩
      ((conv => whnf); (first | refine step_ ?_ | (refine fgt_id ?_; (conv => whnf); refine step_ ?_)); (conv => whnf)); refine latG ?_
      (conv => whnf); refine lsetAt ?_
      (conv => whnf)
      refine then_join (fun ρ' S' => ρ' = [some (.ref f), some (.int m), none, some (.int cell), none, none] ∧ S' = S0.put f (.lst (fdL its (i + 1) c (t + 1)))) (fun nx hnx => ?_) ?_
      · (conv => whnf); refine ⟨by decide, ?_⟩
        (conv => whnf); refine ite_d (fun h => ?_) fun h => ?_
        · (conv => whnf); refine lat ?_
          (conv => whnf); refine lcells ?_
          (conv => whnf); refine len_vm ?_
          (conv => whnf); refine ite_d (fun h => ?_) fun h => ?_
          · ((conv => whnf); (first | refine step_ ?_ | (refine fgt_id ?_; (conv => whnf); refine step_ ?_)); (conv => whnf)); refine ⟨⟨m0, m9⟩, ?_⟩
            (conv => whnf); refine lsetLeft ?_
            ((conv => whnf); (first | refine step_ ?_ | (refine fgt_id ?_; (conv => whnf); refine step_ ?_)); (conv => whnf)); refine ⟨m0, ?_⟩
            (conv => whnf); exact fin _ _ _ _ (by omega) (by omega) (by omega) (by omega) (md _).1 (md _).2
          · (conv => whnf); refine fgt_id ?_
            exact hnx _ _ ⟨rfl, rfl⟩
        · (conv => whnf); refine fgt_id ?_
          exact hnx _ _ ⟨rfl, rfl⟩
      · rintro ρ' S' ⟨rfl, rfl⟩
        have bb : ∀ x M : Int, 0 < M → 0 ≤ x % M ∧ x % M < M := fun x M h => ⟨Int.emod_nonneg x (by omega), Int.emod_lt_of_pos x h⟩
        have bt : (t + 1).natAbs < 2 ^ 31 := by omega
        have bq : 0 ≤ 69621 * (t + 1) ∧ 69621 * (t + 1) ≤ 69621 * 1000001 := ⟨by omega, by omega⟩
        have bq2 : 0 ≤ 69621 * (t + 1) * (t + 1) := Int.mul_nonneg bq.1 (by omega)
        have bq3 : 69621 * (t + 1) * (t + 1) ≤ 69621 * 1000001 * 1000001 := Int.mul_le_mul bq.2 (by omega) (by omega) (by decide)
        ((conv => whnf); (first | refine step_ ?_ | (refine fgt_id ?_; (conv => whnf); refine step_ ?_)); (conv => whnf)); refine lturn ?_
        have e1 := bb cell 2147483629 (by decide)
        ((conv => whnf); (first | refine step_ ?_ | (refine fgt_id ?_; (conv => whnf); refine step_ ?_)); (conv => whnf)); refine ⟨by decide, ?_⟩
        (conv => whnf); refine mul_i 30 30 (by decide) bt (by decide) ?_
        (conv => whnf); refine mul_i 100 30 (by omega) bt (by decide) ?_
        (conv => whnf); refine mul_i 30 30 (by decide) bt (by decide) ?_
        (conv => whnf); refine ⟨by decide, ?_⟩
        have e2 := bb (cell % 2147483629 + 69621 * (t + 1) * (t + 1) + 7 * (t + 1)) 2147483629 (by decide)
        generalize (cell % 2147483629 + 69621 * (t + 1) * (t + 1) + 7 * (t + 1)) % 2147483629 = u at e2
        ((conv => whnf); (first | refine step_ ?_ | (refine fgt_id ?_; (conv => whnf); refine step_ ?_)); (conv => whnf)); refine mul_i 40 40 (by omega) (by omega) (by decide) ?_
        (conv => whnf); refine mul_i 40 40 (by decide) (by omega) (by decide) ?_
        (conv => whnf); refine ⟨by decide, ?_⟩
        have e3 := bb (u * u + 48271 * (t + 1)) 2147483647 (by decide)
        generalize (u * u + 48271 * (t + 1)) % 2147483647 = v at e3
        ((conv => whnf); (first | refine step_ ?_ | (refine fgt_id ?_; (conv => whnf); refine step_ ?_)); (conv => whnf)); refine mul_i 40 40 (by omega) (by omega) (by decide) ?_
        (conv => whnf); refine mul_i 40 40 (by decide) (by omega) (by decide) ?_
        (conv => whnf); refine ⟨by decide, ?_⟩
        have e4 := bb (v * v + 16807 * (t + 1)) 2147483587 (by decide)
        generalize (v * v + 16807 * (t + 1)) % 2147483587 = w at e4
        ((conv => whnf); (first | refine step_ ?_ | (refine fgt_id ?_; (conv => whnf); refine step_ ?_)); (conv => whnf)); refine mul_i 40 40 (by omega) (by omega) (by decide) ?_
        (conv => whnf); refine ⟨by decide, ?_⟩
        (conv => whnf); refine ⟨by decide, ?_⟩
        (conv => whnf); refine ⟨m0, ?_⟩
        (conv => whnf); exact fin _ _ _ _ (by omega) (by omega) (by omega) (by omega) (md _).1 (md _).2
end Dp.K07
namespace Dp.K07
open PySem PySem.Spec L2
open PyProof.Rows hiding St
def glob : Nat → W := fun _ => .non
def pFixed7 : Pm := fun ws S Kk Ek => ws = [] ∧ ∀ us ds, Das us ds → BL 662 6 2000 ds → us.length ≤ 40 → ∀ p, S p = none → Kk (.ref p) (S.put p (.lst us))
def pNear7 : Pm := fun ws S Kk Ek => ∃ (f : Addr) (n m : Nat) (dr : List Nat), ws = [.ref f, ntW m, .tup (dr.map ntW)] ∧ S f = some (.fd .l4 n) ∧ n < 800000 ∧ 1 ≤ m ∧ m ≤ 16 ∧ dr.length ≤ 16 ∧ (∀ x ∈ dr, x < m) ∧ ∀ us ds, Das us ds → BL 670 6 4100 ds → (∀ d ∈ ds, Bd 670 6 2000 d) → us.length ≤ 9 → Kk (.lst us) (S.put f (.fd .l4 (n + 60)))
end Dp.K07
namespace Dp.K07
open PySem PySem.Spec L2
open PyProof.Rows hiding St
/-! what bodies lean on, level by level -/
def prom0 : Nat → Pm := fun _ _ _ _ _ => False
def prom1 : Nat → Pm
  | 0 => pNum
  | 2 => pStripOf
  | 3 => (pFeed .l4)
  | 4 => pDraw .l4
  | 7 => pOddA
  | 8 => pSame
  | 9 => pNum
  | 11 => pFixed7
  | _ => fun _ _ _ _ => False
def prom2 : Nat → Pm
  | 0 => pNum
  | 1 => pIsDraw
  | 2 => pStripOf
  | 3 => (pFeed .l4)
  | 4 => pDraw .l4
  | 5 => pPulled
  | 6 => (pBend 0)
  | 7 => pOddA
  | 8 => pSame
  | 9 => pNum
  | 10 => pDue7
  | 11 => pFixed7
  | 14 => pPlaced
  | _ => fun _ _ _ _ => False
def prom3 : Nat → Pm
  | 0 => pNum
  | 1 => pIsDraw
  | 2 => pStripOf
  | 3 => (pFeed .l4)
  | 4 => pDraw .l4
  | 5 => pPulled
  | 6 => (pBend 1)
  | 7 => pOddA
  | 8 => pSame
  | 9 => pNum
  | 10 => pDue7
  | 11 => pFixed7
  | 12 => pHand8
  | 14 => pPlaced
  | _ => fun _ _ _ _ => False
def prom4 : Nat → Pm
  | 0 => pNum
  | 1 => pIsDraw
  | 2 => pStripOf
  | 3 => (pFeed .l4)
  | 4 => pDraw .l4
  | 5 => pPulled
  | 6 => (pBend 2)
  | 7 => pOddA
  | 8 => pSame
  | 9 => pNum
  | 10 => pDue7
  | 11 => pFixed7
  | 12 => pHand8
  | 14 => pPlaced
  | _ => fun _ _ _ _ => False
def prom5 : Nat → Pm
  | 0 => pNum
  | 1 => pIsDraw
  | 2 => pStripOf
  | 3 => (pFeed .l4)
  | 4 => pDraw .l4
  | 5 => pPulled
  | 6 => (pBend 3)
  | 7 => pOddA
  | 8 => pSame
  | 9 => pNum
  | 10 => pDue7
  | 11 => pFixed7
  | 12 => pHand8
  | 14 => pPlaced
  | _ => fun _ _ _ _ => False
def prom6 : Nat → Pm
  | 0 => pNum
  | 1 => pIsDraw
  | 2 => pStripOf
  | 3 => (pFeed .l4)
  | 4 => pDraw .l4
  | 5 => pPulled
  | 6 => (pBend 4)
  | 7 => pOddA
  | 8 => pSame
  | 9 => pNum
  | 10 => pDue7
  | 11 => pFixed7
  | 12 => pHand8
  | 14 => pPlaced
  | _ => fun _ _ _ _ => False
def prom7 : Nat → Pm
  | 0 => pNum
  | 1 => pIsDraw
  | 2 => pStripOf
  | 3 => (pFeed .l4)
  | 4 => pDraw .l4
  | 5 => pPulled
  | 6 => (pBend 5)
  | 7 => pOddA
  | 8 => pSame
  | 9 => pNum
  | 10 => pDue7
  | 11 => pFixed7
  | 12 => pHand8
  | 14 => pPlaced
  | _ => fun _ _ _ _ => False
def prom8 : Nat → Pm
  | 0 => pNum
  | 1 => pIsDraw
  | 2 => pStripOf
  | 3 => (pFeed .l4)
  | 4 => pDraw .l4
  | 5 => pPulled
  | 6 => (pBend 5)
  | 7 => pOddA
  | 8 => pSame
  | 9 => pNum
  | 10 => pDue7
  | 11 => pFixed7
  | 12 => pHand8
  | 13 => pNear7
  | 14 => pPlaced
  | _ => fun _ _ _ _ => False
end Dp.K07
namespace Dp.K07
open PySem PySem.Spec L2
open PyProof.Rows hiding St
local macro_rules | `(tactic| deriving_LawfulEq_tactic_step) => `(tactic| first | assumption | exact put_same | (refine put_new (by assumption) ?_; deriving_LawfulEq_tactic_step) | (refine put_o2 (by assumption) ?_; deriving_LawfulEq_tactic_step) | (refine put_o3 (by assumption) ?_; deriving_LawfulEq_tactic_step) | (refine put_o1 (by assumption) ?_ ?_ <;> deriving_LawfulEq_tactic_step) | (refine put_o4 ?_ ?_ (by intro z; cases z) <;> deriving_LawfulEq_tactic_step))
local macro_rules | `(tactic| deriving_ReflEq_tactic) => `(tactic| repeat (first | ((conv => whnf); refine ⟨small rfl, fun p hp => ?_⟩; (conv => whnf); refine fz_new hp ?_) | ((conv => whnf); refine ⟨small rfl, ?_⟩)))
local macro_rules | `(tactic| deriving_LawfulEq_tactic) => `(tactic| repeat (first | exact Da.int _ | exact Da.non | exact Da.bl _ | exact Da.str _ | assumption | apply Da.tup | apply Da.lst | exact Das.nil | apply Das.cons | apply Das.append | apply das_rep))
local macro_rules | `(tactic| bv_omega) => `(tactic| refine fgt_to (le_fin (fun a d na h => by deriving_LawfulEq_tactic_step) (by deriving_LawfulEq_tactic_step) (by omega)) ?_)
local macro_rules | `(tactic| ac_rfl) => `(tactic| repeat ((conv => whnf); first | refine step_ ?_ | (refine fgt_id ?_; (conv => whnf); refine step_ ?_) | refine len_tm ?_ | refine len_vm ?_ | refine len_t ?_ | refine len_v ?_ | refine len_lm (by deriving_LawfulEq_tactic_step) ?_ | refine len_l (by deriving_LawfulEq_tactic_step) ?_ | refine eq_i ?_ | refine ix_t (by rfl) ?_ | refine ix_v (by rfl) ?_ | refine fz_new (by assumption) ?_ | refine ⟨small rfl, ?_⟩))
local macro_rules | `(tactic| symm_saturate) => `(tactic| repeat (first | with_reducible refine E_fz ?_ | with_reducible refine E_lst ?_ | with_reducible refine E_tup ?_ | with_reducible refine Es_cons ?_ | with_reducible refine Es_nil ?_ | with_reducible refine E_cint ?_ | with_reducible refine E_cstr ?_ | with_reducible refine E_cbl ?_ | with_reducible refine E_cnon ?_ | with_reducible refine E_ix ?_ | with_reducible refine E_bin ?_ | with_reducible refine E_blt ?_ | with_reducible refine E_call ?_ | with_reducible refine E_neg ?_ | with_reducible refine E_sl ?_ | with_reducible refine S_ret ?_ | with_reducible refine S_exp ?_ | with_reducible refine S_asg ?_ | with_reducible refine Ss_cons ?_ | with_reducible refine B_sub ?_ | with_reducible refine B_add ?_ | with_reducible refine B_neg ?_ | with_reducible refine B_min2 ?_ | with_reducible refine B_max2 ?_ | with_reducible refine G_nm ?_ | ((with_reducible apply E_var); exact rfl) | (refine ⟨small rfl, fun pz hpz => ?_⟩; with_reducible refine fz_new hpz ?_) | refine ⟨small rfl, ?_⟩))
local macro_rules | `(tactic| suggestions) => `(tactic| repeat ((conv => whnf); first | refine step_ ?_ | refine eq_i ?_ | refine ⟨rfl, _, rfl, ?_⟩ | refine ⟨rfl, ?_⟩ | refine ⟨small rfl, ?_⟩ | refine fgt_id ?_))
local macro_rules | `(tactic| decide_cbv) => `(tactic| repeat ((conv => whnf); refine fgt_id ?_))

theorem kStripOf (p : Nat → Pm) (G : Nat → W) : Keeps p G 4 2 b_strip_of pStripOf := by
  rintro ws S Kk Ek ⟨ns, b, rfl, k⟩
  refine ⟨rfl, ?_⟩
  unfold b_strip_of
  (conv => whnf); refine step_ ?_
  (conv => whnf); refine for_eE (0 : Int) ns W.int (fun i ρ' S' => ∃ (o2 o3 : Option W), ρ' = [some (.tup (ns.map W.int)), some (.int b), o2, o3] ∧ S' = S ∧ posR b 0 ns = posR b i (ns.drop i)) ⟨_, _, rfl, rfl, rfl⟩ (fun _ _ _ _ => trivial) ?_ ?_
  · rintro i ρ' S' E2 hi ⟨o2, o3, rfl, rfl, hp⟩ hnx ec eb er ex
    have hs := posR_step (b := b) hi
    (conv => whnf); refine ⟨rfl, ?_⟩
    (conv => whnf); refine step_ ?_
    (conv => whnf); refine eq_i ?_
    (conv => whnf); refine ite_d (fun h => ?_) fun h => ?_
    · rw [if_pos h] at hs
      (conv => whnf); refine step_ ?_
      (conv => whnf)
      show E2.rt _ _
      rw [er]
      rw [hp, hs] at k
      exact fgt_id k
    · rw [if_neg h] at hs
      decide_cbv; exact hnx _ _ ⟨_, _, rfl, rfl, hp.trans hs⟩
  rintro ρ' S' ⟨o2, o3, rfl, rfl, hp⟩
  rw [List.drop_length] at hp
  rw [hp] at k
  (conv => whnf); refine step_ ?_
  exact fgt_id k
theorem kIsDraw : Keeps prom1 glob 4 2 b_is_draw pIsDraw := by
  rintro ws S Kk Ek ⟨m, w, d, rfl, hd, few, k⟩
  refine ⟨rfl, ?_⟩
  unfold b_is_draw
  cases hd with
  | @tup us ds t =>
    have few := few ds rfl
    (conv => whnf); refine step_ ?_
    (conv => whnf); refine fgt_id ?_
    (conv => whnf); refine step_ ?_
    (conv => whnf); intro q hq
    (conv => whnf); refine step_ ?_
    (conv => whnf)
    refine for_dE t (fun i ρ' S' => ∃ (o3 : Option W) (kvs : List (Key × W)), ρ' = [some (.int m), some (.tup us), some (.ref q), o3] ∧ S' = S.put q (.dic kvs) ∧ kvs.length ≤ i ∧ (∀ x : Int, (valW kvs (.inl x)).isSome = decide (x ∈ (ds.take i).map valI)) ∧ (∀ d ∈ ds.take i, ballB m d = true) ∧ ((ds.take i).map valI).Nodup) ⟨_, [], rfl, rfl, Nat.le_refl _, fun x => rfl, none_in, List.nodup_nil⟩ (fun _ _ _ _ => trivial) ?_ ?_
    · rintro i w d ρ' S' E2 hi hg hm hw ⟨o3, kvs, rfl, rfl, lk, hk, hb, nd⟩ hnx ec eb er ex
      have bad : drawB m (.tuple ds) = false → ∀ (E3 : Ew) ρ', E3.rt = E2.rt → dSs prom1 glob (.cons (.ret (.cst (.bool false))) .nil) E3 ρ' (S.put q (.dic kvs)) := fun h E3 ρ' hr => by
        (conv => whnf); refine step_ ?_
        (conv => whnf)
        show E3.rt _ _
        rw [hr, er]
        rw [h] at k
        exact fgt_to (Le.drop .refl hq) k
      (conv => whnf); refine step_ ?_
      (conv => whnf); refine ⟨w, d, rfl, hw, ?_⟩
      cases hn : numB d with
      | false =>
        have h0 : ballB m d = false := by unfold ballB; rw [hn]; rfl
        (conv => whnf); exact bad (drawB_no hm h0) _ _ rfl
      | true =>
        have hv : ∃ v, d = .int v := by
          cases d with
          | int v => exact ⟨v, rfl⟩
          | _ => cases hn
        obtain ⟨v, rfl⟩ := hv
        cases hw
        have no : ¬ (0 ≤ v ∧ v < m) → ballB m (.int v) = false := fun h => by
          refine Bool.eq_false_iff.mpr fun z => h ?_
          obtain ⟨v', e, a, b⟩ := ballB_int z
          cases e; exact ⟨a, b⟩
        refine ite_d (p := v < 0) (fun h => ?_) fun h => ?_
        · exact bad (drawB_no hm (no fun z => by omega)) _ _ rfl
        · refine ite_d (p := v ≥ m) (fun h2 => ?_) fun h2 => ?_
          · exact bad (drawB_no hm (no fun z => by omega)) _ _ rfl
          · (conv => whnf); refine in_dic (k := .inl v) put_same ?_
            have yes : ballB m (.int v) = true := by
              show (true && decide (0 ≤ v) && decide (v < m)) = true
              rw [decide_eq_true (show 0 ≤ v by omega), decide_eq_true (show v < m by omega)]; rfl
            have ev : valI (ds.getD i .none) = v := by rw [hg]; rfl
            have et : ds.take (i + 1) = ds.take i ++ [.int v] := by
              rw [List.take_add_one, List.getElem?_eq_getElem hi, Option.toList_some]
              rw [List.getD_eq_getElem?_getD, List.getElem?_eq_getElem hi] at hg
              rw [show ds[i] = .int v from hg]
            rw [hk v]
            refine ite_d (fun h3 => ?_) fun h3 => ?_
            · exact bad (drawB_twice hi (by rw [ev]; exact h3)) _ _ rfl
            · (conv => whnf); refine fgt_id ?_
              (conv => whnf); refine step_ ?_
              (conv => whnf); refine set_d (i := .inl v) put_same (by omega) ?_
              rw [put_put]
              decide_cbv; refine hnx _ _ ⟨_, _, rfl, rfl, Nat.le_trans (put_len ..) (by omega), fun x => ?_, fun d hd => ?_, nodup_take hi nd (by rw [ev]; exact h3)⟩
              · rw [val_put, et, List.map_append, show [PyData.int v].map valI = [v] from rfl]
                by_cases e : v = x
                · subst e
                  rw [if_pos rfl, decide_eq_true (List.mem_append_right _ (List.mem_singleton.mpr rfl))]; rfl
                · rw [if_neg fun z => e (Sum.inl.inj z), hk x]
                  by_cases g : x ∈ (ds.take i).map valI
                  · rw [decide_eq_true g, decide_eq_true (List.mem_append_left _ g)]
                  · rw [decide_eq_false g, decide_eq_false fun z => (List.mem_append.mp z).elim g fun z => e (List.mem_singleton.mp z).symm]
              · rw [et] at hd
                rcases List.mem_append.mp hd with hd | hd
                · exact hb d hd
                · rw [List.mem_singleton.mp hd]; exact yes
    rintro ρ' S' ⟨o3, kvs, rfl, rfl, lk, hk, hb, nd⟩
    rw [List.take_length] at hb nd
    have e : drawB m (.tuple ds) = true := by
      show (ds.all (ballB m) && decide _) = true
      rw [List.all_eq_true.mpr hb, decide_eq_true nd]; rfl
    rw [e] at k
    (conv => whnf); refine step_ ?_
    (conv => whnf); exact fgt_to (Le.drop .refl hq) k
  | _ =>
    (conv => whnf); refine step_ ?_
    (conv => whnf); refine step_ ?_
    (conv => whnf); exact fgt_id k
end Dp.K07
namespace Dp.K07
open PySem PySem.Spec L2
open PyProof.Rows hiding St
local macro_rules | `(tactic| deriving_LawfulEq_tactic_step) => `(tactic| first | assumption | exact put_same | (refine put_new (by assumption) ?_; deriving_LawfulEq_tactic_step) | (refine put_o2 (by assumption) ?_; deriving_LawfulEq_tactic_step) | (refine put_o3 (by assumption) ?_; deriving_LawfulEq_tactic_step) | (refine put_o1 (by assumption) ?_ ?_ <;> deriving_LawfulEq_tactic_step) | (refine put_o4 ?_ ?_ (by intro z; cases z) <;> deriving_LawfulEq_tactic_step))
local macro_rules | `(tactic| deriving_ReflEq_tactic) => `(tactic| repeat (first | ((conv => whnf); refine ⟨small rfl, fun p hp => ?_⟩; (conv => whnf); refine fz_new hp ?_) | ((conv => whnf); refine ⟨small rfl, ?_⟩)))
local macro_rules | `(tactic| deriving_LawfulEq_tactic) => `(tactic| repeat (first | exact Da.int _ | exact Da.non | exact Da.bl _ | exact Da.str _ | assumption | apply Da.tup | apply Da.lst | exact Das.nil | apply Das.cons | apply Das.append | apply das_rep))
local macro_rules | `(tactic| bv_omega) => `(tactic| refine fgt_to (le_fin (fun a d na h => by deriving_LawfulEq_tactic_step) (by deriving_LawfulEq_tactic_step) (by omega)) ?_)
local macro_rules | `(tactic| ac_rfl) => `(tactic| repeat ((conv => whnf); first | refine step_ ?_ | (refine fgt_id ?_; (conv => whnf); refine step_ ?_) | refine len_tm ?_ | refine len_vm ?_ | refine len_t ?_ | refine len_v ?_ | refine len_lm (by deriving_LawfulEq_tactic_step) ?_ | refine len_l (by deriving_LawfulEq_tactic_step) ?_ | refine eq_i ?_ | refine ix_t (by rfl) ?_ | refine ix_v (by rfl) ?_ | refine fz_new (by assumption) ?_ | refine ⟨small rfl, ?_⟩))
local macro_rules | `(tactic| symm_saturate) => `(tactic| repeat (first | with_reducible refine E_fz ?_ | with_reducible refine E_lst ?_ | with_reducible refine E_tup ?_ | with_reducible refine Es_cons ?_ | with_reducible refine Es_nil ?_ | with_reducible refine E_cint ?_ | with_reducible refine E_cstr ?_ | with_reducible refine E_cbl ?_ | with_reducible refine E_cnon ?_ | with_reducible refine E_ix ?_ | with_reducible refine E_bin ?_ | with_reducible refine E_blt ?_ | with_reducible refine E_call ?_ | with_reducible refine E_neg ?_ | with_reducible refine E_sl ?_ | with_reducible refine S_ret ?_ | with_reducible refine S_exp ?_ | with_reducible refine S_asg ?_ | with_reducible refine Ss_cons ?_ | with_reducible refine B_sub ?_ | with_reducible refine B_add ?_ | with_reducible refine B_neg ?_ | with_reducible refine B_min2 ?_ | with_reducible refine B_max2 ?_ | with_reducible refine G_nm ?_ | ((with_reducible apply E_var); exact rfl) | (refine ⟨small rfl, fun pz hpz => ?_⟩; with_reducible refine fz_new hpz ?_) | refine ⟨small rfl, ?_⟩))
local macro_rules | `(tactic| suggestions) => `(tactic| repeat ((conv => whnf); first | refine step_ ?_ | refine eq_i ?_ | refine ⟨rfl, _, rfl, ?_⟩ | refine ⟨rfl, ?_⟩ | refine ⟨small rfl, ?_⟩ | refine fgt_id ?_))
local macro_rules | `(tactic| decide_cbv) => `(tactic| repeat ((conv => whnf); refine fgt_id ?_))

theorem kSame (p : Nat → Pm) (G : Nat → W) : Keeps p G 2 2 b_law_same pSame := by
  rintro ws S Kk Ek ⟨a, b, rfl, k⟩
  refine ⟨rfl, ?_⟩
  unfold b_law_same
  cases a <;> cases b <;> (((conv => whnf); (first | refine step_ ?_ | (refine fgt_id ?_; (conv => whnf); refine step_ ?_)); (conv => whnf)); exact fgt_id k)
theorem kNumL (p : Nat → Pm) (G : Nat → W) : Keeps p G 1 1 b_law_number pNum := by
  rintro ws S Kk Ek ⟨w, d, rfl, hd, k⟩
  refine ⟨rfl, ?_⟩
  unfold b_law_number
  cases hd with
  | bl x => cases x <;> (((conv => whnf); (first | refine step_ ?_ | (refine fgt_id ?_; (conv => whnf); refine step_ ?_)); (conv => whnf)); exact fgt_id k)
  | _ => ((conv => whnf); (first | refine step_ ?_ | (refine fgt_id ?_; (conv => whnf); refine step_ ?_)); (conv => whnf)); exact fgt_id k
theorem odd_by {ds : List PyData} (h : (ds.all fun d => lowI 662 d && d.canLay0 && decide (d.depth ≤ 2) && decide (d.weight ≤ 662)) = true) : OddL ds := fun d hd => Bd.lit 2 662 (List.all_eq_true.mp h d hd) (Nat.le_refl _) (Nat.le_refl _)
theorem kOdd (p : Nat → Pm) (G : Nat → W) : Keeps p G 1 0 b_law_odd pOddA := by
  rintro ws S Kk Ek ⟨rfl, post⟩
  refine ⟨rfl, ?_⟩
  unfold b_law_odd
  ((conv => whnf); (first | refine step_ ?_ | (refine fgt_id ?_; (conv => whnf); refine step_ ?_)); (conv => whnf)); refine ⟨small rfl, ?_⟩
  (conv => whnf); refine ⟨small rfl, fun p hp => ?_⟩
  (conv => whnf); refine fz_new hp ?_
  (conv => whnf); refine ⟨small rfl, fun p hp => ?_⟩
  (conv => whnf); refine fz_new hp ?_
  (conv => whnf); refine ⟨small rfl, ?_⟩
  (conv => whnf); refine ⟨small rfl, ?_⟩
  (conv => whnf); refine ⟨small rfl, ?_⟩
  (conv => whnf); refine ⟨small rfl, ?_⟩
  ((conv => whnf); (first | refine step_ ?_ | (refine fgt_id ?_; (conv => whnf); refine step_ ?_)); (conv => whnf)); refine ⟨⟨by decide, by decide, by decide⟩, ?_⟩
  (conv => whnf); refine ⟨⟨by decide, by decide, by decide⟩, ?_⟩
  (conv => whnf); refine mul_i 220 220 (by decide +kernel) (by decide +kernel) (by decide) ?_
  (conv => whnf); refine ⟨⟨by decide, by decide, by decide⟩, ?_⟩
  (conv => whnf); refine mul_i 440 220 (by decide +kernel) (by decide +kernel) (by decide) ?_
  (conv => whnf); refine ⟨⟨by decide, by decide, by decide⟩, ?_⟩
  (conv => whnf); refine mul_i 660 220 (by decide +kernel) (by decide +kernel) (by decide) ?_
  (conv => whnf); refine ⟨small rfl, ?_⟩
  (conv => whnf); refine ⟨small rfl, ?_⟩
  (conv => whnf); refine ⟨small rfl, ?_⟩
  (conv => whnf); refine ⟨small rfl, ?_⟩
  refine fgt_id (post _ _ (.cons .non (.cons (.bl _) (.cons (.bl _) (.cons (.str _) (.cons (.str _) (.cons (.str _) (.cons (.int _) (.cons (.int _) (.cons (.int _) (.cons (.int _) (.cons (.int _) (.cons (.tup .nil) (.cons (.lst .nil) (.cons (.tup (.cons (.lst (.cons (.int _) .nil)) (.cons (.str _) .nil))) (.cons (.tup (.cons (.str _) (.cons (.int _) .nil))) (.cons (.tup (.cons (.str _) .nil)) (.cons (.int _) (.cons (.str _) (.cons (.str _) (.cons (.str _) (.cons (.tup (.cons (.int _) .nil)) (.cons (.tup (.cons (.int _) (.cons (.int _) .nil))) .nil)))))))))))))))))))))) (odd_by (by decide +kernel)) rfl)
theorem bl_by {b k W : Nat} {ds : List PyData} (h : (lowIA b ds && PyData.canLayAll0 ds && decide (PyData.depthAll ds ≤ k) && decide (PyData.weightAll ds ≤ W)) = true) : BL b k W ds := by
  simp only [Bool.and_eq_true, decide_eq_true_eq] at h
  exact ⟨h.1.1.1, h.1.1.2, h.1.2, h.2⟩
theorem kBend (p : Nat → Pm) (G : Nat → W) (D : Nat) (h5 : p 4 = pDraw .l4) (h7 : ∀ m, D = m + 1 → p 6 = pBend m) : Keeps p G 5 3 b_law_bend (pBend D) := by
  rintro ws S Kk Ek ⟨f, n, w, d, us, ds, b, k, V, rfl, hf, hn, hw, hd, b0, b1, kD, k6, V1, t, od, l1, l2, post⟩
  refine ⟨rfl, ?_⟩
  unfold b_law_bend
  have lus := t.length
  have g1 := grow_ge V
  have fin : ∀ m w' d', m ≤ n + 5 * (k + 1) → Da w' d' → Bd (b + 1) (k + 2) (grow V) d' → fgt (S.put f (.fd .l4 m)) (Kk w') := fun m w' d' hm a1 a2 => fgt_to (Le.fd hm) (post w' d' a1 a2)
  have podd : ∀ (c : Int) (K : WK) (S' : Sto), 0 ≤ c → c < (ds.length : Int) → (∀ w' d', Da w' d' → Bd (b + 1) (k + 2) (grow V) d' → Bd 662 2 662 d' → K w' S') → ixK (.tup us) (.int c) S' K := fun c K S' c0 c1 hK => by
    obtain ⟨w', e, hw', hm⟩ := t.at_ c0 c1
    exact ix_t e (hK w' _ hw' ((od _ hm).mono (by omega) (by omega) (by omega)) (od _ hm))
  refine then_join (fun ρ' S' => ∃ m, m ≤ n + 1 ∧ ρ' = [some (.ref f), some w, some (.tup us), none, none] ∧ S' = S.put f (.fd .l4 m)) (fun nx hnx => ?_) ?_
  · cases hw with
    | @tup vs es tv =>
      have lv := tv.length
      have le := len_w hd.light
      have fD := hd.fin (by omega) (by omega) (by omega)
      obtain ⟨k1, bl⟩ := hd.un
      (conv => whnf); refine ⟨small rfl, ?_⟩
      (conv => whnf); refine eq_d (.tup tv.den) (.tup .nil) (shp fD) (by decide) ?_
      rw [eqv_nilT]
      cases h : es.isEmpty with
      | true => (conv => whnf); refine fgt_id (hnx _ _ ⟨n, by omega, rfl, (put_id hf).symm⟩)
      | false =>
        have es1 : 0 < es.length := by
          cases es with
          | nil => cases h
          | cons _ _ => exact Nat.succ_pos _
        (conv => whnf); rw [h5]; refine ⟨_, _, _, rfl, by decide, by decide, hf, by omega, fun c c0 c1 => ?_⟩
        (conv => whnf); refine ite_d (fun h => ?_) fun h => ?_
        · ((conv => whnf); (first | refine step_ ?_ | (refine fgt_id ?_; (conv => whnf); refine step_ ?_)); (conv => whnf)); refine len_t ?_
          (conv => whnf); rw [h5]; refine ⟨_, _, _, rfl, by omega, by omega, put_same, by omega, fun at_ a0 a1 => ?_⟩
          rw [put_put]
          ((conv => whnf); (first | refine step_ ?_ | (refine fgt_id ?_; (conv => whnf); refine step_ ?_)); (conv => whnf)); refine sl_t ?_
          obtain ⟨w', e', hw', hm'⟩ := tv.at_ a0 (show at_ < (es.length : Int) by omega)
          (conv => whnf); refine ix_t e' ?_
          obtain ⟨m, rfl⟩ : ∃ m, D = m + 1 := ⟨D - 1, by omega⟩
          (conv => whnf); rw [h7 m rfl]
          have bm := bl.at_ (n := at_.toNat) (by omega)
          have wa := wt_at (ds := es) (n := at_.toNat) (by omega)
          have lw : PyData.weightAll es ≤ V := hd.light
          refine ⟨f, _, w', _, us, ds, b, k - 1, _, rfl, put_same, by omega, hw', bm, b0, b1, by omega, by omega, by omega, t, od, l1, l2, fun w2 d2 hw2 hd2 => ?_⟩
          rw [put_put]
          (conv => whnf); refine ⟨small rfl, ?_⟩
          (conv => whnf); refine ⟨bigE (by show (cutW _ _ _).length + 1 ≤ _; have := cut_len vs none (some at_); omega), ?_⟩
          (conv => whnf); refine sl_t ?_
          (conv => whnf); refine ⟨bigE (by have := cut_len vs none (some at_); have := cut_len vs (some (at_ + 1)) none; rw [List.length_append]; show _ + 1 + _ ≤ _; omega), ?_⟩
          rw [cut_to a0, cut_from (by omega)]
          have e1 : (at_ + 1).toNat = at_.toNat + 1 := by omega
          rw [e1]
          have B1 : BL (b + 1) (k - 1 + 2) _ (es.take at_.toNat) := (bl.take).mono (by omega) (by omega) (Nat.le_refl _)
          have B2 : BL (b + 1) (k - 1 + 2) _ (es.drop (at_.toNat + 1)) := (bl.drop).mono (by omega) (by omega) (Nat.le_refl _)
          have B3 := (B1.append (.one hd2)).append B2
          refine fin _ _ _ (by omega) (.tup (((tv.take _).append (.cons hw2 .nil)).append (tv.drop _))) (B3.tup.mono (Nat.le_refl _) (by omega) ?_)
          unfold grow at g1 ⊢
          omega
        · (conv => whnf); refine fgt_id (hnx _ _ ⟨n + 1, Nat.le_refl _, rfl, rfl⟩)
    | _ => (conv => whnf); refine fgt_id (hnx _ _ ⟨n, by omega, rfl, (put_id hf).symm⟩)
  rintro ρ' S' ⟨m, hm, rfl, rfl⟩
  ((conv => whnf); (first | refine step_ ?_ | (refine fgt_id ?_; (conv => whnf); refine step_ ?_)); (conv => whnf)); rw [h5]; refine ⟨_, _, _, rfl, by decide, by decide, put_same, by omega, fun c c0 c1 => ?_⟩
  rw [put_put]
  have rest : ∀ (m' : Nat) (o3 : Option W), m' ≤ n + 3 → fgt (S.put f (.fd .l4 m')) fun S' => True := fun _ _ _ => fgt_id trivial
  clear rest
  have m1 : m + 1 ≤ n + 2 := by omega
  cases hw with
  | @tup vs es tv =>
    have lv := tv.length
    have le := len_w hd.light
    obtain ⟨k1, bl⟩ := hd.un
    have lw : PyData.weightAll es ≤ V := hd.light
    ((conv => whnf); (first | refine step_ ?_ | (refine fgt_id ?_; (conv => whnf); refine step_ ?_)); (conv => whnf)); refine ite_d (fun h => ?_) fun h => ?_
    · ((conv => whnf); (first | refine step_ ?_ | (refine fgt_id ?_; (conv => whnf); refine step_ ?_)); (conv => whnf)); refine len_t ?_
      (conv => whnf); rw [h5]; refine ⟨_, _, _, rfl, by omega, by omega, put_same, by omega, fun at_ a0 a1 => ?_⟩
      rw [put_put]
      have B1 : BL (b + 1) (k - 1 + 2) _ (es.take at_.toNat) := (bl.take).mono (by omega) (by omega) (Nat.le_refl _)
      have B2 : BL (b + 1) (k - 1 + 2) _ (es.drop at_.toNat) := (bl.drop).mono (by omega) (by omega) (Nat.le_refl _)
      have ws := wt_split es at_.toNat
      ((conv => whnf); (first | refine step_ ?_ | (refine fgt_id ?_; (conv => whnf); refine step_ ?_)); (conv => whnf)); refine eq_i ?_
      (conv => whnf); refine ite_d (fun h0 => ?_) fun h0 => ?_
      · ((conv => whnf); (first | refine step_ ?_ | (refine fgt_id ?_; (conv => whnf); refine step_ ?_)); (conv => whnf)); refine sl_t ?_
        (conv => whnf); refine len_t ?_
        (conv => whnf); rw [h5]; refine ⟨_, _, _, rfl, by omega, by omega, put_same, by omega, fun j j0 j1 => ?_⟩
        rw [put_put]
        refine podd j _ _ j0 (by omega) fun w' d' hw' hd' hd2 => ?_
        (conv => whnf); refine ⟨small rfl, ?_⟩
        (conv => whnf); refine ⟨bigE (by show (cutW _ _ _).length + 1 ≤ _; have := cut_len vs none (some at_); omega), ?_⟩
        (conv => whnf); refine sl_t ?_
        (conv => whnf); refine ⟨bigE (by have := cut_len vs none (some at_); have := cut_len vs (some at_) none; rw [List.length_append]; show _ + 1 + _ ≤ _; omega), ?_⟩
        rw [cut_to a0, cut_from a0]
        have B3 := (B1.append (.one (hd2.mono (b' := b + 1) (k' := k - 1 + 2) (W' := 662) (by omega) (by omega) (by omega)))).append B2
        exact fin _ _ _ (by omega) (.tup (((tv.take _).append (.cons hw' .nil)).append (tv.drop _))) (B3.tup.mono (Nat.le_refl _) (by omega) (by omega))
      · (conv => whnf); refine fgt_id ?_
        ((conv => whnf); (first | refine step_ ?_ | (refine fgt_id ?_; (conv => whnf); refine step_ ?_)); (conv => whnf)); refine eq_i ?_
        (conv => whnf); refine ite_d (fun h1 => ?_) fun h1 => ?_
        · (conv => whnf); refine sl_t ?_
          (conv => whnf); refine sl_t ?_
          (conv => whnf); refine ⟨bigE (by have := cut_len vs none (some at_); have := cut_len vs (some (at_ + 1)) none; omega), ?_⟩
          rw [cut_to a0, cut_from (by omega)]
          have B4 : BL (b + 1) (k - 1 + 2) _ (es.drop (at_ + 1).toNat) := (bl.drop).mono (by omega) (by omega) (Nat.le_refl _)
          have ws2 : PyData.weightAll (es.drop (at_ + 1).toNat) ≤ PyData.weightAll (es.drop at_.toNat) := by
            have e : es.drop (at_ + 1).toNat = (es.drop at_.toNat).drop 1 := by rw [List.drop_drop]; congr 1; omega
            have := wt_split (es.drop at_.toNat) 1
            rw [e]; omega
          exact fin _ _ _ (by omega) (.tup ((tv.take _).append (tv.drop _))) ((B1.append B4).tup.mono (Nat.le_refl _) (by omega) (by omega))
        · (conv => whnf); refine eq_i ?_
          (conv => whnf); refine ite_d (fun h2 => ?_) fun h2 => ?_
          · (conv => whnf); intro q hq; (conv => whnf); refine fz_new hq ?_
            exact fin _ _ _ (by omega) (.lst tv) ((bl.lst).mono (by omega) (by omega) (by omega))
          · (conv => whnf); refine sl_t ?_
            (conv => whnf); refine ⟨bigE (by have := cut_len vs none (some at_); omega), ?_⟩
            rw [cut_to a0]
            have B0 : BL (b + 1) (k - 1 + 2) V es := bl.mono (by omega) (by omega) (Nat.le_refl _)
            exact fin _ _ _ (by omega) (.tup (tv.append (tv.take _))) ((B0.append B1).tup.mono (Nat.le_refl _) (by omega) (by omega))
    · (conv => whnf); refine fgt_id ?_
      ((conv => whnf); (first | refine step_ ?_ | (refine fgt_id ?_; (conv => whnf); refine step_ ?_)); (conv => whnf)); refine fgt_id ?_
      ((conv => whnf); (first | refine step_ ?_ | (refine fgt_id ?_; (conv => whnf); refine step_ ?_)); (conv => whnf)); refine fgt_id ?_
      ((conv => whnf); (first | refine step_ ?_ | (refine fgt_id ?_; (conv => whnf); refine step_ ?_)); (conv => whnf)); refine len_t ?_
      (conv => whnf); rw [h5]; refine ⟨_, _, _, rfl, by omega, by omega, put_same, by omega, fun j j0 j1 => ?_⟩
      rw [put_put]
      refine podd j _ _ j0 (by omega) fun w' d' hw' hd' _ => ?_
      exact fin _ _ _ (by omega) hw' hd'
  | int i =>
    ((conv => whnf); (first | refine step_ ?_ | (refine fgt_id ?_; (conv => whnf); refine step_ ?_)); (conv => whnf)); refine fgt_id ?_
    ((conv => whnf); (first | refine step_ ?_ | (refine fgt_id ?_; (conv => whnf); refine step_ ?_)); (conv => whnf)); refine ite_d (fun h => ?_) fun h => ?_
    · ((conv => whnf); (first | refine step_ ?_ | (refine fgt_id ?_; (conv => whnf); refine step_ ?_)); (conv => whnf)); refine ⟨small rfl, ?_⟩
      (conv => whnf); refine ⟨small rfl, ?_⟩
      rcases (show c = 0 ∨ c = 1 ∨ c = 2 ∨ c = 3 by omega) with rfl | rfl | rfl | rfl
      · (conv => whnf); refine ix_t (by rfl) ?_
        exact fin _ _ _ (by omega) (.int _) ((hd.near (j := i + 1) (by omega)).mono (Nat.le_refl _) (by omega) (by omega))
      · (conv => whnf); refine ix_t (by rfl) ?_
        exact fin _ _ _ (by omega) (.int _) ((hd.near (j := i - 1) (by omega)).mono (Nat.le_refl _) (by omega) (by omega))
      · (conv => whnf); refine ix_t (by rfl) ?_
        exact fin _ _ _ (by omega) (.int _) ((hd.near (j := -i) (by omega)).mono (Nat.le_refl _) (by omega) (by omega))
      · (conv => whnf); refine ix_t (by rfl) ?_
        exact fin _ _ _ (by omega) (.tup (.cons (.int _) .nil)) ((BL.one hd).tup.mono (by omega) (by omega) (by omega))
    · (conv => whnf); refine fgt_id ?_
      ((conv => whnf); (first | refine step_ ?_ | (refine fgt_id ?_; (conv => whnf); refine step_ ?_)); (conv => whnf)); refine fgt_id ?_
      ((conv => whnf); (first | refine step_ ?_ | (refine fgt_id ?_; (conv => whnf); refine step_ ?_)); (conv => whnf)); refine len_t ?_
      (conv => whnf); rw [h5]; refine ⟨_, _, _, rfl, by omega, by omega, put_same, by omega, fun j j0 j1 => ?_⟩
      rw [put_put]
      refine podd j _ _ j0 (by omega) fun w' d' hw' hd' _ => ?_
      exact fin _ _ _ (by omega) hw' hd'
  | bl x =>
    ((conv => whnf); (first | refine step_ ?_ | (refine fgt_id ?_; (conv => whnf); refine step_ ?_)); (conv => whnf)); refine fgt_id ?_
    ((conv => whnf); (first | refine step_ ?_ | (refine fgt_id ?_; (conv => whnf); refine step_ ?_)); (conv => whnf)); refine ite_d (fun h => ?_) fun h => ?_
    · ((conv => whnf); (first | refine step_ ?_ | (refine fgt_id ?_; (conv => whnf); refine step_ ?_)); (conv => whnf)); refine ⟨small rfl, ?_⟩
      (conv => whnf); refine ⟨small rfl, ?_⟩
      have bx : 0 ≤ b2i x ∧ b2i x ≤ 1 := by cases x <;> decide
      have sm : ∀ j : Int, j.natAbs ≤ 2 → Bd (b + 1) (k + 2) (grow V) (.int j) := fun j hj => (Bd.int (b := 2) (k := 0) (by omega) (by decide)).mono (by omega) (by omega) (by omega)
      rcases (show c = 0 ∨ c = 1 ∨ c = 2 ∨ c = 3 by omega) with rfl | rfl | rfl | rfl
      · (conv => whnf); refine ix_t (by rfl) ?_
        exact fin _ _ _ (by omega) (.int _) (sm _ (by omega))
      · (conv => whnf); refine ix_t (by rfl) ?_
        exact fin _ _ _ (by omega) (.int _) (sm _ (by omega))
      · (conv => whnf); refine ix_t (by rfl) ?_
        exact fin _ _ _ (by omega) (.int _) (sm _ (by omega))
      · (conv => whnf); refine ix_t (by rfl) ?_
        exact fin _ _ _ (by omega) (.tup (.cons (.bl _) .nil)) ((BL.one hd).tup.mono (by omega) (by omega) (by omega))
    · (conv => whnf); refine fgt_id ?_
      ((conv => whnf); (first | refine step_ ?_ | (refine fgt_id ?_; (conv => whnf); refine step_ ?_)); (conv => whnf)); refine fgt_id ?_
      ((conv => whnf); (first | refine step_ ?_ | (refine fgt_id ?_; (conv => whnf); refine step_ ?_)); (conv => whnf)); refine len_t ?_
      (conv => whnf); rw [h5]; refine ⟨_, _, _, rfl, by omega, by omega, put_same, by omega, fun j j0 j1 => ?_⟩
      rw [put_put]
      refine podd j _ _ j0 (by omega) fun w' d' hw' hd' _ => ?_
      exact fin _ _ _ (by omega) hw' hd'
  | str x =>
    ((conv => whnf); (first | refine step_ ?_ | (refine fgt_id ?_; (conv => whnf); refine step_ ?_)); (conv => whnf)); refine fgt_id ?_
    ((conv => whnf); (first | refine step_ ?_ | (refine fgt_id ?_; (conv => whnf); refine step_ ?_)); (conv => whnf)); refine fgt_id ?_
    ((conv => whnf); (first | refine step_ ?_ | (refine fgt_id ?_; (conv => whnf); refine step_ ?_)); (conv => whnf)); refine ite_d (fun h => ?_) fun h => ?_
    · have lx : x.length ≤ V := hd.light
      have ok := strOk_iff.mp (show PyData.strOk x = true from hd.lay)
      ((conv => whnf); (first | refine step_ ?_ | (refine fgt_id ?_; (conv => whnf); refine step_ ?_)); (conv => whnf)); refine ⟨bigE (by show x.length + 1 ≤ _; omega), ?_⟩
      (conv => whnf); refine sl_s (bigE (by omega)) ?_
      (conv => whnf); refine ⟨small rfl, fun p hp => ?_⟩
      (conv => whnf); refine fz_new hp ?_
      (conv => whnf); refine ⟨small rfl, ?_⟩
      rcases (show c = 0 ∨ c = 1 ∨ c = 2 by omega) with rfl | rfl | rfl
      · (conv => whnf); refine ix_t (by rfl) ?_
        exact fin _ _ _ (by omega) (.str _) (bd_str_a hd (by omega) (by omega))
      · (conv => whnf); refine ix_t (by rfl) ?_
        exact fin _ _ _ (by omega) (.str _) (bd_str_cut hd (by omega) (by omega))
      · (conv => whnf); refine ix_t (by rfl) ?_
        exact fin _ _ _ (by omega) (.lst (.cons (.str _) .nil)) ((BL.one hd).lst.mono (by omega) (by omega) (by omega))
    · (conv => whnf); refine fgt_id ?_
      ((conv => whnf); (first | refine step_ ?_ | (refine fgt_id ?_; (conv => whnf); refine step_ ?_)); (conv => whnf)); refine len_t ?_
      (conv => whnf); rw [h5]; refine ⟨_, _, _, rfl, by omega, by omega, put_same, by omega, fun j j0 j1 => ?_⟩
      rw [put_put]
      refine podd j _ _ j0 (by omega) fun w' d' hw' hd' _ => ?_
      exact fin _ _ _ (by omega) hw' hd'
  | lst tv =>
    ((conv => whnf); (first | refine step_ ?_ | (refine fgt_id ?_; (conv => whnf); refine step_ ?_)); (conv => whnf)); refine fgt_id ?_
    ((conv => whnf); (first | refine step_ ?_ | (refine fgt_id ?_; (conv => whnf); refine step_ ?_)); (conv => whnf)); refine fgt_id ?_
    ((conv => whnf); (first | refine step_ ?_ | (refine fgt_id ?_; (conv => whnf); refine step_ ?_)); (conv => whnf)); refine fgt_id ?_
    ((conv => whnf); (first | refine step_ ?_ | (refine fgt_id ?_; (conv => whnf); refine step_ ?_)); (conv => whnf)); refine len_t ?_
    (conv => whnf); rw [h5]; refine ⟨_, _, _, rfl, by omega, by omega, put_same, by omega, fun j j0 j1 => ?_⟩
    rw [put_put]
    refine podd j _ _ j0 (by omega) fun w' d' hw' hd' _ => ?_
    exact fin _ _ _ (by omega) hw' hd'
  | non =>
    ((conv => whnf); (first | refine step_ ?_ | (refine fgt_id ?_; (conv => whnf); refine step_ ?_)); (conv => whnf)); refine fgt_id ?_
    ((conv => whnf); (first | refine step_ ?_ | (refine fgt_id ?_; (conv => whnf); refine step_ ?_)); (conv => whnf)); refine fgt_id ?_
    ((conv => whnf); (first | refine step_ ?_ | (refine fgt_id ?_; (conv => whnf); refine step_ ?_)); (conv => whnf)); refine fgt_id ?_
    ((conv => whnf); (first | refine step_ ?_ | (refine fgt_id ?_; (conv => whnf); refine step_ ?_)); (conv => whnf)); refine len_t ?_
    (conv => whnf); rw [h5]; refine ⟨_, _, _, rfl, by omega, by omega, put_same, by omega, fun j j0 j1 => ?_⟩
    rw [put_put]
    refine podd j _ _ j0 (by omega) fun w' d' hw' hd' _ => ?_
    exact fin _ _ _ (by omega) hw' hd'
theorem erase_map {α β : Type} (g : α → β) (l : List α) (i : Nat) : (l.map g).eraseIdx i = (l.eraseIdx i).map g := by
  rw [List.eraseIdx_eq_take_drop_succ, List.eraseIdx_eq_take_drop_succ, List.map_append, List.map_take, List.map_drop]
theorem pull_perm {fd pl : List Nat} {R : List Nat} {A : Nat} (h : A < pl.length) (pm : (fd ++ pl).Perm R) : ((fd ++ [pl.getD A 0]) ++ pl.eraseIdx A).Perm R := by
  refine .trans ?_ pm
  rw [List.append_assoc]
  refine List.Perm.append_left fd ?_
  rw [List.eraseIdx_eq_take_drop_succ]
  have e : pl = pl.take A ++ pl.getD A 0 :: pl.drop (A + 1) := by
    rw [List.getD_eq_getElem?_getD, List.getElem?_eq_getElem h]
    show _ = pl.take A ++ pl[A] :: _
    rw [← List.drop_eq_getElem_cons h, List.take_append_drop]
  refine .trans ?_ (.of_eq e.symm)
  show (pl.getD A 0 :: (pl.take A ++ pl.drop (A + 1))).Perm _
  exact (List.perm_middle).symm
theorem kPulled : Keeps prom1 glob 6 3 b_law_pulled pPulled := by
  rintro ws S Kk Ek ⟨f, n, m, c, rfl, hf, hn, m1, m16, cm, post⟩
  refine ⟨rfl, ?_⟩
  unfold b_law_pulled
  (conv => whnf); refine step_ ?_
  (conv => whnf); refine ⟨RgOk.of_le (by decide) (by omega) (by decide) (by omega), fun p hp => ?_⟩
  rw [rg_nt]
  (conv => whnf); refine ⟨small rfl, fun q hq => ?_⟩
  (conv => whnf); refine ⟨rfl, ?_⟩
  have qp : q ≠ p := (put_none.mp hq).1
  have pq := Ne.symm qp
  have fp : f ≠ p := new_ne hp hf
  have fq : f ≠ q := new_ne (put_none.mp hq).2 hf
  (conv => whnf); refine step_ ?_
  (conv => whnf); refine ⟨by omega, ?_⟩
  refine for_rE (n := c) (fun i ρ' S' => ∃ (o5 : Option W) (fd pl : List Nat), ρ' = [some (.ref f), some (ntW m), some (ntW c), some (.ref p), some (.ref q), o5] ∧ (fd ++ pl).Perm (List.range m) ∧ fd.length = i ∧ S' = ((S.put f (.fd .l4 (n + i))).put p (.lst (pl.map ntW))).put q (.lst (fd.map ntW))) ⟨_, [], List.range m, rfl, .refl _, rfl, by rw [Nat.add_zero, put_id hf]; rfl⟩ (fun _ _ _ _ => trivial) ?_ ?_
  · rintro i ρ' S' E2 hi ⟨o5, fd, pl, rfl, pm, lf, rfl⟩ hnx ec eb er ex
    have lp := pm.length_eq
    rw [List.length_append, List.length_range] at lp
    (conv => whnf); refine step_ ?_
    (conv => whnf); refine ⟨_, List.mem_cons_self .., .inl ⟨rfl, _, put_same⟩, ?_⟩
    (conv => whnf); refine ⟨_, List.mem_cons_self .., .inl ⟨rfl, _, (put_ne pq).trans put_same⟩, ?_⟩
    (conv => whnf); refine len_lm ((put_ne pq).trans put_same) ?_
    (conv => whnf); refine ⟨_, _, _, rfl, by omega, by omega, at2 fp fq, by omega, fun a a0 a1 => ?_⟩
    rw [pf2 (Ne.symm fp) (Ne.symm fq)]
    obtain ⟨A, hA⟩ : ∃ A : Nat, (A : Int) = a := ⟨a.toNat, by omega⟩
    subst hA
    have hA : A < pl.length := by omega
    (conv => whnf); refine ⟨pl.map ntW, A, ntW (pl.getD A 0), (put_ne pq).trans put_same, by omega, ?_, ?_, ?_⟩
    · rw [List.length_map]; exact ixN_pos (by omega) (by omega)
    · rw [List.getElem?_map, get_some (d := 0) hA]; rfl
    rw [pf1 qp, erase_map]
    (conv => whnf); refine ⟨_, put_same, big (by rw [List.length_map]; omega), ?_⟩
    rw [put_put]
    decide_cbv; refine hnx _ _ ⟨_, fd ++ [pl.getD A 0], pl.eraseIdx A, rfl, pull_perm hA pm, by rw [List.length_append, lf]; rfl, ?_⟩
    rw [List.map_append (l₂ := [_])]; rfl
  rintro ρ' S' ⟨o5, fd, pl, rfl, pm, lf, rfl⟩
  (conv => whnf); refine step_ ?_
  (conv => whnf); refine ⟨_, put_same, ?_⟩
  have nd : (fd ++ pl).Nodup := pm.nodup_iff.mpr List.nodup_range
  exact fgt_to (Le.drop (Le.drop .refl (put_none.mpr ⟨Ne.symm fp, hp⟩)) (put_none.mpr ⟨Ne.symm fq, (put_none.mp hq).2⟩)) (post fd lf (List.nodup_append.mp nd).1 fun x hx => List.mem_range.mp (pm.mem_iff.mp (List.mem_append_left _ hx)))
end Dp.K07
namespace Dp.K07
open PySem PySem.Spec L2
open PyProof.Rows hiding St
local macro_rules | `(tactic| deriving_LawfulEq_tactic_step) => `(tactic| first | assumption | exact put_same | (refine put_new (by assumption) ?_; deriving_LawfulEq_tactic_step) | (refine put_o2 (by assumption) ?_; deriving_LawfulEq_tactic_step) | (refine put_o3 (by assumption) ?_; deriving_LawfulEq_tactic_step) | (refine put_o1 (by assumption) ?_ ?_ <;> deriving_LawfulEq_tactic_step) | (refine put_o4 ?_ ?_ (by intro z; cases z) <;> deriving_LawfulEq_tactic_step))
local macro_rules | `(tactic| deriving_ReflEq_tactic) => `(tactic| repeat (first | ((conv => whnf); refine ⟨small rfl, fun p hp => ?_⟩; (conv => whnf); refine fz_new hp ?_) | ((conv => whnf); refine ⟨small rfl, ?_⟩)))
local macro_rules | `(tactic| deriving_LawfulEq_tactic) => `(tactic| repeat (first | exact Da.int _ | exact Da.non | exact Da.bl _ | exact Da.str _ | assumption | apply Da.tup | apply Da.lst | exact Das.nil | apply Das.cons | apply Das.append | apply das_rep))
local macro_rules | `(tactic| bv_omega) => `(tactic| refine fgt_to (le_fin (fun a d na h => by deriving_LawfulEq_tactic_step) (by deriving_LawfulEq_tactic_step) (by omega)) ?_)
local macro_rules | `(tactic| ac_rfl) => `(tactic| repeat ((conv => whnf); first | refine step_ ?_ | (refine fgt_id ?_; (conv => whnf); refine step_ ?_) | refine len_tm ?_ | refine len_vm ?_ | refine len_t ?_ | refine len_v ?_ | refine len_lm (by deriving_LawfulEq_tactic_step) ?_ | refine len_l (by deriving_LawfulEq_tactic_step) ?_ | refine eq_i ?_ | refine ix_t (by rfl) ?_ | refine ix_v (by rfl) ?_ | refine fz_new (by assumption) ?_ | refine ⟨small rfl, ?_⟩))
local macro_rules | `(tactic| symm_saturate) => `(tactic| repeat (first | with_reducible refine E_fz ?_ | with_reducible refine E_lst ?_ | with_reducible refine E_tup ?_ | with_reducible refine Es_cons ?_ | with_reducible refine Es_nil ?_ | with_reducible refine E_cint ?_ | with_reducible refine E_cstr ?_ | with_reducible refine E_cbl ?_ | with_reducible refine E_cnon ?_ | with_reducible refine E_ix ?_ | with_reducible refine E_bin ?_ | with_reducible refine E_blt ?_ | with_reducible refine E_call ?_ | with_reducible refine E_neg ?_ | with_reducible refine E_sl ?_ | with_reducible refine S_ret ?_ | with_reducible refine S_exp ?_ | with_reducible refine S_asg ?_ | with_reducible refine Ss_cons ?_ | with_reducible refine B_sub ?_ | with_reducible refine B_add ?_ | with_reducible refine B_neg ?_ | with_reducible refine B_min2 ?_ | with_reducible refine B_max2 ?_ | with_reducible refine G_nm ?_ | ((with_reducible apply E_var); exact rfl) | (refine ⟨small rfl, fun pz hpz => ?_⟩; with_reducible refine fz_new hpz ?_) | refine ⟨small rfl, ?_⟩))
local macro_rules | `(tactic| suggestions) => `(tactic| repeat ((conv => whnf); first | refine step_ ?_ | refine eq_i ?_ | refine ⟨rfl, _, rfl, ?_⟩ | refine ⟨rfl, ?_⟩ | refine ⟨small rfl, ?_⟩ | refine fgt_id ?_))
local macro_rules | `(tactic| decide_cbv) => `(tactic| repeat ((conv => whnf); refine fgt_id ?_))

theorem nums_bl : ∀ {ns : List Int}, (∀ x ∈ ns, x.natAbs ≤ 1000) → BL 662 0 (11 * ns.length) (ns.map PyData.int)
  | [], _ => .nil
  | a :: ns, h => by
    have h1 := h a (List.mem_cons_self ..)
    have x : Bd 662 0 10 (.int a) := (Bd.int (b := 10) (k := 0) (by omega) (by decide)).mono (by decide) (Nat.le_refl _) (Nat.le_refl _)
    have := BL.cons x (nums_bl fun s hs => h s (List.mem_cons_of_mem _ hs))
    exact this.mono (Nat.le_refl _) (Nat.le_refl _) (by rw [List.length_cons]; omega)
theorem nums_bd {ns : List Int} (h : ∀ x ∈ ns, x.natAbs ≤ 1000) (l : ns.length ≤ 17) : Bd 662 1 190 (.tuple (ns.map .int)) := (nums_bl h).tup.mono (Nat.le_refl _) (Nat.le_refl _) (by omega)
theorem kNear7 : Keeps prom7 glob 8 3 b_law_near pNear7 := by
  rintro ws S Kk Ek ⟨f, n, m, dr, rfl, hf, hn, m1, m16, ld, hd, post⟩
  refine ⟨rfl, ?_⟩
  unfold b_law_near
  obtain ⟨ns, hns⟩ : ∃ ns : List Int, ns = dr.map fun (x : Nat) => (x : Int) := ⟨_, rfl⟩
  have eW : dr.map ntW = ns.map W.int := by rw [hns, List.map_map]; rfl
  have ln : ns.length = dr.length := by rw [hns, List.length_map]
  have hx : ∀ x ∈ ns, x.natAbs ≤ 1000 := fun x hx => by
    rw [hns] at hx
    obtain ⟨v, hv, rfl⟩ := List.mem_map.mp hx
    have := hd v hv
    omega
  rw [eW]
  clear hns
  have B0 := nums_bd hx (by omega)
  (conv => whnf); refine step_ ?_
  (conv => whnf); refine ⟨rfl, fun us ds t od ln1 => ?_⟩
  have lus := t.length
  (conv => whnf); refine ⟨f, _, _, _, us, ds, 662, 1, 190, rfl, hf, by omega, .tup (das_ints ns), B0, by decide, by decide, by decide, by decide, by decide, t, od, by omega, by omega, fun w1 d1 hw1 hd1 => ?_⟩
  have hd1 : Bd 663 3 890 d1 := hd1
  (conv => whnf)
  refine step_ ?_
  refine S_asg ?_
  refine E_lst ?_
  refine Es_cons ?_
  refine E_var rfl ?_
  refine Es_cons ?_
  (conv => whnf); rw [← List.map_reverse]
  refine ⟨rfl, fun us2 ds2 t2 od2 ln2 => ?_⟩
  (conv => whnf); refine ⟨f, _, w1, d1, us2, ds2, 663, 3, 890, rfl, put_same, by omega, hw1, hd1, by decide, by decide, by decide, by decide, by decide, t2, od2, by have := t2.length; omega, by have := t2.length; omega, fun w2 d2 hw2 hd2 => ?_⟩
  rw [put_put]
  have hd2 : Bd 664 5 1780 d2 := hd2
  refine Es_cons ?_
  (conv => whnf); refine ⟨small rfl, ?_⟩
  (conv => whnf); refine ⟨bigE (by rw [List.length_map]; show _ + 1 ≤ _; omega), ?_⟩
  refine Es_cons ?_
  (conv => whnf); intro p hp; (conv => whnf); refine fz_new hp ?_
  refine Es_nil ?_
  (conv => whnf); refine ⟨small rfl, fun q hq => ?_⟩
  have fq : f ≠ q := new_ne hq put_same
  have qf := Ne.symm fq
  have hqS : S q = none := (put_none.mp hq).2
  have P : ∀ l : List Int, (∀ x ∈ l, x.natAbs ≤ 1000) → l.length ≤ 17 → Bd 670 6 190 (.tuple (l.map .int)) := fun l h1 h2 => (nums_bd h1 h2).mono (by decide) (by decide) (Nat.le_refl _)
  have PL : Bd 670 6 190 (.list (ns.map .int)) := ((nums_bl hx).lst.mono (by decide) (by decide) (by omega))
  have hd1' : Bd 670 6 890 d1 := hd1.mono (by decide) (by decide) (by decide)
  have hd2' : Bd 670 6 1780 d2 := hd2.mono (by decide) (by decide) (by decide)
  have app : ∀ {l m : List Int}, (∀ x ∈ l, x.natAbs ≤ 1000) → (∀ x ∈ m, x.natAbs ≤ 1000) → ∀ x ∈ l ++ m, x.natAbs ≤ 1000 := fun h1 h2 s h => by
    rcases List.mem_append.mp h with h | h
    · exact h1 s h
    · exact h2 s h
  have one : ∀ v : Int, v.natAbs ≤ 1000 → ∀ x ∈ [v], x.natAbs ≤ 1000 := fun v hv s h => by rw [List.mem_singleton.mp h]; exact hv
  have tk : ∀ i, ∀ x ∈ ns.take i, x.natAbs ≤ 1000 := fun i x h => hx x (List.mem_of_mem_take h)
  have dp : ∀ i, ∀ x ∈ ns.drop i, x.natAbs ≤ 1000 := fun i x h => hx x (List.mem_of_mem_drop h)
  have eM : (W.tup (ns.map W.int ++ [ntW m])) = .tup ((ns ++ [(m : Int)]).map W.int) := by rw [List.map_append]; rfl
  obtain ⟨us0, hus0⟩ : ∃ us0, us0 = [W.tup (ns.map W.int), .tup (ns.reverse.map W.int), w1, w2, .tup (ns.map W.int ++ [ntW m]), .lst (ns.map W.int)] := ⟨_, rfl⟩
  have D0 : Das us0 [.tuple (ns.map .int), .tuple (ns.reverse.map .int), d1, d2, .tuple ((ns ++ [(m : Int)]).map .int), .list (ns.map .int)] := by
    rw [hus0, eM]
    exact .cons (.tup (das_ints _)) (.cons (.tup (das_ints _)) (.cons hw1 (.cons hw2 (.cons (.tup (das_ints _)) (.cons (.lst (das_ints _)) .nil)))))
  have a0 := P ns hx (by omega)
  have a1 := P ns.reverse (fun x h => hx x (List.mem_reverse.mp h)) (by rw [List.length_reverse]; omega)
  have a4 := P (ns ++ [(m : Int)]) (app hx (one _ (by omega))) (by rw [List.length_append]; show _ + 1 ≤ _; omega)
  have B1 : BL 670 6 3436 [.tuple (ns.map .int), .tuple (ns.reverse.map .int), d1, d2, .tuple ((ns ++ [(m : Int)]).map .int), .list (ns.map .int)] := (BL.cons a0 (.cons a1 (.cons hd1' (.cons hd2' (.cons a4 (.one PL)))))).mono (Nat.le_refl _) (Nat.le_refl _) (by decide)
  have E1 : ∀ d ∈ [PyData.tuple (ns.map .int), .tuple (ns.reverse.map .int), d1, d2, .tuple ((ns ++ [(m : Int)]).map .int), .list (ns.map .int)], Bd 670 6 2000 d := fun d hd => by
    rcases List.mem_cons.mp hd with rfl | hd
    · exact a0.mono (Nat.le_refl _) (Nat.le_refl _) (by decide)
    rcases List.mem_cons.mp hd with rfl | hd
    · exact a1.mono (Nat.le_refl _) (Nat.le_refl _) (by decide)
    rcases List.mem_cons.mp hd with rfl | hd
    · exact hd1'.mono (Nat.le_refl _) (Nat.le_refl _) (by decide)
    rcases List.mem_cons.mp hd with rfl | hd
    · exact hd2'.mono (Nat.le_refl _) (Nat.le_refl _) (by decide)
    rcases List.mem_cons.mp hd with rfl | hd
    · exact a4.mono (Nat.le_refl _) (Nat.le_refl _) (by decide)
    rw [List.mem_singleton.mp hd]; exact PL.mono (Nat.le_refl _) (Nat.le_refl _) (by decide)
  generalize [PyData.tuple (ns.map .int), .tuple (ns.reverse.map .int), d1, d2, .tuple ((ns ++ [(m : Int)]).map .int), .list (ns.map .int)] = ds0 at D0 B1 E1
  have l6 : us0.length = 6 := by rw [hus0]; rfl
  refine then_join (fun ρ' S' => ∃ (us : List W) (ds : List PyData) (k2 : Nat) (o5 o6 o7 : Option W), ρ' = [some (.ref f), some (ntW m), some (.tup (ns.map W.int)), some w1, some (.ref q), o5, o6, o7] ∧ Das us ds ∧ BL 670 6 4100 ds ∧ (∀ d ∈ ds, Bd 670 6 2000 d) ∧ us.length ≤ 9 ∧ k2 ≤ n + 60 ∧ S' = (S.put f (.fd .l4 k2)).put q (.lst us)) (fun nx hnx => ?_) ?_
  · have fin0 := a0.fin (by decide) (by decide) (by decide)
    have lits : ∀ X : List W, ([W.tup (ns.map W.int), .tup (ns.reverse.map W.int), w1, w2, .tup (ns.map W.int ++ [ntW m]), .lst (ns.map W.int)] ++ X) = us0 ++ X := fun X => by rw [hus0]
    (conv => whnf); refine ⟨small rfl, ?_⟩
    (conv => whnf); refine eq_d (.tup (das_ints ns).den) (.tup .nil) (shp fin0) (by decide) ?_
    rw [eqv_nilT, List.isEmpty_map]
    cases h : ns.isEmpty with
    | true => decide_cbv; exact hnx _ _ ⟨us0, ds0, n + 5 * (1 + 1) + 5 * (3 + 1), _, _, _, rfl, D0, B1.mono (Nat.le_refl _) (Nat.le_refl _) (by decide), E1, by omega, by omega, by rw [hus0]⟩
    | false =>
      have l1 : 0 < ns.length := by
        cases ns with
        | nil => cases h
        | cons _ _ => exact Nat.succ_pos _
      (conv => whnf); refine step_ ?_
      (conv => whnf); refine len_tm ?_
      (conv => whnf); refine ⟨_, _, _, rfl, by omega, by omega, at1 fq, by omega, fun a a0' a1' => ?_⟩
      rw [pf1 qf]
      (conv => whnf); refine len_tm ?_
      (conv => whnf); refine ⟨_, _, _, rfl, by omega, by omega, at1 fq, by omega, fun c c0 c1 => ?_⟩
      rw [pf1 qf]
      (conv => whnf); refine ⟨rfl, ?_⟩
      (conv => whnf); refine step_ ?_
      (conv => whnf); refine ⟨_, List.mem_cons_self .., .inl ⟨rfl, _, put_same⟩, ?_⟩
      (conv => whnf); refine sl_tt a0' ?_
      (conv => whnf); refine ix_tm 0 c0 c1 ?_
      have hv := hx _ (getD_mem (d := 0) (show c.toNat < ns.length by omega))
      generalize ns.getD c.toNat 0 = v at hv
      (conv => whnf); refine ⟨small rfl, ?_⟩
      (conv => whnf); refine ⟨bigE (by rw [List.length_map, List.length_take]; show _ + 1 ≤ _; omega), ?_⟩
      (conv => whnf); refine sl_tf (by omega) ?_
      (conv => whnf); refine ⟨bigE (by rw [List.length_append, List.length_map, List.length_map, List.length_take, List.length_drop]; show _ + 1 + _ ≤ _; omega), ?_⟩
      (conv => whnf); refine ⟨_, put_same, small rfl, ?_⟩
      rw [put_put]
      (conv => whnf); refine step_ ?_
      (conv => whnf); refine ix_tm 0 c0 c1 ?_
      have hv2 := hx _ (getD_mem (d := 0) (show c.toNat < ns.length by omega))
      generalize ns.getD c.toNat 0 = v2 at hv2
      (conv => whnf); refine step_ ?_
      (conv => whnf); refine ⟨_, List.mem_cons_self .., .inl ⟨rfl, _, put_same⟩, ?_⟩
      (conv => whnf); refine sl_tt a0' ?_
      (conv => whnf); refine ⟨small rfl, ?_⟩
      (conv => whnf); refine ⟨bigE (by rw [List.length_map, List.length_take]; show _ + 1 ≤ _; omega), ?_⟩
      (conv => whnf); refine sl_tf a0' ?_
      (conv => whnf); refine ⟨bigE (by rw [List.length_append, List.length_map, List.length_map, List.length_take, List.length_drop]; show _ + 1 + _ ≤ _; omega), ?_⟩
      (conv => whnf); refine ⟨_, put_same, small rfl, ?_⟩
      rw [put_put]
      (conv => whnf); refine step_ ?_
      (conv => whnf); refine ⟨_, List.mem_cons_self .., .inl ⟨rfl, _, put_same⟩, ?_⟩
      (conv => whnf); refine sl_tt a0' ?_
      (conv => whnf); refine ⟨_, _, _, rfl, by omega, by omega, at1 fq, by omega, fun e e0 e1 => ?_⟩
      rw [pf1 qf]
      (conv => whnf); refine ⟨small rfl, ?_⟩
      (conv => whnf); refine ⟨bigE (by rw [List.length_map, List.length_take]; show _ + 1 ≤ _; omega), ?_⟩
      (conv => whnf); refine sl_tf (by omega) ?_
      (conv => whnf); refine ⟨bigE (by rw [List.length_append, List.length_map, List.length_map, List.length_take, List.length_drop]; show _ + 1 + _ ≤ _; omega), ?_⟩
      (conv => whnf); refine ⟨_, put_same, small rfl, ?_⟩
      rw [put_put]
      have eX : ∀ (i j : Nat) (v : Int), W.tup ((ns.take i).map W.int ++ [W.int v] ++ (ns.drop j).map W.int) = .tup ((ns.take i ++ [v] ++ ns.drop j).map W.int) := fun i j v => by rw [List.map_append, List.map_append]; rfl
      rw [eX, eX, eX]
      have bX : ∀ (i j : Nat) (v : Int), v.natAbs ≤ 1000 → (i ≤ j ∨ True) → (ns.take i ++ [v] ++ ns.drop j).length ≤ 17 → Bd 670 6 190 (.tuple ((ns.take i ++ [v] ++ ns.drop j).map .int)) := fun i j v h1 _ h2 => P _ (app (app (tk i) (one v h1)) (dp j)) h2
      have lX : ∀ (i j : Nat) (v : Int), i ≤ j → i ≤ ns.length → (ns.take i ++ [v] ++ ns.drop j).length ≤ 17 := fun i j v h h2 => by
        rw [List.length_append, List.length_append, List.length_take, List.length_drop]; show _ + 1 + _ ≤ _; omega
      have b1 := bX a.toNat (a + 1).toNat v hv (.inr trivial) (lX _ _ _ (by omega) (by omega))
      have b2 := bX a.toNat a.toNat v2 hv2 (.inr trivial) (lX _ _ _ (by omega) (by omega))
      have b3 := bX a.toNat (a + 1).toNat (e - 1) (by omega) (.inr trivial) (lX _ _ _ (by omega) (by omega))
      decide_cbv; refine hnx _ _ ⟨us0 ++ [.tup ((ns.take a.toNat ++ [v] ++ ns.drop (a + 1).toNat).map W.int)] ++ [.tup ((ns.take a.toNat ++ [v2] ++ ns.drop a.toNat).map W.int)] ++ [.tup ((ns.take a.toNat ++ [e - 1] ++ ns.drop (a + 1).toNat).map W.int)], ds0 ++ [.tuple ((ns.take a.toNat ++ [v] ++ ns.drop (a + 1).toNat).map .int)] ++ [.tuple ((ns.take a.toNat ++ [v2] ++ ns.drop a.toNat).map .int)] ++ [.tuple ((ns.take a.toNat ++ [e - 1] ++ ns.drop (a + 1).toNat).map .int)], n + 5 * (1 + 1) + 5 * (3 + 1) + 1 + 1 + 1, _, _, _, rfl, ?_, ?_, ?_, ?_, by omega, ?_⟩
      · exact ((D0.append (.cons (.tup (das_ints _)) .nil)).append (.cons (.tup (das_ints _)) .nil)).append (.cons (.tup (das_ints _)) .nil)
      · exact (((B1.append (.one b1)).append (.one b2)).append (.one b3)).mono (Nat.le_refl _) (Nat.le_refl _) (by decide)
      · intro d hd
        have up : ∀ {d}, Bd 670 6 190 d → Bd 670 6 2000 d := fun h => h.mono (Nat.le_refl _) (Nat.le_refl _) (by decide)
        rcases List.mem_append.mp hd with hd | hd
        · rcases List.mem_append.mp hd with hd | hd
          · rcases List.mem_append.mp hd with hd | hd
            · exact E1 d hd
            · rw [List.mem_singleton.mp hd]; exact up b1
          · rw [List.mem_singleton.mp hd]; exact up b2
        · rw [List.mem_singleton.mp hd]; exact up b3
      · rw [List.length_append, List.length_append, List.length_append, l6]; exact Nat.le_refl _
      · rw [hus0]
  rintro ρ' S' ⟨us, ds, k2, o5, o6, o7, rfl, D, B, E, lu, hk2, rfl⟩
  (conv => whnf); refine step_ ?_
  (conv => whnf); refine fz_l put_same ?_
  rw [put_del (put_none.mpr ⟨qf, hqS⟩)]
  exact fgt_to (Le.fd hk2) (post us ds D B E lu)
end Dp.K07
namespace Dp.K07
open PySem PySem.Spec L2
open PyProof.Rows hiding St
local macro_rules | `(tactic| deriving_LawfulEq_tactic_step) => `(tactic| first | assumption | exact put_same | (refine put_new (by assumption) ?_; deriving_LawfulEq_tactic_step) | (refine put_o2 (by assumption) ?_; deriving_LawfulEq_tactic_step) | (refine put_o3 (by assumption) ?_; deriving_LawfulEq_tactic_step) | (refine put_o1 (by assumption) ?_ ?_ <;> deriving_LawfulEq_tactic_step) | (refine put_o4 ?_ ?_ (by intro z; cases z) <;> deriving_LawfulEq_tactic_step))
local macro_rules | `(tactic| deriving_ReflEq_tactic) => `(tactic| repeat (first | ((conv => whnf); refine ⟨small rfl, fun p hp => ?_⟩; (conv => whnf); refine fz_new hp ?_) | ((conv => whnf); refine ⟨small rfl, ?_⟩)))
local macro_rules | `(tactic| deriving_LawfulEq_tactic) => `(tactic| repeat (first | exact Da.int _ | exact Da.non | exact Da.bl _ | exact Da.str _ | assumption | apply Da.tup | apply Da.lst | exact Das.nil | apply Das.cons | apply Das.append | apply das_rep))
local macro_rules | `(tactic| bv_omega) => `(tactic| refine fgt_to (le_fin (fun a d na h => by deriving_LawfulEq_tactic_step) (by deriving_LawfulEq_tactic_step) (by omega)) ?_)
local macro_rules | `(tactic| ac_rfl) => `(tactic| repeat ((conv => whnf); first | refine step_ ?_ | (refine fgt_id ?_; (conv => whnf); refine step_ ?_) | refine len_tm ?_ | refine len_vm ?_ | refine len_t ?_ | refine len_v ?_ | refine len_lm (by deriving_LawfulEq_tactic_step) ?_ | refine len_l (by deriving_LawfulEq_tactic_step) ?_ | refine eq_i ?_ | refine ix_t (by rfl) ?_ | refine ix_v (by rfl) ?_ | refine fz_new (by assumption) ?_ | refine ⟨small rfl, ?_⟩))
local macro_rules | `(tactic| symm_saturate) => `(tactic| repeat (first | with_reducible refine E_fz ?_ | with_reducible refine E_lst ?_ | with_reducible refine E_tup ?_ | with_reducible refine Es_cons ?_ | with_reducible refine Es_nil ?_ | with_reducible refine E_cint ?_ | with_reducible refine E_cstr ?_ | with_reducible refine E_cbl ?_ | with_reducible refine E_cnon ?_ | with_reducible refine E_ix ?_ | with_reducible refine E_bin ?_ | with_reducible refine E_blt ?_ | with_reducible refine E_call ?_ | with_reducible refine E_neg ?_ | with_reducible refine E_sl ?_ | with_reducible refine S_ret ?_ | with_reducible refine S_exp ?_ | with_reducible refine S_asg ?_ | with_reducible refine Ss_cons ?_ | with_reducible refine B_sub ?_ | with_reducible refine B_add ?_ | with_reducible refine B_neg ?_ | with_reducible refine B_min2 ?_ | with_reducible refine B_max2 ?_ | with_reducible refine G_nm ?_ | ((with_reducible apply E_var); exact rfl) | (refine ⟨small rfl, fun pz hpz => ?_⟩; with_reducible refine fz_new hpz ?_) | refine ⟨small rfl, ?_⟩))
local macro_rules | `(tactic| suggestions) => `(tactic| repeat ((conv => whnf); first | refine step_ ?_ | refine eq_i ?_ | refine ⟨rfl, _, rfl, ?_⟩ | refine ⟨rfl, ?_⟩ | refine ⟨small rfl, ?_⟩ | refine fgt_id ?_))
local macro_rules | `(tactic| decide_cbv) => `(tactic| repeat ((conv => whnf); refine fgt_id ?_))

def fixDs : List PyData := ([.tuple [], .tuple [.int 0], .tuple [.int 1], .tuple [.int 0, .int 1], .tuple [.int 1, .int 0], .tuple [.int 0, .int 0], .tuple [.int 2, .int 0, .int 1], .tuple [.int 0, .int 2], .tuple [.int (-1)], .tuple [.int 0, .int (-1)], .tuple [.bool true], .tuple [.int 0, .bool true], .tuple [.bool false]]) ++ ([.none, .int 0, .str "0", .tuple [.str "0"], .tuple [.tuple [.int 0]], .tuple [.none], .tuple [.int 0, .none], .tuple [.list [.int 0]], .tuple [.int 0, .list [.int 1]], .tuple [.int (10 ^ 60)], .tuple ((List.range 40).map fun (i : Nat) => .int i)]) ++ ([.list [.int 0], .list [], .tuple [.int 15]]) ++ ([.tuple [.int 16], .tuple ((List.range 16).map fun (i : Nat) => .int i), .tuple [.int 0, .int 1, .int 2, .int 1], .tuple [.int 3, .int 2, .int 1, .int 0], .tuple [.int 1, .bool true], .tuple [.int 0, .bool false]])
theorem das_rg (n : Nat) : Das (rgList 0 1 n) ((List.range n).map fun (i : Nat) => .int i) := by
  rw [rg_ints]
  have := das_ints ((List.range n).map fun (i : Nat) => (i : Int))
  rw [List.map_map (g := PyData.int)] at this
  exact this
theorem kFixed7 (p : Nat → Pm) (G : Nat → W) : Keeps p G 2 0 b_law_fixed pFixed7 := by
  rintro ws S Kk Ek ⟨rfl, post⟩
  refine ⟨rfl, ?_⟩
  unfold b_law_fixed
  ((conv => whnf); (first | refine step_ ?_ | (refine fgt_id ?_; (conv => whnf); refine step_ ?_)); (conv => whnf)); refine ⟨⟨by decide, by decide, by decide⟩, ?_⟩
  ((conv => whnf); (first | refine step_ ?_ | (refine fgt_id ?_; (conv => whnf); refine step_ ?_)); (conv => whnf))
  deriving_ReflEq_tactic
  intro q hq
  (conv => whnf)
  ((conv => whnf); (first | refine step_ ?_ | (refine fgt_id ?_; (conv => whnf); refine step_ ?_)); (conv => whnf)); refine ⟨_, List.mem_cons_self .., .inl ⟨rfl, _, put_same⟩, ?_⟩
  deriving_ReflEq_tactic
  (conv => whnf); refine ⟨RgOk.of_le (by decide) (by decide) (by decide) (by decide), ?_⟩
  have d40 := das_rg 40
  rw [show ((40 : Int)).toNat = 40 from rfl]
  generalize rgList 0 1 40 = r40 at d40
  deriving_ReflEq_tactic
  symm_saturate
  (conv => whnf); refine ⟨_, put_same, small rfl, ?_⟩
  rw [put_put]
  (conv => whnf)
  ((conv => whnf); (first | refine step_ ?_ | (refine fgt_id ?_; (conv => whnf); refine step_ ?_)); (conv => whnf)); refine ⟨_, List.mem_cons_self .., .inl ⟨rfl, _, put_same⟩, ?_⟩
  deriving_ReflEq_tactic
  symm_saturate
  (conv => whnf); refine ⟨_, put_same, small rfl, ?_⟩
  rw [put_put]
  (conv => whnf)
  ((conv => whnf); (first | refine step_ ?_ | (refine fgt_id ?_; (conv => whnf); refine step_ ?_)); (conv => whnf))
  deriving_ReflEq_tactic
  (conv => whnf); refine ⟨RgOk.of_le (by decide) (by decide) (by decide) (by decide), ?_⟩
  have d16 := das_rg 16
  rw [show ((16 : Int)).toNat = 16 from rfl]
  generalize rgList 0 1 16 = r16 at d16
  deriving_ReflEq_tactic
  symm_saturate
  refine ⟨_, put_same, small rfl, fun p hp => ?_⟩
  have hp2 := (put_none.mp hp).2
  refine fgt_to (Le.both (Le.drop .refl hq) (.same _)) (post _ fixDs ?_ ?_ ?_ p hp2)
  · unfold fixDs; deriving_LawfulEq_tactic
  · exact bl_by (by decide +kernel)
  · exact Nat.le_of_ble_eq_true rfl
end Dp.K07
namespace Dp.K07
open PySem PySem.Spec L2
open PyProof.Rows hiding St
local macro_rules | `(tactic| deriving_LawfulEq_tactic_step) => `(tactic| first | assumption | exact put_same | (refine put_new (by assumption) ?_; deriving_LawfulEq_tactic_step) | (refine put_o2 (by assumption) ?_; deriving_LawfulEq_tactic_step) | (refine put_o3 (by assumption) ?_; deriving_LawfulEq_tactic_step) | (refine put_o1 (by assumption) ?_ ?_ <;> deriving_LawfulEq_tactic_step) | (refine put_o4 ?_ ?_ (by intro z; cases z) <;> deriving_LawfulEq_tactic_step))
local macro_rules | `(tactic| deriving_ReflEq_tactic) => `(tactic| repeat (first | ((conv => whnf); refine ⟨small rfl, fun p hp => ?_⟩; (conv => whnf); refine fz_new hp ?_) | ((conv => whnf); refine ⟨small rfl, ?_⟩)))
local macro_rules | `(tactic| deriving_LawfulEq_tactic) => `(tactic| repeat (first | exact Da.int _ | exact Da.non | exact Da.bl _ | exact Da.str _ | assumption | apply Da.tup | apply Da.lst | exact Das.nil | apply Das.cons | apply Das.append | apply das_rep))
local macro_rules | `(tactic| bv_omega) => `(tactic| refine fgt_to (le_fin (fun a d na h => by deriving_LawfulEq_tactic_step) (by deriving_LawfulEq_tactic_step) (by omega)) ?_)
local macro_rules | `(tactic| ac_rfl) => `(tactic| repeat ((conv => whnf); first | refine step_ ?_ | (refine fgt_id ?_; (conv => whnf); refine step_ ?_) | refine len_tm ?_ | refine len_vm ?_ | refine len_t ?_ | refine len_v ?_ | refine len_lm (by deriving_LawfulEq_tactic_step) ?_ | refine len_l (by deriving_LawfulEq_tactic_step) ?_ | refine eq_i ?_ | refine ix_t (by rfl) ?_ | refine ix_v (by rfl) ?_ | refine fz_new (by assumption) ?_ | refine ⟨small rfl, ?_⟩))
local macro_rules | `(tactic| symm_saturate) => `(tactic| repeat (first | with_reducible refine E_fz ?_ | with_reducible refine E_lst ?_ | with_reducible refine E_tup ?_ | with_reducible refine Es_cons ?_ | with_reducible refine Es_nil ?_ | with_reducible refine E_cint ?_ | with_reducible refine E_cstr ?_ | with_reducible refine E_cbl ?_ | with_reducible refine E_cnon ?_ | with_reducible refine E_ix ?_ | with_reducible refine E_bin ?_ | with_reducible refine E_blt ?_ | with_reducible refine E_call ?_ | with_reducible refine E_neg ?_ | with_reducible refine E_sl ?_ | with_reducible refine S_ret ?_ | with_reducible refine S_exp ?_ | with_reducible refine S_asg ?_ | with_reducible refine Ss_cons ?_ | with_reducible refine B_sub ?_ | with_reducible refine B_add ?_ | with_reducible refine B_neg ?_ | with_reducible refine B_min2 ?_ | with_reducible refine B_max2 ?_ | with_reducible refine G_nm ?_ | ((with_reducible apply E_var); exact rfl) | (refine ⟨small rfl, fun pz hpz => ?_⟩; with_reducible refine fz_new hpz ?_) | refine ⟨small rfl, ?_⟩))
local macro_rules | `(tactic| suggestions) => `(tactic| repeat ((conv => whnf); first | refine step_ ?_ | refine eq_i ?_ | refine ⟨rfl, _, rfl, ?_⟩ | refine ⟨rfl, ?_⟩ | refine ⟨small rfl, ?_⟩ | refine fgt_id ?_))
local macro_rules | `(tactic| decide_cbv) => `(tactic| repeat ((conv => whnf); refine fgt_id ?_))

def hs0 : List (Int × List Int × Bool) := [(17, [16], true), (17, [17], false), (40, (List.range 40).map fun (i : Nat) => (i : Int), true), (40, (List.range 41).map fun (i : Nat) => (i : Int), false), (1000, [999, 0], true), (1000, [1000], false), (1000, ((List.range 200).map fun (i : Nat) => (i : Int)) ++ [0], false)]
def long7 : List Int := (List.range 1000).map fun (i : Nat) => 999 + (i : Int) * -1
def caseW (c : Int × List Int × Bool) : W := .tup [.int c.1, .tup (c.2.1.map W.int), .bl c.2.2]
theorem long_rg : rgList 999 (-1) 1000 = long7.map W.int := by
  unfold long7 rgList
  rw [List.map_map]; rfl
theorem long_ok : drawB 1000 (.tuple (long7.map .int)) = true := by
  rw [drawB_ints]
  have e : long7.filter (fun v => decide (v < 0) || decide (v ≥ 1000)) = [] := List.filter_eq_nil_iff.mpr fun v hv => by
    obtain ⟨i, hi, rfl⟩ := List.mem_map.mp hv
    have := List.mem_range.mp hi
    rw [decide_eq_false (by omega), decide_eq_false (by omega)]; decide
  have nd : long7.Nodup := List.nodup_iff_pairwise_ne.mpr (List.pairwise_map.mpr ((List.nodup_iff_pairwise_ne.mp List.nodup_range).imp fun {a b} hab e => hab (by omega)))
  rw [e, decide_eq_true nd]; rfl
theorem hs0_ok : ∀ c ∈ hs0, c.2.1.length ≤ 300 ∧ drawB c.1 (.tuple (c.2.1.map .int)) = c.2.2 := by decide +kernel
theorem all_ok : ∀ c ∈ hs0 ++ [(1000, long7, true)], c.2.1.length ≤ 1000 ∧ drawB c.1 (.tuple (c.2.1.map .int)) = c.2.2 := fun c hc => by
  rcases List.mem_append.mp hc with h | h
  · exact ⟨Nat.le_trans (hs0_ok c h).1 (by decide), (hs0_ok c h).2⟩
  · rw [List.mem_singleton.mp h]; exact ⟨by show long7.length ≤ 1000; unfold long7; rw [List.length_map, List.length_range]; exact Nat.le_refl _, long_ok⟩
theorem kWide : Keeps prom2 glob 5 0 b_law_wide pHand8 := by
  rintro ws S Kk Ek ⟨rfl, k⟩
  refine ⟨rfl, ?_⟩
  unfold b_law_wide
  (conv => whnf); refine step_ ?_
  deriving_ReflEq_tactic
  (conv => whnf); refine ⟨RgOk.of_le (by decide) (by decide) (by decide) (by decide), ?_⟩
  rw [show ((40 : Int)).toNat = 40 from rfl, rg_ints]
  generalize h40 : (List.range 40).map (fun (i : Nat) => (i : Int)) = r40
  deriving_ReflEq_tactic
  (conv => whnf); refine ⟨RgOk.of_le (by decide) (by decide) (by decide) (by decide), ?_⟩
  rw [show ((41 : Int)).toNat = 41 from rfl, rg_ints]
  generalize h41 : (List.range 41).map (fun (i : Nat) => (i : Int)) = r41
  deriving_ReflEq_tactic
  intro q hq
  (conv => whnf); refine step_ ?_
  (conv => whnf); refine ⟨_, List.mem_cons_self .., .inl ⟨rfl, _, put_same⟩, ?_⟩
  deriving_ReflEq_tactic
  (conv => whnf); refine ⟨RgOk.of_le (by decide) (by decide) (by decide) (by decide), ?_⟩
  rw [show ((200 : Int)).toNat = 200 from rfl, rg_ints]
  generalize h200 : (List.range 200).map (fun (i : Nat) => (i : Int)) = r200
  have l200 : r200.length = 200 := by rw [← h200]; simp
  deriving_ReflEq_tactic
  (conv => whnf); refine ⟨bigE (by rw [List.length_map, l200]; show 200 + 1 ≤ _; decide), ?_⟩
  deriving_ReflEq_tactic
  symm_saturate
  (conv => whnf); refine ⟨_, put_same, small rfl, ?_⟩
  rw [put_put]
  have eH : (S.put q (.lst ([caseW (17, [16], true), caseW (17, [17], false), caseW (40, r40, true), caseW (40, r41, false)] ++ [caseW (1000, [999, 0], true), caseW (1000, [1000], false), caseW (1000, r200 ++ [0], false)]))) = S.put q (.lst (hs0.map caseW)) := by
    rw [← h40, ← h41, ← h200]; rfl
  have eT : W.tup (r200.map W.int ++ [W.int 0]) = .tup ((r200 ++ [0]).map W.int) := by rw [List.map_append]; rfl
  (conv => whnf); refine step_ ?_
  show dE _ _ _ _ (S.put q (.lst ([caseW (17, [16], true), caseW (17, [17], false), caseW (40, r40, true), caseW (40, r41, false)] ++ [caseW (1000, [999, 0], true), caseW (1000, [1000], false), .tup [.int 1000, .tup (r200.map W.int ++ [W.int 0]), .bl false]]))) _ _
  rw [eT]
  show dE _ _ _ _ (S.put q (.lst ([caseW (17, [16], true), caseW (17, [17], false), caseW (40, r40, true), caseW (40, r41, false)] ++ [caseW (1000, [999, 0], true), caseW (1000, [1000], false), caseW (1000, r200 ++ [0], false)]))) _ _
  rw [eH]
  (conv => whnf); refine ⟨_, RgC.neg (by decide) (by decide) (by decide) (by decide), by decide, ?_⟩
  rw [show ((999 : Int) - -1).toNat = 1000 from rfl, long_rg]
  have p0 : posR 0 0 long7 = some 999 := by decide +kernel
  have p17 : posR 17 0 long7 = some 982 := by decide +kernel
  have p1000 : posR 1000 0 long7 = none := by decide +kernel
  have hA := all_ok
  have lA : (hs0 ++ [((1000 : Int), long7, true)]).length = 8 := rfl
  have eA : (hs0 ++ [((1000 : Int), long7, true)]).map caseW = hs0.map caseW ++ [.tup [.int 1000, .tup (long7.map W.int), .bl true]] := by rw [List.map_append]; rfl
  have l0 : (hs0.map caseW).length = 7 := rfl
  generalize long7 = L at p0 p17 p1000 hA lA eA
  generalize hs0 = H at hA lA eA l0
  (conv => whnf); refine step_ ?_
  (conv => whnf); refine ⟨_, List.mem_cons_self .., .inl ⟨rfl, _, put_same⟩, ?_⟩
  (conv => whnf); refine ⟨small rfl, ?_⟩
  (conv => whnf); refine ⟨_, put_same, big (by rw [l0]; decide), ?_⟩
  rw [put_put]
  (conv => whnf); refine step_ ?_
  (conv => whnf); refine ⟨L, _, rfl, ?_⟩
  rw [p0]
  (conv => whnf); refine eq_i ?_
  (conv => whnf); refine ⟨L, _, rfl, ?_⟩
  rw [p17]
  (conv => whnf); refine eq_i ?_
  (conv => whnf); refine ⟨L, _, rfl, ?_⟩
  rw [p1000]
  (conv => whnf); refine fgt_id ?_
  (conv => whnf); refine step_ ?_
  (conv => whnf); refine ⟨_, put_same, ?_⟩
  show compW _ _ _ _ _ _ (H.map caseW ++ [.tup [.int 1000, .tup (L.map W.int), .bl true]]) _ _
  rw [← eA]
  refine comp_m (H ++ [((1000 : Int), L, true)]) caseW (fun _ => .bl true) (by rw [lA]; decide) put_same (fun c hc Kt kt => ?_) ?_
  · obtain ⟨c1, c2⟩ := hA c hc
    (conv => whnf); refine ⟨rfl, ?_⟩
    (conv => whnf); refine ⟨c.1, .tup (c.2.1.map W.int), .tuple (c.2.1.map PyData.int), rfl, .tup (das_ints _), fun es e => by cases e; rw [List.length_map]; omega, ?_⟩
    rw [c2]
    (conv => whnf); refine ⟨_, _, rfl, ?_⟩
    rw [show (c.2.2 == c.2.2) = true by cases c.2.2 <;> rfl]
    exact kt
  (conv => whnf); intro r hr; (conv => whnf); refine fz_new hr ?_
  (conv => whnf); refine ⟨(H ++ [((1000 : Int), L, true)]).map fun _ => true, by rw [List.map_map]; rfl, ?_⟩
  rw [show ((H ++ [((1000 : Int), L, true)]).map fun _ => true).all id = true from List.all_eq_true.mpr fun b hb => by
    obtain ⟨_, _, rfl⟩ := List.mem_map.mp hb
    rfl]
  exact fgt_to (Le.drop .refl hq) k
end Dp.K07
namespace Dp.K07
open PySem PySem.Spec L2
open PyProof.Rows hiding St
local macro_rules | `(tactic| deriving_LawfulEq_tactic_step) => `(tactic| first | assumption | exact put_same | (refine put_new (by assumption) ?_; deriving_LawfulEq_tactic_step) | (refine put_o2 (by assumption) ?_; deriving_LawfulEq_tactic_step) | (refine put_o3 (by assumption) ?_; deriving_LawfulEq_tactic_step) | (refine put_o1 (by assumption) ?_ ?_ <;> deriving_LawfulEq_tactic_step) | (refine put_o4 ?_ ?_ (by intro z; cases z) <;> deriving_LawfulEq_tactic_step))
local macro_rules | `(tactic| deriving_ReflEq_tactic) => `(tactic| repeat (first | ((conv => whnf); refine ⟨small rfl, fun p hp => ?_⟩; (conv => whnf); refine fz_new hp ?_) | ((conv => whnf); refine ⟨small rfl, ?_⟩)))
local macro_rules | `(tactic| deriving_LawfulEq_tactic) => `(tactic| repeat (first | exact Da.int _ | exact Da.non | exact Da.bl _ | exact Da.str _ | assumption | apply Da.tup | apply Da.lst | exact Das.nil | apply Das.cons | apply Das.append | apply das_rep))
local macro_rules | `(tactic| bv_omega) => `(tactic| refine fgt_to (le_fin (fun a d na h => by deriving_LawfulEq_tactic_step) (by deriving_LawfulEq_tactic_step) (by omega)) ?_)
local macro_rules | `(tactic| ac_rfl) => `(tactic| repeat ((conv => whnf); first | refine step_ ?_ | (refine fgt_id ?_; (conv => whnf); refine step_ ?_) | refine len_tm ?_ | refine len_vm ?_ | refine len_t ?_ | refine len_v ?_ | refine len_lm (by deriving_LawfulEq_tactic_step) ?_ | refine len_l (by deriving_LawfulEq_tactic_step) ?_ | refine eq_i ?_ | refine ix_t (by rfl) ?_ | refine ix_v (by rfl) ?_ | refine fz_new (by assumption) ?_ | refine ⟨small rfl, ?_⟩))
local macro_rules | `(tactic| symm_saturate) => `(tactic| repeat (first | with_reducible refine E_fz ?_ | with_reducible refine E_lst ?_ | with_reducible refine E_tup ?_ | with_reducible refine Es_cons ?_ | with_reducible refine Es_nil ?_ | with_reducible refine E_cint ?_ | with_reducible refine E_cstr ?_ | with_reducible refine E_cbl ?_ | with_reducible refine E_cnon ?_ | with_reducible refine E_ix ?_ | with_reducible refine E_bin ?_ | with_reducible refine E_blt ?_ | with_reducible refine E_call ?_ | with_reducible refine E_neg ?_ | with_reducible refine E_sl ?_ | with_reducible refine S_ret ?_ | with_reducible refine S_exp ?_ | with_reducible refine S_asg ?_ | with_reducible refine Ss_cons ?_ | with_reducible refine B_sub ?_ | with_reducible refine B_add ?_ | with_reducible refine B_neg ?_ | with_reducible refine B_min2 ?_ | with_reducible refine B_max2 ?_ | with_reducible refine G_nm ?_ | ((with_reducible apply E_var); exact rfl) | (refine ⟨small rfl, fun pz hpz => ?_⟩; with_reducible refine fz_new hpz ?_) | refine ⟨small rfl, ?_⟩))
local macro_rules | `(tactic| suggestions) => `(tactic| repeat ((conv => whnf); first | refine step_ ?_ | refine eq_i ?_ | refine ⟨rfl, _, rfl, ?_⟩ | refine ⟨rfl, ?_⟩ | refine ⟨small rfl, ?_⟩ | refine fgt_id ?_))
local macro_rules | `(tactic| decide_cbv) => `(tactic| repeat ((conv => whnf); refine fgt_id ?_))

theorem all_eq {ds : List PyData} {q : PyData → Bool} : (ds.filter fun d => !q d).isEmpty = ds.all q := by
  rw [Bool.eq_iff_iff, List.isEmpty_iff, List.filter_eq_nil_iff, List.all_eq_true]
  refine forall_congr' fun d => forall_congr' fun _ => ?_
  cases q d <;> simp
theorem ints_all {ds : List PyData} (h : ds.all numB = true) : ds = (ds.map valI).map PyData.int := by
  rw [List.map_map]
  conv => lhs; rw [← List.map_id ds]
  refine List.map_congr_left fun d hd => ?_
  have := List.all_eq_true.mp h d hd
  cases d with
  | int v => rfl
  | _ => cases this
theorem das_int {us : List W} {ns : List Int} (t : Das us (ns.map PyData.int)) : us = ns.map W.int := by
  induction ns generalizing us with
  | nil => cases t; rfl
  | cons n ns ih =>
    cases t with
    | cons a t => cases a; rw [ih t]; rfl
theorem kDue7 : Keeps prom1 glob 3 2 b_law_due pDue7 := by
  rintro ws S Kk Ek ⟨m, w, d, rfl, hd, fd, few, k⟩
  refine ⟨rfl, ?_⟩
  unfold b_law_due
  cases hd with
  | @tup us ds t =>
    have few := few ds rfl
    (conv => whnf); refine step_ ?_
    (conv => whnf); refine comp_dasf t (fun d => !numB d) (by omega) trivial (fun w d hm hw KT KF kt kf => ?_) ?_
    · (conv => whnf); refine ⟨w, d, rfl, hw, ?_⟩
      cases hn : numB d with
      | false => (conv => whnf); exact kt (by rw [hn]; rfl)
      | true => (conv => whnf); exact kf (by rw [hn]; rfl)
    intro ws tw p hp
    (conv => whnf); refine fz_new hp ?_
    (conv => whnf); refine ⟨small rfl, fun p hp => ?_⟩
    (conv => whnf); refine fz_new hp ?_
    (conv => whnf); refine eq_d (.lst tw.den) (.lst .nil) (shaped_filter fd) (by decide) ?_
    rw [eqv_nil, all_eq]
    cases hn : ds.all numB with
    | false =>
      have e : drawB m (.tuple ds) = false := by
        have e0 : ds.all (ballB m) = false := Bool.eq_false_iff.mpr fun z => by
          have : ds.all numB = true := List.all_eq_true.mpr fun d hd => by
            obtain ⟨v, rfl, _⟩ := ballB_int (List.all_eq_true.mp z d hd)
            rfl
          rw [hn] at this; cases this
        show (ds.all (ballB m) && _) = false
        rw [e0]; rfl
      rw [e] at k
      (conv => whnf); refine step_ ?_
      (conv => whnf); exact fgt_id k
    | true =>
      obtain ⟨ns, rfl⟩ : ∃ ns : List Int, ds = ns.map PyData.int := ⟨_, ints_all hn⟩
      obtain rfl := das_int t
      rw [List.length_map] at few
      rw [drawB_ints] at k
      (conv => whnf); refine fgt_id ?_
      (conv => whnf); refine step_ ?_
      (conv => whnf); refine comp_f ns W.int W.int (fun v => decide (v < 0) || decide (v ≥ m)) (by omega) trivial (fun v hv KT KF kt kf => ?_) ?_
      · refine ite_d (p := v < 0) (fun h => ?_) fun h => ?_
        · (conv => whnf); exact kt (by rw [decide_eq_true h]; rfl)
        · refine ite_d (p := v ≥ m) (fun h2 => ?_) fun h2 => ?_
          · (conv => whnf); exact kt (by rw [decide_eq_true h2, Bool.or_true])
          · exact kf (by rw [decide_eq_false h, decide_eq_false h2]; rfl)
      (conv => whnf); intro p hp; (conv => whnf); refine fz_new hp ?_
      (conv => whnf); refine ⟨small rfl, fun p hp => ?_⟩
      (conv => whnf); refine fz_new hp ?_
      (conv => whnf); refine eq_d (.lst (das_ints (ns.filter fun v => decide (v < 0) || decide (v ≥ m))).den) (.lst .nil) (shaped_ints _) (by decide) ?_
      rw [eqv_nil, List.isEmpty_map]
      generalize (ns.filter fun v => decide (v < 0) || decide (v ≥ m)).isEmpty = e at k ⊢
      cases e with
      | false =>
        (conv => whnf); refine step_ ?_
        (conv => whnf); exact fgt_id k
      | true =>
        (conv => whnf); refine fgt_id ?_
        (conv => whnf); refine step_ ?_
        (conv => whnf); refine sset_len (by omega) fun out nd ho => ?_
        (conv => whnf); refine len_tm ?_
        (conv => whnf); refine eq_i ?_
        rw [set_len nd ho]
        exact fgt_id k
  | _ =>
    (conv => whnf); refine step_ ?_
    (conv => whnf); refine step_ ?_
    (conv => whnf); exact fgt_id k
theorem kPlaced : Keeps prom1 glob 7 2 b_law_placed pPlaced := by
  rintro ws S Kk Ek ⟨m, ns, rfl, m0, m16, ln, hx, k⟩
  refine ⟨rfl, ?_⟩
  unfold b_law_placed
  (conv => whnf); refine step_ ?_
  (conv => whnf); refine ⟨_, RgC.neg (by omega) (by omega) (by omega) (by omega), ?_⟩
  rw [rg_map]
  refine for_tE (List.range (m + 2 - -3).toNat) (fun i : Nat => W.int (m + 2 + (i : Int) * -1)) (fun i ρ' S' => ∃ (o2 o3 o4 : Option W), ρ' = [some (.int m), some (.tup (ns.map W.int)), o2, o3, o4, none, none] ∧ S' = S) ⟨_, _, _, rfl, rfl⟩ (fun _ _ _ _ => trivial) ?_ ?_
  · rintro i a ρ' S' E2 ha ⟨o2, o3, o4, rfl, rfl⟩ hnx ec eb er ex
    obtain ⟨b, hb⟩ : ∃ b : Int, b = m + 2 + (a : Int) * -1 := ⟨_, rfl⟩
    rw [← hb]
    (conv => whnf); refine step_ ?_
    (conv => whnf); refine ⟨ns, b, rfl, ?_⟩
    (conv => whnf); refine step_ ?_
    (conv => whnf); rw [enu_map]
    refine comp_f (ns.zipIdx 0) (fun p => W.tup [.int (p.2 : Nat), .int p.1]) (fun p => .int (p.2 : Nat)) (fun p => decide (p.1 = b)) (by rw [List.length_zipIdx]; omega) trivial (fun p hp KT KF kt kf => ?_) ?_
    · (conv => whnf); refine ⟨rfl, ?_⟩
      (conv => whnf); refine eq_i ?_
      (conv => whnf); refine ite_d (fun h => ?_) fun h => ?_
      · (conv => whnf); exact kt (decide_eq_true h)
      · exact kf (decide_eq_false h)
    (conv => whnf); intro p hp; (conv => whnf); refine fz_new hp ?_
    (conv => whnf); refine step_ ?_
    have fp := fd_pos (b := b) ln
    (conv => whnf); refine repr_s (da_pos _) fp ?_
    (conv => whnf); refine ⟨small rfl, fun p hp => ?_⟩
    (conv => whnf); refine fz_new hp ?_
    (conv => whnf); refine ⟨bigE (by rw [List.length_map]; have := List.length_filter_le (fun p : Int × Nat => decide (p.1 = b)) (ns.zipIdx 0); rw [List.length_zipIdx] at this; show _ + 1 ≤ _; omega), fun p hp => ?_⟩
    (conv => whnf); refine fz_new hp ?_
    (conv => whnf); refine ix_v (pos_head b ns) ?_
    (conv => whnf); refine repr_s (da_pos _) fp ?_
    refine eq_ss ?_
    decide_cbv; exact hnx _ _ ⟨_, _, _, rfl, rfl⟩
  rintro ρ' S' ⟨o2, o3, o4, rfl, rfl⟩
  (conv => whnf); refine step_ ?_
  (conv => whnf); refine ⟨⟨by decide, by decide, by decide⟩, ?_⟩
  (conv => whnf); refine ⟨ns, _, rfl, ?_⟩
  rw [posR_none fun hm => by have := hx _ hm; revert this; decide +kernel]
  (conv => whnf); exact fgt_id k
end Dp.K07
namespace Dp.K07
open PySem PySem.Spec L2
open PyProof.Rows hiding St
local macro_rules | `(tactic| deriving_LawfulEq_tactic_step) => `(tactic| first | assumption | exact put_same | (refine put_new (by assumption) ?_; deriving_LawfulEq_tactic_step) | (refine put_o2 (by assumption) ?_; deriving_LawfulEq_tactic_step) | (refine put_o3 (by assumption) ?_; deriving_LawfulEq_tactic_step) | (refine put_o1 (by assumption) ?_ ?_ <;> deriving_LawfulEq_tactic_step) | (refine put_o4 ?_ ?_ (by intro z; cases z) <;> deriving_LawfulEq_tactic_step))
local macro_rules | `(tactic| deriving_ReflEq_tactic) => `(tactic| repeat (first | ((conv => whnf); refine ⟨small rfl, fun p hp => ?_⟩; (conv => whnf); refine fz_new hp ?_) | ((conv => whnf); refine ⟨small rfl, ?_⟩)))
local macro_rules | `(tactic| deriving_LawfulEq_tactic) => `(tactic| repeat (first | exact Da.int _ | exact Da.non | exact Da.bl _ | exact Da.str _ | assumption | apply Da.tup | apply Da.lst | exact Das.nil | apply Das.cons | apply Das.append | apply das_rep))
local macro_rules | `(tactic| bv_omega) => `(tactic| refine fgt_to (le_fin (fun a d na h => by deriving_LawfulEq_tactic_step) (by deriving_LawfulEq_tactic_step) (by omega)) ?_)
local macro_rules | `(tactic| ac_rfl) => `(tactic| repeat ((conv => whnf); first | refine step_ ?_ | (refine fgt_id ?_; (conv => whnf); refine step_ ?_) | refine len_tm ?_ | refine len_vm ?_ | refine len_t ?_ | refine len_v ?_ | refine len_lm (by deriving_LawfulEq_tactic_step) ?_ | refine len_l (by deriving_LawfulEq_tactic_step) ?_ | refine eq_i ?_ | refine ix_t (by rfl) ?_ | refine ix_v (by rfl) ?_ | refine fz_new (by assumption) ?_ | refine ⟨small rfl, ?_⟩))
local macro_rules | `(tactic| symm_saturate) => `(tactic| repeat (first | with_reducible refine E_fz ?_ | with_reducible refine E_lst ?_ | with_reducible refine E_tup ?_ | with_reducible refine Es_cons ?_ | with_reducible refine Es_nil ?_ | with_reducible refine E_cint ?_ | with_reducible refine E_cstr ?_ | with_reducible refine E_cbl ?_ | with_reducible refine E_cnon ?_ | with_reducible refine E_ix ?_ | with_reducible refine E_bin ?_ | with_reducible refine E_blt ?_ | with_reducible refine E_call ?_ | with_reducible refine E_neg ?_ | with_reducible refine E_sl ?_ | with_reducible refine S_ret ?_ | with_reducible refine S_exp ?_ | with_reducible refine S_asg ?_ | with_reducible refine Ss_cons ?_ | with_reducible refine B_sub ?_ | with_reducible refine B_add ?_ | with_reducible refine B_neg ?_ | with_reducible refine B_min2 ?_ | with_reducible refine B_max2 ?_ | with_reducible refine G_nm ?_ | ((with_reducible apply E_var); exact rfl) | (refine ⟨small rfl, fun pz hpz => ?_⟩; with_reducible refine fz_new hpz ?_) | refine ⟨small rfl, ?_⟩))
local macro_rules | `(tactic| suggestions) => `(tactic| repeat ((conv => whnf); first | refine step_ ?_ | refine eq_i ?_ | refine ⟨rfl, _, rfl, ?_⟩ | refine ⟨rfl, ?_⟩ | refine ⟨small rfl, ?_⟩ | refine fgt_id ?_))
local macro_rules | `(tactic| decide_cbv) => `(tactic| repeat ((conv => whnf); refine fgt_id ?_))

abbrev SmT := Nat × List Nat
def numsN (l : List Nat) : List Int := l.map fun (x : Nat) => (x : Int)
theorem ntW_nums (l : List Nat) : l.map ntW = (numsN l).map W.int := by unfold numsN; rw [List.map_map]; rfl
def smW (y : SmT) : W := .tup [.int (y.1 : Nat), .tup (y.2.map ntW)]
def smD (y : SmT) : PyData := .tuple [.int (y.1 : Nat), .tuple ((numsN y.2).map .int)]
structure SmOk (y : SmT) : Prop where
  m1 : 1 ≤ y.1
  m16 : y.1 ≤ 16
  l16 : y.2.length ≤ 16
  lt : ∀ x ∈ y.2, x < y.1
  nd : y.2.Nodup
theorem SmOk.nums {y : SmT} (h : SmOk y) : ∀ x ∈ numsN y.2, 0 ≤ x ∧ x < y.1 := fun x hx => by
  obtain ⟨v, hv, rfl⟩ := List.mem_map.mp hx
  have := h.lt v hv
  omega
theorem SmOk.draw {y : SmT} (h : SmOk y) : drawB (y.1 : Nat) (.tuple ((numsN y.2).map .int)) = true := by
  rw [drawB_ints]
  have e : (numsN y.2).filter (fun v : Int => decide (v < 0) || decide (v ≥ ((y.1 : Nat) : Int))) = [] := List.filter_eq_nil_iff.mpr fun v hv => by
    have := h.nums v hv
    rw [decide_eq_false (by omega), decide_eq_false (by omega)]; decide
  have nd : (numsN y.2).Nodup := List.nodup_iff_pairwise_ne.mpr (List.pairwise_map.mpr ((List.nodup_iff_pairwise_ne.mp h.nd).imp fun {a b} hab e => hab (by omega)))
  rw [e, decide_eq_true nd]; rfl
theorem da_sm (y : SmT) : Da (smW y) (smD y) := by
  unfold smW smD
  rw [ntW_nums]
  exact .tup (.cons (.int _) (.cons (.tup (das_ints _)) .nil))
theorem sm_bd {y : SmT} (h : SmOk y) : Bd 670 6 203 (smD y) := by
  have a : Bd 670 5 10 (.int (y.1 : Nat)) := (Bd.int (b := 10) (k := 5) (i := ((y.1 : Nat) : Int)) (by have := h.m16; omega) (by decide)).mono (by decide) (Nat.le_refl _) (Nat.le_refl _)
  have b : Bd 670 5 190 (.tuple ((numsN y.2).map .int)) := (nums_bd (fun x hx => by have := h.nums x hx; have := h.m16; omega) (by unfold numsN; rw [List.length_map]; have := h.l16; omega)).mono (by decide) (by decide) (Nat.le_refl _)
  exact (BL.cons a (.one b)).tup.mono (Nat.le_refl _) (Nat.le_refl _) (by decide)
theorem sms_bl : ∀ {ys : List SmT}, (∀ y ∈ ys, SmOk y) → BL 670 6 (204 * ys.length) (ys.map smD)
  | [], _ => .nil
  | y :: ys, h => (BL.cons (sm_bd (h y (List.mem_cons_self ..))) (sms_bl fun s hs => h s (List.mem_cons_of_mem _ hs))).mono (Nat.le_refl _) (Nat.le_refl _) (by rw [List.length_cons]; omega)
theorem kLaw7 : Keeps prom8 glob 10 1 b_law pLaw := by
  rintro ws S Kk Ek ⟨z, ns, rfl, hz, hl, post⟩
  refine ⟨rfl, ?_⟩
  unfold b_law
  (conv => whnf); refine step_ ?_
  (conv => whnf); refine ⟨z, ns, rfl, hz, hl, fun f hf => ?_⟩
  (conv => whnf); refine step_ ?_
  (conv => whnf); refine ⟨small rfl, fun p hp => ?_⟩
  have fp : f ≠ p := new_ne hp put_same
  (conv => whnf); refine ⟨rfl, fun us0 ds0 t0 b0 l0 q hq => ?_⟩
  have fq : f ≠ q := new_ne hq (at1 fp)
  have pq : p ≠ q := new_ne hq put_same
  (conv => whnf); refine ⟨rfl, ?_⟩
  (conv => whnf); refine step_ ?_
  (conv => whnf); refine ⟨by decide, ?_⟩
  have low0 : ∀ d ∈ ds0, Bd 670 6 2000 d := fun d hd => ((b0.mem d hd).mono (by decide) (Nat.le_refl _) (Nat.le_refl _))
  refine for_rE (n := 6) (fun i ρ' T => ∃ (k : Nat) (ys : List SmT) (us : List W) (ds : List PyData) (o4 o5 o6 : Option W), ρ' = [some z, some (.ref f), some (.ref p), some (.ref q), o4, o5, o6, none, none, none] ∧ T f = some (.fd .l4 k) ∧ k ≤ 100 * i ∧ T p = some (.lst (ys.map smW)) ∧ T q = some (.lst us) ∧ Das us ds ∧ BL 670 6 (2000 + 4100 * i) ds ∧ (∀ d ∈ ds, Bd 670 6 2000 d) ∧ us.length ≤ 40 + 9 * i ∧ ys.length = i ∧ ∀ y ∈ ys, SmOk y) ⟨0, [], us0, ds0, _, _, _, rfl, at2 fp fq, by omega, (put_ne pq).trans put_same, put_same, t0, b0.mono (by decide) (Nat.le_refl _) (by omega), low0, by omega, rfl, none_in⟩ (fun _ _ _ _ => trivial) ?_ ?_
  · rintro i ρ' T E2 hi ⟨k, ys, us, ds, o4, o5, o6, rfl, hTf, hk, hTp, hTq, t, bA, bE, lu, ly, hy⟩ hnx ec eb er ex
    (conv => whnf); refine step_ ?_
    (conv => whnf); refine ⟨small rfl, ?_⟩
    (conv => whnf); refine ⟨_, _, _, rfl, by decide, by decide, hTf, by omega, fun a a0 a1 => ?_⟩
    have e : ∃ M : Int, atI [W.int 4, W.int 16] a = some (.int M) ∧ 1 ≤ M ∧ M ≤ 16 := by
      rcases (show a = 0 ∨ a = 1 by omega) with rfl | rfl
      · exact ⟨4, rfl, by decide, by decide⟩
      · exact ⟨16, rfl, by decide, by decide⟩
    obtain ⟨M, eM, M1, M16⟩ := e
    (conv => whnf); refine ix_t eM ?_
    (conv => whnf); refine ⟨_, _, _, rfl, by omega, by omega, put_same, by omega, fun b b0 b1 => ?_⟩
    rw [put_put]
    obtain ⟨m, hm⟩ : ∃ m : Nat, (m : Int) = 1 + b := ⟨(1 + b).toNat, by omega⟩
    (conv => whnf); refine step_ ?_
    show dS _ _ _ _ [some z, some (.ref f), some (.ref p), some (.ref q), some (.int (i : Nat)), some (.int (1 + b)), o6, none, none, none] _
    rw [← hm]
    have hTp2 : ∀ c, (T.put f c) p = some (.lst (ys.map smW)) := fun c => (put_ne (Ne.symm fp)).trans hTp
    have hTq2 : ∀ c, (T.put f c) q = some (.lst us) := fun c => (put_ne (Ne.symm fq)).trans hTq
    refine S_asg ?_
    refine E_call ?_
    refine Es_cons ?_
    refine E_var rfl ?_
    refine Es_cons ?_
    refine E_var rfl ?_
    refine Es_cons ?_
    refine ex_join (fun w S' => ∃ c k2 : Nat, c ≤ m ∧ k2 ≤ k + 5 ∧ w = ntW c ∧ S' = T.put f (.fd .l4 k2)) (fun K' hK => ?_) ?_
    · (conv => whnf); refine ⟨_, _, _, rfl, by decide, by decide, put_same, by omega, fun c c0 c1 => ?_⟩
      rw [put_put]
      (conv => whnf); refine eq_i ?_
      (conv => whnf); refine ite_d (fun h => ?_) fun h => ?_
      · (conv => whnf); exact hK _ _ ⟨m, _, Nat.le_refl _, by omega, rfl, rfl⟩
      · (conv => whnf); refine ⟨_, _, _, rfl, by omega, by omega, put_same, by omega, fun d d0 d1 => ?_⟩
        rw [put_put]
        exact hK _ _ ⟨d.toNat, _, by omega, by omega, by show W.int d = .int (d.toNat : Int); rw [show ((d.toNat : Nat) : Int) = d by omega], rfl⟩
    rintro w S' ⟨c, k2, cm, hk2, rfl, rfl⟩
    refine Es_nil ?_
    refine ⟨f, k2, m, c, rfl, put_same, by omega, by omega, by omega, cm, fun dr ld nd lt => ?_⟩
    rw [put_put]
    have hTf3 : (T.put f (.fd .l4 (k2 + c))) f = some (.fd .l4 (k2 + c)) := put_same
    have hTp3 := hTp2 (.fd .l4 (k2 + c))
    have hTq3 := hTq2 (.fd .l4 (k2 + c))
    generalize T.put f (.fd .l4 (k2 + c)) = T3 at hTf3 hTp3 hTq3
    (conv => whnf); refine step_ ?_
    (conv => whnf); refine ⟨_, List.mem_cons_self .., .inl ⟨rfl, _, hTp3⟩, ?_⟩
    (conv => whnf); refine ⟨small rfl, ?_⟩
    (conv => whnf); refine ⟨_, hTp3, big (by rw [List.length_map]; omega), ?_⟩
    have ok : SmOk (m, dr) := ⟨by show 1 ≤ m; omega, by show m ≤ 16; omega, by show dr.length ≤ 16; omega, lt, nd⟩
    have eS : ys.map smW ++ [W.tup [.int (m : Nat), .tup (dr.map ntW)]] = (ys ++ [(m, dr)]).map smW := by rw [List.map_append]; rfl
    (conv => whnf); refine step_ ?_
    rw [eS]
    have hTf4 : (T3.put p (.lst ((ys ++ [(m, dr)]).map smW))) f = some (.fd .l4 (k2 + c)) := (put_ne fp).trans hTf3
    have hTq4 : (T3.put p (.lst ((ys ++ [(m, dr)]).map smW))) q = some (.lst us) := (put_ne (Ne.symm pq)).trans hTq3
    have hTp4 : (T3.put p (.lst ((ys ++ [(m, dr)]).map smW))) p = some (.lst ((ys ++ [(m, dr)]).map smW)) := put_same
    generalize T3.put p (.lst ((ys ++ [(m, dr)]).map smW)) = T4 at hTf4 hTp4 hTq4
    (conv => whnf); refine ⟨_, List.mem_cons_self .., .inl ⟨rfl, _, hTq4⟩, ?_⟩
    (conv => whnf); refine ⟨f, _, m, dr, rfl, hTf4, by omega, by omega, by omega, by omega, lt, fun us2 ds2 t2 b2 e2 l2 => ?_⟩
    (conv => whnf); refine ⟨_, (put_ne (Ne.symm fq)).trans hTq4, bigE (by omega), ?_⟩
    decide_cbv; refine hnx _ _ ⟨k2 + c + 60, ys ++ [(m, dr)], us ++ us2, ds ++ ds2, _, _, _, rfl, (put_ne fq).trans put_same, by omega, (put_ne pq).trans ((put_ne (Ne.symm fp)).trans hTp4), put_same, t.append t2, (bA.append b2).mono (Nat.le_refl _) (Nat.le_refl _) (by omega), fun d hd => ?_, by rw [List.length_append]; omega, by rw [List.length_append, ly]; rfl, fun y hy' => ?_⟩
    · rcases List.mem_append.mp hd with h | h
      · exact bE d h
      · exact e2 d h
    · rcases List.mem_append.mp hy' with h | h
      · exact hy y h
      · rw [List.mem_singleton.mp h]; exact ok
  rintro ρ' T ⟨k, ys, us, ds, o4, o5, o6, rfl, hTf, hk, hTp, hTq, t, bA, bE, lu, ly, hy⟩
  have lus := t.length
  have fine : ∀ d ∈ ds, Fine d := fun d hd => ((bE d hd).fin (by decide) (by decide) (by decide)).fine
  have few : ∀ d ∈ ds, ∀ es, d = .tuple es → es.length ≤ 3000 := fun d hd es e => by
    subst e
    exact Nat.le_trans (len_w (bE _ hd).light) (by decide)
  have bT : Bd 670 8 36000 (.tuple [.list (ys.map smD), .list ds]) := (BL.cons (sms_bl hy).lst (.one bA.lst)).tup.mono (Nat.le_refl _) (Nat.le_refl _) (by rw [ly]; decide)
  have fT := (bT.fin (by decide) (by decide) (by decide)).show_
  have dT : ∀ S : Sto, S p = some (.lst (ys.map smW)) → S q = some (.lst us) → Den S (.tup [.ref p, .ref q]) (.tuple [.list (ys.map smD), .list ds]) := fun S h h' => .tup (.cons (.cel h (das_map ys fun y _ => da_sm y).den) (.cons (.cel h' t.den) .nil))
  (conv => whnf); refine step_ ?_
  (conv => whnf); refine ⟨small rfl, ?_⟩
  (conv => whnf); refine repr_a (dT _ hTp hTq) fT.1 fT.2.1 fT.2.2 ?_
  generalize hsh : (PyData.tuple [.list (ys.map smD), .list ds]).shown = sh
  (conv => whnf); refine step_ ?_
  (conv => whnf); refine sl_l hTp fun r hr => ?_
  (conv => whnf); refine fz_new hr ?_
  rw [cut_map]
  (conv => whnf); refine ⟨_, hTp, bigE (by rw [List.length_map, List.length_map]; have := cut_len ys none (some 1); omega), fun r hr => ?_⟩
  (conv => whnf); refine fz_new hr ?_
  rw [← List.map_append]
  have hzs : ∀ y ∈ ys ++ cutW ys none (some 1), SmOk y := fun y h => by
    rcases List.mem_append.mp h with h | h
    · exact hy y h
    · exact hy y (cut_mem h)
  have lzs : (ys ++ cutW ys none (some 1)).length ≤ 12 := by rw [List.length_append]; have := cut_len ys none (some 1); omega
  generalize ys ++ cutW ys none (some 1) = zs at hzs lzs
  refine for_tE zs smW (fun i ρ' S' => ∃ (k : Nat) (o5 o6 o8 o9 : Option W), ρ' = [some z, some (.ref f), some (.ref p), some (.ref q), o4, o5, o6, some (.str sh), o8, o9] ∧ S' f = some (.fd .l4 k) ∧ k ≤ 600 + i ∧ S' p = some (.lst (ys.map smW)) ∧ S' q = some (.lst us)) ⟨k, _, _, _, _, rfl, hTf, by omega, hTp, hTq⟩ (fun _ _ _ _ => trivial) ?_ ?_
  · rintro i y ρ' T1 E2 hyi ⟨k, o5, o6, o8, o9, rfl, hTf, hk, hTp, hTq⟩ hnx ec eb er ex
    have hi := (List.getElem?_eq_some_iff.mp hyi).1
    have oy := hzs y (List.mem_of_getElem? hyi)
    have y1 := oy.m1
    have y16 := oy.m16
    have yl := oy.l16
    (conv => whnf); refine ⟨rfl, ?_⟩
    (conv => whnf); refine step_ ?_
    (conv => whnf); refine ⟨_, _, _, rfl, by decide, by decide, hTf, by omega, fun c c0 c1 => ?_⟩
    (conv => whnf); refine ⟨small rfl, ?_⟩
    have hTf2 : (T1.put f (.fd .l4 (k + 1))) f = some (.fd .l4 (k + 1)) := put_same
    have hTp2 : (T1.put f (.fd .l4 (k + 1))) p = some (.lst (ys.map smW)) := (put_ne (Ne.symm fp)).trans hTp
    have hTq2 : (T1.put f (.fd .l4 (k + 1))) q = some (.lst us) := (put_ne (Ne.symm fq)).trans hTq
    generalize T1.put f (.fd .l4 (k + 1)) = T2 at hTf2 hTp2 hTq2
    refine for_tE [((y.1 : Nat) : Int), 1 + c, 1] W.int (fun j ρ' S' => ∃ (o8 o9 : Option W), ρ' = [some z, some (.ref f), some (.ref p), some (.ref q), o4, some (.int (y.1 : Nat)), some (.tup (y.2.map ntW)), some (.str sh), o8, o9] ∧ S' = T2) ⟨_, _, rfl, rfl⟩ (fun _ _ _ _ => trivial) ?_ ?_
    · rintro j v ρ' S' E3 hv ⟨o8, o9, rfl, rfl⟩ hnx3 ec3 eb3 er3 ex3
      (conv => whnf); refine step_ ?_
      (conv => whnf); refine ⟨_, hTq2, ?_⟩
      refine for_dE t (fun l ρ' S2 => ∃ (o9 : Option W), ρ' = [some z, some (.ref f), some (.ref p), some (.ref q), o4, some (.int (y.1 : Nat)), some (.tup (y.2.map ntW)), some (.str sh), some (.int v), o9] ∧ S2 = S') ⟨_, rfl, rfl⟩ (fun l ρ' S2 h => by obtain ⟨_, _, rfl⟩ := h; exact hTq2) ?_ ?_
      · rintro l w d ρ' S2 E4 hl hg hm hw ⟨o9, rfl, rfl⟩ hnx4 ec4 eb4 er4 ex4
        (conv => whnf); refine step_ ?_
        (conv => whnf); refine ⟨v, w, d, rfl, hw, few d hm, ?_⟩
        (conv => whnf); refine ⟨v, w, d, rfl, hw, fine d hm, few d hm, ?_⟩
        (conv => whnf); refine ⟨_, _, rfl, ?_⟩
        cases drawB v d with
        | true => decide_cbv; exact hnx4 _ _ ⟨_, rfl, rfl⟩
        | false => decide_cbv; exact hnx4 _ _ ⟨_, rfl, rfl⟩
      rintro ρ' S2 ⟨o9, rfl, rfl⟩
      decide_cbv; exact hnx3 _ _ ⟨_, _, rfl, rfl⟩
    rintro ρ' S' ⟨o8, o9, rfl, rfl⟩
    (conv => whnf); refine step_ ?_
    have ln : (numsN y.2).length ≤ 16 := by unfold numsN; rw [List.length_map]; exact yl
    (conv => whnf); rw [ntW_nums]
    refine ⟨((y.1 : Nat) : Int), .tup ((numsN y.2).map W.int), .tuple ((numsN y.2).map .int), rfl, .tup (das_ints _), fun es e => by cases e; rw [List.length_map]; omega, ?_⟩
    rw [oy.draw]
    (conv => whnf); refine fgt_id ?_
    (conv => whnf); refine step_ ?_
    have hx1 : ∀ x ∈ numsN y.2, x < 1000 := fun x hx => by have := oy.nums x hx; omega
    (conv => whnf); refine ⟨((y.1 : Nat) : Int), numsN y.2, rfl, by omega, by omega, ln, hx1, ?_⟩
    (conv => whnf); rw [← List.map_reverse]
    refine ⟨((y.1 : Nat) : Int), (numsN y.2).reverse, rfl, by omega, by omega, by rw [List.length_reverse]; exact ln, fun x hx => hx1 x (List.mem_reverse.mp hx), ?_⟩
    (conv => whnf); refine fgt_id ?_
    decide_cbv; exact hnx _ _ ⟨k + 1, _, _, _, _, rfl, hTf2, by omega, hTp2, hTq2⟩
  rintro ρ' T1 ⟨k, o5, o6, o8, o9, rfl, hTf, hk, hTp, hTq⟩
  (conv => whnf); refine step_ ?_
  (conv => whnf); refine ⟨_, hTq, ?_⟩
  refine for_dE t (fun l ρ' S2 => ∃ (o9 : Option W), ρ' = [some z, some (.ref f), some (.ref p), some (.ref q), o4, o5, o6, some (.str sh), o8, o9] ∧ S2 = T1) ⟨_, rfl, rfl⟩ (fun l ρ' S2 h => by obtain ⟨_, _, rfl⟩ := h; exact hTq) ?_ ?_
  · rintro l w d ρ' S2 E4 hl hg hm hw ⟨o9, rfl, rfl⟩ hnx4 ec4 eb4 er4 ex4
    (conv => whnf); refine step_ ?_
    (conv => whnf); refine ⟨16, w, d, rfl, hw, few d hm, ?_⟩
    (conv => whnf); refine ⟨16, w, d, rfl, hw, fine d hm, few d hm, ?_⟩
    (conv => whnf); refine ⟨_, _, rfl, ?_⟩
    cases drawB 16 d with
    | true => decide_cbv; exact hnx4 _ _ ⟨_, rfl, rfl⟩
    | false => decide_cbv; exact hnx4 _ _ ⟨_, rfl, rfl⟩
  rintro ρ' S2 ⟨o9, rfl, rfl⟩
  (conv => whnf); refine step_ ?_
  (conv => whnf); refine ⟨small rfl, ?_⟩
  (conv => whnf); refine repr_a (dT _ hTp hTq) fT.1 fT.2.1 fT.2.2 ?_
  rw [hsh]
  (conv => whnf); refine eq_ss ?_
  (conv => whnf); exact ⟨rfl, fgt_id (post _)⟩
end Dp.K07
namespace Dp.K07
open PySem PySem.Spec L2
open PyProof.Rows hiding St
/-! ### the head -/
def dd (i : Nat) (x : Str) : He.DefD := ⟨(x, none), x, x, defArgs (top i), defBody (top i), defScope (top i), [], []⟩
def di (i n : Nat) (q : Str) : He.DefD := ⟨(clsN n, some "__init__"), "__init__", q, defArgs (initS (top i)), defBody (initS (top i)), defScope (initS (top i)), [], []⟩
def fnL : List He.DefD := [dd 1 "is_number", dd 3 "is_draw", dd 4 "strip_of", dd 6 "_law_feed", dd 7 "_law_draw", dd 8 "_law_pulled", dd 9 "_law_bend", dd 10 "_law_odd", dd 11 "_law_same", dd 12 "_law_number", dd 13 "_law_due", dd 14 "_law_fixed", dd 15 "_law_wide", dd 16 "_law_near", dd 17 "_law_placed", dd 18 "law"]
def cfL : List He.Fa := []
def faL : List He.Fa := fns.map He.Fa.glo ++ (cls.map (fun n => He.Fa.glo (clsN n)) ++ (bnames.map He.Fa.free ++ cfL))
def exL : PySem.W.Frag → Bool := fun _ => true
abbrev hk : PySem.W.Hook := hookC 6 faL fnL exL
def ob (s : PySem.W.SharedT) : He.AlD × Bool := obsC 6 faL fnL exL (HandSHeadRun.getT s)
theorem ob_eq (s : PySem.W.SharedT) : ob s = hk.obs s.abs := obsC_eq (HandSHeadRun.getT_eq s)
abbrev looseL : List Str := (["is_number", "is_draw", "strip_of", "_law_feed", "_law_draw", "_law_pulled", "_law_bend", "_law_odd", "_law_same", "_law_number", "_law_due", "_law_fixed", "_law_wide", "_law_near", "_law_placed"] : List Str)
abbrev R : PySem.W.OpenRow := PySem.W.OpenLaw.row PySem.Challenge.rw_meadowballs_k07_draws_by_kind
theorem run (w : World) : HandSHeadRun.RunEq R (PySem.W.view R.prog [18]) hk ob 4000 looseL w := by
  intro os
  kernel_rfl
section
variable {P : Program} {w : World} {K : PySem.W.Frag} {h base : Heap} {mg : Str → Option Value}
abbrev cc (K : PySem.W.Frag) : Cst := ⟨K, clA K, cls⟩
structure Sy (K : PySem.W.Frag) : Prop where
  d : He.SaysD faL fnL K
  m : exL K = true
theorem glo_of (X : K.In h) (G : h.Ns mainGlobals mg) (c : Sy K) {x : Str} (hx : x ∈ fns) : mg x = some (.ref (He.ga K x)) := He.glo_ok X G (He.SaysD.facts c.d (List.mem_append_left _ (List.mem_map_of_mem hx)))
theorem cls_of (X : K.In h) (G : h.Ns mainGlobals mg) (c : Sy K) : ∀ n ∈ cls, mg (clsN n) = some (.ref (clA K n)) := fun n hn => He.glo_ok X G (He.SaysD.facts c.d (List.mem_append_right _ (List.mem_append_left _ (List.mem_map_of_mem (f := fun n => He.Fa.glo (clsN n)) hn))))
theorem bl_of (X : K.In h) (G : h.Ns mainGlobals mg) (c : Sy K) : ∀ x ∈ bnames, mg x = none := fun x hx => He.free_ok X G (He.SaysD.facts c.d (List.mem_append_right _ (List.mem_append_right _ (List.mem_append_left _ (List.mem_map_of_mem hx)))))
theorem fd_is_number (c : Sy K) : ∃ fd, FunD K "is_number" "is_number" (defArgs (top 1)) (defBody (top 1)) (defScope (top 1)) [] [] (He.ga K "is_number") fd := He.SaysD.def_ c.d 0 (d := dd 1 "is_number") rfl
theorem bn_is_number {f : Addr} {fd : FuncData} (F : FunD K "is_number" "is_number" (defArgs (top 1)) (defBody (top 1)) (defScope (top 1)) [] [] f fd) : Binds K fd A_is_number [] := F.bindsN fun _ _ _ _ _ _ us hl => match us, hl with | [_], _ => rfl
theorem fd_is_draw (c : Sy K) : ∃ fd, FunD K "is_draw" "is_draw" (defArgs (top 3)) (defBody (top 3)) (defScope (top 3)) [] [] (He.ga K "is_draw") fd := He.SaysD.def_ c.d 1 (d := dd 3 "is_draw") rfl
theorem bn_is_draw {f : Addr} {fd : FuncData} (F : FunD K "is_draw" "is_draw" (defArgs (top 3)) (defBody (top 3)) (defScope (top 3)) [] [] f fd) : Binds K fd A_is_draw [] := F.bindsN fun _ _ _ _ _ _ us hl => match us, hl with | [_, _], _ => rfl
theorem fd_strip_of (c : Sy K) : ∃ fd, FunD K "strip_of" "strip_of" (defArgs (top 4)) (defBody (top 4)) (defScope (top 4)) [] [] (He.ga K "strip_of") fd := He.SaysD.def_ c.d 2 (d := dd 4 "strip_of") rfl
theorem bn_strip_of {f : Addr} {fd : FuncData} (F : FunD K "strip_of" "strip_of" (defArgs (top 4)) (defBody (top 4)) (defScope (top 4)) [] [] f fd) : Binds K fd A_strip_of [] := F.bindsN fun _ _ _ _ _ _ us hl => match us, hl with | [_, _], _ => rfl
theorem fd_law_feed (c : Sy K) : ∃ fd, FunD K "_law_feed" "_law_feed" (defArgs (top 6)) (defBody (top 6)) (defScope (top 6)) [] [] (He.ga K "_law_feed") fd := He.SaysD.def_ c.d 3 (d := dd 6 "_law_feed") rfl
theorem bn_law_feed {f : Addr} {fd : FuncData} (F : FunD K "_law_feed" "_law_feed" (defArgs (top 6)) (defBody (top 6)) (defScope (top 6)) [] [] f fd) : Binds K fd A_law_feed [] := F.bindsN fun _ _ _ _ _ _ us hl => match us, hl with | [_], _ => rfl
theorem fd_law_draw (c : Sy K) : ∃ fd, FunD K "_law_draw" "_law_draw" (defArgs (top 7)) (defBody (top 7)) (defScope (top 7)) [] [] (He.ga K "_law_draw") fd := He.SaysD.def_ c.d 4 (d := dd 7 "_law_draw") rfl
theorem bn_law_draw {f : Addr} {fd : FuncData} (F : FunD K "_law_draw" "_law_draw" (defArgs (top 7)) (defBody (top 7)) (defScope (top 7)) [] [] f fd) : Binds K fd A_law_draw [] := F.bindsN fun _ _ _ _ _ _ us hl => match us, hl with | [_, _], _ => rfl
theorem fd_law_pulled (c : Sy K) : ∃ fd, FunD K "_law_pulled" "_law_pulled" (defArgs (top 8)) (defBody (top 8)) (defScope (top 8)) [] [] (He.ga K "_law_pulled") fd := He.SaysD.def_ c.d 5 (d := dd 8 "_law_pulled") rfl
theorem bn_law_pulled {f : Addr} {fd : FuncData} (F : FunD K "_law_pulled" "_law_pulled" (defArgs (top 8)) (defBody (top 8)) (defScope (top 8)) [] [] f fd) : Binds K fd A_law_pulled [] := F.bindsN fun _ _ _ _ _ _ us hl => match us, hl with | [_, _, _], _ => rfl
theorem fd_law_bend (c : Sy K) : ∃ fd, FunD K "_law_bend" "_law_bend" (defArgs (top 9)) (defBody (top 9)) (defScope (top 9)) [] [] (He.ga K "_law_bend") fd := He.SaysD.def_ c.d 6 (d := dd 9 "_law_bend") rfl
theorem bn_law_bend {f : Addr} {fd : FuncData} (F : FunD K "_law_bend" "_law_bend" (defArgs (top 9)) (defBody (top 9)) (defScope (top 9)) [] [] f fd) : Binds K fd A_law_bend [] := F.bindsN fun _ _ _ _ _ _ us hl => match us, hl with | [_, _, _], _ => rfl
theorem fd_law_odd (c : Sy K) : ∃ fd, FunD K "_law_odd" "_law_odd" (defArgs (top 10)) (defBody (top 10)) (defScope (top 10)) [] [] (He.ga K "_law_odd") fd := He.SaysD.def_ c.d 7 (d := dd 10 "_law_odd") rfl
theorem bn_law_odd {f : Addr} {fd : FuncData} (F : FunD K "_law_odd" "_law_odd" (defArgs (top 10)) (defBody (top 10)) (defScope (top 10)) [] [] f fd) : Binds K fd A_law_odd [] := F.bindsN fun _ _ _ _ _ _ us hl => match us, hl with | [], _ => rfl
theorem fd_law_same (c : Sy K) : ∃ fd, FunD K "_law_same" "_law_same" (defArgs (top 11)) (defBody (top 11)) (defScope (top 11)) [] [] (He.ga K "_law_same") fd := He.SaysD.def_ c.d 8 (d := dd 11 "_law_same") rfl
theorem bn_law_same {f : Addr} {fd : FuncData} (F : FunD K "_law_same" "_law_same" (defArgs (top 11)) (defBody (top 11)) (defScope (top 11)) [] [] f fd) : Binds K fd A_law_same [] := F.bindsN fun _ _ _ _ _ _ us hl => match us, hl with | [_, _], _ => rfl
theorem fd_law_number (c : Sy K) : ∃ fd, FunD K "_law_number" "_law_number" (defArgs (top 12)) (defBody (top 12)) (defScope (top 12)) [] [] (He.ga K "_law_number") fd := He.SaysD.def_ c.d 9 (d := dd 12 "_law_number") rfl
theorem bn_law_number {f : Addr} {fd : FuncData} (F : FunD K "_law_number" "_law_number" (defArgs (top 12)) (defBody (top 12)) (defScope (top 12)) [] [] f fd) : Binds K fd A_law_number [] := F.bindsN fun _ _ _ _ _ _ us hl => match us, hl with | [_], _ => rfl
theorem fd_law_due (c : Sy K) : ∃ fd, FunD K "_law_due" "_law_due" (defArgs (top 13)) (defBody (top 13)) (defScope (top 13)) [] [] (He.ga K "_law_due") fd := He.SaysD.def_ c.d 10 (d := dd 13 "_law_due") rfl
theorem bn_law_due {f : Addr} {fd : FuncData} (F : FunD K "_law_due" "_law_due" (defArgs (top 13)) (defBody (top 13)) (defScope (top 13)) [] [] f fd) : Binds K fd A_law_due [] := F.bindsN fun _ _ _ _ _ _ us hl => match us, hl with | [_, _], _ => rfl
theorem fd_law_fixed (c : Sy K) : ∃ fd, FunD K "_law_fixed" "_law_fixed" (defArgs (top 14)) (defBody (top 14)) (defScope (top 14)) [] [] (He.ga K "_law_fixed") fd := He.SaysD.def_ c.d 11 (d := dd 14 "_law_fixed") rfl
theorem bn_law_fixed {f : Addr} {fd : FuncData} (F : FunD K "_law_fixed" "_law_fixed" (defArgs (top 14)) (defBody (top 14)) (defScope (top 14)) [] [] f fd) : Binds K fd A_law_fixed [] := F.bindsN fun _ _ _ _ _ _ us hl => match us, hl with | [], _ => rfl
theorem fd_law_wide (c : Sy K) : ∃ fd, FunD K "_law_wide" "_law_wide" (defArgs (top 15)) (defBody (top 15)) (defScope (top 15)) [] [] (He.ga K "_law_wide") fd := He.SaysD.def_ c.d 12 (d := dd 15 "_law_wide") rfl
theorem bn_law_wide {f : Addr} {fd : FuncData} (F : FunD K "_law_wide" "_law_wide" (defArgs (top 15)) (defBody (top 15)) (defScope (top 15)) [] [] f fd) : Binds K fd A_law_wide [] := F.bindsN fun _ _ _ _ _ _ us hl => match us, hl with | [], _ => rfl
theorem fd_law_near (c : Sy K) : ∃ fd, FunD K "_law_near" "_law_near" (defArgs (top 16)) (defBody (top 16)) (defScope (top 16)) [] [] (He.ga K "_law_near") fd := He.SaysD.def_ c.d 13 (d := dd 16 "_law_near") rfl
theorem bn_law_near {f : Addr} {fd : FuncData} (F : FunD K "_law_near" "_law_near" (defArgs (top 16)) (defBody (top 16)) (defScope (top 16)) [] [] f fd) : Binds K fd A_law_near [] := F.bindsN fun _ _ _ _ _ _ us hl => match us, hl with | [_, _, _], _ => rfl
theorem fd_law_placed (c : Sy K) : ∃ fd, FunD K "_law_placed" "_law_placed" (defArgs (top 17)) (defBody (top 17)) (defScope (top 17)) [] [] (He.ga K "_law_placed") fd := He.SaysD.def_ c.d 14 (d := dd 17 "_law_placed") rfl
theorem bn_law_placed {f : Addr} {fd : FuncData} (F : FunD K "_law_placed" "_law_placed" (defArgs (top 17)) (defBody (top 17)) (defScope (top 17)) [] [] f fd) : Binds K fd A_law_placed [] := F.bindsN fun _ _ _ _ _ _ us hl => match us, hl with | [_, _], _ => rfl
theorem fd_law (c : Sy K) : ∃ fd, FunD K "law" "law" (defArgs (top 18)) (defBody (top 18)) (defScope (top 18)) [] [] (He.ga K "law") fd := He.SaysD.def_ c.d 15 (d := dd 18 "law") rfl
theorem bn_law {f : Addr} {fd : FuncData} (F : FunD K "law" "law" (defArgs (top 18)) (defBody (top 18)) (defScope (top 18)) [] [] f fd) : Binds K fd A_law [] := F.bindsN fun _ _ _ _ _ _ us hl => match us, hl with | [_], _ => rfl
theorem clsAll (X : K.In h) (G : h.Ns mainGlobals mg) (c : Sy K) : ∀ n ∈ cls, ClOk P w K mg base (clA K) n := fun n hn => absurd hn List.not_mem_nil
theorem betA (c : Sy K) : BetOk K (clA K) cls := ⟨fun i hi => absurd hi List.not_mem_nil, fun i hi => absurd hi List.not_mem_nil, fun i hi => absurd hi List.not_mem_nil, fun i hi => absurd hi List.not_mem_nil⟩
abbrev Wh (P : Program) (w : World) (K : PySem.W.Frag) (mg : Str → Option Value) (base : Heap) (k : Nat) (p : Nat → Pm) : Prop := Dp.Whole (cc K) P w mg base k p glob fns gls
abbrev Fn (P : Program) (w : World) (K : PySem.W.Frag) (mg : Str → Option Value) (base : Heap) (k : Nat) (x : Str) (ps : List Str) (p : Pm) : Prop := ∃ fd, PySem.W.keepIn K (.ref (He.ga K x)) = true ∧ Binds K fd ps [] ∧ GOk P w K mg base k (He.ga K x) fd ps (spOf (cc K) p)
theorem gls_of (X : K.In h) (G : h.Ns mainGlobals mg) (c : Sy K) : ∀ (j : Nat) (x : Str), gls[j]? = some x → ∃ u v, mg x = some u ∧ RelV v u ∧ ∀ H, RV K H (glob j) v := by
  intro j x hx
  exact absurd hx (by simp [gls])
theorem wh_of {k : Nat} {p : Nat → Pm} (hk : cls ≠ [] → 2 ≤ k) (X : K.In h) (G : h.Ns mainGlobals mg) (c : Sy K) (f0 : Fn P w K mg base k "is_number" A_is_number (p 0)) (f1 : Fn P w K mg base k "is_draw" A_is_draw (p 1)) (f2 : Fn P w K mg base k "strip_of" A_strip_of (p 2)) (f3 : Fn P w K mg base k "_law_feed" A_law_feed (p 3)) (f4 : Fn P w K mg base k "_law_draw" A_law_draw (p 4)) (f5 : Fn P w K mg base k "_law_pulled" A_law_pulled (p 5)) (f6 : Fn P w K mg base k "_law_bend" A_law_bend (p 6)) (f7 : Fn P w K mg base k "_law_odd" A_law_odd (p 7)) (f8 : Fn P w K mg base k "_law_same" A_law_same (p 8)) (f9 : Fn P w K mg base k "_law_number" A_law_number (p 9)) (f10 : Fn P w K mg base k "_law_due" A_law_due (p 10)) (f11 : Fn P w K mg base k "_law_fixed" A_law_fixed (p 11)) (f12 : Fn P w K mg base k "_law_wide" A_law_wide (p 12)) (f13 : Fn P w K mg base k "_law_near" A_law_near (p 13)) (f14 : Fn P w K mg base k "_law_placed" A_law_placed (p 14)) (f15 : Fn P w K mg base k "law" A_law (p 15)) : Wh P w K mg base k p := by
  refine ⟨bl_of X G c, fun j x hx => ?_, gls_of X G c, clsAll X G c, betA c, hk⟩
  have hm := glo_of X G c (List.mem_of_getElem? hx)
  match j, hx with
  | 0, hx => cases hx; obtain ⟨fd, a, b, g⟩ := f0; exact ⟨_, fd, _, hm, a, b, g⟩
  | 1, hx => cases hx; obtain ⟨fd, a, b, g⟩ := f1; exact ⟨_, fd, _, hm, a, b, g⟩
  | 2, hx => cases hx; obtain ⟨fd, a, b, g⟩ := f2; exact ⟨_, fd, _, hm, a, b, g⟩
  | 3, hx => cases hx; obtain ⟨fd, a, b, g⟩ := f3; exact ⟨_, fd, _, hm, a, b, g⟩
  | 4, hx => cases hx; obtain ⟨fd, a, b, g⟩ := f4; exact ⟨_, fd, _, hm, a, b, g⟩
  | 5, hx => cases hx; obtain ⟨fd, a, b, g⟩ := f5; exact ⟨_, fd, _, hm, a, b, g⟩
  | 6, hx => cases hx; obtain ⟨fd, a, b, g⟩ := f6; exact ⟨_, fd, _, hm, a, b, g⟩
  | 7, hx => cases hx; obtain ⟨fd, a, b, g⟩ := f7; exact ⟨_, fd, _, hm, a, b, g⟩
  | 8, hx => cases hx; obtain ⟨fd, a, b, g⟩ := f8; exact ⟨_, fd, _, hm, a, b, g⟩
  | 9, hx => cases hx; obtain ⟨fd, a, b, g⟩ := f9; exact ⟨_, fd, _, hm, a, b, g⟩
  | 10, hx => cases hx; obtain ⟨fd, a, b, g⟩ := f10; exact ⟨_, fd, _, hm, a, b, g⟩
  | 11, hx => cases hx; obtain ⟨fd, a, b, g⟩ := f11; exact ⟨_, fd, _, hm, a, b, g⟩
  | 12, hx => cases hx; obtain ⟨fd, a, b, g⟩ := f12; exact ⟨_, fd, _, hm, a, b, g⟩
  | 13, hx => cases hx; obtain ⟨fd, a, b, g⟩ := f13; exact ⟨_, fd, _, hm, a, b, g⟩
  | 14, hx => cases hx; obtain ⟨fd, a, b, g⟩ := f14; exact ⟨_, fd, _, hm, a, b, g⟩
  | 15, hx => cases hx; obtain ⟨fd, a, b, g⟩ := f15; exact ⟨_, fd, _, hm, a, b, g⟩
theorem no_is_number (c : Sy K) (k : Nat) : Fn P w K mg base k "is_number" A_is_number (fun _ _ _ _ => False) := by
  obtain ⟨fd, F⟩ := fd_is_number c
  exact ⟨fd, F.kp, bn_is_number F, def_no (c := cc K)⟩
theorem no_is_draw (c : Sy K) (k : Nat) : Fn P w K mg base k "is_draw" A_is_draw (fun _ _ _ _ => False) := by
  obtain ⟨fd, F⟩ := fd_is_draw c
  exact ⟨fd, F.kp, bn_is_draw F, def_no (c := cc K)⟩
theorem no_strip_of (c : Sy K) (k : Nat) : Fn P w K mg base k "strip_of" A_strip_of (fun _ _ _ _ => False) := by
  obtain ⟨fd, F⟩ := fd_strip_of c
  exact ⟨fd, F.kp, bn_strip_of F, def_no (c := cc K)⟩
theorem no_law_feed (c : Sy K) (k : Nat) : Fn P w K mg base k "_law_feed" A_law_feed (fun _ _ _ _ => False) := by
  obtain ⟨fd, F⟩ := fd_law_feed c
  exact ⟨fd, F.kp, bn_law_feed F, def_no (c := cc K)⟩
theorem no_law_draw (c : Sy K) (k : Nat) : Fn P w K mg base k "_law_draw" A_law_draw (fun _ _ _ _ => False) := by
  obtain ⟨fd, F⟩ := fd_law_draw c
  exact ⟨fd, F.kp, bn_law_draw F, def_no (c := cc K)⟩
theorem no_law_pulled (c : Sy K) (k : Nat) : Fn P w K mg base k "_law_pulled" A_law_pulled (fun _ _ _ _ => False) := by
  obtain ⟨fd, F⟩ := fd_law_pulled c
  exact ⟨fd, F.kp, bn_law_pulled F, def_no (c := cc K)⟩
theorem no_law_bend (c : Sy K) (k : Nat) : Fn P w K mg base k "_law_bend" A_law_bend (fun _ _ _ _ => False) := by
  obtain ⟨fd, F⟩ := fd_law_bend c
  exact ⟨fd, F.kp, bn_law_bend F, def_no (c := cc K)⟩
theorem no_law_odd (c : Sy K) (k : Nat) : Fn P w K mg base k "_law_odd" A_law_odd (fun _ _ _ _ => False) := by
  obtain ⟨fd, F⟩ := fd_law_odd c
  exact ⟨fd, F.kp, bn_law_odd F, def_no (c := cc K)⟩
theorem no_law_same (c : Sy K) (k : Nat) : Fn P w K mg base k "_law_same" A_law_same (fun _ _ _ _ => False) := by
  obtain ⟨fd, F⟩ := fd_law_same c
  exact ⟨fd, F.kp, bn_law_same F, def_no (c := cc K)⟩
theorem no_law_number (c : Sy K) (k : Nat) : Fn P w K mg base k "_law_number" A_law_number (fun _ _ _ _ => False) := by
  obtain ⟨fd, F⟩ := fd_law_number c
  exact ⟨fd, F.kp, bn_law_number F, def_no (c := cc K)⟩
theorem no_law_due (c : Sy K) (k : Nat) : Fn P w K mg base k "_law_due" A_law_due (fun _ _ _ _ => False) := by
  obtain ⟨fd, F⟩ := fd_law_due c
  exact ⟨fd, F.kp, bn_law_due F, def_no (c := cc K)⟩
theorem no_law_fixed (c : Sy K) (k : Nat) : Fn P w K mg base k "_law_fixed" A_law_fixed (fun _ _ _ _ => False) := by
  obtain ⟨fd, F⟩ := fd_law_fixed c
  exact ⟨fd, F.kp, bn_law_fixed F, def_no (c := cc K)⟩
theorem no_law_wide (c : Sy K) (k : Nat) : Fn P w K mg base k "_law_wide" A_law_wide (fun _ _ _ _ => False) := by
  obtain ⟨fd, F⟩ := fd_law_wide c
  exact ⟨fd, F.kp, bn_law_wide F, def_no (c := cc K)⟩
theorem no_law_near (c : Sy K) (k : Nat) : Fn P w K mg base k "_law_near" A_law_near (fun _ _ _ _ => False) := by
  obtain ⟨fd, F⟩ := fd_law_near c
  exact ⟨fd, F.kp, bn_law_near F, def_no (c := cc K)⟩
theorem no_law_placed (c : Sy K) (k : Nat) : Fn P w K mg base k "_law_placed" A_law_placed (fun _ _ _ _ => False) := by
  obtain ⟨fd, F⟩ := fd_law_placed c
  exact ⟨fd, F.kp, bn_law_placed F, def_no (c := cc K)⟩
theorem no_law (c : Sy K) (k : Nat) : Fn P w K mg base k "law" A_law (fun _ _ _ _ => False) := by
  obtain ⟨fd, F⟩ := fd_law c
  exact ⟨fd, F.kp, bn_law F, def_no (c := cc K)⟩
theorem Fn.up {k m : Nat} {x : Str} {ps : List Str} {p : Pm} (f : Fn P w K mg base k x ps p) (h : k ≤ m) : Fn P w K mg base m x ps p := by
  obtain ⟨fd, a, b, g⟩ := f
  exact ⟨fd, a, b, g.mono h⟩
theorem wh_0 (X : K.In h) (G : h.Ns mainGlobals mg) (c : Sy K) : Wh P w K mg base 0 prom0 := wh_of (by decide) X G c (no_is_number c _) (no_is_draw c _) (no_strip_of c _) (no_law_feed c _) (no_law_draw c _) (no_law_pulled c _) (no_law_bend c _) (no_law_odd c _) (no_law_same c _) (no_law_number c _) (no_law_due c _) (no_law_fixed c _) (no_law_wide c _) (no_law_near c _) (no_law_placed c _) (no_law c _)
theorem ok_is_number (X : K.In h) (G : h.Ns mainGlobals mg) (c : Sy K) : Fn P w K mg base 1 "is_number" A_is_number (pNum) := by
  obtain ⟨fd, F⟩ := fd_is_number c
  exact ⟨fd, F.kp, bn_is_number F, def_ok (c := cc K) F sc_is_number k_is_number (wh_0 X G c) (kNumA _ _)⟩
theorem ok_strip_of (X : K.In h) (G : h.Ns mainGlobals mg) (c : Sy K) : Fn P w K mg base 1 "strip_of" A_strip_of (pStripOf) := by
  obtain ⟨fd, F⟩ := fd_strip_of c
  exact ⟨fd, F.kp, bn_strip_of F, def_ok (c := cc K) F sc_strip_of k_strip_of (wh_0 X G c) (kStripOf _ _)⟩
theorem ok_law_feed (X : K.In h) (G : h.Ns mainGlobals mg) (c : Sy K) : Fn P w K mg base 1 "_law_feed" A_law_feed ((pFeed .l4)) := by
  obtain ⟨fd, F⟩ := fd_law_feed c
  exact ⟨fd, F.kp, bn_law_feed F, def_ok (c := cc K) F sc_law_feed k_law_feed (wh_0 X G c) (kFeed _ _)⟩
theorem ok_law_draw (X : K.In h) (G : h.Ns mainGlobals mg) (c : Sy K) : Fn P w K mg base 1 "_law_draw" A_law_draw (pDraw .l4) := by
  obtain ⟨fd, F⟩ := fd_law_draw c
  exact ⟨fd, F.kp, bn_law_draw F, g_draw (c := cc K) (def_ok (c := cc K) F sc_law_draw k_law_draw (wh_0 X G c) (kDraw _ _))⟩
theorem ok_law_odd (X : K.In h) (G : h.Ns mainGlobals mg) (c : Sy K) : Fn P w K mg base 1 "_law_odd" A_law_odd (pOddA) := by
  obtain ⟨fd, F⟩ := fd_law_odd c
  exact ⟨fd, F.kp, bn_law_odd F, def_ok (c := cc K) F sc_law_odd k_law_odd (wh_0 X G c) (kOdd _ _)⟩
theorem ok_law_same (X : K.In h) (G : h.Ns mainGlobals mg) (c : Sy K) : Fn P w K mg base 1 "_law_same" A_law_same (pSame) := by
  obtain ⟨fd, F⟩ := fd_law_same c
  exact ⟨fd, F.kp, bn_law_same F, def_ok (c := cc K) F sc_law_same k_law_same (wh_0 X G c) (kSame _ _)⟩
theorem ok_law_number (X : K.In h) (G : h.Ns mainGlobals mg) (c : Sy K) : Fn P w K mg base 1 "_law_number" A_law_number (pNum) := by
  obtain ⟨fd, F⟩ := fd_law_number c
  exact ⟨fd, F.kp, bn_law_number F, def_ok (c := cc K) F sc_law_number k_law_number (wh_0 X G c) (kNumL _ _)⟩
theorem ok_law_fixed (X : K.In h) (G : h.Ns mainGlobals mg) (c : Sy K) : Fn P w K mg base 1 "_law_fixed" A_law_fixed (pFixed7) := by
  obtain ⟨fd, F⟩ := fd_law_fixed c
  exact ⟨fd, F.kp, bn_law_fixed F, def_ok (c := cc K) F sc_law_fixed k_law_fixed (wh_0 X G c) (kFixed7 _ _)⟩
theorem wh_1 (X : K.In h) (G : h.Ns mainGlobals mg) (c : Sy K) : Wh P w K mg base 1 prom1 := wh_of (by decide) X G c ((ok_is_number X G c).up (by decide)) (no_is_draw c _) ((ok_strip_of X G c).up (by decide)) ((ok_law_feed X G c).up (by decide)) ((ok_law_draw X G c).up (by decide)) (no_law_pulled c _) (no_law_bend c _) ((ok_law_odd X G c).up (by decide)) ((ok_law_same X G c).up (by decide)) ((ok_law_number X G c).up (by decide)) (no_law_due c _) ((ok_law_fixed X G c).up (by decide)) (no_law_wide c _) (no_law_near c _) (no_law_placed c _) (no_law c _)
theorem ok_is_draw (X : K.In h) (G : h.Ns mainGlobals mg) (c : Sy K) : Fn P w K mg base 2 "is_draw" A_is_draw (pIsDraw) := by
  obtain ⟨fd, F⟩ := fd_is_draw c
  exact ⟨fd, F.kp, bn_is_draw F, def_ok (c := cc K) F sc_is_draw k_is_draw (wh_1 X G c) kIsDraw⟩
theorem ok_law_pulled (X : K.In h) (G : h.Ns mainGlobals mg) (c : Sy K) : Fn P w K mg base 2 "_law_pulled" A_law_pulled (pPulled) := by
  obtain ⟨fd, F⟩ := fd_law_pulled c
  exact ⟨fd, F.kp, bn_law_pulled F, def_ok (c := cc K) F sc_law_pulled k_law_pulled (wh_1 X G c) kPulled⟩
theorem ok_law_bend_r0 (X : K.In h) (G : h.Ns mainGlobals mg) (c : Sy K) : Fn P w K mg base 2 "_law_bend" A_law_bend ((pBend 0)) := by
  obtain ⟨fd, F⟩ := fd_law_bend c
  exact ⟨fd, F.kp, bn_law_bend F, def_ok (c := cc K) F sc_law_bend k_law_bend (wh_1 X G c) (kBend prom1 glob 0 rfl (fun m e => by omega))⟩
theorem ok_law_due (X : K.In h) (G : h.Ns mainGlobals mg) (c : Sy K) : Fn P w K mg base 2 "_law_due" A_law_due (pDue7) := by
  obtain ⟨fd, F⟩ := fd_law_due c
  exact ⟨fd, F.kp, bn_law_due F, def_ok (c := cc K) F sc_law_due k_law_due (wh_1 X G c) kDue7⟩
theorem ok_law_placed (X : K.In h) (G : h.Ns mainGlobals mg) (c : Sy K) : Fn P w K mg base 2 "_law_placed" A_law_placed (pPlaced) := by
  obtain ⟨fd, F⟩ := fd_law_placed c
  exact ⟨fd, F.kp, bn_law_placed F, def_ok (c := cc K) F sc_law_placed k_law_placed (wh_1 X G c) kPlaced⟩
theorem wh_2 (X : K.In h) (G : h.Ns mainGlobals mg) (c : Sy K) : Wh P w K mg base 2 prom2 := wh_of (by decide) X G c ((ok_is_number X G c).up (by decide)) ((ok_is_draw X G c).up (by decide)) ((ok_strip_of X G c).up (by decide)) ((ok_law_feed X G c).up (by decide)) ((ok_law_draw X G c).up (by decide)) ((ok_law_pulled X G c).up (by decide)) ((ok_law_bend_r0 X G c).up (by decide)) ((ok_law_odd X G c).up (by decide)) ((ok_law_same X G c).up (by decide)) ((ok_law_number X G c).up (by decide)) ((ok_law_due X G c).up (by decide)) ((ok_law_fixed X G c).up (by decide)) (no_law_wide c _) (no_law_near c _) ((ok_law_placed X G c).up (by decide)) (no_law c _)
theorem ok_law_bend_r1 (X : K.In h) (G : h.Ns mainGlobals mg) (c : Sy K) : Fn P w K mg base 3 "_law_bend" A_law_bend ((pBend 1)) := by
  obtain ⟨fd, F⟩ := fd_law_bend c
  exact ⟨fd, F.kp, bn_law_bend F, def_ok (c := cc K) F sc_law_bend k_law_bend (wh_2 X G c) (kBend prom2 glob 1 rfl (fun m e => by obtain rfl : m = 0 := (by omega); rfl))⟩
theorem ok_law_wide (X : K.In h) (G : h.Ns mainGlobals mg) (c : Sy K) : Fn P w K mg base 3 "_law_wide" A_law_wide (pHand8) := by
  obtain ⟨fd, F⟩ := fd_law_wide c
  exact ⟨fd, F.kp, bn_law_wide F, def_ok (c := cc K) F sc_law_wide k_law_wide (wh_2 X G c) kWide⟩
theorem wh_3 (X : K.In h) (G : h.Ns mainGlobals mg) (c : Sy K) : Wh P w K mg base 3 prom3 := wh_of (by decide) X G c ((ok_is_number X G c).up (by decide)) ((ok_is_draw X G c).up (by decide)) ((ok_strip_of X G c).up (by decide)) ((ok_law_feed X G c).up (by decide)) ((ok_law_draw X G c).up (by decide)) ((ok_law_pulled X G c).up (by decide)) ((ok_law_bend_r1 X G c).up (by decide)) ((ok_law_odd X G c).up (by decide)) ((ok_law_same X G c).up (by decide)) ((ok_law_number X G c).up (by decide)) ((ok_law_due X G c).up (by decide)) ((ok_law_fixed X G c).up (by decide)) ((ok_law_wide X G c).up (by decide)) (no_law_near c _) ((ok_law_placed X G c).up (by decide)) (no_law c _)
theorem ok_law_bend_r2 (X : K.In h) (G : h.Ns mainGlobals mg) (c : Sy K) : Fn P w K mg base 4 "_law_bend" A_law_bend ((pBend 2)) := by
  obtain ⟨fd, F⟩ := fd_law_bend c
  exact ⟨fd, F.kp, bn_law_bend F, def_ok (c := cc K) F sc_law_bend k_law_bend (wh_3 X G c) (kBend prom3 glob 2 rfl (fun m e => by obtain rfl : m = 1 := (by omega); rfl))⟩
theorem wh_4 (X : K.In h) (G : h.Ns mainGlobals mg) (c : Sy K) : Wh P w K mg base 4 prom4 := wh_of (by decide) X G c ((ok_is_number X G c).up (by decide)) ((ok_is_draw X G c).up (by decide)) ((ok_strip_of X G c).up (by decide)) ((ok_law_feed X G c).up (by decide)) ((ok_law_draw X G c).up (by decide)) ((ok_law_pulled X G c).up (by decide)) ((ok_law_bend_r2 X G c).up (by decide)) ((ok_law_odd X G c).up (by decide)) ((ok_law_same X G c).up (by decide)) ((ok_law_number X G c).up (by decide)) ((ok_law_due X G c).up (by decide)) ((ok_law_fixed X G c).up (by decide)) ((ok_law_wide X G c).up (by decide)) (no_law_near c _) ((ok_law_placed X G c).up (by decide)) (no_law c _)
theorem ok_law_bend_r3 (X : K.In h) (G : h.Ns mainGlobals mg) (c : Sy K) : Fn P w K mg base 5 "_law_bend" A_law_bend ((pBend 3)) := by
  obtain ⟨fd, F⟩ := fd_law_bend c
  exact ⟨fd, F.kp, bn_law_bend F, def_ok (c := cc K) F sc_law_bend k_law_bend (wh_4 X G c) (kBend prom4 glob 3 rfl (fun m e => by obtain rfl : m = 2 := (by omega); rfl))⟩
theorem wh_5 (X : K.In h) (G : h.Ns mainGlobals mg) (c : Sy K) : Wh P w K mg base 5 prom5 := wh_of (by decide) X G c ((ok_is_number X G c).up (by decide)) ((ok_is_draw X G c).up (by decide)) ((ok_strip_of X G c).up (by decide)) ((ok_law_feed X G c).up (by decide)) ((ok_law_draw X G c).up (by decide)) ((ok_law_pulled X G c).up (by decide)) ((ok_law_bend_r3 X G c).up (by decide)) ((ok_law_odd X G c).up (by decide)) ((ok_law_same X G c).up (by decide)) ((ok_law_number X G c).up (by decide)) ((ok_law_due X G c).up (by decide)) ((ok_law_fixed X G c).up (by decide)) ((ok_law_wide X G c).up (by decide)) (no_law_near c _) ((ok_law_placed X G c).up (by decide)) (no_law c _)
theorem ok_law_bend_r4 (X : K.In h) (G : h.Ns mainGlobals mg) (c : Sy K) : Fn P w K mg base 6 "_law_bend" A_law_bend ((pBend 4)) := by
  obtain ⟨fd, F⟩ := fd_law_bend c
  exact ⟨fd, F.kp, bn_law_bend F, def_ok (c := cc K) F sc_law_bend k_law_bend (wh_5 X G c) (kBend prom5 glob 4 rfl (fun m e => by obtain rfl : m = 3 := (by omega); rfl))⟩
theorem wh_6 (X : K.In h) (G : h.Ns mainGlobals mg) (c : Sy K) : Wh P w K mg base 6 prom6 := wh_of (by decide) X G c ((ok_is_number X G c).up (by decide)) ((ok_is_draw X G c).up (by decide)) ((ok_strip_of X G c).up (by decide)) ((ok_law_feed X G c).up (by decide)) ((ok_law_draw X G c).up (by decide)) ((ok_law_pulled X G c).up (by decide)) ((ok_law_bend_r4 X G c).up (by decide)) ((ok_law_odd X G c).up (by decide)) ((ok_law_same X G c).up (by decide)) ((ok_law_number X G c).up (by decide)) ((ok_law_due X G c).up (by decide)) ((ok_law_fixed X G c).up (by decide)) ((ok_law_wide X G c).up (by decide)) (no_law_near c _) ((ok_law_placed X G c).up (by decide)) (no_law c _)
theorem ok_law_bend_r5 (X : K.In h) (G : h.Ns mainGlobals mg) (c : Sy K) : Fn P w K mg base 7 "_law_bend" A_law_bend ((pBend 5)) := by
  obtain ⟨fd, F⟩ := fd_law_bend c
  exact ⟨fd, F.kp, bn_law_bend F, def_ok (c := cc K) F sc_law_bend k_law_bend (wh_6 X G c) (kBend prom6 glob 5 rfl (fun m e => by obtain rfl : m = 4 := (by omega); rfl))⟩
theorem wh_7 (X : K.In h) (G : h.Ns mainGlobals mg) (c : Sy K) : Wh P w K mg base 7 prom7 := wh_of (by decide) X G c ((ok_is_number X G c).up (by decide)) ((ok_is_draw X G c).up (by decide)) ((ok_strip_of X G c).up (by decide)) ((ok_law_feed X G c).up (by decide)) ((ok_law_draw X G c).up (by decide)) ((ok_law_pulled X G c).up (by decide)) ((ok_law_bend_r5 X G c).up (by decide)) ((ok_law_odd X G c).up (by decide)) ((ok_law_same X G c).up (by decide)) ((ok_law_number X G c).up (by decide)) ((ok_law_due X G c).up (by decide)) ((ok_law_fixed X G c).up (by decide)) ((ok_law_wide X G c).up (by decide)) (no_law_near c _) ((ok_law_placed X G c).up (by decide)) (no_law c _)
theorem ok_law_near (X : K.In h) (G : h.Ns mainGlobals mg) (c : Sy K) : Fn P w K mg base 8 "_law_near" A_law_near (pNear7) := by
  obtain ⟨fd, F⟩ := fd_law_near c
  exact ⟨fd, F.kp, bn_law_near F, def_ok (c := cc K) F sc_law_near k_law_near (wh_7 X G c) kNear7⟩
theorem wh_8 (X : K.In h) (G : h.Ns mainGlobals mg) (c : Sy K) : Wh P w K mg base 8 prom8 := wh_of (by decide) X G c ((ok_is_number X G c).up (by decide)) ((ok_is_draw X G c).up (by decide)) ((ok_strip_of X G c).up (by decide)) ((ok_law_feed X G c).up (by decide)) ((ok_law_draw X G c).up (by decide)) ((ok_law_pulled X G c).up (by decide)) ((ok_law_bend_r5 X G c).up (by decide)) ((ok_law_odd X G c).up (by decide)) ((ok_law_same X G c).up (by decide)) ((ok_law_number X G c).up (by decide)) ((ok_law_due X G c).up (by decide)) ((ok_law_fixed X G c).up (by decide)) ((ok_law_wide X G c).up (by decide)) ((ok_law_near X G c).up (by decide)) ((ok_law_placed X G c).up (by decide)) (no_law c _)
theorem ok_law (X : K.In h) (G : h.Ns mainGlobals mg) (c : Sy K) {fd : FuncData} (F : FunD K "law" "law" (defArgs (top 18)) (defBody (top 18)) (defScope (top 18)) [] [] (He.ga K "law") fd) : GOk P w K mg base 9 (He.ga K "law") fd A_law (spOf (cc K) pLaw) := def_ok (c := cc K) F sc_law k_law (wh_8 X G c) kLaw7
end
theorem start {ns : List Int} {z : W} (hn : ns.length ≤ 63) (hz : z = .lst (ns.map W.int) ∨ z = .kls (ns.map W.int)) : okLaw pLaw z fun _ => none := ⟨z, ns, rfl, hz, hn, fun _ => rfl⟩
end Dp.K07
open PySem PySem.W PySem.Calls PyProof.Rows
theorem PySem.Challenge.cw_meadowballs_k07_draws_by_kind_holds : PySem.Challenge.rw_meadowballs_k07_draws_by_kind.Holds := by
  w_on; o_law
  refine HandSHeadRun.head_any (r := OpenLaw.row PySem.Challenge.rw_meadowballs_k07_draws_by_kind) (q := view (OpenLaw.row PySem.Challenge.rw_meadowballs_k07_draws_by_kind).prog [18]) (H := Dp.K07.hk) (ob := Dp.K07.ob) (M := 4000) (loose := Dp.K07.looseL) (d := HandSHeadRun.topDef (OpenLaw.row PySem.Challenge.rw_meadowballs_k07_draws_by_kind).prog 18) (kwd := []) Dp.K07.ob_eq
    (by kernel_rfl) (fun s => by kernel_rfl) Dp.K07.run (by kernel_rfl) (by kernel_rfl) (by kernel_rfl) (by rfl) (by first | assumption | decide +kernel) (by decide +kernel) ⟨rfl, rfl, rfl, rfl, rfl, by decide +kernel⟩ ?hw ?hc
  case hw => w_witness2
  case hc =>
    refine Dp.walk_g (l := PySem.Challenge.rw_meadowballs_k07_draws_by_kind) (n := 63) (k := 9) (x := "_law_script") (p := (open Dp Dp.K07 in pLaw)) rfl (by decide) (by kernel_rfl) ⟨rfl, by decide, by decide⟩ (fun ns z hn hz => Dp.K07.start hn hz) ?F
    intro w mg fa h Y G hmg0
    obtain ⟨K, KX, c0⟩ := Y
    have c : Dp.K07.Sy K := ⟨c0.d, c0.m⟩
    have hmg : mg ("law" : PySem.Str) = some (.ref fa) := by
      have e : (HandSHeadRun.topDef (OpenLaw.row PySem.Challenge.rw_meadowballs_k07_draws_by_kind).prog 18).name = ("law" : PySem.Str) := by kernel_rfl
      rw [← e]
      exact hmg0
    obtain ⟨fd, F⟩ := Dp.K07.fd_law c
    have e := hmg.symm.trans (Dp.K07.glo_of KX G c (x := "law") (by decide +kernel))
    cases e
    have b := L2.FunD.bindsA (ps := ["_law_script"]) F fun _ _ _ _ _ _ us hl => match us, hl with | [_], _ => rfl
    exact ⟨K, _, _, fd, KX, fun s v => b s [v] rfl, fun base _ _ => Dp.K07.ok_law KX G c F⟩
